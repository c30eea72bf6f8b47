import PyProof.Rows.All
import Wide.All
import OpenK.AllK
import Wide.FinOn
import HandS.ForMost
import HandS.Wide
import HandS.Deep
import HandS.IsInst
import HandS.TupAny
import HandS.TupLe
import HandS.TupMul
import HandS.TupSets
import HandS.Style
import HandS.Zip
import HandS.Flow
import HandS.Sort
import KE.DataMinMax
import KE.SortData
import HandS.Text
import KE.GoesEnum
import KE.GoesMore
import KE.GoesZip
import PySem.Challenge.RW_spillikins_k09_whole_weights_go_together
set_option Elab.async false
set_option linter.all false
set_option maxRecDepth 100000
set_option maxHeartbeats 4000000
set_option exponentiation.threshold 100000
namespace Ev
open PySem PySem.Spec PyProof.Rows L2

/-! ## values of the evaluator -/
abbrev D := PyData
/-- what an expression gives: data; a list just made; a list that a slot owns; the tape -/
inductive W where
  | d (x : D) | new (ds : List D) | loc (i : Nat) | tp
/-- what a slot holds -/
inductive Sl where
  | no | d (x : D) | own (ds : List D) | tp | ob (fl : List (Str × D))
abbrev En := List Sl
abbrev Tp := List D

mutual
/-- a value v of the heap H is the data d -/
inductive Dq (K : PySem.W.Frag) (H : Hp) : V → PyData → Prop
  | non : Dq K H .non .none
  | bl (b : Bool) : Dq K H (.bl b) (.bool b)
  | int (i : Int) : Dq K H (.int i) (.int i)
  | str (x : Str) : Dq K H (.str x) (.str x)
  | lst {a : Addr} {xs : List V} {ds : List PyData} : H a = some (.lst xs) → DqAll K H xs ds → Dq K H (.ref a) (.list ds)
  | tup {a : Addr} {xs : List V} {ds : List PyData} : SqT K H a xs → DqAll K H xs ds → Dq K H (.ref a) (.tuple ds)
inductive DqAll (K : PySem.W.Frag) (H : Hp) : List V → List PyData → Prop
  | nil : DqAll K H [] []
  | cons {v : V} {vs : List V} {d : PyData} {ds : List PyData} : Dq K H v d → DqAll K H vs ds → DqAll K H (v :: vs) (d :: ds)
end
section
variable {K : PySem.W.Frag}
theorem seqT_mono {H H' : Hp} {a : Addr} {xs : List V} (e : Same H H') (h : SqT K H a xs) : SqT K H' a xs := by
  rcases h with (h | ⟨o, h⟩) | h
  · exact .inl (.inl (e _ _ h))
  · exact .inl (.inr ⟨o, e _ _ h⟩)
  · exact .inr h
mutual
theorem dq_mono {H H' : Hp} (e : Same H H') : ∀ {d : D} {v : V}, Dq K H v d → Dq K H' v d
  | .none, _, h => by cases h; exact .non
  | .bool b, _, h => by cases h; exact .bl b
  | .int i, _, h => by cases h; exact .int i
  | .str x, _, h => by cases h; exact .str x
  | .list ds, _, h => by
    cases h with
    | lst s a => exact .lst (e _ _ s) (dqAll_mono e a)
  | .tuple ds, _, h => by
    cases h with
    | tup s a => exact .tup (seqT_mono e s) (dqAll_mono e a)
  | .dict _, _, h => by cases h
theorem dqAll_mono {H H' : Hp} (e : Same H H') : ∀ {ds : List D} {vs : List V}, DqAll K H vs ds → DqAll K H' vs ds
  | [], _, h => by cases h; exact .nil
  | d :: ds, _, h => by
    cases h with
    | cons a b => exact .cons (dq_mono e a) (dqAll_mono e b)
end
mutual
theorem Dq.dp {H : Hp} : ∀ {d : D} {v : V}, Dq K H v d → Dp K H v d
  | .none, _, h => by cases h; exact .non
  | .bool b, _, h => by cases h; exact .bl b
  | .int i, _, h => by cases h; exact .int i
  | .str x, _, h => by cases h; exact .str x
  | .list ds, _, h => by
    cases h with
    | lst s a => exact .lst (SqL.of s) (DqAll.dp a)
  | .tuple ds, _, h => by
    cases h with
    | tup s a => exact .tup s (DqAll.dp a)
  | .dict _, _, h => by cases h
theorem DqAll.dp {H : Hp} : ∀ {ds : List D} {vs : List V}, DqAll K H vs ds → DpAll K H vs ds
  | [], _, h => by cases h; exact .nil
  | d :: ds, _, h => by
    cases h with
    | cons a b => exact .cons (Dq.dp a) (DqAll.dp b)
end
theorem dqAll_len {H : Hp} : ∀ {ds : List D} {vs : List V}, DqAll K H vs ds → vs.length = ds.length
  | [], _, h => by cases h; rfl
  | d :: ds, _, h => by
    cases h with
    | cons a b => simp [dqAll_len b]
theorem dqAll_get {H : Hp} : ∀ {ds : List D} {vs : List V} {i : Nat} {v : V}, DqAll K H vs ds → vs[i]? = some v → ∃ d, ds[i]? = some d ∧ Dq K H v d
  | [], _, i, v, h, e => by cases h; simp at e
  | d :: ds, _, 0, v, h, e => by
    cases h with
    | cons a b =>
      simp at e
      subst e
      exact ⟨d, rfl, a⟩
  | d :: ds, _, i + 1, v, h, e => by
    cases h with
    | cons a b =>
      obtain ⟨x, hx, hd⟩ := dqAll_get (i := i) b (by simpa using e)
      exact ⟨x, by simpa using hx, hd⟩
theorem dqAll_at {H : Hp} {ds : List D} {vs : List V} {i : Nat} {d : D} (h : DqAll K H vs ds) (e : ds[i]? = some d) : ∃ v, vs[i]? = some v ∧ Dq K H v d := by
  have hl := dqAll_len h
  have hi : i < vs.length := by
    have := (List.getElem?_eq_some_iff.mp e).1
    omega
  obtain ⟨x, hx, hd⟩ := dqAll_get (i := i) (v := vs[i]) h (by simp [hi])
  rw [e] at hx
  cases hx
  exact ⟨_, by simp [hi], hd⟩
theorem dqAll_append {H : Hp} : ∀ {ds es : List D} {vs ws : List V}, DqAll K H vs ds → DqAll K H ws es → DqAll K H (vs ++ ws) (ds ++ es)
  | [], _, _, _, h, g => by cases h; exact g
  | d :: ds, _, _, _, h, g => by
    cases h with
    | cons a b => exact .cons a (dqAll_append b g)
theorem dqAll_take {H : Hp} : ∀ {ds : List D} {vs : List V} (n : Nat), DqAll K H vs ds → DqAll K H (vs.take n) (ds.take n)
  | [], _, n, h => by cases h; simp; exact .nil
  | d :: ds, _, 0, h => by simp; exact .nil
  | d :: ds, _, n + 1, h => by
    cases h with
    | cons a b => exact .cons a (dqAll_take n b)
theorem dqAll_drop {H : Hp} : ∀ {ds : List D} {vs : List V} (n : Nat), DqAll K H vs ds → DqAll K H (vs.drop n) (ds.drop n)
  | [], _, n, h => by cases h; simp; exact .nil
  | d :: ds, _, 0, h => h
  | d :: ds, _, n + 1, h => by
    cases h with
    | cons a b => exact dqAll_drop n b
theorem dqAll_snoc {H : Hp} {ds : List D} {vs : List V} {d : D} {v : V} (h : DqAll K H vs ds) (g : Dq K H v d) : DqAll K H (vs ++ [v]) (ds ++ [d]) := dqAll_append h (.cons g .nil)
theorem dqAll_rev {H : Hp} : ∀ {ds : List D} {vs : List V}, DqAll K H vs ds → DqAll K H vs.reverse ds.reverse
  | [], _, h => by cases h; exact .nil
  | d :: ds, _, h => by
    cases h with
    | cons a b =>
      rw [List.reverse_cons, List.reverse_cons]
      exact dqAll_snoc (dqAll_rev b) a
theorem dqAll_set {H : Hp} : ∀ {ds : List D} {vs : List V} (i : Nat) {d : D} {v : V}, DqAll K H vs ds → Dq K H v d → DqAll K H (vs.set i v) (ds.set i d)
  | [], _, i, _, _, h, _ => by cases h; simp; exact .nil
  | d :: ds, _, 0, _, _, h, g => by
    cases h with
    | cons a b => exact .cons g b
  | d :: ds, _, i + 1, _, _, h, g => by
    cases h with
    | cons a b => exact .cons a (dqAll_set i b g)
theorem dqAll_erase {H : Hp} : ∀ {ds : List D} {vs : List V} (i : Nat), DqAll K H vs ds → DqAll K H (vs.eraseIdx i) (ds.eraseIdx i)
  | [], _, i, h => by cases h; simp; exact .nil
  | d :: ds, _, 0, h => by
    cases h with
    | cons a b => exact b
  | d :: ds, _, i + 1, h => by
    cases h with
    | cons a b => exact .cons a (dqAll_erase i b)
theorem dqAll_rep {H : Hp} {ds : List D} {vs : List V} (h : DqAll K H vs ds) : ∀ k : Nat, DqAll K H (List.replicate k vs).flatten (List.replicate k ds).flatten
  | 0 => .nil
  | k + 1 => by
    rw [List.replicate_succ, List.replicate_succ, List.flatten_cons, List.flatten_cons]
    exact dqAll_append h (dqAll_rep h k)
end

/-! ## the state -/
def Rw (K : PySem.W.Frag) (F H Hb : Hp) (t : Option Addr) (σ : L2.St) (v : V) : W → Prop
  | .d x => Dq K F v x
  | .loc i => σ[i]? = some (some v)
  | .tp => ∃ a, t = some a ∧ v = .ref a
  | .new ds => ∃ a vs, v = .ref a ∧ F a = none ∧ t ≠ some a ∧ Hb a = none ∧ H a = some (.lst vs) ∧ DqAll K F vs ds
def TapeOk (K : PySem.W.Frag) (F H : Hp) : Option Addr → Tp → Prop
  | none, _ => True
  | some a, τ => F a = none ∧ ∃ vs, H a = some (.lst vs) ∧ DqAll K F vs τ
/-- the mark of the class that an object's list of fields may hold behind the four -/
def mark : List (Str × D) → Option Int
  | [_, _, _, _, (_, .int c)] => some c
  | _ => none
def flKeys : List Str := ["many", "rows", "gain", "held"]
/-- the class of an object: a plain one; and, where it is marked, this one, with no other fields than the four -/
def ClsM (K : PySem.W.Frag) (C : Addr) (fs : List (Str × V)) (fl : List (Str × D)) : Prop := L2.Cls K C ∧ ∀ c : Int, mark fl = some c → (C : Int) = c ∧ ∀ x : Str, x ∉ flKeys → fs.lookup x = none
def SlOk (K : PySem.W.Frag) (F H : Hp) (t : Option Addr) (σ : L2.St) (i : Nat) : Sl → Prop
  | .no => True
  | .d x => ∃ v, σ[i]? = some (some v) ∧ Dq K F v x
  | .own ds => ∃ a vs, σ[i]? = some (some (.ref a)) ∧ F a = none ∧ t ≠ some a ∧ H a = some (.lst vs) ∧ DqAll K F vs ds
  | .tp => ∃ a, t = some a ∧ σ[i]? = some (some (.ref a))
  | .ob fl => ∃ p C dx fs, σ[i]? = some (some (.ref p)) ∧ F p = some (.ins C dx fs) ∧ ClsM K C fs fl ∧ ∀ f x, fl.lookup f = some x → L2.NoAttr K C f ∧ ∃ v, fs.lookup f = some v ∧ Dq K F v x
structure Sok (K : PySem.W.Frag) (F H : Hp) (t : Option Addr) (env : En) (τ : Tp) (σ : L2.St) : Prop where
  same : Same F H
  len : env.length = σ.length
  slot : ∀ (i : Nat) (s : Sl), env[i]? = some s → SlOk K F H t σ i s
  dis : ∀ (i j : Nat) (ds es : List D), env[i]? = some (Sl.own ds) → env[j]? = some (Sl.own es) → i ≠ j → σ[i]? ≠ σ[j]?
  tape : TapeOk K F H t τ
structure Post (K : PySem.W.Frag) (t : Option Addr) (τ' : Tp) (F H F' H' : Hp) : Prop where
  ext : Same F F'
  same : Same F' H'
  new : ∀ b, F' b ≠ none → F b ≠ none ∨ H b = none
  keep : ∀ b o, H b = some o → t ≠ some b → H' b = some o
  tape : TapeOk K F' H' t τ'

section
variable {K : PySem.W.Frag} {F H F' H' F2 H2 Hb : Hp} {t : Option Addr} {env : En} {τ τ' τ2 : Tp} {σ : L2.St}
theorem Post.refl (S : Sok K F H t env τ σ) : Post K t τ F H F H := ⟨.refl _, S.same, fun b h => .inl h, fun b o h _ => h, S.tape⟩
theorem Post.none_of (P : Post K t τ' F H F' H') {a : Addr} {o : HO} (hF : F a = none) (hH : H a = some o) : F' a = none := by
  cases e : F' a with
  | none => rfl
  | some u =>
    rcases P.new a (by rw [e]; exact fun z => nomatch z) with q | q
    · exact absurd hF q
    · rw [hH] at q; cases q
theorem Sok.post (S : Sok K F H t env τ σ) (P : Post K t τ' F H F' H') : Sok K F' H' t env τ' σ := by
  refine ⟨P.same, S.len, fun i s e => ?_, S.dis, P.tape⟩
  have h := S.slot i s e
  cases s with
  | no => trivial
  | d x =>
    obtain ⟨v, h1, h2⟩ := h
    exact ⟨v, h1, dq_mono P.ext h2⟩
  | own ds =>
    obtain ⟨a, vs, h1, h2, h3, h4, h5⟩ := h
    exact ⟨a, vs, h1, P.none_of h2 h4, h3, P.keep _ _ h4 h3, dqAll_mono P.ext h5⟩
  | tp => exact h
  | ob fl =>
    obtain ⟨p, C, dx, fs, h1, h2, h3, h4⟩ := h
    exact ⟨p, C, dx, fs, h1, P.ext _ _ h2, h3, fun f x e => let ⟨k1, v, k2, k3⟩ := h4 f x e; ⟨k1, v, k2, dq_mono P.ext k3⟩⟩
theorem Post.trans (P : Post K t τ' F H F' H') (P2 : Post K t τ2 F' H' F2 H2) : Post K t τ2 F H F2 H2 := by
  refine ⟨P.ext.trans P2.ext, P2.same, fun b h => ?_, fun b o h k => P2.keep _ _ (P.keep _ _ h k) k, P2.tape⟩
  rcases P2.new b h with q | q
  · exact P.new b q
  · cases e : H b with
    | none => exact .inr rfl
    | some o =>
      by_cases k : t = some b
      · have tp := P.tape
        rw [k] at tp
        obtain ⟨_, vs, z, _⟩ := tp
        rw [z] at q
        cases q
      · rw [P.keep _ _ e k] at q
        cases q
theorem Post.bnone (P : Post K t τ' F H F' H') {a : Addr} (hn : H' a = none) (k : t ≠ some a) : H a = none := by
  cases e : H a with
  | none => rfl
  | some o =>
    rw [P.keep _ _ e k] at hn
    cases hn
theorem Rw.post {v : V} {w : W} (r : Rw K F H Hb t σ v w) (P : Post K t τ' F H F' H') : Rw K F' H' Hb t σ v w := by
  cases w with
  | d x => exact dq_mono P.ext r
  | loc i => exact r
  | tp => exact r
  | new ds =>
    obtain ⟨a, vs, h1, h2, h3, h4, h5, h6⟩ := r
    exact ⟨a, vs, h1, P.none_of h2 h5, h3, h4, P.keep _ _ h5 h3, dqAll_mono P.ext h6⟩
theorem Rw.base {v : V} {w : W} (r : Rw K F' H' H t σ v w) (P : Post K t τ' F2 H2 F H) : Rw K F' H' H2 t σ v w := by
  cases w with
  | d x => exact r
  | loc i => exact r
  | tp => exact r
  | new ds =>
    obtain ⟨a, vs, h1, h2, h3, h4, h5, h6⟩ := r
    exact ⟨a, vs, h1, h2, h3, P.bnone h4 h3, h5, h6⟩
end

/-- the items of a list or a tuple (true: a list) -/
def seqOf (env : En) (τ : Tp) : W → Option (Bool × List D)
  | .d (.list ds) => some (true, ds)
  | .d (.tuple ds) => some (false, ds)
  | .new ds => some (true, ds)
  | .loc i => match env[i]? with
    | some (.own ds) => some (true, ds)
    | _ => none
  | .tp => some (true, τ)
  | _ => none
def Sq (K : PySem.W.Frag) (b : Bool) (H : Hp) (a : Addr) (vs : List V) : Prop := if b = true then H a = some (.lst vs) else SqT K H a vs
section
variable {K : PySem.W.Frag} {F H F' H' F2 H2 Hb : Hp} {t : Option Addr} {env : En} {τ τ' τ2 : Tp} {σ : L2.St}
theorem deref {v : V} {w : W} {b : Bool} {ds : List D} (S : Sok K F H t env τ σ) (r : Rw K F H Hb t σ v w) (e : seqOf env τ w = some (b, ds)) :
    ∃ a vs, v = .ref a ∧ DqAll K F vs ds ∧ Sq K b H a vs := by
  cases w with
  | d x =>
    cases x with
    | list es =>
      cases e
      cases r with
      | lst s a => exact ⟨_, _, rfl, a, S.same _ _ s⟩
    | tuple es =>
      cases e
      cases r with
      | tup s a => exact ⟨_, _, rfl, a, seqT_mono S.same s⟩
    | _ => cases e
  | new es =>
    cases e
    obtain ⟨a, vs, h1, h2, h3, h4, h5, h6⟩ := r
    exact ⟨a, vs, h1, h6, h5⟩
  | loc i =>
    change (match env[i]? with | some (.own ds) => some (true, ds) | _ => none) = _ at e
    cases hs : env[i]? with
    | none => rw [hs] at e; cases e
    | some s =>
      rw [hs] at e
      cases s with
      | own es =>
        cases e
        obtain ⟨a, vs, h1, h2, h3, h4, h5⟩ := S.slot i _ hs
        have hv : v = .ref a := by
          have := (show σ[i]? = some (some v) from r)
          rw [h1] at this
          cases this
          rfl
        exact ⟨a, vs, hv, h5, h4⟩
      | _ => cases e
  | tp =>
    cases e
    obtain ⟨a, rfl, rfl⟩ := r
    obtain ⟨_, vs, h1, h2⟩ := S.tape
    exact ⟨a, vs, rfl, h2, h1⟩
theorem Sq.len {b : Bool} {H : Hp} {a : Addr} {vs : List V} (h : Sq K b H a vs) : SqL K H a vs ∨ SqT K H a vs := by
  cases b with
  | true => exact .inl (SqL.of h)
  | false => exact .inr h

/-- as data: a list just made is given away -/
def toD : W → Option D
  | .d x => some x
  | .new ds => some (.list ds)
  | _ => none
theorem freezeAt {a : Addr} {vs : List V} {ds : List D} {Fb : Hp} {τb : Tp} (Sb : Sok K Fb Hb t env τb σ) (S : Sok K F H t env τ σ) (P : Post K t τ Fb Hb F H) (h2 : F a = none) (h3 : t ≠ some a) (h4 : Hb a = none) (h5 : H a = some (.lst vs)) (h6 : DqAll K F vs ds) :
    Post K t τ Fb Hb (upd F a (.lst vs)) H ∧ Same F (upd F a (.lst vs)) ∧ Sok K (upd F a (.lst vs)) H t env τ σ ∧ Dq K (upd F a (.lst vs)) (.ref a) (.list ds) := by
  have e1 : Same F (upd F a (.lst vs)) := fun b o q => by
    rw [upd_ne (ne_of_none q h2)]
    exact q
  have e2 : Same (upd F a (.lst vs)) H := fun b o q => by
    by_cases hb : b = a
    · subst hb
      rw [upd_same] at q
      rw [h5, ← q]
    · rw [upd_ne hb] at q
      exact S.same _ _ q
  have tp : TapeOk K (upd F a (.lst vs)) H t τ := by
    have tp := S.tape
    cases t with
    | none => trivial
    | some c =>
      obtain ⟨t1, us, t2, t3⟩ := tp
      have hc : c ≠ a := fun z => h3 (by rw [z])
      exact ⟨by rw [upd_ne hc]; exact t1, us, t2, dqAll_mono e1 t3⟩
  refine ⟨⟨P.ext.trans e1, e2, fun b q => ?_, P.keep, tp⟩, e1, ⟨e2, S.len, fun i s q => ?_, S.dis, tp⟩, .lst upd_same (dqAll_mono e1 h6)⟩
  · by_cases hb : b = a
    · subst hb
      exact .inr h4
    · rw [upd_ne hb] at q
      exact P.new b q
  · have h := S.slot i s q
    cases s with
    | no => trivial
    | d x =>
      obtain ⟨v, z1, z2⟩ := h
      exact ⟨v, z1, dq_mono e1 z2⟩
    | own es =>
      obtain ⟨c, us, z1, z2, z3, z4, z5⟩ := h
      obtain ⟨c', us', y1, y2, y3, y4, y5⟩ := Sb.slot i _ q
      rw [z1] at y1
      cases y1
      have hc : c ≠ a := ne_of_none y4 h4
      exact ⟨c, us, z1, by rw [upd_ne hc]; exact z2, z3, z4, dqAll_mono e1 z5⟩
    | tp => exact h
    | ob fl =>
      obtain ⟨p, C, dx, fs, h1, h2, h3, h4⟩ := h
      exact ⟨p, C, dx, fs, h1, e1 _ _ h2, h3, fun f x q => let ⟨k1, v, k2, k3⟩ := h4 f x q; ⟨k1, v, k2, dq_mono e1 k3⟩⟩
theorem freeze {v : V} {w : W} {x : D} {Fb : Hp} {τb : Tp} (Sb : Sok K Fb Hb t env τb σ) (S : Sok K F H t env τ σ) (P : Post K t τ Fb Hb F H) (r : Rw K F H Hb t σ v w) (e : toD w = some x) :
    ∃ F', Post K t τ Fb Hb F' H ∧ Same F F' ∧ Sok K F' H t env τ σ ∧ Dq K F' v x := by
  cases w with
  | d y =>
    cases e
    exact ⟨F, P, .refl _, S, r⟩
  | new ds =>
    cases e
    obtain ⟨a, vs, rfl, h2, h3, h4, h5, h6⟩ := r
    exact ⟨_, freezeAt Sb S P h2 h3 h4 h5 h6⟩
  | loc i => cases e
  | tp => cases e
end

open PySem PySem.Spec PyProof.Rows L2

section
variable {K : PySem.W.Frag} {F H F' H' F2 H2 Hb : Hp} {t : Option Addr} {env : En} {τ τ' τ2 : Tp} {σ : L2.St}
theorem same_upd {p : Addr} {o : HO} (h : H p = none) : Same H (upd H p o) := fun b x e => by
  rw [upd_ne (ne_of_none e h)]
  exact e
theorem Sok.fnone (S : Sok K F H t env τ σ) {p : Addr} (h : H p = none) : F p = none := S.same.free h
theorem Sok.tne (S : Sok K F H t env τ σ) {p : Addr} (h : H p = none) : t ≠ some p := fun e => by
  have tp := S.tape
  rw [e] at tp
  obtain ⟨_, vs, z, _⟩ := tp
  rw [h] at z
  cases z
/-- a new object is laid, F is left as it is -/
theorem Sok.laid (S : Sok K F H t env τ σ) {p : Addr} {o : HO} (h : H p = none) : Post K t τ F H F (upd H p o) := by
  refine ⟨.refl _, S.same.trans (same_upd h), fun b e => .inl e, fun b u e _ => same_upd h _ _ e, ?_⟩
  have tp := S.tape
  cases t with
  | none => trivial
  | some a =>
    obtain ⟨h1, vs, h2, h3⟩ := tp
    exact ⟨h1, vs, same_upd h _ _ h2, h3⟩
theorem Sok.newList (S : Sok K F H t env τ σ) {p : Addr} {vs : List V} {ds : List D} (h : H p = none) (r : DqAll K F vs ds) :
    Post K t τ F H F (upd H p (.lst vs)) ∧ Rw K F (upd H p (.lst vs)) H t σ (.ref p) (.new ds) :=
  ⟨S.laid h, p, vs, rfl, S.fnone h, S.tne h, h, upd_same, r⟩
theorem Sok.newTup (S : Sok K F H t env τ σ) {p : Addr} {vs : List V} {ds : List D} (h : H p = none) (r : DqAll K F vs ds) :
    Post K t τ F H (upd F p (.tup vs)) (upd H p (.tup vs)) ∧ Dq K (upd F p (.tup vs)) (.ref p) (.tuple ds) := by
  have hF := S.fnone h
  refine ⟨⟨same_upd hF, fun b o e => ?_, fun b e => ?_, fun b u e _ => same_upd h _ _ e, ?_⟩, .tup (SqT.of upd_same) (dqAll_mono (same_upd hF) r)⟩
  · by_cases hb : b = p
    · subst hb
      rw [upd_same] at e ⊢
      exact e
    · rw [upd_ne hb] at e ⊢
      exact S.same _ _ e
  · by_cases hb : b = p
    · subst hb
      exact .inr h
    · rw [upd_ne hb] at e
      exact .inl e
  · have tp := S.tape
    cases t with
    | none => trivial
    | some a =>
      obtain ⟨h1, us, h2, h3⟩ := tp
      have ha : a ≠ p := ne_of_none h2 h
      exact ⟨by rw [upd_ne ha]; exact h1, us, same_upd h _ _ h2, dqAll_mono (same_upd hF) h3⟩
end

/-! ## judgements -/
abbrev EvF := En → Tp → Option (W × Tp)
abbrev EvA := En → Tp → Option (List W × Tp)
def tE (K : PySem.W.Frag) (f : EvF) : TE := fun σ H Q => ∃ F t env τ w τ', Sok K F H t env τ σ ∧ f env τ = some (w, τ') ∧ ∀ F' v H', Post K t τ' F H F' H' → Rw K F' H' H t σ v w → Q v H'
inductive RwAll (K : PySem.W.Frag) (F H Hb : Hp) (t : Option Addr) (σ : L2.St) : List V → List W → Prop
  | nil : RwAll K F H Hb t σ [] []
  | cons {v : V} {vs : List V} {w : W} {ws : List W} : Rw K F H Hb t σ v w → RwAll K F H Hb t σ vs ws → RwAll K F H Hb t σ (v :: vs) (w :: ws)
def tA (K : PySem.W.Frag) (f : EvA) : TA := fun σ H Q => ∃ F t env τ ws τ', Sok K F H t env τ σ ∧ f env τ = some (ws, τ') ∧ ∀ F' vs H', Post K t τ' F H F' H' → RwAll K F' H' H t σ vs ws → Q vs H'
def tT (K : PySem.W.Frag) (f : EvF) : TT := fun σ H Q => ∃ F t env τ b τ', Sok K F H t env τ σ ∧ f env τ = some (.d (.bool b), τ') ∧ ∀ F' H', Post K t τ' F H F' H' → Q b H'
theorem RwAll.post {K : PySem.W.Frag} {F H F' H' Hb : Hp} {t : Option Addr} {τ' : Tp} {σ : L2.St} {vs : List V} {ws : List W} (r : RwAll K F H Hb t σ vs ws) (P : Post K t τ' F H F' H') : RwAll K F' H' Hb t σ vs ws := by
  induction r with
  | nil => exact .nil
  | cons a b ih => exact .cons (a.post P) ih
theorem RwAll.base {K : PySem.W.Frag} {F H F' H' H2 F2 : Hp} {t : Option Addr} {τ' : Tp} {σ : L2.St} {vs : List V} {ws : List W} (r : RwAll K F' H' H t σ vs ws) (P : Post K t τ' F2 H2 F H) : RwAll K F' H' H2 t σ vs ws := by
  induction r with
  | nil => exact .nil
  | cons a b ih => exact .cons (a.base P) ih

section
variable {X : Cx}
theorem weakE {e : Expr} {t t' : TE} (h : PE X e t) (w : ∀ σ H Q, t' σ H Q → t σ H Q) : PE X e t' := ⟨fun pins s σ H Q I q => h.run pins s σ H Q I (w _ _ _ q)⟩
theorem weakT {e : Expr} {t t' : TT} (h : PT X e t) (w : ∀ σ H Q, t' σ H Q → t σ H Q) : PT X e t' := ⟨fun pins s σ H Q I q => h.run pins s σ H Q I (w _ _ _ q)⟩
theorem weakW {e : Expr} {t t' : TT} (h : PW X e t) (w : ∀ σ H Q, t' σ H Q → t σ H Q) : PW X e t' := ⟨fun wh pins s σ H Q I q => h.run wh pins s σ H Q I (w _ _ _ q)⟩
theorem weakA {es : List Expr} {t t' : TA} (h : PA X es t) (w : ∀ σ H Q, t' σ H Q → t σ H Q) : PA X es t' := ⟨fun p pins s σ H Q I q => h.run p pins s σ H Q I (w _ _ _ q)⟩
theorem weakS {st : Stmt} {t t' : TS} (h : PS X st t) (w : ∀ D σ H, t' D σ H → t D σ H) : PS X st t' := ⟨fun pins s σ H D I q => h.run pins s σ H D I (w _ _ _ q)⟩
theorem weakSs {st : List Stmt} {t t' : TS} (h : PSs X st t) (w : ∀ D σ H, t' D σ H → t D σ H) : PSs X st t' := ⟨fun pins s σ H D I q => h.run pins s σ H D I (w _ _ _ q)⟩

/-- a bool's test -/
theorem tT_of {e : Expr} {f : EvF} (h : PE X e (tE X.K f)) (he : ∀ whole, isTrue e X.env whole = (do let v ← whole; standAt e.pos; holding [v] (truthy v))) : PT X e (tT X.K f) := by
  refine weakT (pt_val h he) fun σ H Q ⟨F, t, env, τ, b, τ', S, e1, q⟩ => ⟨F, t, env, τ, _, τ', S, e1, fun F' v H' P r => ?_⟩
  cases r
  exact ⟨b, rfl, q F' H' P⟩

/-! ### operators by values -/
/-- what an operation by values does, what it gives -/
abbrev G1 := En → Tp → W → Option W
abbrev G2 := En → Tp → W → W → Option W
def OpOk (X : Cx) (f : Value → Value → Sem Value) (g : G2) : Prop := ∃ r : R2, OpR X f r ∧
  ∀ F H Hb t env τ σ v1 v2 w1 w2 w Q, Sok X.K F H t env τ σ → Rw X.K F H Hb t σ v1 w1 → Rw X.K F H Hb t σ v2 w2 → g env τ w1 w2 = some w →
    (∀ F' v H', Post X.K t τ F H F' H' → Rw X.K F' H' H t σ v w → Q v H') → r v1 v2 H Q
theorem OpOk.or {f : Value → Value → Sem Value} {g g' : G2} (h : OpOk X f g) (h' : OpOk X f g') : OpOk X f fun env τ a b => match g env τ a b with | some w => some w | none => g' env τ a b := by
  obtain ⟨r, o, s⟩ := h
  obtain ⟨r', o', s'⟩ := h'
  refine ⟨_, o.or o', fun F H Hb t env τ σ v1 v2 w1 w2 w Q S R1 R2 e q => ?_⟩
  dsimp only at e
  cases hg : g env τ w1 w2 with
  | some z =>
    rw [hg] at e
    cases e
    exact .inl (s F H Hb t env τ σ v1 v2 w1 w2 _ Q S R1 R2 hg q)
  | none =>
    rw [hg] at e
    exact .inr (s' F H Hb t env τ σ v1 v2 w1 w2 _ Q S R1 R2 e q)
def f2 (g : G2) (a b : EvF) : EvF := fun env τ => match a env τ with
  | some (x, τ1) => (match b env τ1 with
    | some (y, τ2) => (match g env τ2 x y with
      | some w => some (w, τ2)
      | none => none)
    | none => none)
  | none => none
/-- two operands, then an operation by values -/
theorem tOp_of {f : Value → Value → Sem Value} {g : G2} {a b : EvF} {r : R2} (hs : ∀ F H Hb t env τ σ v1 v2 w1 w2 w Q, Sok X.K F H t env τ σ → Rw X.K F H Hb t σ v1 w1 → Rw X.K F H Hb t σ v2 w2 → g env τ w1 w2 = some w →
    (∀ F' v H', Post X.K t τ F H F' H' → Rw X.K F' H' H t σ v w → Q v H') → r v1 v2 H Q) {σ : L2.St} {H : Hp} {Q : VK} (h : tE X.K (f2 g a b) σ H Q) : tOp r (tE X.K a) (tE X.K b) σ H Q := by
  obtain ⟨F, t, env, τ, w, τ', S, e, q⟩ := h
  unfold f2 at e
  split at e
  · rename_i x τ1 e1
    split at e
    · rename_i y τ2 e2
      split at e
      · rename_i w' e3
        cases e
        refine ⟨F, t, env, τ, x, τ1, S, e1, fun F1 v1 H1 P1 r1 => ?_⟩
        have S1 := S.post P1
        refine ⟨F1, t, env, τ1, y, _, S1, e2, fun F2 v2 H2 P2 r2 => ?_⟩
        have S2 := S1.post P2
        exact hs F2 H2 H t env _ σ v1 v2 x y _ Q S2 (r1.post P2) (r2.base P1) e3 fun F3 v3 H3 P3 r3 => q F3 v3 H3 (P1.trans (P2.trans P3)) (r3.base (P1.trans P2))
      · cases e
    · cases e
  · cases e
theorem bin_ok {op : Operator} {g : G2} {a b : EvF} {ea eb : Expr} {pos : Pos} (ho : OpOk X (binaryOp op) g) (ha : PE X ea (tE X.K a)) (hb : PE X eb (tE X.K b)) : PE X (.BinOp ea op eb pos) (tE X.K (f2 g a b)) := by
  obtain ⟨r, o, s⟩ := ho
  exact weakE (pe_op o ha hb) fun σ H Q h => tOp_of (f := binaryOp op) s h
theorem cmp_ok {op : CmpOp} {g : G2} {a b : EvF} {ea eb : Expr} {pos : Pos} (ho : OpOk X (compareOp op) g) (ha : PE X ea (tE X.K a)) (hb : PE X eb (tE X.K b)) (hm : behindInMarks op eb = false) : PE X (.Compare ea [op] [eb] pos) (tE X.K (f2 g a b)) := by
  obtain ⟨r, o, s⟩ := ho
  exact weakE (pe_cmpR o ha hb hm) fun σ H Q h => tOp_of (f := compareOp op) s h
theorem cmpT_ok {op : CmpOp} {g : G2} {a b : EvF} {ea eb : Expr} {pos : Pos} (ho : OpOk X (compareOp op) g) (ha : PE X ea (tE X.K a)) (hb : PE X eb (tE X.K b)) (hm : behindInMarks op eb = false) : PT X (.Compare ea [op] [eb] pos) (tT X.K (f2 g a b)) := by
  obtain ⟨r, o, s⟩ := ho
  refine weakT (pt_cmpR o ha hb hm) fun σ H Q ⟨F, t, env, τ, k, τ', S, e, q⟩ => tOp_of (f := compareOp op) s ⟨F, t, env, τ, _, τ', S, e, fun F' v H' P r => ?_⟩
  cases r
  exact ⟨k, rfl, q F' H' P⟩
end

/-! ### ints -/
def gI (g : Int → Int → Option D) : G2 := fun _ _ a b => match a, b with
  | .d (.int i), .d (.int j) => (g i j).map .d
  | _, _ => none
section
variable {X : Cx}
theorem ok_int {f : Value → Value → Sem Value} {C : Int → Int → Prop} {g : Int → Int → V} {gd : Int → Int → Option D} (o : OpR X f (rI C g)) (h : ∀ i j d, gd i j = some d → C i j ∧ ∀ F, Dq X.K F (g i j) d) : OpOk X f (gI gd) := by
  refine ⟨_, o, fun F H Hb t env τ σ v1 v2 w1 w2 w Q S R1 R2 e q => ?_⟩
  unfold gI at e
  split at e
  · rename_i i j
    cases hd : gd i j with
    | none => rw [hd] at e; cases e
    | some d =>
      rw [hd] at e
      cases e
      cases R1
      cases R2
      obtain ⟨h1, h2⟩ := h i j d hd
      exact ⟨i, j, rfl, rfl, h1, q F _ H (.refl S) (h2 F)⟩
  · cases e
theorem ok_int0 {f : Value → Value → Sem Value} {g : Int → Int → V} {gd : Int → Int → D} (o : OpR X f (rI0 g)) (h : ∀ i j F, Dq X.K F (g i j) (gd i j)) : OpOk X f (gI fun i j => some (gd i j)) := by
  refine ⟨_, o, fun F H Hb t env τ σ v1 v2 w1 w2 w Q S R1 R2 e q => ?_⟩
  unfold gI at e
  split at e
  · rename_i i j
    cases e
    cases R1
    cases R2
    exact ⟨i, j, rfl, rfl, q F _ H (.refl S) (h i j F)⟩
  · cases e
end

namespace PySem.SubBool
open PySem
theorem same_reflected_sub : reflectedDiffers (.type "int") (.type "bool") "sub" = pure false := by
  unfold reflectedDiffers
  show (typeLookup (.type "bool") (dunderR "sub") >>= fun rb => typeLookup (.type "int") (dunderR "sub") >>= fun ra => pure (rb.isSome && rb != ra)) = pure false
  rw [typeLookup_type, typeLookup_type, builtinLookup_eq_fast]; kernel_rfl
theorem sub_ib {prog : Program} {w : World} {A : Around} {E : Value → Shared → Prop} {s : Shared} {a : Int} {t : Tok} {b : Bool} {Q : Value → Shared → Prop} (h : Q (.int (a - if b = true then (1 : Int) else 0) s.toks) { s with toks := s.toks + 1 }) : wpAny (model prog w) A (binaryOp .Sub (.int a t) (.bool b)) Q E s :=
  binaryOp_sub_gives (op := .Sub) (T := "int") (U := "bool") (by decide) (typeIs_int s a t) rfl F.fills_int_sub F.fills_bool_sub isSubtype_bool_int same_reflected_sub F.slot_int_sub F.entry_int_sub (F.args_int_sub_2 _ _)
    (AutoIntG7.int___sub___int_bool_0 a t b) trivial h
end PySem.SubBool
open PySem PySem.Spec PyProof.Rows L2

section
variable {X : Cx}
theorem op_sub_ib : OpR X (binaryOp .Sub) (fun x y H Q => ∃ i k, x = .int i ∧ y = .bl k ∧ Q (.int (i - if k = true then (1 : Int) else 0)) H) := by
  intro pins s σ H x y v u Q I rx ry h
  obtain ⟨i, k, rfl, rfl, q⟩ := h
  obtain ⟨t, rfl⟩ := rx
  cases ry
  exact PySem.SubBool.sub_ib ⟨.int _, H, I.tok _, ⟨_, rfl⟩, q⟩
/-- x is y, x is not y: y None or a bool -/
def isP : V → Bool
  | .non => true
  | .bl _ => true
  | _ => false
theorem is_core {x y : V} {v u : Value} (rx : RelV x v) (ry : RelV y u) (h : isP y = true) : plainIs v u = true ∧ (v == u) = decide (x = y) := by
  cases y with
  | non =>
    cases ry
    refine ⟨?_, rx.none_iff⟩
    cases x <;> first | (cases rx; rfl) | (obtain ⟨t, rfl⟩ := rx; rfl)
  | bl b =>
    cases ry
    cases x with
    | bl c =>
      cases rx
      refine ⟨rfl, ?_⟩
      rw [Bool.eq_iff_iff]
      simp
    | non => cases rx; exact ⟨rfl, rfl⟩
    | ref a => cases rx; exact ⟨rfl, rfl⟩
    | ty n => cases rx; exact ⟨rfl, rfl⟩
    | int i => obtain ⟨t, rfl⟩ := rx; exact ⟨rfl, rfl⟩
    | str i => obtain ⟨t, rfl⟩ := rx; exact ⟨rfl, rfl⟩
    | byt i => obtain ⟨t, rfl⟩ := rx; exact ⟨rfl, rfl⟩
    | flt i => obtain ⟨t, rfl⟩ := rx; exact ⟨rfl, rfl⟩
  | _ => cases h
theorem op_isP : OpR X (compareOp .Is) (fun x y H Q => isP y = true ∧ Q (.bl (decide (x = y))) H) := by
  intro pins s σ H x y v u Q I rx ry ⟨h, q⟩
  obtain ⟨h1, h2⟩ := is_core rx ry h
  exact wpAny_is_plain h1 ⟨.bl _, H, I, by rw [h2]; rfl, q⟩
theorem op_isNotP : OpR X (compareOp .IsNot) (fun x y H Q => isP y = true ∧ Q (.bl (!decide (x = y))) H) := by
  intro pins s σ H x y v u Q I rx ry ⟨h, q⟩
  obtain ⟨h1, h2⟩ := is_core rx ry h
  exact wpAny_isNot_plain h1 ⟨.bl _, H, I, by rw [h2]; rfl, q⟩

theorem derefTup {F H Hb : Hp} {t : Option Addr} {env : En} {τ : Tp} {σ : L2.St} {K : PySem.W.Frag} {v : V} {w : W} {ds : List D} (S : Sok K F H t env τ σ) (r : Rw K F H Hb t σ v w) (e : seqOf env τ w = some (false, ds)) : Dq K F v (.tuple ds) := by
  cases w with
  | d x =>
    cases x with
    | tuple es => cases e; exact r
    | _ => cases e
  | loc i =>
    change (match env[i]? with | some (.own ds) => some (true, ds) | _ => none) = _ at e
    split at e <;> cases e
  | _ => cases e
/-! ### + - * // % ** -/
def gStr : G2 := fun _ _ a b => match a, b with
  | .d (.str x), .d (.str y) => if x.length + y.length ≤ sizeLine then some (.d (.str (x ++ y))) else none
  | _, _ => none
theorem ok_str : OpOk X (binaryOp .Add) gStr := by
  refine ⟨_, op_add_str, fun F H Hb t env τ σ v1 v2 w1 w2 w Q S R1 R2 e q => ?_⟩
  unfold gStr at e
  split at e
  · rename_i x y
    split at e
    · rename_i hl
      cases e
      cases R1
      cases R2
      exact ⟨x, y, rfl, rfl, hl, q F _ H (.refl S) (.str _)⟩
    · cases e
  · cases e
def gCat : G2 := fun env τ a b => match seqOf env τ a, seqOf env τ b with
  | some (true, x), some (true, y) => if x.length + y.length ≤ sizeLine then some (.new (x ++ y)) else none
  | some (false, x), some (false, y) => if x.length + y.length ≤ sizeLine then some (.d (.tuple (x ++ y))) else none
  | _, _ => none
theorem ok_cat : OpOk X (binaryOp .Add) gCat := by
  refine ⟨_, op_cat.or op_catA, fun F H Hb t env τ σ v1 v2 w1 w2 w Q S R1 R2 e q => ?_⟩
  unfold gCat at e
  split at e
  · rename_i x y e1 e2
    split at e
    · rename_i hl
      cases e
      obtain ⟨a, vs, rfl, d1, s1⟩ := deref S R1 e1
      obtain ⟨b, us, rfl, d2, s2⟩ := deref S R2 e2
      refine .inl ⟨a, b, vs, us, rfl, rfl, s1, s2, by rw [dqAll_len d1, dqAll_len d2]; exact hl, fun p hp => ?_⟩
      obtain ⟨P, r⟩ := S.newList hp (dqAll_append d1 d2)
      exact q _ _ _ P r
    · cases e
  · rename_i x y e1 e2
    split at e
    · rename_i hl
      cases e
      obtain ⟨a, vs, rfl, d1, s1⟩ := deref S R1 e1
      obtain ⟨b, us, rfl, d2, s2⟩ := deref S R2 e2
      refine .inr ⟨a, b, vs, us, rfl, rfl, s1, s2, by rw [dqAll_len d1, dqAll_len d2]; exact hl, fun z => ?_, fun z1 z2 => ?_, fun z1 z2 p hp => ?_⟩
      · subst z
        cases d1
        exact q F _ H (.refl S) (derefTup S R2 e2)
      · subst z2
        cases d2
        rw [List.append_nil] at q
        exact q F _ H (.refl S) (derefTup S R1 e1)
      · obtain ⟨P, r⟩ := S.newTup hp (dqAll_append d1 d2)
        exact q _ _ _ P r
    · cases e
  · cases e
/-! ### ==, < .. -/
def viewD (env : En) (τ : Tp) : W → Option D
  | .d x => some x
  | w => match seqOf env τ w with
    | some (true, ds) => some (.list ds)
    | _ => none
theorem viewDp {F H Hb : Hp} {t : Option Addr} {env : En} {τ : Tp} {σ : L2.St} {K : PySem.W.Frag} {v : V} {w : W} {x : D} (S : Sok K F H t env τ σ) (r : Rw K F H Hb t σ v w) (e : viewD env τ w = some x) : Dp K H v x := by
  have gen : ∀ w', seqOf env τ w' = some (true, ‹_›) → True := fun _ _ => trivial
  cases w with
  | d y => cases e; exact (dq_mono S.same r).dp
  | new ds =>
    cases e
    obtain ⟨a, vs, rfl, d1, s1⟩ := deref S r (b := true) (ds := ds) rfl
    exact .lst (SqL.of s1) (dqAll_mono S.same d1).dp
  | tp =>
    cases e
    obtain ⟨a, vs, rfl, d1, s1⟩ := deref S r (b := true) (ds := τ) rfl
    exact .lst (SqL.of s1) (dqAll_mono S.same d1).dp
  | loc i =>
    change (match seqOf env τ (.loc i) with | some (true, ds) => some (PyData.list ds) | _ => none) = some x at e
    split at e
    · rename_i ds e1
      cases e
      obtain ⟨a, vs, rfl, d1, s1⟩ := deref S r e1
      exact .lst (SqL.of s1) (dqAll_mono S.same d1).dp
    · cases e
def gEqD (neg : Bool) : G2 := fun env τ a b => match viewD env τ a, viewD env τ b with
  | some x, some y => if SeqAt.shaped x = true ∧ SeqAt.shaped y = true then some (.d (.bool (if neg then !PyData.eqv x y else PyData.eqv x y))) else none
  | _, _ => none
theorem ok_eq (hu : X.A.units + 64 < cLine) : OpOk X (compareOp .Eq) (gEqD false) := by
  refine ⟨_, op_eqD hu, fun F H Hb t env τ σ v1 v2 w1 w2 w Q S R1 R2 e q => ?_⟩
  unfold gEqD at e
  split at e
  · rename_i x y e1 e2
    split at e
    · rename_i hl
      cases e
      exact ⟨x, y, viewDp S R1 e1, viewDp S R2 e2, hl.1, hl.2, q F _ H (.refl S) (.bl _)⟩
    · cases e
  · cases e
theorem ok_ne (hu : X.A.units + 64 < cLine) : OpOk X (compareOp .NotEq) (gEqD true) := by
  refine ⟨_, op_neD hu, fun F H Hb t env τ σ v1 v2 w1 w2 w Q S R1 R2 e q => ?_⟩
  unfold gEqD at e
  split at e
  · rename_i x y e1 e2
    split at e
    · rename_i hl
      cases e
      exact ⟨x, y, viewDp S R1 e1, viewDp S R2 e2, hl.1, hl.2, q F _ H (.refl S) (.bl _)⟩
    · cases e
  · cases e

/-- ints out of data -/
def intsOf : List D → Option (List Int)
  | [] => some []
  | .int i :: r => match intsOf r with
    | some l => some (i :: l)
    | none => none
  | _ => none
theorem intsOf_eq : ∀ {ds : List D} {ns : List Int}, intsOf ds = some ns → ds = ns.map PyData.int
  | [], _, e => by cases e; rfl
  | .int i :: r, ns, e => by
    unfold intsOf at e
    split at e
    · rename_i l h
      cases e
      rw [intsOf_eq h]
      rfl
    · cases e
  | .none :: _, _, e => by cases e
  | .bool _ :: _, _, e => by cases e
  | .str _ :: _, _, e => by cases e
  | .list _ :: _, _, e => by cases e
  | .tuple _ :: _, _, e => by cases e
  | .dict _ :: _, _, e => by cases e
theorem intsOf_map : ∀ ns : List Int, intsOf (ns.map PyData.int) = some ns
  | [] => rfl
  | n :: r => by
    show (match intsOf (r.map PyData.int) with | some l => some (n :: l) | none => none) = _
    rw [intsOf_map r]
theorem dq_ints {K : PySem.W.Frag} {H : Hp} : ∀ {ns : List Int} {vs : List V}, DqAll K H vs (ns.map PyData.int) → vs = ns.map V.int
  | [], _, h => by cases h; rfl
  | n :: r, _, h => by
    cases h with
    | cons a b =>
      cases a
      rw [dq_ints b]
      rfl
def boolsOf : List D → Option (List Bool)
  | [] => some []
  | .bool i :: r => match boolsOf r with
    | some l => some (i :: l)
    | none => none
  | _ => none
theorem boolsOf_eq : ∀ {ds : List D} {ns : List Bool}, boolsOf ds = some ns → ds = ns.map PyData.bool
  | [], _, e => by cases e; rfl
  | .bool i :: r, ns, e => by
    unfold boolsOf at e
    split at e
    · rename_i l h
      cases e
      rw [boolsOf_eq h]
      rfl
    · cases e
  | .none :: _, _, e => by cases e
  | .int _ :: _, _, e => by cases e
  | .str _ :: _, _, e => by cases e
  | .list _ :: _, _, e => by cases e
  | .tuple _ :: _, _, e => by cases e
  | .dict _ :: _, _, e => by cases e
theorem boolsOf_map : ∀ ns : List Bool, boolsOf (ns.map PyData.bool) = some ns
  | [] => rfl
  | n :: r => by
    show (match boolsOf (r.map PyData.bool) with | some l => some (n :: l) | none => none) = _
    rw [boolsOf_map r]
theorem dq_bools {K : PySem.W.Frag} {H : Hp} : ∀ {ns : List Bool} {vs : List V}, DqAll K H vs (ns.map PyData.bool) → vs = ns.map V.bl
  | [], _, h => by cases h; rfl
  | n :: r, _, h => by
    cases h with
    | cons a b =>
      cases a
      rw [dq_bools b]
      rfl
/-- < and <= of tuples of ints -/
def lexLe : List Int → List Int → Bool
  | [], _ => true
  | _ :: _, [] => false
  | x :: xs, y :: ys => if x = y then lexLe xs ys else decide (x ≤ y)
theorem lexAt_le : ∀ (ns ms : List Int), Ob.lexAt (fun j => decide (ns.getD j 0 = ms.getD j 0)) (fun j => decide (ns.getD j 0 ≤ ms.getD j 0)) (decide (ns.length ≤ ms.length)) 0 (min ns.length ms.length) = lexLe ns ms := by
  have sh : ∀ (k i : Nat) (e r e' r' : Nat → Bool) (z z' : Bool), (∀ j, e' j = e (j + 1)) → (∀ j, r' j = r (j + 1)) → z = z' → Ob.lexAt e r z (i + 1) k = Ob.lexAt e' r' z' i k := by
    intro k
    induction k with
    | zero => intro i e r e' r' z z' _ _ hz; exact hz
    | succ k ih =>
      intro i e r e' r' z z' h1 h2 h3
      rw [Ob.lexAt_succ, Ob.lexAt_succ, h1, h2, ih (i + 1) e r e' r' z z' h1 h2 h3]
  intro ns
  induction ns with
  | nil => intro ms; simp [lexLe, Ob.lexAt_zero]
  | cons x xs ih =>
    intro ms
    cases ms with
    | nil => simp [lexLe, Ob.lexAt_zero]
    | cons y ys =>
      rw [List.length_cons, List.length_cons, Nat.add_min_add_right, Ob.lexAt_succ]
      unfold lexLe
      simp only [List.getD_cons_zero, decide_eq_true_eq]
      split
      · rw [← ih ys]
        exact sh _ _ _ _ _ _ _ _ (fun j => by simp) (fun j => by simp) (by simp)
      · rfl
def tupInts (env : En) (τ : Tp) (w : W) : Option (List Int) := match seqOf env τ w with
  | some (false, ds) => intsOf ds
  | _ => none
theorem tupInts_ok {F H Hb : Hp} {t : Option Addr} {env : En} {τ : Tp} {σ : L2.St} {K : PySem.W.Frag} {v : V} {w : W} {ns : List Int} (S : Sok K F H t env τ σ) (r : Rw K F H Hb t σ v w) (e : tupInts env τ w = some ns) :
    ∃ a, v = .ref a ∧ SqT K H a (ns.map V.int) := by
  unfold tupInts at e
  split at e
  · rename_i ds e1
    obtain ⟨a, vs, rfl, d, s⟩ := deref S r e1
    have h := intsOf_eq e
    subst h
    have h := dq_ints d
    subst h
    exact ⟨a, rfl, s⟩
  · cases e
def gLtT : G2 := fun env τ a b => match tupInts env τ a, tupInts env τ b with
  | some x, some y => some (.d (.bool (HT.lexLt x y)))
  | _, _ => none
def gLeT : G2 := fun env τ a b => match tupInts env τ a, tupInts env τ b with
  | some x, some y => some (.d (.bool (lexLe x y)))
  | _, _ => none
theorem ok_ltT (hu : X.A.units + 64 < cLine) : OpOk X (compareOp .Lt) gLtT := by
  refine ⟨_, op_ltT (by omega), fun F H Hb t env τ σ v1 v2 w1 w2 w Q S R1 R2 e q => ?_⟩
  unfold gLtT at e
  split at e
  · rename_i x y e1 e2
    cases e
    obtain ⟨a, rfl, h1⟩ := tupInts_ok S R1 e1
    obtain ⟨b, rfl, h2⟩ := tupInts_ok S R2 e2
    exact ⟨a, b, x, y, rfl, rfl, h1, h2, q F _ H (.refl S) (.bl _)⟩
  · cases e
theorem ok_leT (hu : X.A.units + 64 < cLine) : OpOk X (compareOp .LtE) gLeT := by
  refine ⟨_, op_leT (by omega), fun F H Hb t env τ σ v1 v2 w1 w2 w Q S R1 R2 e q => ?_⟩
  unfold gLeT at e
  split at e
  · rename_i x y e1 e2
    cases e
    obtain ⟨a, rfl, h1⟩ := tupInts_ok S R1 e1
    obtain ⟨b, rfl, h2⟩ := tupInts_ok S R2 e2
    exact ⟨a, b, x, y, rfl, rfl, h1, h2, by rw [lexAt_le]; exact q F _ H (.refl S) (.bl _)⟩
  · cases e
/-- is, is not: with None, True, False -/
def isD : W → D → Option Bool
  | .d .none, .none => some true
  | .d (.bool a), .bool b => some (a == b)
  | .loc _, _ => none
  | _, .none => some false
  | _, .bool _ => some false
  | _, _ => none
def gIs (neg : Bool) : G2 := fun _ _ a b => match b with
  | .d y => (match isD a y with
    | some c => some (.d (.bool (if neg then !c else c)))
    | none => none)
  | _ => none
theorem isD_ok {F H Hb : Hp} {t : Option Addr} {σ : L2.St} {K : PySem.W.Frag} {v u : V} {w : W} {d : D} {c : Bool} (r : Rw K F H Hb t σ v w) (ru : Dq K F u d) (e : isD w d = some c) : isP u = true ∧ decide (v = u) = c := by
  cases ru with
  | non =>
    refine ⟨rfl, ?_⟩
    cases w with
    | d x => cases r <;> (cases e; rfl)
    | tp => obtain ⟨a, _, rfl⟩ := r; cases e; rfl
    | new ds => obtain ⟨a, vs, rfl, _⟩ := r; cases e; rfl
    | loc i => cases e
  | bl b =>
    refine ⟨rfl, ?_⟩
    cases w with
    | d x =>
      cases r with
      | bl k =>
        cases e
        show decide (V.bl k = V.bl b) = (k == b)
        rw [Bool.eq_iff_iff]
        simp
      | _ => cases e; rfl
    | tp => obtain ⟨a, _, rfl⟩ := r; cases e; rfl
    | new ds => obtain ⟨a, vs, rfl, _⟩ := r; cases e; rfl
    | loc i => cases e
  | _ =>
    cases w with
    | d x => cases r <;> cases e
    | _ => cases e
theorem ok_is : OpOk X (compareOp .Is) (gIs false) := by
  refine ⟨_, op_isP, fun F H Hb t env τ σ v1 v2 w1 w2 w Q S R1 R2 e q => ?_⟩
  unfold gIs at e
  split at e
  · rename_i y
    split at e
    · rename_i c e1
      cases e
      obtain ⟨h1, h2⟩ := isD_ok R1 R2 e1
      exact ⟨h1, by rw [h2]; exact q F _ H (.refl S) (.bl _)⟩
    · cases e
  · cases e
theorem ok_isNot : OpOk X (compareOp .IsNot) (gIs true) := by
  refine ⟨_, op_isNotP, fun F H Hb t env τ σ v1 v2 w1 w2 w Q S R1 R2 e q => ?_⟩
  unfold gIs at e
  split at e
  · rename_i y
    split at e
    · rename_i c e1
      cases e
      obtain ⟨h1, h2⟩ := isD_ok R1 R2 e1
      exact ⟨h1, by rw [h2]; exact q F _ H (.refl S) (.bl _)⟩
    · cases e
  · cases e
/-! in, not in -/
def flatD : D → Bool
  | .none => true
  | .bool _ => true
  | .int _ => true
  | .str _ => true
  | _ => false
theorem flat_ok {K : PySem.W.Frag} {F : Hp} {v : V} {d : D} (r : Dq K F v d) (h : flatD d = true) : flatV v = true := by
  cases r <;> first | rfl | cases h
theorem flat_all {K : PySem.W.Frag} {F : Hp} : ∀ {ds : List D} {vs : List V}, DqAll K F vs ds → ds.all flatD = true → vs.all flatV = true
  | [], _, r, _ => by cases r; rfl
  | d :: ds, _, r, h => by
    cases r with
    | cons a b =>
      rw [List.all_cons, Bool.and_eq_true] at h ⊢
      exact ⟨flat_ok a h.1, flat_all b h.2⟩
theorem eqV_eqv {K : PySem.W.Frag} {F : Hp} {v u : V} {d e : D} (r : Dq K F v d) (r' : Dq K F u e) (h : flatD d = true) (h' : flatD e = true) : eqV v u = PyData.eqv d e := by
  cases r <;> first
    | (cases h; done)
    | (cases r' <;> first | (cases h'; done) | (simp [eqV, PyData.eqv]))
theorem inV_eqv {K : PySem.W.Frag} {F : Hp} {v : V} {d : D} (r : Dq K F v d) (h : flatD d = true) : ∀ {ds : List D} {vs : List V}, DqAll K F vs ds → ds.all flatD = true → inV v vs = ds.any fun z => PyData.eqv z d
  | [], _, q, _ => by cases q; rfl
  | e :: ds, _, q, h' => by
    cases q with
    | cons a b =>
      rw [List.all_cons, Bool.and_eq_true] at h'
      unfold inV
      rw [List.any_cons, List.any_cons, eqV_eqv a r h'.1 h]
      have := inV_eqv r h b h'.2
      unfold inV at this
      rw [this]
def gIn (neg : Bool) : G2 := fun env τ a b => match viewD env τ a, seqOf env τ b with
  | some x, some (true, ds) => if SeqAt.shaped x = true ∧ SeqAt.shaped (.list ds) = true then some (.d (.bool (if neg then !(ds.any fun z => PyData.eqv z x) else ds.any fun z => PyData.eqv z x))) else none
  | some x, some (false, ds) => if flatD x = true ∧ ds.all flatD = true then some (.d (.bool (if neg then !(ds.any fun z => PyData.eqv z x) else ds.any fun z => PyData.eqv z x))) else none
  | _, _ => none
theorem flat_view {F H Hb : Hp} {t : Option Addr} {env : En} {τ : Tp} {σ : L2.St} {K : PySem.W.Frag} {v : V} {w : W} {x : D} (r : Rw K F H Hb t σ v w) (e : viewD env τ w = some x) (h : flatD x = true) : Dq K F v x := by
  cases w with
  | d y => cases e; exact r
  | new ds => cases e; cases h
  | tp => cases e; cases h
  | loc i =>
    change (match seqOf env τ (.loc i) with | some (true, ds) => some (PyData.list ds) | _ => none) = some x at e
    split at e
    · cases e; cases h
    · cases e
theorem seqList {F H Hb : Hp} {t : Option Addr} {env : En} {τ : Tp} {σ : L2.St} {K : PySem.W.Frag} {v : V} {w : W} {ds : List D} (S : Sok K F H t env τ σ) (r : Rw K F H Hb t σ v w) (e : seqOf env τ w = some (true, ds)) : Dp K H v (.list ds) := by
  obtain ⟨a, vs, rfl, d, s⟩ := deref S r e
  exact .lst (SqL.of s) (dqAll_mono S.same d).dp
theorem ok_in (hu : X.A.units + 65 < cLine) : OpOk X (compareOp .In) (gIn false) := by
  refine ⟨_, (op_inD hu).or op_in_seq, fun F H Hb t env τ σ v1 v2 w1 w2 w Q S R1 R2 e q => ?_⟩
  unfold gIn at e
  split at e
  · rename_i x ds e1 e2
    split at e
    · rename_i hc
      cases e
      exact .inl ⟨x, ds, viewDp S R1 e1, seqList S R2 e2, hc.1, hc.2, q F _ H (.refl S) (.bl _)⟩
    · cases e
  · rename_i x ds e1 e2
    split at e
    · rename_i hc
      cases e
      obtain ⟨a, vs, rfl, d, s⟩ := deref S R2 e2
      have hx := flat_view R1 e1 hc.1
      refine .inr ⟨a, vs, rfl, .inr s, flat_ok hx hc.1, flat_all d hc.2, ?_⟩
      rw [inV_eqv hx hc.1 d hc.2]
      exact q F _ H (.refl S) (.bl _)
    · cases e
  · cases e
theorem ok_notIn (hu : X.A.units + 65 < cLine) : OpOk X (compareOp .NotIn) (gIn true) := by
  refine ⟨_, (op_notInD hu).or op_notIn_seq, fun F H Hb t env τ σ v1 v2 w1 w2 w Q S R1 R2 e q => ?_⟩
  unfold gIn at e
  split at e
  · rename_i x ds e1 e2
    split at e
    · rename_i hc
      cases e
      exact .inl ⟨x, ds, viewDp S R1 e1, seqList S R2 e2, hc.1, hc.2, q F _ H (.refl S) (.bl _)⟩
    · cases e
  · rename_i x ds e1 e2
    split at e
    · rename_i hc
      cases e
      obtain ⟨a, vs, rfl, d, s⟩ := deref S R2 e2
      have hx := flat_view R1 e1 hc.1
      refine .inr ⟨a, vs, rfl, .inr s, flat_ok hx hc.1, flat_all d hc.2, ?_⟩
      rw [inV_eqv hx hc.1 d hc.2]
      exact q F _ H (.refl S) (.bl _)
    · cases e
  · cases e

/-! ### arithmetic -/
def gSubB : G2 := fun _ _ a b => match a, b with
  | .d (.int i), .d (.bool k) => some (.d (.int (i - if k = true then (1 : Int) else 0)))
  | _, _ => none
theorem ok_subB : OpOk X (binaryOp .Sub) gSubB := by
  refine ⟨_, op_sub_ib, fun F H Hb t env τ σ v1 v2 w1 w2 w Q S R1 R2 e q => ?_⟩
  unfold gSubB at e
  split at e
  · cases e
    cases R1
    cases R2
    exact ⟨_, _, rfl, rfl, q F _ H (.refl S) (.int _)⟩
  · cases e
def dMul (i j : Int) : Option D := if i.natAbs.log2 + j.natAbs.log2 < 1000000 then some (.int (i * j)) else none
def dDiv (i j : Int) : Option D := if 0 < j ∧ j.natAbs.log2 < 9000 then some (.int (i / j)) else none
def dMod (i j : Int) : Option D := if 0 < j then some (.int (i % j)) else none
def dPow (i j : Int) : Option D := if 0 ≤ j ∧ j ≤ 1000000 ∧ i.natAbs < 2 ^ 64 then some (.int (i ^ j.toNat)) else none
theorem ok_mulI : OpOk X (binaryOp .Mult) (gI dMul) := ok_int op_mulW fun i j d e => by
  unfold dMul at e
  split at e
  · rename_i h; cases e; exact ⟨h, fun F => .int _⟩
  · cases e
theorem ok_div : OpOk X (binaryOp .FloorDiv) (gI dDiv) := ok_int op_fdivW fun i j d e => by
  unfold dDiv at e
  split at e
  · rename_i h; cases e; exact ⟨h, fun F => .int _⟩
  · cases e
theorem ok_mod : OpOk X (binaryOp .Mod) (gI dMod) := ok_int op_mod fun i j d e => by
  unfold dMod at e
  split at e
  · rename_i h; cases e; exact ⟨h, fun F => .int _⟩
  · cases e
theorem ok_pow : OpOk X (binaryOp .Pow) (gI dPow) := ok_int op_pow fun i j d e => by
  unfold dPow at e
  split at e
  · rename_i h; cases e; exact ⟨h, fun F => .int _⟩
  · cases e
/-- a list times an int -/
def gRep : G2 := fun env τ a b => match seqOf env τ a, b with
  | some (true, ds), .d (.int k) => if -(2 ^ 63) ≤ k ∧ k < 2 ^ 63 ∧ ds.length * k.toNat ≤ sizeLine then some (.new (List.replicate k.toNat ds).flatten) else none
  | _, _ => none
theorem ok_rep : OpOk X (binaryOp .Mult) gRep := by
  refine ⟨_, op_rep, fun F H Hb t env τ σ v1 v2 w1 w2 w Q S R1 R2 e q => ?_⟩
  unfold gRep at e
  split at e
  · rename_i ds k e1
    split at e
    · rename_i hc
      cases e
      cases R2
      obtain ⟨a, vs, rfl, d, s⟩ := deref S R1 e1
      refine ⟨a, k, vs, rfl, rfl, s, hc.1, hc.2.1, by rw [dqAll_len d]; exact hc.2.2, fun p hp => ?_⟩
      obtain ⟨P, r⟩ := S.newList hp (dqAll_rep d k.toNat)
      exact q _ _ _ P r
    · cases e
  · cases e
/-! ### the operators -/
def gAdd : G2 := fun env τ a b => match gI (fun i j => some (.int (i + j))) env τ a b with
  | some w => some w
  | none => match gStr env τ a b with
    | some w => some w
    | none => gCat env τ a b
theorem ok_add : OpOk X (binaryOp .Add) gAdd := OpOk.or (ok_int0 op_add fun i j F => .int _) (OpOk.or ok_str ok_cat)
def gSub : G2 := fun env τ a b => match gI (fun i j => some (.int (i - j))) env τ a b with
  | some w => some w
  | none => gSubB env τ a b
theorem ok_sub : OpOk X (binaryOp .Sub) gSub := OpOk.or (ok_int0 op_sub fun i j F => .int _) ok_subB
def gLt : G2 := fun env τ a b => match gI (fun i j => some (.bool (decide (i < j)))) env τ a b with
  | some w => some w
  | none => gLtT env τ a b
theorem ok_lt (hu : X.A.units + 64 < cLine) : OpOk X (compareOp .Lt) gLt := OpOk.or (ok_int0 op_lt fun i j F => .bl _) (ok_ltT hu)
def gLe : G2 := fun env τ a b => match gI (fun i j => some (.bool (decide (i ≤ j)))) env τ a b with
  | some w => some w
  | none => gLeT env τ a b
theorem ok_le (hu : X.A.units + 64 < cLine) : OpOk X (compareOp .LtE) gLe := OpOk.or (ok_int0 op_le fun i j F => .bl _) (ok_leT hu)
theorem ok_gt : OpOk X (compareOp .Gt) (gI fun i j => some (.bool (decide (j < i)))) := ok_int0 op_gt fun i j F => .bl _
theorem ok_ge : OpOk X (compareOp .GtE) (gI fun i j => some (.bool (decide (j ≤ i)))) := ok_int0 op_ge fun i j F => .bl _
end

open PySem PySem.Spec PyProof.Rows L2

/-! ### a tuple times 1, times nothing -/
theorem tupMul_one (l : Addr) (items : Array Value) (n : Nat) (dd : Option Addr) (sl : Array (Option Value)) (x : Int) (u : Tok) (c0 : (decide (x < -(2 ^ 63)) || decide (x ≥ 2 ^ 63)) = false) (c1 : (items.isEmpty || x == 1) = true) :
    Meets (Builtin.«tuple.__mul__» ⟨[.ref l, .int x u], []⟩) (fun _ R s => s.heap.get? l = some { cls := .type "tuple", dict := dd, data := .seq items n, slots := sl } ∧ R (.ok (.ret (Value.ref l))) s) :=
  .of_wp fun prog w A R s h => by
    obtain ⟨hp, g, d, tk, os⟩ := s
    obtain ⟨hl, h⟩ := h
    have f1 := AutoSeq1.idx_int
    wp_walk using wpAny_loadPart' hl
    repeat (first
      | (refine wpAny_ite_false (decide_eq_false (by rw [c0]; exact Bool.false_ne_true)) ?_; wp_walk using wpAny_loadPart' hl)
      | (refine wpAny_ite_true (decide_eq_true c1) ?_; wp_walk using wpAny_loadPart' hl))
    exact ⟨_, rfl, h⟩
theorem tupMul_none (l : Addr) (items : Array Value) (n : Nat) (dd : Option Addr) (sl : Array (Option Value)) (x : Int) (u : Tok) (c0 : (decide (x < -(2 ^ 63)) || decide (x ≥ 2 ^ 63)) = false) (c1 : (items.isEmpty || x == 1) = false) (c2 : (decide (x ≤ 0) || items.isEmpty) = true) :
    Meets (Builtin.«tuple.__mul__» ⟨[.ref l, .int x u], []⟩) (fun _ R s => s.heap.get? l = some { cls := .type "tuple", dict := dd, data := .seq items n, slots := sl } ∧
      R (.ok (.ret (Value.ref s.heap.objs.size))) { s with heap := s.heap.push { cls := Value.type "tuple", data := Data.seq #[] }, toks := s.toks }) :=
  .of_wp fun prog w A R s h => by
    obtain ⟨hp, g, d, tk, os⟩ := s
    obtain ⟨hl, h⟩ := h
    have f1 := AutoSeq1.idx_int
    wp_walk using wpAny_loadPart' hl
    repeat (first
      | (refine wpAny_ite_false (decide_eq_false (by rw [c0]; exact Bool.false_ne_true)) ?_; wp_walk using wpAny_loadPart' hl)
      | (refine wpAny_ite_false (decide_eq_false (by rw [c1]; exact Bool.false_ne_true)) ?_; wp_walk using wpAny_loadPart' hl)
      | (refine wpAny_ite_true (decide_eq_true c2) ?_; wp_walk using wpAny_loadPart' hl))
    exact ⟨_, rfl, h⟩
section
variable {X : Cx}
def rTupMul (K : PySem.W.Frag) : R2 := fun x y H Q => ∃ l k xs, x = .ref l ∧ y = .int k ∧ SqT K H l xs ∧ xs ≠ [] ∧ -(2 ^ 62) ≤ k ∧ k ≤ 1 ∧ ((k = 1 ∧ Q (.ref l) H) ∨ (k ≤ 0 ∧ ∀ p, H p = none → Q (.ref p) (upd H p (.tup []))))
theorem op_tupMul : OpR X (binaryOp .Mult) (rTupMul X.K) := by
  intro pins s σ H x y v u Q I rx ry h
  obtain ⟨l, k, xs, rfl, rfl, hT, hne, hk0, hk, h⟩ := h
  cases rx
  obtain ⟨t, rfl⟩ := ry
  obtain ⟨its, r, ⟨⟨cls, dd, data, sl⟩, ho, hc, n, hd⟩, hs⟩ := I.tuple hT
  simp only at hc hd
  subst hc hd
  have hle : its.length = xs.length := r.length.symm
  have hn : its ≠ [] := fun e => hne (by
    rw [e] at hle
    exact List.eq_nil_of_length_eq_zero hle.symm)
  have hi : its.toArray.isEmpty = false := by
    cases its with
    | nil => exact absurd rfl hn
    | cons a b => rfl
  have c0 : (decide (k < -(2 ^ 63)) || decide (k ≥ 2 ^ 63)) = false := by
    rw [decide_eq_false (by omega), decide_eq_false (by omega)] <;> rfl
  have road : ∀ {m}, Meets (Builtin.«tuple.__mul__» ⟨[.ref l, .int k t], []⟩) m → m (X.A.in1.in1) (fun r s' => ∃ z, r = .ok (.ret z) ∧ EP X pins σ Q z s') s → True := fun _ _ => trivial
  rcases h with ⟨h1, q⟩ | ⟨h1, q⟩
  · refine wpAny_binaryOp_repeat_ref (T := "tuple") (U := "int") (by decide) ⟨_, ho, rfl⟩ (fun s' => typeIs_int s' k t) noFill_tuple_mul F.fills_int_mul F.slot_int_rmul repeat_tuple F.slot_int_index.lookup
      (call_meets F.slot_int_rmul (typeIs_int s k t) F.entry_int_rmul (F.args_int_rmul_2 _ _) (int_rmul_tuple k t l its.toArray n dd sl)
        ⟨ho, rfl, ⟨_, ho, rfl⟩, call_meets F.slot_tuple_mul ⟨_, ho, rfl⟩ F.entry_tuple_mul (F.args_tuple_mul_2 _ _) (tupMul_one l its.toArray n dd sl k t c0 (by rw [hi, h1]; rfl)) ⟨ho, ?_⟩⟩)
    exact ⟨.ref l, H, I, rfl, q⟩
  · have c1 : (its.toArray.isEmpty || k == 1) = false := by
      rw [hi, Bool.false_or]
      exact beq_eq_false_iff_ne.mpr (by omega)
    have c2 : (decide (k ≤ 0) || its.toArray.isEmpty) = true := by
      rw [decide_eq_true h1]
      rfl
    refine wpAny_binaryOp_repeat_ref (T := "tuple") (U := "int") (by decide) ⟨_, ho, rfl⟩ (fun s' => typeIs_int s' k t) noFill_tuple_mul F.fills_int_mul F.slot_int_rmul repeat_tuple F.slot_int_index.lookup
      (call_meets F.slot_int_rmul (typeIs_int s k t) F.entry_int_rmul (F.args_int_rmul_2 _ _) (int_rmul_tuple k t l its.toArray n dd sl)
        ⟨ho, rfl, ⟨_, ho, rfl⟩, call_meets F.slot_tuple_mul ⟨_, ho, rfl⟩ F.entry_tuple_mul (F.args_tuple_mul_2 _ _) (tupMul_none l its.toArray n dd sl k t c0 c1 c2) ⟨ho, ?_⟩⟩)
    refine ⟨.ref s.heap.objs.size, _, I.laid (t' := s.toks) (o := .tup []) (fun b ob q => Heap.get?_push_of_some _ q) (Nat.le_refl _) ?_, rfl, q _ (I.hok.fresh (Nat.le_refl _))⟩
    exact ⟨Nat.zero_le _, [], .nil, IsTup.new _ _⟩
def gRepT : G2 := fun env τ a b => match seqOf env τ a, b with
  | some (false, ds), .d (.int k) => if ds ≠ [] ∧ 0 ≤ k ∧ k ≤ 1000 ∧ ds.length ≤ 1000 then some (.d (.tuple (List.replicate k.toNat ds).flatten)) else none
  | _, _ => none
theorem ok_repT : OpOk X (binaryOp .Mult) gRepT := by
  refine ⟨_, op_repT.or op_tupMul, fun F H Hb t env τ σ v1 v2 w1 w2 w Q S R1 R2 e q => ?_⟩
  unfold gRepT at e
  split at e
  · rename_i ds k e1
    split at e
    · rename_i hc
      cases e
      cases R2
      have hq := derefTup S R1 e1
      obtain ⟨a, vs, rfl, d, s⟩ := deref S R1 e1
      have hne : vs ≠ [] := fun z => hc.1 (by
        subst z
        cases d
        rfl)
      by_cases h2 : 2 ≤ k
      · refine .inl ⟨a, k, vs, rfl, rfl, s, hne, h2, hc.2.2.1, by rw [dqAll_len d]; exact hc.2.2.2, fun p hp => ?_⟩
        obtain ⟨P, r⟩ := S.newTup hp (dqAll_rep d k.toNat)
        exact q _ _ _ P r
      · refine .inr ⟨a, k, vs, rfl, rfl, s, hne, by omega, by omega, ?_⟩
        by_cases h1 : k = 1
        · subst h1
          refine .inl ⟨rfl, ?_⟩
          have e3 : (List.replicate (Int.toNat 1) ds).flatten = ds := by simp
          rw [e3] at q
          exact q F _ H (.refl S) hq
        · have h0 : k = 0 := by omega
          subst h0
          refine .inr ⟨by omega, fun p hp => ?_⟩
          obtain ⟨P, r⟩ := S.newTup hp (vs := []) (ds := []) .nil
          exact q _ _ _ P r
    · cases e
  · cases e
def gMul : G2 := fun env τ a b => match gI dMul env τ a b with
  | some w => some w
  | none => match gRep env τ a b with
    | some w => some w
    | none => gRepT env τ a b
theorem ok_mul : OpOk X (binaryOp .Mult) gMul := OpOk.or ok_mulI (OpOk.or ok_rep ok_repT)
end

open PySem PySem.Spec PyProof.Rows L2
open PySem.W (alike alikeAll alike_unique dataLt minD maxD AlikeAll min_list_data min_tuple_data max_list_data max_tuple_data)
section
variable {X : Cx}
/-! ### calls of built-in functions by values -/
def C1Ok (X : Cx) (f : Value) (g : G1) : Prop := ∃ r : List V → Hp → VK → Prop, CallR X f r ∧
  ∀ F H Hb t env τ σ v w w' Q, Sok X.K F H t env τ σ → Rw X.K F H Hb t σ v w → g env τ w = some w' →
    (∀ F' v' H', Post X.K t τ F H F' H' → Rw X.K F' H' H t σ v' w' → Q v' H') → r [v] H Q
theorem C1Ok.or {f : Value} {g g' : G1} (h : C1Ok X f g) (h' : C1Ok X f g') : C1Ok X f fun env τ a => match g env τ a with | some w => some w | none => g' env τ a := by
  obtain ⟨r, o, s⟩ := h
  obtain ⟨r', o', s'⟩ := h'
  refine ⟨_, o.or o', fun F H Hb t env τ σ v w w' Q S R e q => ?_⟩
  dsimp only at e
  cases hg : g env τ w with
  | some z =>
    rw [hg] at e
    cases e
    exact .inl (s F H Hb t env τ σ v w _ Q S R hg q)
  | none =>
    rw [hg] at e
    exact .inr (s' F H Hb t env τ σ v w w' Q S R e q)
def f1 (g : G1) (a : EvF) : EvF := fun env τ => match a env τ with
  | some (x, τ1) => (match g env τ1 x with
    | some w => some (w, τ1)
    | none => none)
  | none => none
theorem tCB1 {g : G1} {a : EvF} {r : List V → Hp → VK → Prop} (hs : ∀ F H Hb t env τ σ v w w' Q, Sok X.K F H t env τ σ → Rw X.K F H Hb t σ v w → g env τ w = some w' →
    (∀ F' v' H', Post X.K t τ F H F' H' → Rw X.K F' H' H t σ v' w' → Q v' H') → r [v] H Q) {σ : L2.St} {H : Hp} {Q : VK} (h : tE X.K (f1 g a) σ H Q) : tCB r (tCons (tE X.K a) tNil) σ H Q := by
  obtain ⟨F, t, env, τ, w, τ', S, e, q⟩ := h
  unfold f1 at e
  split at e
  · rename_i x τ1 e1
    split at e
    · rename_i w' e2
      cases e
      refine ⟨F, t, env, τ, x, _, S, e1, fun F1 v1 H1 P1 r1 => ?_⟩
      exact hs F1 H1 H t env _ σ v1 x _ Q (S.post P1) r1 e2 fun F3 v3 H3 P3 r3 => q F3 v3 H3 (P1.trans P3) (r3.base P1)
    · cases e
  · cases e

def gLen : G1 := fun env τ w => match w with
  | .d (.str z) => if z.length ≤ sizeLine then some (.d (.int z.length)) else none
  | _ => match seqOf env τ w with
    | some (_, ds) => some (.d (.int ds.length))
    | none => none
theorem ok_len : C1Ok X (.builtin "len") gLen := by
  refine ⟨_, call_len_seq.or call_len_str, fun F H Hb t env τ σ v w w' Q S R e q => ?_⟩
  unfold gLen at e
  split at e
  · rename_i z
    split at e
    · rename_i hz
      cases e
      cases R
      exact .inr ⟨z, rfl, hz, q F _ H (.refl S) (.int _)⟩
    · cases e
  · split at e
    · rename_i b ds e1
      cases e
      obtain ⟨a, vs, rfl, d, s⟩ := deref S R e1
      exact .inl ⟨a, vs, rfl, s.len, by rw [dqAll_len d]; exact q F _ H (.refl S) (.int _)⟩
    · cases e
def gAbs : G1 := fun _ _ w => match w with
  | .d (.int i) => some (.d (.int (if i < 0 then -i else i)))
  | _ => none
theorem ok_abs : C1Ok X (.builtin "abs") gAbs := by
  refine ⟨_, call_abs, fun F H Hb t env τ σ v w w' Q S R e q => ?_⟩
  unfold gAbs at e
  split at e
  · cases e
    cases R
    exact ⟨_, rfl, q F _ H (.refl S) (.int _)⟩
  · cases e
def bools (env : En) (τ : Tp) (w : W) : Option (List Bool) := match seqOf env τ w with
  | some (true, ds) => boolsOf ds
  | _ => none
theorem bools_ok {F H Hb : Hp} {t : Option Addr} {env : En} {τ : Tp} {σ : L2.St} {K : PySem.W.Frag} {v : V} {w : W} {bs : List Bool} (S : Sok K F H t env τ σ) (r : Rw K F H Hb t σ v w) (e : bools env τ w = some bs) :
    ∃ a, v = .ref a ∧ SqL K H a (bs.map V.bl) := by
  unfold bools at e
  split at e
  · rename_i ds e1
    obtain ⟨a, vs, rfl, d, s⟩ := deref S r e1
    have h := boolsOf_eq e
    subst h
    have h := dq_bools d
    subst h
    exact ⟨a, rfl, SqL.of s⟩
  · cases e
def gAll : G1 := fun env τ w => (bools env τ w).map fun bs => .d (.bool (bs.all id))
def gAny : G1 := fun env τ w => (bools env τ w).map fun bs => .d (.bool (bs.any id))
theorem ok_all (hc : X.calm = true) : C1Ok X (.builtin "all") gAll := by
  refine ⟨_, cr_all hc, fun F H Hb t env τ σ v w w' Q S R e q => ?_⟩
  unfold gAll at e
  cases hb : bools env τ w with
  | none => rw [hb] at e; cases e
  | some bs =>
    rw [hb] at e
    cases e
    obtain ⟨a, rfl, s⟩ := bools_ok S R hb
    exact ⟨a, bs, rfl, s, q F _ H (.refl S) (.bl _)⟩
theorem ok_any (hc : X.calm = true) : C1Ok X (.builtin "any") gAny := by
  refine ⟨_, cr_any hc, fun F H Hb t env τ σ v w w' Q S R e q => ?_⟩
  unfold gAny at e
  cases hb : bools env τ w with
  | none => rw [hb] at e; cases e
  | some bs =>
    rw [hb] at e
    cases e
    obtain ⟨a, rfl, s⟩ := bools_ok S R hb
    exact ⟨a, bs, rfl, s, q F _ H (.refl S) (.bl _)⟩
/-- tuple(x), list(x) -/
def gTuple : G1 := fun env τ w => match seqOf env τ w with
  | some (_, ds) => some (.d (.tuple ds))
  | none => none
theorem ok_tuple : C1Ok X (.type "tuple") gTuple := by
  refine ⟨_, call_tuple_of, fun F H Hb t env τ σ v w w' Q S R e q => ?_⟩
  unfold gTuple at e
  split at e
  · rename_i b ds e1
    cases e
    cases b with
    | true =>
      obtain ⟨a, vs, rfl, d, s⟩ := deref S R e1
      refine ⟨a, vs, rfl, .inl ⟨SqL.of s, fun p hp => ?_⟩⟩
      obtain ⟨P, r⟩ := S.newTup hp d
      exact q _ _ _ P r
    | false =>
      have hq := derefTup S R e1
      obtain ⟨a, vs, rfl, d, s⟩ := deref S R e1
      exact ⟨a, vs, rfl, .inr ⟨s, q F _ H (.refl S) hq⟩⟩
  · cases e
def gList : G1 := fun env τ w => match seqOf env τ w with
  | some (_, ds) => some (.new ds)
  | none => none
theorem ok_list : C1Ok X (.type "list") gList := by
  refine ⟨_, call_list_of, fun F H Hb t env τ σ v w w' Q S R e q => ?_⟩
  unfold gList at e
  split at e
  · rename_i b ds e1
    cases e
    obtain ⟨a, vs, rfl, d, s⟩ := deref S R e1
    refine ⟨a, vs, rfl, s.len, fun p hp => ?_⟩
    obtain ⟨P, r⟩ := S.newList hp d
    exact q _ _ _ P r
  · cases e
def gInt : G1 := fun _ _ w => match w with
  | .d (.int i) => some (.d (.int i))
  | .d (.bool k) => some (.d (.int (if k then 1 else 0)))
  | _ => none
theorem ok_intB : C1Ok X (.type "int") gInt := by
  refine ⟨_, call_int1, fun F H Hb t env τ σ v w w' Q S R e q => ?_⟩
  unfold gInt at e
  split at e
  · cases e
    cases R
    exact .inl ⟨_, rfl, q F _ H (.refl S) (.int _)⟩
  · cases e
    cases R
    exact .inr ⟨_, rfl, q F _ H (.refl S) (.int _)⟩
  · cases e
end

/-! ### min, max of data; sorted of data -/
theorem dp_alike_eq {K : PySem.W.Frag} {H : Hp} {X : Cx} {pins : List (Addr × Obj)} {σ : L2.St} {s : Shared} (I : Inv X pins σ H s) {v : V} {u : Value} {d e : D} (h : Dp X.K H v d) (ru : RelV v u) {h' : Heap} {as : List Addr} (k : ∀ b o, s.heap.get? b = some o → h'.get? b = some o) (r : Reads h' u e as) (ha : alike d e = true) : d = e := by
  obtain ⟨bs, r1⟩ := Dp.reads I d v u h ru
  exact alike_unique d e u bs as ha (PyProof.Rows.Reads.keeps k r1) r
theorem minD_mem (x : D) (xs : List D) : minD x xs ∈ x :: xs := by
  unfold minD
  induction xs generalizing x with
  | nil => simp
  | cons y ys ih =>
    rw [List.foldl_cons]
    have := ih (if dataLt y x then y else x)
    rcases List.mem_cons.mp this with h | h
    · rw [h]
      split <;> simp
    · exact List.mem_cons_of_mem _ (List.mem_cons_of_mem _ h)
theorem maxD_mem (x : D) (xs : List D) : maxD x xs ∈ x :: xs := by
  unfold maxD
  induction xs generalizing x with
  | nil => simp
  | cons y ys ih =>
    rw [List.foldl_cons]
    have := ih (if dataLt x y then y else x)
    rcases List.mem_cons.mp this with h | h
    · rw [h]
      split <;> simp
    · exact List.mem_cons_of_mem _ (List.mem_cons_of_mem _ h)
def isNone : D → Bool
  | .none => true
  | _ => false
def alikeB (ds : List D) : Bool := ds.all (fun x => ds.all fun y => alike x y) && ds.all fun x => !isNone x
theorem alikeB_ok {ds : List D} (h : alikeB ds = true) : AlikeAll ds := by
  unfold alikeB at h
  rw [Bool.and_eq_true, List.all_eq_true, List.all_eq_true] at h
  refine ⟨fun x hx y hy => ?_, fun x hx e => ?_⟩
  · have := h.1 x hx
    rw [List.all_eq_true] at this
    exact this y hy
  · have := h.2 x hx
    rw [e] at this
    cases this
def gMin : G1 := fun env τ w => match seqOf env τ w with
  | some (_, x :: xs) => if alikeB (x :: xs) = true ∧ PyData.depthAll (x :: xs) ≤ 60 then some (.d (minD x xs)) else none
  | _ => none
def gMax : G1 := fun env τ w => match seqOf env τ w with
  | some (_, x :: xs) => if alikeB (x :: xs) = true ∧ PyData.depthAll (x :: xs) ≤ 60 then some (.d (maxD x xs)) else none
  | _ => none
section
variable {X : Cx}
/-- min, max of a list or tuple of alike data -/
def rMM (K : PySem.W.Frag) (m : D → List D → D) : List V → Hp → VK → Prop := fun vs H Q => ∃ (a : Addr) (us : List V) (x : D) (xs : List D), vs = [V.ref a] ∧ (SqL K H a us ∨ SqT K H a us) ∧ DpAll K H us (x :: xs) ∧ AlikeAll (x :: xs) ∧ PyData.depthAll (x :: xs) ≤ 60 ∧
  ∀ (i : Nat) (v : V), us[i]? = some v → (x :: xs)[i]? = some (m x xs) → Q v H
theorem dpAll_at' {K : PySem.W.Frag} {H : Hp} : ∀ {ds : List D} {vs : List V} {i : Nat} {v : V}, DpAll K H vs ds → vs[i]? = some v → ∃ d, ds[i]? = some d ∧ Dp K H v d
  | [], _, i, v, h, e => by cases h; simp at e
  | d :: ds, _, 0, v, h, e => by
    cases h with
    | cons a b =>
      simp at e
      subst e
      exact ⟨d, rfl, a⟩
  | d :: ds, _, i + 1, v, h, e => by
    cases h with
    | cons a b =>
      obtain ⟨x, hx, hd⟩ := dpAll_at' (i := i) b (by simpa using e)
      exact ⟨x, by simpa using hx, hd⟩
theorem vals_at {xs : List V} {us : List Value} (r : Vals xs us) {i : Nat} {u : Value} (e : us[i]? = some u) : ∃ x, xs[i]? = some x ∧ RelV x u := by
  have hl := r.length
  have hi : i < xs.length := by
    have := (List.getElem?_eq_some_iff.mp e).1
    omega
  obtain ⟨u', h1, h2⟩ := r.get (i := i) (x := xs[i]) (by simp [hi])
  rw [e] at h1
  cases h1
  exact ⟨_, by simp [hi], h2⟩
theorem mm_end {pins : List (Addr × Obj)} {σ : L2.St} {H : Hp} {s : Shared} (I : Inv X pins σ H s) {us : List V} {its : List Value} {x : D} {xs : List D} {m : D → List D → D} {Q : VK} (hm : m x xs ∈ x :: xs) (rv : Vals us its) (hd : DpAll X.K H us (x :: xs)) (ha : AlikeAll (x :: xs))
    (q : ∀ (i : Nat) (v : V), us[i]? = some v → (x :: xs)[i]? = some (m x xs) → Q v H) {i : Nat} {v : Value} {h' : Heap} {tk : Nat} {bs : List Addr} (hv : its.toArray[i]? = some v) (r : Reads h' v (m x xs) bs) (k : ∀ b o, s.heap.get? b = some o → h'.get? b = some o) : EP X pins σ Q v { s with heap := h', toks := tk } := by
  obtain ⟨y, hy, ry⟩ := vals_at rv (i := i) (u := v) (by simpa using hv)
  obtain ⟨d, hd1, hd2⟩ := dpAll_at' hd hy
  have hmem : d ∈ x :: xs := List.mem_of_getElem? hd1
  have e := dp_alike_eq (K := X.K) I hd2 ry k r (ha.1 d hmem _ hm)
  subst e
  exact ⟨y, H, I.kept k, ry, q i y hy hd1⟩
theorem cr_minMM (hc : X.calm = true) (hu : X.A.units + 64 < cLine) : CallR X (.builtin "min") (rMM X.K minD) := by
  intro pins s σ H vs ws Q I r h
  obtain ⟨a, us, x, xs, rfl, hs, hd, ha, hdp, q⟩ := h
  rw [Vals.ref1 r]
  rcases hs with hs | hs
  · obtain ⟨its, rv, pl, _⟩ := I.list hs
    obtain ⟨as, hr⟩ := Dp.readsAll I _ _ _ hd rv
    exact min_list_data (I.ok.hd hc) pl.isList hr ha (by omega) fun i v h' tk bs hv rd k => mm_end I (minD_mem x xs) rv hd ha q hv rd k
  · obtain ⟨its, rv, pl, _⟩ := I.tuple hs
    obtain ⟨as, hr⟩ := Dp.readsAll I _ _ _ hd rv
    exact min_tuple_data (I.ok.hd hc) (show s.heap.IsTuple a its.toArray from pl) hr ha (by omega) fun i v h' tk bs hv rd k => mm_end I (minD_mem x xs) rv hd ha q hv rd k
theorem cr_maxMM (hc : X.calm = true) (hu : X.A.units + 64 < cLine) : CallR X (.builtin "max") (rMM X.K maxD) := by
  intro pins s σ H vs ws Q I r h
  obtain ⟨a, us, x, xs, rfl, hs, hd, ha, hdp, q⟩ := h
  rw [Vals.ref1 r]
  rcases hs with hs | hs
  · obtain ⟨its, rv, pl, _⟩ := I.list hs
    obtain ⟨as, hr⟩ := Dp.readsAll I _ _ _ hd rv
    exact max_list_data (I.ok.hd hc) pl.isList hr ha (by omega) fun i v h' tk bs hv rd k => mm_end I (maxD_mem x xs) rv hd ha q hv rd k
  · obtain ⟨its, rv, pl, _⟩ := I.tuple hs
    obtain ⟨as, hr⟩ := Dp.readsAll I _ _ _ hd rv
    exact max_tuple_data (I.ok.hd hc) (show s.heap.IsTuple a its.toArray from pl) hr ha (by omega) fun i v h' tk bs hv rd k => mm_end I (maxD_mem x xs) rv hd ha q hv rd k
theorem mm_use {m : D → List D → D} {F H Hb : Hp} {t : Option Addr} {env : En} {τ : Tp} {σ : L2.St} {v : V} {w : W} {b : Bool} {x : D} {xs : List D} {Q : VK} (S : Sok X.K F H t env τ σ) (R : Rw X.K F H Hb t σ v w) (e : seqOf env τ w = some (b, x :: xs)) (hc : alikeB (x :: xs) = true) (hd : PyData.depthAll (x :: xs) ≤ 60)
    (q : ∀ F' v' H', Post X.K t τ F H F' H' → Rw X.K F' H' H t σ v' (.d (m x xs)) → Q v' H') : rMM X.K m [v] H Q := by
  obtain ⟨a, vs, rfl, d, s⟩ := deref S R e
  refine ⟨a, vs, x, xs, rfl, s.len, (dqAll_mono S.same d).dp, alikeB_ok hc, hd, fun i v h1 h2 => ?_⟩
  obtain ⟨y, h3, h4⟩ := dqAll_get d h1
  rw [h2] at h3
  cases h3
  exact q F v H (.refl S) h4
theorem ok_min (hc : X.calm = true) (hu : X.A.units + 64 < cLine) : C1Ok X (.builtin "min") gMin := by
  refine ⟨_, cr_minMM hc hu, fun F H Hb t env τ σ v w w' Q S R e q => ?_⟩
  unfold gMin at e
  split at e
  · rename_i b x xs e1
    split at e
    · rename_i hb
      cases e
      exact mm_use S R e1 hb.1 hb.2 q
    · cases e
  · cases e
theorem ok_max (hc : X.calm = true) (hu : X.A.units + 64 < cLine) : C1Ok X (.builtin "max") gMax := by
  refine ⟨_, cr_maxMM hc hu, fun F H Hb t env τ σ v w w' Q S R e q => ?_⟩
  unfold gMax at e
  split at e
  · rename_i b x xs e1
    split at e
    · rename_i hb
      cases e
      exact mm_use S R e1 hb.1 hb.2 q
    · cases e
  · cases e
end

open PySem PySem.Spec PyProof.Rows L2 PySem.Calls
open PySem.W (alike alikeAll AlikeAll EachIs AllAlike Sortable dataLe SortsAt sortVals list_sort_vals copyHeap copyHeap_at sortingHeap each_map bound_map sortVals_length sortVals_data sorting_copy_old)
/-! ### sorted of a tuple -/
section
variable {prog : Program} {w : World} {A : Around} {E : Value → Shared → Prop} {s : Shared}
theorem tup_collect {l : Addr} {vs : List Value} {Q : List Value → Shared → Prop} (hl : IsTup s.heap l vs.toArray) (hz : vs.length ≤ sizeLine)
    (q : Q vs { s with heap := (s.heap.push (seqObj "list" #[] 0)).update s.heap.objs.size (Obj.mapSeq (· ++ vs.toArray)) }) : wpAny (model prog w) A (collect (.ref l)) Q E s := by
  obtain ⟨o, ho, hc, n, hd⟩ := id hl
  unfold collect
  refine wpAny_bind ((wpAny_runValue (codeAny_builtin entry_proto_collect' ?_)))
  show wpAny _ _ (do again (.builtin "list.__iadd__" ⟨[← newList [], .ref l], []⟩)) _ _ s
  refine wpAny_bind ((wpAny_newList (wpAny_pure ⟨Code.quiet_builtin _ (by decide +kernel), codeAny_builtin entry_list_iadd' ?_⟩)))
  show wpAny _ _ (Builtin.List.listExtendWith (.ref s.heap.objs.size) (.ref l) (.ref s.heap.objs.size)) _ _ { s with heap := s.heap.push (seqObj "list" #[] 0) }
  unfold Builtin.List.listExtendWith
  have hp : (s.heap.push (seqObj "list" #[] 0)).get? l = some o := Heap.get?_push_of_some _ ho
  refine wpAny_bind (wpAny_typeOf (T := "tuple") ⟨o, hp, hc⟩ ?_)
  rw [if_pos (by simp)]
  refine wpAny_bind (listItems_at hp hd ?_)
  have h0 : (s.heap.push (seqObj "list" #[] 0)).get? s.heap.objs.size = some (seqObj "list" #[] 0) := Heap.get?_push_size _ rfl
  refine wpAny_bind (listItems_at (xs := #[]) (n := 0) h0 rfl ?_)
  rw [if_neg (by simp)]
  refine wpAny_bind (listUpdate_at (xs := #[]) (n := 0) h0 rfl ?_ (Nat.zero_le _) (by show (#[] ++ vs.toArray).size ≤ sizeLine + 1; simp only [Array.size_append, List.size_toArray, List.length_nil]; omega))
  refine wpAny_pure ?_
  show wpAny (model prog w) A (do
      let o ← load s.heap.objs.size
      match o.data with
      | .seq xs _ => pure xs.toList
      | _ => unsupported "internal:collect") Q E { s with heap := (s.heap.push (seqObj "list" #[] 0)).update s.heap.objs.size (Obj.mapSeq (· ++ vs.toArray)) }
  refine wpAny_bind (wpAny_load (get?_update_seq h0 _) ?_)
  show wpAny _ _ (pure ((#[] : Array Value) ++ vs.toArray).toList) Q E _
  rw [show ((#[] : Array Value) ++ vs.toArray).toList = vs by simp]
  exact wpAny_pure q
variable {κ : PyProof.Rows.KeyKind}
theorem tup_sorted {l : Addr} {vs : List Value} {Q : Value → Shared → Prop} (hl : IsTup s.heap l vs.toArray) (S : SortsAt prog w A.in1.in1 { s with heap := sortingHeap (copyHeap s.heap vs) (s.heap.objs.size + 1) vs } κ vs) (hz : vs.length ≤ sizeLine)
    (q : Q (.ref (s.heap.objs.size + 1)) { s with heap := sortedAll s.heap vs (sortVals κ false vs vs).toArray }) : wpAny (model prog w) A (call (.builtin "sorted") [.ref l] []) Q E s := by
  refine call_function_entry_kw kind_sorted plain_sorted entry_sorted (args_sorted1 _) ?_
  unfold Builtin.«sorted»
  refine wpAny_bind (m := checkCount "sorted" 1 1 _) (wpAny_pure ?_)
  refine wpAny_bind (tup_collect hl hz ?_)
  refine wpAny_bind ((wpAny_newList ?_ hz))
  have hsz : ((s.heap.push (seqObj "list" #[] 0)).update s.heap.objs.size (Obj.mapSeq (· ++ vs.toArray))).objs.size = s.heap.objs.size + 1 := by rw [Heap.size_update, size_push']
  show wpAny _ _ _ _ _ { s with heap := copyHeap s.heap vs }
  rw [hsz]
  refine wpAny_bind ((wpAny_holding (wpAny_call_entry_kw slot_list_sort ⟨_, copyHeap_at s.heap vs, rfl⟩ entry_list_sort ?b (args_list_sort _))))
  case b =>
    show wpAny (model prog w) A.in1.in1 (Builtin.«list.sort» ⟨[.ref (s.heap.objs.size + 1)], []⟩) _ _ _
    refine wpAny_mono (list_sort_vals (P := fun f s' => f = .done (.ret .none) ∧ Q (.ref (s.heap.objs.size + 1)) s') (s := { s with heap := copyHeap s.heap vs }) (copyHeap_at s.heap vs) S hz ⟨rfl, q⟩) (fun f s' hf => ?_) fun _ _ e => e
    obtain ⟨rfl, hq⟩ := hf
    exact ⟨_, rfl, wpAny_pure ⟨_, rfl, hq⟩⟩
theorem tup_sorted_data {β : Type} {R : Value → β → Prop} {enc : β → PyData} {vs : List Value} {bs : List β} {l : Addr} {Q : Value → Shared → Prop} (hl : IsTup s.heap l vs.toArray) (e : EachIs R vs bs) (er : EachIs (fun v b => ∃ as, Reads s.heap v (enc b) as) vs bs) (hal : AllAlike (bs.map enc)) (hk : Sortable (bs.map enc)) (hz : bs.length ≤ sizeLine)
    (hu : ∀ b, b ∈ bs → A.units + 2 + (enc b).depth < cLine) (q : ∀ out, out.length = bs.length → EachIs R out (bs.mergeSort (dataLe false enc)) → Q (.ref (s.heap.objs.size + 1)) { s with heap := sortedAll s.heap vs (List.toArray out) }) :
    wpAny (model prog w) A (call (.builtin "sorted") [.ref l] []) Q E s := by
  have er' : EachIs (fun v b => ∃ as, Reads (sortingHeap (copyHeap s.heap vs) (s.heap.objs.size + 1) vs) v (enc b) as) vs bs := er.mono fun _ _ ⟨as, r⟩ => ⟨as, PyProof.Rows.Reads.keeps (fun _ _ => sorting_copy_old) r⟩
  exact tup_sorted hl (SortsAt.data (s := { s with heap := sortingHeap (copyHeap s.heap vs) (s.heap.objs.size + 1) vs }) (each_map (R := fun v d => ∃ as, Reads (sortingHeap (copyHeap s.heap vs) (s.heap.objs.size + 1) vs) v d as) enc er') hal hk (bound_map hu)) (by rw [e.length]; exact hz)
    (q _ (by rw [sortVals_length false rfl]; exact e.length) (sortVals_data false e er' hal))
end

open PySem PySem.Spec PyProof.Rows L2
open PySem.W (alike alikeAll alike_unique dataLt minD maxD AlikeAll EachIs AllAlike Sortable dataLe sorted_data iter_tupleW cmpIn_lt cmpIn_gt moved_old readsAll_atA argBest_fold reads_keeps readsAll_len)
section
variable {X : Cx}
/-! ### sorted of a list (or a tuple) of alike data -/
def rSortD (K : PySem.W.Frag) (F : Hp) : List V → Hp → VK → Prop := fun vs H Q => ∃ (a : Addr) (us : List V) (ds : List D), vs = [V.ref a] ∧ (SqL K H a us ∨ SqT K H a us) ∧ DqAll K F us ds ∧ Same F H ∧ AllAlike ds ∧ Sortable ds ∧ (∀ d, d ∈ ds → d.depth ≤ 60) ∧
  ∀ p us', H p = none → DqAll K F us' (ds.mergeSort (dataLe false fun x => x)) → Q (.ref p) (upd H p (.lst us'))
theorem each_of {K : PySem.W.Frag} {F : Hp} : ∀ {us : List V} {its : List Value} {ds : List D}, Vals us its → DqAll K F us ds → EachIs (fun (u : Value) (d : D) => ∃ x, RelV x u ∧ Dq K F x d) its ds
  | _, _, _, .nil, h => by cases h; exact .nil
  | _, _, _, .cons r rs, h => by
    cases h with
    | cons a b => exact .cons ⟨_, r, a⟩ (each_of rs b)
theorem each_back {K : PySem.W.Frag} {F : Hp} : ∀ {its : List Value} {ds : List D}, EachIs (fun (u : Value) (d : D) => ∃ x, RelV x u ∧ Dq K F x d) its ds → ∃ us, Vals us its ∧ DqAll K F us ds
  | _, _, .nil => ⟨[], .nil, .nil⟩
  | _, _, .cons ⟨x, r, d⟩ t => by
    obtain ⟨us, h1, h2⟩ := each_back t
    exact ⟨x :: us, .cons r h1, .cons d h2⟩
theorem cr_sortD {F : Hp} (hu : X.A.units + 64 < cLine) : CallR X (.builtin "sorted") (rSortD X.K F) := by
  intro pins s σ H vs ws Q I r h
  obtain ⟨a, us, ds, rfl, hs, hd, hF, hal, hso, hdp, q⟩ := h
  rw [Vals.ref1 r]
  have er : ∀ {us : List V} {its : List Value} {ds : List D}, Vals us its → DqAll X.K F us ds → EachIs (fun (v : Value) (b : D) => ∃ as, Reads s.heap v ((fun x => x) b) as) its ds := fun {us its ds} rv hd => by
    induction rv generalizing ds with
    | nil => cases hd; exact .nil
    | cons ra rb ih =>
      cases hd with
      | cons a b => exact .cons (Dp.reads I _ _ _ (dq_mono hF a).dp ra) (ih b)
  have hu' : ∀ b, b ∈ ds → X.A.units + 2 + ((fun x : D => x) b).depth < cLine := fun b hb => by
    have := hdp b hb
    show X.A.units + 2 + b.depth < cLine
    omega
  rcases hs with hs | hs
  · obtain ⟨its, rv, pl, hz⟩ := I.list hs
    have hl : ds.length ≤ sizeLine := by rw [← dqAll_len hd]; exact hz
    refine sorted_data (R := fun (u : Value) (d : D) => ∃ x, RelV x u ∧ Dq X.K F x d) (enc := fun x => x) pl.isList (each_of rv hd) (er rv hd) (by simpa using hal) (by simpa using hso) hl hu' fun out hlen ho => ?_
    obtain ⟨us', hv', hd'⟩ := each_back ho
    obtain ⟨ep, he'⟩ := PyProof.Rows.sortedAll_at s.heap its out.toArray
    have hlen' : us'.length ≤ sizeLine := by
      have := hv'.length
      omega
    exact ⟨.ref _, upd H (s.heap.objs.size + 1) (.lst us'), I.laid (t' := s.toks) (fun _ _ => PyProof.Rows.sortedAll_old) (Nat.le_succ _) ⟨hlen', out, ep, hv', he'⟩, rfl, q _ us' (I.hok.fresh (Nat.le_succ _)) hd'⟩
  · obtain ⟨its, rv, pl, hz⟩ := I.tuple hs
    have hl : ds.length ≤ sizeLine := by rw [← dqAll_len hd]; exact hz
    refine tup_sorted_data (R := fun (u : Value) (d : D) => ∃ x, RelV x u ∧ Dq X.K F x d) (enc := fun x => x) pl (each_of rv hd) (er rv hd) (by simpa using hal) (by simpa using hso) hl hu' fun out hlen ho => ?_
    obtain ⟨us', hv', hd'⟩ := each_back ho
    obtain ⟨ep, he'⟩ := PyProof.Rows.sortedAll_at s.heap its out.toArray
    have hlen' : us'.length ≤ sizeLine := by
      have := hv'.length
      omega
    exact ⟨.ref _, upd H (s.heap.objs.size + 1) (.lst us'), I.laid (t' := s.toks) (fun _ _ => PyProof.Rows.sortedAll_old) (Nat.le_succ _) ⟨hlen', out, ep, hv', he'⟩, rfl, q _ us' (I.hok.fresh (Nat.le_succ _)) hd'⟩
def allAlikeB (ds : List D) : Bool := ds.all fun x => ds.all fun y => alike x y
theorem allAlikeB_ok {ds : List D} (h : allAlikeB ds = true) : AllAlike ds := fun x hx y hy => by
  unfold allAlikeB at h
  rw [List.all_eq_true] at h
  have := h x hx
  rw [List.all_eq_true] at this
  exact this y hy
def tupNe : D → Bool
  | .tuple (_ :: _) => true
  | _ => false
def notNT : D → Bool
  | .none => false
  | .tuple _ => false
  | _ => true
def sortableB (ds : List D) : Bool := ds.all tupNe || ds.all notNT
theorem sortableB_ok {ds : List D} (h : sortableB ds = true) : Sortable ds := by
  unfold sortableB at h
  rw [Bool.or_eq_true, List.all_eq_true, List.all_eq_true] at h
  rcases h with h | h
  · refine .inl fun d hd => ?_
    have := h d hd
    cases d with
    | tuple xs =>
      cases xs with
      | nil => cases this
      | cons x r => exact ⟨x, r, rfl⟩
    | _ => cases this
  · refine .inr fun d hd => ?_
    have := h d hd
    cases d with
    | tuple xs => cases this
    | none => cases this
    | _ => exact ⟨(fun e => nomatch e), fun xs e => nomatch e⟩
def gSorted : G1 := fun env τ w => match seqOf env τ w with
  | some (_, ds) => if allAlikeB ds = true ∧ sortableB ds = true ∧ (ds.all fun d => decide (d.depth ≤ 60)) = true then some (.new (ds.mergeSort (dataLe false fun x => x))) else none
  | _ => none
theorem ok_sorted (hu : X.A.units + 64 < cLine) : C1Ok X (.builtin "sorted") gSorted := by
  refine ⟨fun vs H Q => ∃ F, rSortD X.K F vs H Q, fun pins s σ H xs us Q I r ⟨F, h⟩ => cr_sortD hu pins s σ H xs us Q I r h, fun F H Hb t env τ σ v w w' Q S R e q => ?_⟩
  unfold gSorted at e
  split at e
  · rename_i b ds e1
    split at e
    · rename_i hc
      cases e
      obtain ⟨a, vs, rfl, d, s⟩ := deref S R e1
      refine ⟨F, a, vs, ds, rfl, (by cases b with | true => exact .inl (SqL.of s) | false => exact .inr s), d, S.same, allAlikeB_ok hc.1, sortableB_ok hc.2.1, fun x hx => ?_, fun p us' hp hd' => ?_⟩
      · have h3 := hc.2.2
        rw [List.all_eq_true] at h3
        exact of_decide_eq_true (h3 x hx)
      · obtain ⟨P, r⟩ := S.newList hp hd'
        exact q _ _ _ P r
    · cases e
  · cases e
end

/-! ### max, min of two alike data -/
section
variable {prog : Program} {w : World} {A : Around} {E : Value → Shared → Prop} {s : Shared}
theorem max2_walk {a b : Value} {Q : Value → Shared → Prop}
    (h : wpAny (model prog w) A.in1 (pyIter (.ref s.heap.objs.size)) (fun it s₂ => ∃ I fp wr G n P St H bt, it = .ref I ∧ WalksS prog w A.in1 I fp wr G n P St ∧ St 0 s₂ ∧ (∀ b ∈ fp, b < s₂.heap.objs.size) ∧ 0 < n ∧
      (∀ b o, H.get? b = some o → b ∉ wr) ∧ (∀ b o, H.get? b = some o → s₂.heap.get? b = some o) ∧ CmpIn prog w A.in1 .Gt H P bt ∧ ∀ v s', P (argBest bt (n - 1)) v → Moved wr G s₂ s' → Q v s') E
      { s with heap := s.heap.push { cls := .type "tuple", data := .seq #[a, b] } }) :
    wpAny (model prog w) A (call (.builtin "max") [a, b]) Q E s := by
  have hname : (toString "max" ++ toString ".loop" : String) = "max.loop" := by decide
  refine call_function_tree F.kind_max F.plain_max F.entry_max (F.args_max2 _ _) ?_
  show wpAny _ A.in1 (Builtin.Builtins.bindParams "max" ["key", "default"] 0 ⟨[], []⟩ >>= _) _ _ s
  refine wpAny_bind (wpAny_of_eq (show Builtin.Builtins.bindParams "max" ["key", "default"] 0 ⟨[], []⟩ = pure [none, none] from rfl) ?_)
  show wpAny _ A.in1 (newTuple [a, b] >>= _) _ _ s
  refine wpAny_bind (wpAny_newObj_type ?_)
  refine wpAny_bind (wpAny_mono h (fun it s₂ h₂ => ?_) fun _ _ e => e)
  obtain ⟨I, fp, wr, G, n, P, St, H, bt, rfl, W, hst, hfp, hn, hw, hkeep, hcmp, hQ⟩ := h₂
  refine wpAny_bind (wpAny_newObj_type ?_)
  have hSf : s₂.heap.objs.size ∉ fp := fun hm => Nat.lt_irrefl _ (hfp _ hm)
  rw [hname]
  refine wpAny_pure ⟨plainId_quiet F.plain_max_loop _, codeAny_max_loop_firstH W H hw bt hcmp s₂.heap.objs.size hSf (fresh_in hkeep) _ hn (fun b o e => Heap.get?_push_of_some _ (hkeep b o e)) (W.frame 0 s₂ _ s₂.toks hst (Nat.le_refl _) fun b _ o e => Heap.get?_push_of_some _ e) (Heap.get?_push_size _ rfl) fun v s' hP hm => ?_⟩
  exact hQ v s' hP (Moved.drop_new (tk := s₂.toks) hm (Nat.le_refl _))
theorem min2_walk {a b : Value} {Q : Value → Shared → Prop}
    (h : wpAny (model prog w) A.in1 (pyIter (.ref s.heap.objs.size)) (fun it s₂ => ∃ I fp wr G n P St H bt, it = .ref I ∧ WalksS prog w A.in1 I fp wr G n P St ∧ St 0 s₂ ∧ (∀ b ∈ fp, b < s₂.heap.objs.size) ∧ 0 < n ∧
      (∀ b o, H.get? b = some o → b ∉ wr) ∧ (∀ b o, H.get? b = some o → s₂.heap.get? b = some o) ∧ CmpIn prog w A.in1 .Lt H P bt ∧ ∀ v s', P (argBest bt (n - 1)) v → Moved wr G s₂ s' → Q v s') E
      { s with heap := s.heap.push { cls := .type "tuple", data := .seq #[a, b] } }) :
    wpAny (model prog w) A (call (.builtin "min") [a, b]) Q E s := by
  have hname : (toString "min" ++ toString ".loop" : String) = "min.loop" := by decide
  refine call_function_tree F.kind_min F.plain_min F.entry_min (F.args_min2 _ _) ?_
  show wpAny _ A.in1 (Builtin.Builtins.bindParams "min" ["key", "default"] 0 ⟨[], []⟩ >>= _) _ _ s
  refine wpAny_bind (wpAny_of_eq (show Builtin.Builtins.bindParams "min" ["key", "default"] 0 ⟨[], []⟩ = pure [none, none] from rfl) ?_)
  show wpAny _ A.in1 (newTuple [a, b] >>= _) _ _ s
  refine wpAny_bind (wpAny_newObj_type ?_)
  refine wpAny_bind (wpAny_mono h (fun it s₂ h₂ => ?_) fun _ _ e => e)
  obtain ⟨I, fp, wr, G, n, P, St, H, bt, rfl, W, hst, hfp, hn, hw, hkeep, hcmp, hQ⟩ := h₂
  refine wpAny_bind (wpAny_newObj_type ?_)
  have hSf : s₂.heap.objs.size ∉ fp := fun hm => Nat.lt_irrefl _ (hfp _ hm)
  rw [hname]
  refine wpAny_pure ⟨plainId_quiet F.plain_min_loop _, codeAny_min_loop_firstH W H hw bt hcmp s₂.heap.objs.size hSf (fresh_in hkeep) _ hn (fun b o e => Heap.get?_push_of_some _ (hkeep b o e)) (W.frame 0 s₂ _ s₂.toks hst (Nat.le_refl _) fun b _ o e => Heap.get?_push_of_some _ e) (Heap.get?_push_size _ rfl) fun v s' hP hm => ?_⟩
  exact hQ v s' hP (Moved.drop_new (tk := s₂.toks) hm (Nat.le_refl _))
theorem max2_data {a b : Value} {x y : D} {as : List Addr} {Q : Value → Shared → Prop} (hh : A.handled = none) (hr : ReadsAll s.heap [a, b] [x, y] as) (ha : AlikeAll [x, y]) (hu : A.units + 1 + PyData.depthAll [x, y] < cLine)
    (h : ∀ (i : Nat) v h' tk bs, [a, b][i]? = some v → Reads h' v (maxD x [y]) bs → (∀ b o, s.heap.get? b = some o → h'.get? b = some o) → Q v { s with heap := h', toks := tk }) :
    wpAny (model prog w) A (call (.builtin "max") [a, b]) Q E s := by
  refine max2_walk ?_
  generalize hs1 : ({ s with heap := s.heap.push { cls := .type "tuple", data := .seq #[a, b] } } : Shared) = s1
  have k1 : ∀ b o, s.heap.get? b = some o → s1.heap.get? b = some o := fun b o e => by
    rw [← hs1]
    exact Heap.get?_push_of_some _ e
  have hl : s1.heap.IsTuple s.heap.objs.size #[a, b] := by
    rw [← hs1]
    exact ⟨_, Heap.get?_push_size _ rfl, rfl, _, rfl⟩
  have hr1 : ReadsAll s1.heap (#[a, b] : Array Value).toList [x, y] as := PyProof.Rows.ReadsAll.keeps k1 hr
  refine iter_tupleW (A := A.in1) hh hl fun s₂ e W st hfp hw hk => ?_
  refine ⟨_, _, _, _, _, _, _, s1.heap, _, rfl, W, st, hfp, Nat.zero_lt_succ _, hw, hk, cmpIn_gt (A := A.in1) hr1 ha (by show A.units + 1 + _ < _; exact hu), fun v s' hP m => ?_⟩
  obtain ⟨h', tk, e3, hk'⟩ := moved_old e rfl m
  obtain ⟨bs, r, _, _, _⟩ := readsAll_atA hr1 _ v hP
  have e2 := (argBest_fold (fun a b => dataLt b a) PyData.none x [y] 1 (Nat.le_refl _)).2
  subst e3
  have h1 := h _ v h' tk bs (by simpa using hP) (reads_keeps hk' (by unfold maxD; have e4 : List.take 1 [y] = [y] := rfl; rw [e4] at e2; rw [← e2]; exact r)) fun b o e => hk' b o (k1 b o e)
  subst hs1
  exact h1
theorem min2_data {a b : Value} {x y : D} {as : List Addr} {Q : Value → Shared → Prop} (hh : A.handled = none) (hr : ReadsAll s.heap [a, b] [x, y] as) (ha : AlikeAll [x, y]) (hu : A.units + 1 + PyData.depthAll [x, y] < cLine)
    (h : ∀ (i : Nat) v h' tk bs, [a, b][i]? = some v → Reads h' v (minD x [y]) bs → (∀ b o, s.heap.get? b = some o → h'.get? b = some o) → Q v { s with heap := h', toks := tk }) :
    wpAny (model prog w) A (call (.builtin "min") [a, b]) Q E s := by
  refine min2_walk ?_
  generalize hs1 : ({ s with heap := s.heap.push { cls := .type "tuple", data := .seq #[a, b] } } : Shared) = s1
  have k1 : ∀ b o, s.heap.get? b = some o → s1.heap.get? b = some o := fun b o e => by
    rw [← hs1]
    exact Heap.get?_push_of_some _ e
  have hl : s1.heap.IsTuple s.heap.objs.size #[a, b] := by
    rw [← hs1]
    exact ⟨_, Heap.get?_push_size _ rfl, rfl, _, rfl⟩
  have hr1 : ReadsAll s1.heap (#[a, b] : Array Value).toList [x, y] as := PyProof.Rows.ReadsAll.keeps k1 hr
  refine iter_tupleW (A := A.in1) hh hl fun s₂ e W st hfp hw hk => ?_
  refine ⟨_, _, _, _, _, _, _, s1.heap, _, rfl, W, st, hfp, Nat.zero_lt_succ _, hw, hk, cmpIn_lt (A := A.in1) hr1 ha (by show A.units + 1 + _ < _; exact hu), fun v s' hP m => ?_⟩
  obtain ⟨h', tk, e3, hk'⟩ := moved_old e rfl m
  obtain ⟨bs, r, _, _, _⟩ := readsAll_atA hr1 _ v hP
  have e2 := (argBest_fold dataLt PyData.none x [y] 1 (Nat.le_refl _)).2
  subst e3
  have h1 := h _ v h' tk bs (by simpa using hP) (reads_keeps hk' (by unfold minD; have e4 : List.take 1 [y] = [y] := rfl; rw [e4] at e2; rw [← e2]; exact r)) fun b o e => hk' b o (k1 b o e)
  subst hs1
  exact h1
end

/-! ### calls of two arguments -/
def C2Ok (X : Cx) (f : Value) (g : G2) : Prop := ∃ r : List V → Hp → VK → Prop, CallR X f r ∧
  ∀ F H Hb t env τ σ v1 v2 w1 w2 w Q, Sok X.K F H t env τ σ → Rw X.K F H Hb t σ v1 w1 → Rw X.K F H Hb t σ v2 w2 → g env τ w1 w2 = some w →
    (∀ F' v' H', Post X.K t τ F H F' H' → Rw X.K F' H' H t σ v' w → Q v' H') → r [v1, v2] H Q
section
variable {X : Cx}
theorem tCB2 {g : G2} {a b : EvF} {r : List V → Hp → VK → Prop} (hs : ∀ F H Hb t env τ σ v1 v2 w1 w2 w Q, Sok X.K F H t env τ σ → Rw X.K F H Hb t σ v1 w1 → Rw X.K F H Hb t σ v2 w2 → g env τ w1 w2 = some w →
    (∀ F' v' H', Post X.K t τ F H F' H' → Rw X.K F' H' H t σ v' w → Q v' H') → r [v1, v2] H Q) {σ : L2.St} {H : Hp} {Q : VK} (h : tE X.K (f2 g a b) σ H Q) : tCB r (tCons (tE X.K a) (tCons (tE X.K b) tNil)) σ H Q := by
  obtain ⟨F, t, env, τ, w, τ', S, e, q⟩ := h
  unfold f2 at e
  split at e
  · rename_i x τ1 e1
    split at e
    · rename_i y τ2 e2
      split at e
      · rename_i w' e3
        cases e
        refine ⟨F, t, env, τ, x, τ1, S, e1, fun F1 v1 H1 P1 r1 => ?_⟩
        have S1 := S.post P1
        refine ⟨F1, t, env, τ1, y, _, S1, e2, fun F2 v2 H2 P2 r2 => ?_⟩
        have S2 := S1.post P2
        exact hs F2 H2 H t env _ σ v1 v2 x y _ Q S2 (r1.post P2) (r2.base P1) e3 fun F3 v3 H3 P3 r3 => q F3 v3 H3 (P1.trans (P2.trans P3)) (r3.base (P1.trans P2))
      · cases e
    · cases e
  · cases e
def rMM2 (K : PySem.W.Frag) (m : D → List D → D) : List V → Hp → VK → Prop := fun vs H Q => ∃ (u1 u2 : V) (x y : D), vs = [u1, u2] ∧ DpAll K H [u1, u2] [x, y] ∧ AlikeAll [x, y] ∧ PyData.depthAll [x, y] ≤ 60 ∧
  ∀ (i : Nat) (v : V), [u1, u2][i]? = some v → [x, y][i]? = some (m x [y]) → Q v H
theorem cr_max2 (hc : X.calm = true) (hu : X.A.units + 64 < cLine) : CallR X (.builtin "max") (rMM2 X.K maxD) := by
  intro pins s σ H vs ws Q I r h
  obtain ⟨u1, u2, x, y, rfl, hd, ha, hdp, q⟩ := h
  obtain ⟨a, b, rfl, r1, r2⟩ := vals2 r
  obtain ⟨as, hr⟩ := Dp.readsAll I _ _ _ hd r
  exact max2_data (I.ok.hd hc) hr ha (by omega) fun i v h' tk bs hv rd k => mm_end I (its := [a, b]) (maxD_mem x [y]) r hd ha q (by simpa using hv) rd k
theorem cr_min2 (hc : X.calm = true) (hu : X.A.units + 64 < cLine) : CallR X (.builtin "min") (rMM2 X.K minD) := by
  intro pins s σ H vs ws Q I r h
  obtain ⟨u1, u2, x, y, rfl, hd, ha, hdp, q⟩ := h
  obtain ⟨a, b, rfl, r1, r2⟩ := vals2 r
  obtain ⟨as, hr⟩ := Dp.readsAll I _ _ _ hd r
  exact min2_data (I.ok.hd hc) hr ha (by omega) fun i v h' tk bs hv rd k => mm_end I (its := [a, b]) (minD_mem x [y]) r hd ha q (by simpa using hv) rd k
def gMM2 (m : D → List D → D) : G2 := fun _ _ a b => match a, b with
  | .d x, .d y => if alikeB [x, y] = true ∧ PyData.depthAll [x, y] ≤ 60 then some (.d (m x [y])) else none
  | _, _ => none
theorem mm2_use {m : D → List D → D} {F H Hb : Hp} {t : Option Addr} {env : En} {τ : Tp} {σ : L2.St} {v1 v2 : V} {w1 w2 w : W} {Q : VK} (S : Sok X.K F H t env τ σ) (R1 : Rw X.K F H Hb t σ v1 w1) (R2 : Rw X.K F H Hb t σ v2 w2) (e : gMM2 m env τ w1 w2 = some w)
    (q : ∀ F' v' H', Post X.K t τ F H F' H' → Rw X.K F' H' H t σ v' w → Q v' H') : rMM2 X.K m [v1, v2] H Q := by
  unfold gMM2 at e
  split at e
  · rename_i x y
    split at e
    · rename_i hc
      cases e
      have d : DqAll X.K F [v1, v2] [x, y] := .cons R1 (.cons R2 .nil)
      refine ⟨v1, v2, x, y, rfl, (dqAll_mono S.same d).dp, alikeB_ok hc.1, hc.2, fun i v h1 h2 => ?_⟩
      obtain ⟨z, h3, h4⟩ := dqAll_get d h1
      rw [h2] at h3
      cases h3
      exact q F v H (.refl S) h4
    · cases e
  · cases e
theorem ok_max2 (hc : X.calm = true) (hu : X.A.units + 64 < cLine) : C2Ok X (.builtin "max") (gMM2 maxD) := ⟨_, cr_max2 hc hu, fun F H Hb t env τ σ v1 v2 w1 w2 w Q S R1 R2 e q => mm2_use S R1 R2 e q⟩
theorem ok_min2 (hc : X.calm = true) (hu : X.A.units + 64 < cLine) : C2Ok X (.builtin "min") (gMM2 minD) := ⟨_, cr_min2 hc hu, fun F H Hb t env τ σ v1 v2 w1 w2 w Q S R1 R2 e q => mm2_use S R1 R2 e q⟩
/-! ### sum of ints -/
def intsL (env : En) (τ : Tp) (w : W) : Option (List Int) := match seqOf env τ w with
  | some (true, ds) => intsOf ds
  | _ => none
end

open PySem PySem.Spec PyProof.Rows L2
/-! ### isinstance -/
inductive BT where
  | int | bool | tuple | list | str
  deriving DecidableEq
def BT.name : BT → String
  | .int => "int" | .bool => "bool" | .tuple => "tuple" | .list => "list" | .str => "str"
def isT : W → BT → Bool
  | .d (.bool _), .bool => true
  | .d (.bool _), .int => true
  | .d (.int _), .int => true
  | .d (.str _), .str => true
  | .d (.list _), .list => true
  | .d (.tuple _), .tuple => true
  | .new _, .list => true
  | .tp, .list => true
  | _, _ => false
def okT : W → Bool
  | .loc _ => false
  | .d (.dict _) => false
  | _ => true
theorem kit_none (b : BT) : kitB "NoneType" b.name = some false := by cases b <;> decide +kernel
theorem kit_bool (b : BT) : kitB "bool" b.name = some (isT (.d (.bool true)) b) := by cases b <;> decide +kernel
theorem kit_int (b : BT) : kitB "int" b.name = some (isT (.d (.int 0)) b) := by cases b <;> decide +kernel
theorem kit_str (b : BT) : kitB "str" b.name = some (isT (.d (.str ⟨#[]⟩)) b) := by cases b <;> decide +kernel
theorem kit_list (b : BT) : kitB "list" b.name = some (isT .tp b) := by cases b <;> decide +kernel
theorem kit_tuple (b : BT) : kitB "tuple" b.name = some (isT (.d (.tuple [])) b) := by cases b <;> decide +kernel
section
variable {X : Cx}
theorem sqT_ty {K : PySem.W.Frag} {H : Hp} {a : Addr} {xs : List V} (h : SqT K H a xs) : TyX K H (.ref a) (.type "tuple") := by
  rcases h with (h | ⟨o, h⟩) | ⟨o, its, n, h, c, _⟩
  · exact .base (.tup h)
  · exact .fTuple h
  · exact .kTuple h c
theorem ty_of {F H Hb : Hp} {t : Option Addr} {env : En} {τ : Tp} {σ : L2.St} {K : PySem.W.Frag} {v : V} {w : W} (S : Sok K F H t env τ σ) (r : Rw K F H Hb t σ v w) (h : okT w = true) : ∃ n, TyX K H v (.type n) ∧ ∀ b : BT, kitB n b.name = some (isT w b) := by
  cases w with
  | d x =>
    cases r with
    | non => exact ⟨_, .base .non, fun b => by rw [kit_none]; cases b <;> rfl⟩
    | bl c => exact ⟨_, .base (.bl c), fun b => by rw [kit_bool]; cases b <;> rfl⟩
    | int c => exact ⟨_, .base (.int c), fun b => by rw [kit_int]; cases b <;> rfl⟩
    | str c => exact ⟨_, .base (.str c), fun b => by rw [kit_str]; cases b <;> rfl⟩
    | lst s a => exact ⟨_, .base (.lst (S.same _ _ s)), fun b => by rw [kit_list]; cases b <;> rfl⟩
    | tup s a => exact ⟨_, sqT_ty (seqT_mono S.same s), fun b => by rw [kit_tuple]; cases b <;> rfl⟩
  | new ds =>
    obtain ⟨a, vs, rfl, d, s⟩ := deref S r (b := true) (ds := ds) rfl
    exact ⟨_, .base (.lst s), fun b => by rw [kit_list]; cases b <;> rfl⟩
  | tp =>
    obtain ⟨a, vs, rfl, d, s⟩ := deref S r (b := true) (ds := τ) rfl
    exact ⟨_, .base (.lst s), fun b => by rw [kit_list]⟩
  | loc i => cases h
def gIsi (b : BT) : G1 := fun _ _ w => if okT w = true then some (.d (.bool (isT w b))) else none
theorem isi_ok {a : EvF} {ea : Expr} {x ty : Str} {b : BT} {p p2 pos : Pos} (ha : PE X ea (tE X.K a)) (hx : x = "isinstance") (hg : Gl X x) (hm : X.mg x = none) (ht : ty = Str.ofString b.name) (hg2 : Gl X ty) (hm2 : X.mg ty = none)
    (hs : starEach [ea, .Name ty p2] X.env = (false, eval ea X.env) :: starEach [.Name ty p2] X.env) : PE X (.Call (.Name x p) [ea, .Name ty p2] [] pos) (tE X.K (f1 (gIsi b) a)) := by
  subst hx
  have h2 : PE X (.Name ty p2) (tC (.ty b.name)) := by
    subst ht
    cases b <;> exact pe_bltn hg2 hm2 (by decide +kernel) rfl
  have hpl : (backTo pos (starEach [.Name ty p2] X.env)).any (·.1) = false := rfl
  refine weakE (pe_callB call_isi hg hm (by decide +kernel) (pa_cons ha (pa_cons h2 pa_nil) hs) (he := hs) (hpl := hpl)) fun σ H Q ⟨F, t, env, τ, w, τ', S, e, q⟩ => ?_
  unfold f1 at e
  split at e
  · rename_i y τ1 e1
    split at e
    · rename_i w' e2
      cases e
      unfold gIsi at e2
      split at e2
      · rename_i hk
        cases e2
        refine ⟨F, t, env, τ, y, _, S, e1, fun F1 v1 H1 P1 r1 => ?_⟩
        obtain ⟨n, h1, h3⟩ := ty_of (S.post P1) r1 hk
        exact ⟨v1, .ty b.name, _, _, _, rfl, .ty _, h1, kit_ty (h3 b), q F1 _ H1 P1 (.bl _)⟩
      · cases e2
    · cases e
  · cases e
/-- isinstance(x, (T1, T2)) -/
def gIsi2 (b c : BT) : G1 := fun _ _ w => if okT w = true then some (.d (.bool (isT w b || isT w c))) else none
theorem isi2_ok {a : EvF} {ea : Expr} {x ty tz : Str} {b c : BT} {p p2 p3 p4 pos : Pos} {k : Nat} (ha : PE X ea (tE X.K a)) (hx : x = "isinstance") (hg : Gl X x) (hm : X.mg x = none) (ht : ty = Str.ofString b.name) (hg2 : Gl X ty) (hm2 : X.mg ty = none)
    (ht3 : tz = Str.ofString c.name) (hg3 : Gl X tz) (hm3 : X.mg tz = none)
    (hs : starEach [ea, .Tuple [.Name ty p2, .Name tz p3] k p4] X.env = (false, eval ea X.env) :: starEach [.Tuple [.Name ty p2, .Name tz p3] k p4] X.env) : PE X (.Call (.Name x p) [ea, .Tuple [.Name ty p2, .Name tz p3] k p4] [] pos) (tE X.K (f1 (gIsi2 b c) a)) := by
  subst hx
  have h2 : PE X (.Name ty p2) (tC (.ty b.name)) := by
    subst ht
    cases b <;> exact pe_bltn hg2 hm2 (by decide +kernel) rfl
  have h3 : PE X (.Name tz p3) (tC (.ty c.name)) := by
    subst ht3
    cases c <;> exact pe_bltn hg3 hm3 (by decide +kernel) rfl
  have hpl : (backTo pos (starEach [.Tuple [.Name ty p2, .Name tz p3] k p4] X.env)).any (·.1) = false := rfl
  refine weakE (pe_callB call_isiT hg hm (by decide +kernel) (pa_cons ha (pa_cons (pe_tup (pa_cons h2 (pa_cons h3 pa_nil))) pa_nil) hs) (he := hs) (hpl := hpl)) fun σ H Q ⟨F, t, env, τ, w, τ', S, e, q⟩ => ?_
  unfold f1 at e
  split at e
  · rename_i y τ1 e1
    split at e
    · rename_i w' e2
      cases e
      unfold gIsi2 at e2
      split at e2
      · rename_i hk
        cases e2
        refine ⟨F, t, env, τ, y, _, S, e1, fun F1 v1 H1 P1 r1 => ?_⟩
        have S1 := S.post P1
        refine ⟨(by show 2 ≤ sizeLine; decide), fun tp htp => ?_⟩
        have P2 := S1.laid (o := .tup [.ty b.name, .ty c.name]) htp
        have S2 := S1.post P2
        have r2 := r1.post P2
        obtain ⟨n, h1, h4⟩ := ty_of S2 r2 hk
        refine ⟨v1, tp, [.ty b.name, .ty c.name], _, [.type b.name, .type c.name], isT y b || isT y c, rfl, upd_same, .cons (.ty _) (.cons (.ty _) .nil), h1, ?_, q _ _ _ (P1.trans P2) (.bl _)⟩
        refine kitAny_cons (kit_ty (h4 b)) (fun e0 => ?_) fun e1 => by rw [e1]; rfl
        rw [e0, Bool.false_or]
        refine kitAny_cons (kit_ty (h4 c)) (fun e0 => ?_) fun e1 => e1
        rw [e0]
        rfl
      · cases e2
    · cases e
  · cases e
end

open PySem PySem.Spec PyProof.Rows L2
open HT (slicePart_)
/-! ### x[::-1] -/
section
variable {prog : Program} {w : World} {A : Around} {E : Value → Shared → Prop} {s : Shared}
theorem rev_places (n : Nat) : Builtin.Slice.slicePlaces ((n : Int) - 1) (-1) (-1) = n := by
  unfold Builtin.Slice.slicePlaces
  have h1 : ¬ ((-1 : Int) > 0) := by decide
  rw [if_neg h1]
  by_cases h : ((n : Int) - 1) > -1
  · rw [if_pos h]
    have e : ((n : Int) - 1 - (-1) - 1) / (-(-1)) + 1 = (n : Int) := by
      have : (-(-1) : Int) = 1 := by decide
      rw [this, Int.ediv_one]
      omega
    rw [e, Int.toNat_natCast]
  · rw [if_neg h]
    have : n = 0 := by omega
    subst this
    rfl
theorem rev_pick (xs : List Value) : ((List.range xs.length).filterMap fun (k : Nat) => xs.toArray[(((xs.length : Nat) : Int) - 1 + (k : Int) * (-1)).toNat]?) = xs.reverse := by
  have e : ∀ k ∈ List.range xs.length, xs.toArray[(((xs.length : Nat) : Int) - 1 + (k : Int) * (-1)).toNat]? = some (xs.reverse.getD k .none) := by
    intro k hk
    have hk := List.mem_range.mp hk
    have e1 : (((xs.length : Nat) : Int) - 1 + (k : Int) * (-1)).toNat = xs.length - 1 - k := by omega
    rw [e1]
    have h2 : xs.length - 1 - k < xs.length := by omega
    have h3 : k < xs.reverse.length := by rw [List.length_reverse]; exact hk
    rw [List.getElem?_toArray, List.getElem?_eq_getElem h2, List.getD_eq_getElem?_getD, List.getElem?_eq_getElem h3, Option.getD_some, List.getElem_reverse]
  have h : ∀ l : List Nat, (∀ k ∈ l, k < xs.length) → (l.filterMap fun (k : Nat) => xs.toArray[(((xs.length : Nat) : Int) - 1 + (k : Int) * (-1)).toNat]?) = l.map fun k => xs.reverse.getD k .none := by
    intro l
    induction l with
    | nil => intro _; rfl
    | cons a r ih =>
      intro hl
      rw [List.filterMap_cons, e a (List.mem_range.mpr (hl a (by simp))), List.map_cons, ih fun k hk => hl k (List.mem_cons_of_mem _ hk)]
  rw [h _ fun k hk => List.mem_range.mp hk]
  apply List.ext_getElem
  · simp
  · intro i h1 h2
    simp only [List.length_map, List.length_range] at h1
    rw [List.getElem_map, List.getElem_range, List.getD_eq_getElem?_getD, List.getElem?_eq_getElem h2, Option.getD_some]
theorem getItem_tup_rev {t sl : Addr} {its : List Value} {vs : Value} {Q : Value → Shared → Prop} (ht : IsTup s.heap t its.toArray) (hs : s.heap.IsSliceOf sl .none .none vs) (ps : IsPart vs (some (-1)))
    (h : Q (.ref s.heap.objs.size) { s with heap := s.heap.push { cls := .type "tuple", data := .seq its.reverse.toArray } })
    (hsz : its.length ≤ sizeLine) : wpAny (model prog w) A (getItem (.ref t) (.ref sl)) Q E s := by
  have htake : sizeOk (.seq its.reverse.toArray) := by
    show its.reverse.toArray.size ≤ sizeLine
    rw [List.size_toArray, List.length_reverse]
    exact hsz
  obtain ⟨os, hos, hcs, hds⟩ := id hs
  have hTs : s.TypeIs (.ref sl) "slice" := ⟨os, hos, hcs⟩
  unfold getItem
  try with_reducible refine wpAny_holding ?_
  first | refine wpAny_bind (wpAny_pure ?_) | skip
  refine wpAny_bind (wpAny_sequenceKey ht.typeIs (by decide) ?_)
  refine wpAny_bind (wpAny_callSpecial?_slot (name := Str.ofString "__getitem__") ht.typeIs PyProof.Rows.slot_tuple_getitem
    (wpAny_call_entry PyProof.Rows.slot_tuple_getitem ht.typeIs entry_tuple_getitem ?_ (args_tuple_getitem _ _)))
  show wpAny _ _ (Builtin.Tuple.tupleItemsOf (.ref t) >>= _) _ _ s
  refine wpAny_bind (tupleItemsOf_ ht ?_)
  refine wpAny_bind (wpAny_typeOf hTs ?_)
  rw [if_pos (by decide)]
  refine wpAny_bind ?_
  unfold Builtin.Slice.sliceApplied Builtin.Slice.sliceFields
  refine wpAny_bind (wpAny_bind (wpAny_field hos hds (x := .none) rfl (wpAny_bind (wpAny_field hos hds (x := .none) rfl (wpAny_bind (wpAny_field hos hds (x := vs) rfl (wpAny_pure ?_)))))))
  refine wpAny_bind (slicePart_ ps ?_)
  show wpAny _ _ (if ((-1 : Int) == 0) = true then _ else _) _ _ s
  rw [if_neg (by decide)]
  refine wpAny_bind (slicePart_ .none (wpAny_bind (slicePart_ .none (wpAny_bind (wpAny_pure ?_)))))
  show wpAny _ _ (pure ((((its.toArray.size : Nat) : Int) - 1), (-1 : Int), Builtin.Slice.slicePlaces (((its.toArray.size : Nat) : Int) - 1) (-1) (-1))) _ _ s
  rw [rev_places]
  refine wpAny_pure ?_
  have hno : ¬ (((((its.toArray.size : Nat) : Int) - 1) == 0 && (-1 : Int) == 1 && its.toArray.size == its.toArray.size) = true) := by
    intro q
    rw [Bool.and_eq_true, Bool.and_eq_true] at q
    exact absurd (eq_of_beq q.1.2) (by decide)
  show wpAny _ _ (if ((((its.toArray.size : Nat) : Int) - 1) == 0 && (-1 : Int) == 1 && its.toArray.size == its.toArray.size) = true then _ else _) _ _ s
  rw [if_neg hno]
  have e : ((List.range its.toArray.size).filterMap fun (k : Nat) => its.toArray[(((its.toArray.size : Nat) : Int) - 1 + (k : Int) * (-1)).toNat]?) = its.reverse := by
    have := rev_pick its
    simpa using this
  rw [e]
  first
    | exact wpAny_bind (m := Builtin.Tuple.tupleExact _) (wpAny_newObj_type (wpAny_pure ⟨_, rfl, wpAny_pure h⟩) htake)
    | exact wpAny_bind (m := Builtin.Tuple.tupleExact _) (wpAny_newObj_type (wpAny_bind (wpAny_pure (wpAny_pure ⟨_, rfl, wpAny_pure h⟩))) htake)
    | exact wpAny_bind (wpAny_bind (m := Builtin.Tuple.tupleExact _) (wpAny_newObj_type (wpAny_pure (wpAny_pure ⟨_, rfl, wpAny_pure h⟩)) htake))
    | exact wpAny_bind (wpAny_bind (m := Builtin.Tuple.tupleExact _) (wpAny_newObj_type (wpAny_pure ⟨_, rfl, wpAny_pure h⟩) htake))
end
section
variable {X : Cx}
def tRevA (K : PySem.W.Frag) (te : TE) : TE := fun σ H Q => te σ H fun x H1 => ∃ a xs, x = .ref a ∧ ((SqL K H1 a xs ∧ ∀ p, H1 p = none → Q (.ref p) (upd H1 p (.lst xs.reverse))) ∨ (SqT K H1 a xs ∧ ∀ p, H1 p = none → Q (.ref p) (upd H1 p (.tup xs.reverse))))
theorem pe_revA {e : Expr} {te : TE} {k : Nat} {p1 p2 p3 pos : Pos} (he : PE X e te) : PE X (.Subscript e (.Slice none none (some (.UnaryOp .USub (.Constant (.int 1) k p1) p2)) p3) pos) (tRevA X.K te) := by
  refine ⟨fun pins s σ H Q I h => ?_⟩
  refine Subscript_ (thn (he.run pins s σ H _ I h) fun v s1 ⟨x, H1, I1, r1, q1⟩ => ?_)
  obtain ⟨a, xs, ex, q⟩ := q1
  subst ex
  cases r1
  have hst : PO X (some (.UnaryOp .USub (.Constant (.int 1) k p1) p2)) (tPart (tUn (rU fun i => .int (-i)) (tC (.int 1)))) := po_some (pe_un un_neg pe_int)
  refine wpAny_Slice ?_
  rw [evalPart_none]
  refine wpAny_pure ?_
  refine wpAny_pure ?_
  refine thn (hst.run pins s1 σ H1 (fun o H4 => o = some (-1) ∧ H4 = H1) I1 ⟨1, rfl, -1, rfl, rfl, rfl⟩) fun vs s4 ⟨o, H4, I4, ps, eo, e4⟩ => ?_
  subst eo e4
  have I5 : Inv X pins σ H4 { s4 with heap := s4.heap.push { cls := .type "slice", data := .fields #[.none, .none, vs] } } := I4.kept (t' := s4.toks) fun b ob q => Heap.get?_push_of_some _ q
  show wpAny (model X.prog X.w) X.A (subscriptTail e (.Slice none none (some (.UnaryOp .USub (.Constant (.int 1) k p1) p2)) p3) (.ref a) (.ref s4.heap.objs.size)) (EP X pins σ Q) X.xe { s4 with heap := s4.heap.push { cls := .type "slice", data := .fields #[.none, .none, vs] } }
  rcases q with ⟨hx, q⟩ | ⟨hx, q⟩
  · obtain ⟨its, r, ht, hz⟩ := I5.list hx
    have hlen := r.length
    refine tail_any (ops := [.ref a, .ref s4.heap.objs.size]) ht.isList.typeIs (PySem.slot_list_getitem.lookup) ?_ (by with_unfolding_all rfl)
    refine wpAny_getItem_list_slice ht.isList (Heap.IsSliceOf.new _ .none .none vs) .none .none ps (by decide) ?_ (by rw [List.size_toArray]; omega)
    rw [PySem.W.krv_pick]
    refine ⟨.ref _, _, I5.laid (t' := s4.toks) (o := .lst xs.reverse) (fun b ob q => Heap.get?_push_of_some _ q) (Nat.le_refl _) ?_, rfl, q _ (I5.hok.fresh (Nat.le_refl _))⟩
    exact ⟨by rw [List.length_reverse]; exact hz, _, 0, r.reverse, Heap.get?_push_size _ rfl⟩
  · obtain ⟨its, r, ht, hz⟩ := I5.tuple hx
    have hlen := r.length
    refine tail_any (ops := [.ref a, .ref s4.heap.objs.size]) ht.typeIs (PyProof.Rows.slot_tuple_getitem.lookup) ?_ (by with_unfolding_all rfl)
    refine getItem_tup_rev ht (Heap.IsSliceOf.new _ .none .none vs) ps ?_ (by omega)
    refine ⟨.ref _, _, I5.laid (t' := s4.toks) (o := .tup xs.reverse) (fun b ob q => Heap.get?_push_of_some _ q) (Nat.le_refl _) ?_, rfl, q _ (I5.hok.fresh (Nat.le_refl _))⟩
    exact ⟨by rw [List.length_reverse]; exact hz, _, r.reverse, IsTup.new _ _⟩
def gRev : G1 := fun env τ w => match seqOf env τ w with
  | some (true, ds) => some (.new ds.reverse)
  | some (false, ds) => some (.d (.tuple ds.reverse))
  | none => none
theorem rev_ok {a : EvF} {e : Expr} {k : Nat} {p1 p2 p3 pos : Pos} (he : PE X e (tE X.K a)) : PE X (.Subscript e (.Slice none none (some (.UnaryOp .USub (.Constant (.int 1) k p1) p2)) p3) pos) (tE X.K (f1 gRev a)) := by
  refine weakE (pe_revA he) fun σ H Q ⟨F, t, env, τ, w, τ', S, e, q⟩ => ?_
  unfold f1 at e
  split at e
  · rename_i y τ1 e1
    split at e
    · rename_i w' e2
      cases e
      refine ⟨F, t, env, τ, y, _, S, e1, fun F1 v1 H1 P1 r1 => ?_⟩
      have S1 := S.post P1
      unfold gRev at e2
      split at e2
      · rename_i ds e3
        cases e2
        obtain ⟨b, vs, rfl, d, s⟩ := deref S1 r1 e3
        refine ⟨b, vs, rfl, .inl ⟨SqL.of s, fun p hp => ?_⟩⟩
        obtain ⟨P, r⟩ := S1.newList hp (dqAll_rev d)
        exact q _ _ _ (P1.trans P) (r.base P1)
      · rename_i ds e3
        cases e2
        obtain ⟨b, vs, rfl, d, s⟩ := deref S1 r1 e3
        refine ⟨b, vs, rfl, .inr ⟨s, fun p hp => ?_⟩⟩
        obtain ⟨P, r⟩ := S1.newTup hp (dqAll_rev d)
        exact q _ _ _ (P1.trans P) r
      · cases e2
    · cases e
  · cases e
end

open PySem PySem.Spec PyProof.Rows L2
section
variable {X : Cx}
/-! ### names, constants -/
def eVar (i : Nat) : EvF := fun env τ => match env[i]? with
  | some (.d x) => some (.d x, τ)
  | some (.own _) => some (.loc i, τ)
  | some .tp => some (.tp, τ)
  | _ => none
theorem var_ok {i : Nat} {x : Str} {pos : Pos} (hN : X.N[i]? = some x) (hv : Vis X.env.scope x) (hd : (x == ("__debug__" : Str)) = false) (hcd : (x == ("__classdict__" : Str)) = false) : PE X (.Name x pos) (tE X.K (eVar i)) := by
  refine weakE (pe_var hN hv hd hcd) fun σ H Q ⟨F, t, env, τ, w, τ', S, e, q⟩ => ?_
  unfold eVar at e
  cases hs : env[i]? with
  | none => rw [hs] at e; cases e
  | some s =>
    rw [hs] at e
    have so := S.slot i s hs
    cases s with
    | no => cases e
    | d x =>
      cases e
      obtain ⟨v, h1, h2⟩ := so
      exact ⟨v, h1, q F v H (.refl S) h2⟩
    | own ds =>
      cases e
      obtain ⟨a, vs, h1, _⟩ := so
      exact ⟨_, h1, q F _ H (.refl S) h1⟩
    | tp =>
      cases e
      obtain ⟨a, h1, h2⟩ := so
      exact ⟨_, h2, q F _ H (.refl S) ⟨a, h1, rfl⟩⟩
    | ob fl => cases e
/-- a field of an object that stays as it is -/
def eFld (i : Nat) (f : Str) : EvF := fun env τ => match env[i]? with
  | some (.ob fl) => (match fl.lookup f with
    | some d => some (.d d, τ)
    | none => none)
  | _ => none
theorem fld_ok {i : Nat} {x f : Str} {p pos : Pos} (hN : X.N[i]? = some x) (hv : Vis X.env.scope x) (hd : (x == ("__debug__" : Str)) = false) (hcd : (x == ("__classdict__" : Str)) = false) : PE X (.Attribute (.Name x p) f pos) (tE X.K (eFld i f)) := by
  refine weakE (pe_fld (pe_var hN hv hd hcd) rfl) fun σ H Q ⟨F, t, env, τ, w, τ', S, e, q⟩ => ?_
  unfold eFld at e
  cases hs : env[i]? with
  | none => rw [hs] at e; cases e
  | some s =>
    rw [hs] at e
    have so := S.slot i s hs
    cases s with
    | ob fl =>
      dsimp only at e
      cases hl : fl.lookup f with
      | none => rw [hl] at e; cases e
      | some d =>
        rw [hl] at e
        cases e
        obtain ⟨a, C, dx, fs, h1, h2, h3, h4⟩ := so
        obtain ⟨k1, v, k2, k3⟩ := h4 f _ hl
        exact ⟨_, h1, a, C, dx, fs, v, rfl, S.same _ _ h2, h3.1, k1, k2, q F v H (.refl S) k3⟩
    | _ => cases e
def eCon (d : D) : EvF := fun _ τ => some (.d d, τ)
theorem con_ok {e : Expr} {v : V} {d : D} (h : PE X e (tC v)) (hd : ∀ F, Dq X.K F v d) : PE X e (tE X.K (eCon d)) :=
  weakE h fun σ H Q ⟨F, t, env, τ, w, τ', S, e, q⟩ => by
    cases e
    exact q F v H (.refl S) (hd F)

/-! ### - and not -/
def gNeg : G1 := fun _ _ w => match w with
  | .d (.int i) => some (.d (.int (-i)))
  | _ => none
theorem neg_ok {a : EvF} {e : Expr} {pos : Pos} (h : PE X e (tE X.K a)) : PE X (.UnaryOp .USub e pos) (tE X.K (f1 gNeg a)) :=
  weakE (pe_un un_neg h) fun σ H Q ⟨F, t, env, τ, w, τ', S, e, q⟩ => by
    unfold f1 at e
    split at e
    · rename_i y τ1 e1
      split at e
      · rename_i w' e2
        cases e
        refine ⟨F, t, env, τ, y, _, S, e1, fun F1 v1 H1 P1 r1 => ?_⟩
        unfold gNeg at e2
        split at e2
        · cases e2
          cases r1
          exact ⟨_, rfl, q F1 _ H1 P1 (.int _)⟩
        · cases e2
      · cases e
    · cases e
def gNot : G1 := fun _ _ w => match w with
  | .d (.bool b) => some (.d (.bool (!b)))
  | _ => none
theorem not_ok {a : EvF} {e : Expr} {pos : Pos} (h : PE X e (tE X.K a)) : PE X (.UnaryOp .Not e pos) (tE X.K (f1 gNot a)) :=
  weakE (pe_not h) fun σ H Q ⟨F, t, env, τ, w, τ', S, e, q⟩ => by
    unfold f1 at e
    split at e
    · rename_i y τ1 e1
      split at e
      · rename_i w' e2
        cases e
        refine ⟨F, t, env, τ, y, _, S, e1, fun F1 v1 H1 P1 r1 => ?_⟩
        unfold gNot at e2
        split at e2
        · cases e2
          cases r1
          exact ⟨_, rfl, q F1 _ H1 P1 (.bl _)⟩
        · cases e2
      · cases e
    · cases e
theorem notT_ok {a : EvF} {e : Expr} {pos : Pos} (h : PT X e (tT X.K a)) : PT X (.UnaryOp .Not e pos) (tT X.K (f1 gNot a)) :=
  weakT (pt_not h) fun σ H Q ⟨F, t, env, τ, w, τ', S, e, q⟩ => by
    unfold f1 at e
    split at e
    · rename_i y τ1 e1
      split at e
      · rename_i w' e2
        cases e
        unfold gNot at e2
        split at e2
        · cases e2
          exact ⟨F, t, env, τ, _, _, S, e1, fun F1 H1 P1 => q F1 H1 P1⟩
        · cases e2
      · cases e
    · cases e
/-! ### and, or -/
def eAnd (a b : EvF) : EvF := fun env τ => match a env τ with
  | some (.d (.bool true), τ1) => b env τ1
  | some (.d (.bool false), τ1) => some (.d (.bool false), τ1)
  | _ => none
def eOr (a b : EvF) : EvF := fun env τ => match a env τ with
  | some (.d (.bool false), τ1) => b env τ1
  | some (.d (.bool true), τ1) => some (.d (.bool true), τ1)
  | _ => none
theorem and_ok {a b : EvF} {ea eb : Expr} {rest : List Expr} {pos : Pos} (ha : PE X ea (tE X.K a)) (hb : PE X (.BoolOp .And (eb :: rest) pos) (tE X.K b)) : PE X (.BoolOp .And (ea :: eb :: rest) pos) (tE X.K (eAnd a b)) :=
  weakE (pe_and ha hb) fun σ H Q ⟨F, t, env, τ, w, τ', S, e, q⟩ => by
    unfold eAnd at e
    split at e
    · rename_i τ1 e1
      refine ⟨F, t, env, τ, _, _, S, e1, fun F1 v1 H1 P1 r1 => ?_⟩
      cases r1
      refine ⟨true, rfl, ?_⟩
      rw [if_pos rfl]
      exact ⟨F1, t, env, τ1, w, τ', S.post P1, e, fun F2 v2 H2 P2 r2 => q F2 v2 H2 (P1.trans P2) (r2.base P1)⟩
    · rename_i τ1 e1
      cases e
      refine ⟨F, t, env, τ, _, _, S, e1, fun F1 v1 H1 P1 r1 => ?_⟩
      cases r1
      refine ⟨false, rfl, ?_⟩
      rw [if_neg Bool.false_ne_true]
      exact q F1 _ H1 P1 (.bl _)
    · cases e
theorem or_ok {a b : EvF} {ea eb : Expr} {rest : List Expr} {pos : Pos} (ha : PE X ea (tE X.K a)) (hb : PE X (.BoolOp .Or (eb :: rest) pos) (tE X.K b)) : PE X (.BoolOp .Or (ea :: eb :: rest) pos) (tE X.K (eOr a b)) :=
  weakE (pe_or ha hb) fun σ H Q ⟨F, t, env, τ, w, τ', S, e, q⟩ => by
    unfold eOr at e
    split at e
    · rename_i τ1 e1
      refine ⟨F, t, env, τ, _, _, S, e1, fun F1 v1 H1 P1 r1 => ?_⟩
      cases r1
      refine ⟨false, rfl, ?_⟩
      rw [if_neg Bool.false_ne_true]
      exact ⟨F1, t, env, τ1, w, τ', S.post P1, e, fun F2 v2 H2 P2 r2 => q F2 v2 H2 (P1.trans P2) (r2.base P1)⟩
    · rename_i τ1 e1
      cases e
      refine ⟨F, t, env, τ, _, _, S, e1, fun F1 v1 H1 P1 r1 => ?_⟩
      cases r1
      refine ⟨true, rfl, ?_⟩
      rw [if_pos rfl]
      exact q F1 _ H1 P1 (.bl _)
    · cases e
theorem andW_ok {a b : EvF} {ea eb : Expr} {rest : List Expr} {pos : Pos} (ha : PT X ea (tT X.K a)) (hb : PW X (.BoolOp .And (eb :: rest) pos) (tT X.K b)) : PW X (.BoolOp .And (ea :: eb :: rest) pos) (tT X.K (eAnd a b)) :=
  weakW (pw_and ha hb) fun σ H Q ⟨F, t, env, τ, k, τ', S, e, q⟩ => by
    unfold eAnd at e
    split at e
    · rename_i τ1 e1
      refine ⟨F, t, env, τ, _, _, S, e1, fun F1 H1 P1 => ?_⟩
      show ite _ _ _
      rw [if_pos rfl]
      exact ⟨F1, t, env, τ1, k, τ', S.post P1, e, fun F2 H2 P2 => q F2 H2 (P1.trans P2)⟩
    · rename_i τ1 e1
      cases e
      refine ⟨F, t, env, τ, _, _, S, e1, fun F1 H1 P1 => ?_⟩
      show ite _ _ _
      rw [if_neg Bool.false_ne_true]
      exact q F1 H1 P1
    · cases e
theorem orW_ok {a b : EvF} {ea eb : Expr} {rest : List Expr} {pos : Pos} (ha : PT X ea (tT X.K a)) (hb : PW X (.BoolOp .Or (eb :: rest) pos) (tT X.K b)) : PW X (.BoolOp .Or (ea :: eb :: rest) pos) (tT X.K (eOr a b)) :=
  weakW (pw_or ha hb) fun σ H Q ⟨F, t, env, τ, k, τ', S, e, q⟩ => by
    unfold eOr at e
    split at e
    · rename_i τ1 e1
      refine ⟨F, t, env, τ, _, _, S, e1, fun F1 H1 P1 => ?_⟩
      show ite _ _ _
      rw [if_neg Bool.false_ne_true]
      exact ⟨F1, t, env, τ1, k, τ', S.post P1, e, fun F2 H2 P2 => q F2 H2 (P1.trans P2)⟩
    · rename_i τ1 e1
      cases e
      refine ⟨F, t, env, τ, _, _, S, e1, fun F1 H1 P1 => ?_⟩
      show ite _ _ _
      rw [if_pos rfl]
      exact q F1 H1 P1
    · cases e
/-! ### a if c else b -/
def eIf (c a b : EvF) : EvF := fun env τ => match c env τ with
  | some (.d (.bool true), τ1) => a env τ1
  | some (.d (.bool false), τ1) => b env τ1
  | _ => none
theorem ife_ok {c a b : EvF} {ec ea eb : Expr} {pos : Pos} (hc : PT X ec (tT X.K c)) (ha : PE X ea (tE X.K a)) (hb : PE X eb (tE X.K b)) : PE X (.IfExp ec ea eb pos) (tE X.K (eIf c a b)) :=
  weakE (pe_ifExp hc ha hb) fun σ H Q ⟨F, t, env, τ, w, τ', S, e, q⟩ => by
    unfold eIf at e
    split at e
    · rename_i τ1 e1
      refine ⟨F, t, env, τ, _, _, S, e1, fun F1 H1 P1 => ?_⟩
      show ite _ _ _
      rw [if_pos rfl]
      exact ⟨F1, t, env, τ1, w, τ', S.post P1, e, fun F2 v2 H2 P2 r2 => q F2 v2 H2 (P1.trans P2) (r2.base P1)⟩
    · rename_i τ1 e1
      refine ⟨F, t, env, τ, _, _, S, e1, fun F1 H1 P1 => ?_⟩
      show ite _ _ _
      rw [if_neg Bool.false_ne_true]
      exact ⟨F1, t, env, τ1, w, τ', S.post P1, e, fun F2 v2 H2 P2 r2 => q F2 v2 H2 (P1.trans P2) (r2.base P1)⟩
    · cases e
/-! ### a < b < c -/
def eChn (g g' : G2) (a b c : EvF) : EvF := fun env τ => match a env τ with
  | some (x, τ1) => (match b env τ1 with
    | some (y, τ2) => (match g env τ2 x y with
      | some (.d (.bool true)) => (match c env τ2 with
        | some (z, τ3) => (match g' env τ3 y z with
          | some w => some (w, τ3)
          | none => none)
        | none => none)
      | some (.d (.bool false)) => some (.d (.bool false), τ2)
      | _ => none)
    | none => none)
  | none => none
theorem chn_core {g g' : G2} {a b c : EvF} {r r' : R2}
    (hs : ∀ F H Hb t env τ σ v1 v2 w1 w2 w Q, Sok X.K F H t env τ σ → Rw X.K F H Hb t σ v1 w1 → Rw X.K F H Hb t σ v2 w2 → g env τ w1 w2 = some w → (∀ F' v H', Post X.K t τ F H F' H' → Rw X.K F' H' H t σ v w → Q v H') → r v1 v2 H Q)
    (hs' : ∀ F H Hb t env τ σ v1 v2 w1 w2 w Q, Sok X.K F H t env τ σ → Rw X.K F H Hb t σ v1 w1 → Rw X.K F H Hb t σ v2 w2 → g' env τ w1 w2 = some w → (∀ F' v H', Post X.K t τ F H F' H' → Rw X.K F' H' H t σ v w → Q v H') → r' v1 v2 H Q)
    {σ : L2.St} {H : Hp} {Q : VK} (h : tE X.K (eChn g g' a b c) σ H Q) : tChain r r' (tE X.K a) (tE X.K b) (tE X.K c) σ H Q := by
  obtain ⟨F, t, env, τ, w, τ', S, e, q⟩ := h
  unfold eChn at e
  split at e
  · rename_i x τ1 e1
    split at e
    · rename_i y τ2 e2
      refine ⟨F, t, env, τ, x, τ1, S, e1, fun F1 v1 H1 P1 r1 => ?_⟩
      have S1 := S.post P1
      refine ⟨F1, t, env, τ1, y, _, S1, e2, fun F2 v2 H2 P2 r2 => ?_⟩
      have S2 := S1.post P2
      split at e
      · rename_i e3
        split at e
        · rename_i z τ3 e4
          split at e
          · rename_i w' e5
            cases e
            refine hs F2 H2 H t env _ σ v1 v2 x y _ _ S2 (r1.post P2) (r2.base P1) e3 fun F3 v3 H3 P3 r3 => ?_
            cases r3
            refine ⟨true, rfl, ?_⟩
            rw [if_pos rfl]
            have S3 := S2.post P3
            refine ⟨F3, t, env, τ2, z, _, S3, e4, fun F4 v4 H4 P4 r4 => ?_⟩
            have P14 := P1.trans (P2.trans P3)
            exact hs' F4 H4 H t env _ σ v2 v4 y z _ Q (S3.post P4) (((r2.base P1).post P3).post P4) (r4.base P14) e5 fun F5 v5 H5 P5 r5 => q F5 v5 H5 (P14.trans (P4.trans P5)) (r5.base (P14.trans P4))
          · cases e
        · cases e
      · rename_i e3
        cases e
        refine hs F2 H2 H t env _ σ v1 v2 x y _ _ S2 (r1.post P2) (r2.base P1) e3 fun F3 v3 H3 P3 r3 => ?_
        cases r3
        refine ⟨false, rfl, ?_⟩
        rw [if_neg Bool.false_ne_true]
        exact q F3 _ H3 (P1.trans (P2.trans P3)) (.bl _)
      · cases e
    · cases e
  · cases e
theorem chn_ok {o o' : CmpOp} {g g' : G2} {a b c : EvF} {ea eb ec : Expr} {pos : Pos} (ho : OpOk X (compareOp o) g) (ho' : OpOk X (compareOp o') g') (ha : PE X ea (tE X.K a)) (hb : PE X eb (tE X.K b)) (hc : PE X ec (tE X.K c)) (hm : lastMarks [o, o'] [eb, ec] = false) :
    PE X (.Compare ea [o, o'] [eb, ec] pos) (tE X.K (eChn g g' a b c)) := by
  obtain ⟨r, o1, s1⟩ := ho
  obtain ⟨r', o2, s2⟩ := ho'
  exact weakE (pe_chain o1 o2 ha hb hc hm) fun σ H Q h => chn_core s1 s2 h
theorem chnT_ok {o o' : CmpOp} {g g' : G2} {a b c : EvF} {ea eb ec : Expr} {pos : Pos} (ho : OpOk X (compareOp o) g) (ho' : OpOk X (compareOp o') g') (ha : PE X ea (tE X.K a)) (hb : PE X eb (tE X.K b)) (hc : PE X ec (tE X.K c)) (hm : lastMarks [o, o'] [eb, ec] = false) :
    PT X (.Compare ea [o, o'] [eb, ec] pos) (tT X.K (eChn g g' a b c)) := by
  obtain ⟨r, o1, s1⟩ := ho
  obtain ⟨r', o2, s2⟩ := ho'
  refine weakT (pt_chain o1 o2 ha hb hc hm) fun σ H Q ⟨F, t, env, τ, k, τ', S, e, q⟩ => chn_core s1 s2 ⟨F, t, env, τ, _, τ', S, e, fun F' v H' P r => ?_⟩
  cases r
  exact ⟨k, rfl, q F' H' P⟩
/-! ### a[i] -/
def gIx : G2 := fun env τ a b => match seqOf env τ a, b with
  | some (_, ds), .d (.int i) => (atI ds i).map .d
  | _, _ => none
theorem atI_dq {K : PySem.W.Frag} {F : Hp} {vs : List V} {ds : List D} {i : Int} {x : D} (d : DqAll K F vs ds) (e : atI ds i = some x) : ∃ v, atI vs i = some v ∧ Dq K F v x := by
  unfold atI at e ⊢
  rw [dqAll_len d]
  cases h : ixN ds.length i with
  | none => rw [h] at e; cases e
  | some j =>
    rw [h] at e
    exact dqAll_at d e
def plainIx : Expr → Bool
  | .Slice .. => false
  | _ => true
theorem plainIx_ok {b : Expr} (h : plainIx b = true) : PlainIx b := by
  intro o i
  cases b <;> first | rfl | cases h
theorem ix_ok {a b : EvF} {ea eb : Expr} {pos : Pos} (ha : PE X ea (tE X.K a)) (hb : PE X eb (tE X.K b)) (hp : plainIx eb = true) : PE X (.Subscript ea eb pos) (tE X.K (f2 gIx a b)) := by
  refine weakE (pe_ix (ix_list.or ix_tup) ha hb (plainIx_ok hp)) fun σ H Q h => tOp_of (f := fun _ _ => pure .none) (fun F H Hb t env τ σ v1 v2 w1 w2 w Q S R1 R2 e q => ?_) h
  unfold gIx at e
  split at e
  · rename_i b ds i e1
    cases hx : atI ds i with
    | none => rw [hx] at e; cases e
    | some x =>
      rw [hx] at e
      cases e
      cases R2
      obtain ⟨a, vs, rfl, d, s⟩ := deref S R1 e1
      obtain ⟨v, h1, h2⟩ := atI_dq d hx
      cases b with
      | true => exact .inl ⟨a, vs, i, v, rfl, rfl, SqL.of s, h1, q F v H (.refl S) h2⟩
      | false => exact .inr ⟨a, vs, i, v, rfl, rfl, s, h1, q F v H (.refl S) h2⟩
  · cases e
/-! ### a[lo:hi] -/
def cutL {α : Type} (xs : List α) (lo hi : Option Int) : List α := (xs.drop (HT.sIx xs.length 0 lo)).take (HT.sIx xs.length xs.length hi - HT.sIx xs.length 0 lo)
theorem dq_cut {K : PySem.W.Frag} {F : Hp} {vs : List V} {ds : List D} {lo hi : Option Int} (d : DqAll K F vs ds) : DqAll K F (cutV vs lo hi) (cutL ds lo hi) := by
  unfold cutV cutL
  rw [dqAll_len d]
  exact dqAll_take _ (dqAll_drop _ d)
theorem cut_whole {α : Type} {xs : List α} {lo hi : Option Int} (h : HT.sIx xs.length 0 lo = 0 ∧ HT.sIx xs.length xs.length hi = xs.length) : cutL xs lo hi = xs := by
  unfold cutL
  rw [h.1, h.2]
  simp
abbrev EvO := En → Tp → Option (Option Int × Tp)
def tO (K : PySem.W.Frag) (f : EvO) : TO := fun σ H Q => ∃ F t env τ o τ', Sok K F H t env τ σ ∧ f env τ = some (o, τ') ∧ ∀ F' H', Post K t τ' F H F' H' → Q o H'
def oNone : EvO := fun _ τ => some (none, τ)
def oSome (a : EvF) : EvO := fun env τ => match a env τ with
  | some (.d (.int i), τ1) => some (some i, τ1)
  | _ => none
theorem oNone_ok : PO X none (tO X.K oNone) := ⟨fun pins s σ H Q I ⟨F, t, env, τ, o, τ', S, e, q⟩ => by
  cases e
  exact po_none.run pins s σ H Q I (q F H (.refl S))⟩
theorem oSome_ok {a : EvF} {e : Expr} (h : PE X e (tE X.K a)) : PO X (some e) (tO X.K (oSome a)) := ⟨fun pins s σ H Q I ⟨F, t, env, τ, o, τ', S, e, q⟩ => by
  refine (po_some h).run pins s σ H Q I ?_
  unfold oSome at e
  split at e
  · rename_i i τ1 e1
    cases e
    refine ⟨F, t, env, τ, _, _, S, e1, fun F1 v1 H1 P1 r1 => ?_⟩
    cases r1
    exact ⟨i, rfl, q F1 H1 P1⟩
  · cases e⟩
end

open PySem PySem.Spec PyProof.Rows L2
def nst : Expr → Bool
  | .Starred .. => false
  | _ => true
theorem starEach_ns {e : Expr} {es : List Expr} {env : Env} (h : nst e = true) : starEach (e :: es) env = (false, eval e env) :: starEach es env := by
  cases e <;> first | rfl | cases h
theorem star_plain {es : List Expr} {env : Env} {pos : Pos} (h : es.all nst = true) : (backTo pos (starEach es env)).any (·.1) = false := by
  induction es with
  | nil => rfl
  | cons e r ih =>
    rw [List.all_cons, Bool.and_eq_true] at h
    rw [starEach_ns h.1]
    show (false || (backTo pos (starEach r env)).any (·.1)) = false
    rw [ih h.2]
    rfl
section
variable {X : Cx}
/-! ### a[lo:hi] -/
def gSl (env : En) (τ : Tp) (w : W) (lo hi : Option Int) : Option W := match w with
  | .d (.str z) => if z.length ≤ sizeLine then some (.d (.str (cutS z lo hi))) else none
  | _ => match seqOf env τ w with
    | some (true, ds) => some (.new (cutL ds lo hi))
    | some (false, ds) => some (.d (.tuple (cutL ds lo hi)))
    | none => none
def eSl (a : EvF) (lo hi : EvO) : EvF := fun env τ => match a env τ with
  | some (w, τ1) => (match lo env τ1 with
    | some (l, τ2) => (match hi env τ2 with
      | some (h, τ3) => (match gSl env τ3 w l h with
        | some r => some (r, τ3)
        | none => none)
      | none => none)
    | none => none)
  | none => none
theorem sl_ok {a : EvF} {lo hi : EvO} {ea : Expr} {el eh : Option Expr} {p2 pos : Pos} (ha : PE X ea (tE X.K a)) (hl : PO X el (tO X.K lo)) (hh : PO X eh (tO X.K hi)) : PE X (.Subscript ea (.Slice el eh none p2) pos) (tE X.K (eSl a lo hi)) := by
  refine weakE (pe_slice (sl_list.or (sl_tupA.or sl_str)) ha hl hh) fun σ H Q ⟨F, t, env, τ, w, τ', S, e, q⟩ => ?_
  unfold eSl at e
  split at e
  · rename_i y τ1 e1
    split at e
    · rename_i l τ2 e2
      split at e
      · rename_i h τ3 e3
        split at e
        · rename_i r e4
          cases e
          refine ⟨F, t, env, τ, y, τ1, S, e1, fun F1 v1 H1 P1 r1 => ?_⟩
          have S1 := S.post P1
          refine ⟨F1, t, env, τ1, l, τ2, S1, e2, fun F2 H2 P2 => ?_⟩
          have S2 := S1.post P2
          refine ⟨F2, t, env, τ2, h, _, S2, e3, fun F3 H3 P3 => ?_⟩
          have S3 := S2.post P3
          have r3 := (r1.post P2).post P3
          have P13 := P1.trans (P2.trans P3)
          unfold gSl at e4
          split at e4
          · rename_i z
            split at e4
            · rename_i hz
              cases e4
              cases r3
              exact .inr (.inr ⟨z, rfl, hz, q F3 _ H3 P13 (.str _)⟩)
            · cases e4
          · split at e4
            · rename_i ds e5
              cases e4
              obtain ⟨b, vs, rfl, d, s⟩ := deref S3 r3 e5
              refine .inl ⟨b, vs, rfl, SqL.of s, fun p hp => ?_⟩
              obtain ⟨P, r⟩ := S3.newList hp (dq_cut (lo := l) (hi := h) d)
              exact q _ _ _ (P13.trans P) (r.base P13)
            · rename_i ds e5
              cases e4
              have hq := derefTup S3 r3 e5
              obtain ⟨b, vs, rfl, d, s⟩ := deref S3 r3 e5
              refine .inr (.inl ⟨b, vs, rfl, s, fun hw => ?_, fun _ p hp => ?_⟩)
              · rw [dqAll_len d] at hw
                rw [cut_whole hw] at q
                exact q F3 _ H3 P13 hq
              · obtain ⟨P, r⟩ := S3.newTup hp (dq_cut (lo := l) (hi := h) d)
                exact q _ _ _ (P13.trans P) r
            · cases e4
        · cases e
      · cases e
    · cases e
  · cases e

/-! ### argument lists -/
/-- a list just made is given away -/
def nf : W → W
  | .new ds => .d (.list ds)
  | w => w
theorem freezeW {K : PySem.W.Frag} {F H Fb Hb : Hp} {t : Option Addr} {env : En} {τ τb : Tp} {σ : L2.St} {v : V} {w : W} (Sb : Sok K Fb Hb t env τb σ) (S : Sok K F H t env τ σ) (P : Post K t τ Fb Hb F H) (r : Rw K F H Hb t σ v w) :
    ∃ F', Post K t τ Fb Hb F' H ∧ Sok K F' H t env τ σ ∧ Rw K F' H Hb t σ v (nf w) := by
  cases w with
  | new ds =>
    obtain ⟨F', h1, _, h2, h3⟩ := freeze Sb S P r (x := .list ds) rfl
    exact ⟨F', h1, h2, h3⟩
  | d x => exact ⟨F, P, S, r⟩
  | loc i => exact ⟨F, P, S, r⟩
  | tp => exact ⟨F, P, S, r⟩
def aNil : EvA := fun _ τ => some ([], τ)
def aCons (a : EvF) (r : EvA) : EvA := fun env τ => match a env τ with
  | some (w, τ1) => (match r env τ1 with
    | some (ws, τ2) => some (nf w :: ws, τ2)
    | none => none)
  | none => none
theorem aNil_ok : PA X [] (tA X.K aNil) := weakA pa_nil fun σ H Q ⟨F, t, env, τ, ws, τ', S, e, q⟩ => by
  cases e
  exact q F [] H (.refl S) .nil
theorem aCons_core {a : EvF} {r : EvA} {σ : L2.St} {H : Hp} {Q : List V → Hp → Prop} (h : tA X.K (aCons a r) σ H Q) : tCons (tE X.K a) (tA X.K r) σ H Q := by
  obtain ⟨F, t, env, τ, ws, τ', S, e, q⟩ := h
  unfold aCons at e
  split at e
  · rename_i w τ1 e1
    split at e
    · rename_i ws' τ2 e2
      cases e
      refine ⟨F, t, env, τ, w, τ1, S, e1, fun F1 v1 H1 P1 r1 => ?_⟩
      obtain ⟨F1', P1', S1', r1'⟩ := freezeW S (S.post P1) P1 r1
      exact ⟨F1', t, env, τ1, ws', _, S1', e2, fun F2 vs H2 P2 r2 => q F2 _ H2 (P1'.trans P2) (.cons (r1'.post P2) (r2.base P1'))⟩
    · cases e
  · cases e
theorem aCons_ok {a : EvF} {r : EvA} {ea : Expr} {es : List Expr} (ha : PE X ea (tE X.K a)) (hr : PA X es (tA X.K r)) (hs : nst ea = true) : PA X (ea :: es) (tA X.K (aCons a r)) :=
  weakA (pa_cons ha hr (starEach_ns hs)) fun σ H Q h => aCons_core h
/-! ### displays -/
def dsOf : List W → Option (List D)
  | [] => some []
  | .d x :: r => match dsOf r with
    | some l => some (x :: l)
    | none => none
  | _ => none
theorem dsOf_ok {K : PySem.W.Frag} {F H Hb : Hp} {t : Option Addr} {σ : L2.St} : ∀ {vs : List V} {ws : List W} {ds : List D}, RwAll K F H Hb t σ vs ws → dsOf ws = some ds → DqAll K F vs ds
  | _, _, _, .nil, e => by cases e; exact .nil
  | _, _, _, .cons (w := w) a b, e => by
    cases w with
    | d x =>
      unfold dsOf at e
      split at e
      · rename_i l h
        cases e
        exact .cons a (dsOf_ok b h)
      · cases e
    | _ => cases e
def eTup (f : EvA) : EvF := fun env τ => match f env τ with
  | some (ws, τ1) => (match dsOf ws with
    | some ds => if ds.length ≤ sizeLine then some (.d (.tuple ds), τ1) else none
    | none => none)
  | none => none
def eLst (f : EvA) : EvF := fun env τ => match f env τ with
  | some (ws, τ1) => (match dsOf ws with
    | some ds => if ds.length ≤ sizeLine then some (.new ds, τ1) else none
    | none => none)
  | none => none
theorem tup_ok {f : EvA} {es : List Expr} {k : Nat} {pos : Pos} (h : PA X es (tA X.K f)) : PE X (.Tuple es k pos) (tE X.K (eTup f)) := by
  refine weakE (pe_tup h) fun σ H Q ⟨F, t, env, τ, w, τ', S, e, q⟩ => ?_
  unfold eTup at e
  split at e
  · rename_i ws τ1 e1
    split at e
    · rename_i ds e2
      split at e
      · rename_i hl
        cases e
        refine ⟨F, t, env, τ, ws, _, S, e1, fun F1 vs H1 P1 r1 => ?_⟩
        have d := dsOf_ok r1 e2
        refine ⟨by rw [dqAll_len d]; exact hl, fun p hp => ?_⟩
        obtain ⟨P, r⟩ := (S.post P1).newTup hp d
        exact q _ _ _ (P1.trans P) r
      · cases e
    · cases e
  · cases e
theorem lst_ok {f : EvA} {es : List Expr} {pos : Pos} (h : PA X es (tA X.K f)) : PE X (.List es pos) (tE X.K (eLst f)) := by
  refine weakE (pe_lst h) fun σ H Q ⟨F, t, env, τ, w, τ', S, e, q⟩ => ?_
  unfold eLst at e
  split at e
  · rename_i ws τ1 e1
    split at e
    · rename_i ds e2
      split at e
      · rename_i hl
        cases e
        refine ⟨F, t, env, τ, ws, _, S, e1, fun F1 vs H1 P1 r1 => ?_⟩
        have d := dsOf_ok r1 e2
        refine ⟨by rw [dqAll_len d]; exact hl, fun p hp => ?_⟩
        obtain ⟨P, r⟩ := (S.post P1).newList hp d
        exact q _ _ _ (P1.trans P) (r.base P1)
      · cases e
    · cases e
  · cases e
/-! ### calls of built-in functions -/
theorem c1_ok {x : Str} {id : String} {g : G1} {a : EvF} {ea : Expr} {p pos : Pos} (h : C1Ok X (.builtin id) g) (ha : PE X ea (tE X.K a)) (hg : Gl X x) (hm : X.mg x = none) (hv : bootBuiltins x = some (.builtin id)) (hn : x ≠ "__name__") (hd : (x == ("__debug__" : Str)) = false) (hs : nst ea = true) :
    PE X (.Call (.Name x p) [ea] [] pos) (tE X.K (f1 g a)) := by
  obtain ⟨r, o, s⟩ := h
  exact weakE (pe_callB o hg hm hv (pa_cons ha pa_nil (starEach_ns hs)) hn hd (starEach_ns hs) (star_plain (es := []) rfl)) fun σ H Q h => tCB1 s h
theorem c1T_ok {x : Str} {id : String} {g : G1} {a : EvF} {ea : Expr} {p pos : Pos} (h : C1Ok X (.type id) g) (ha : PE X ea (tE X.K a)) (hg : Gl X x) (hm : X.mg x = none) (hv : bootBuiltins x = some (.type id)) (hn : x ≠ "__name__") (hd : (x == ("__debug__" : Str)) = false) (hs : nst ea = true) :
    PE X (.Call (.Name x p) [ea] [] pos) (tE X.K (f1 g a)) := by
  obtain ⟨r, o, s⟩ := h
  exact weakE (pe_callTy o hg hm hv (pa_cons ha pa_nil (starEach_ns hs)) hn hd (starEach_ns hs) (star_plain (es := []) rfl)) fun σ H Q h => tCB1 s h
theorem c2_ok {x : Str} {id : String} {g : G2} {a b : EvF} {ea eb : Expr} {p pos : Pos} (h : C2Ok X (.builtin id) g) (ha : PE X ea (tE X.K a)) (hb : PE X eb (tE X.K b)) (hg : Gl X x) (hm : X.mg x = none) (hv : bootBuiltins x = some (.builtin id)) (hn : x ≠ "__name__") (hd : (x == ("__debug__" : Str)) = false) (hs : nst ea = true) (hs2 : nst eb = true) :
    PE X (.Call (.Name x p) [ea, eb] [] pos) (tE X.K (f2 g a b)) := by
  obtain ⟨r, o, s⟩ := h
  exact weakE (pe_callB o hg hm hv (pa_cons ha (pa_cons hb pa_nil (starEach_ns hs2)) (starEach_ns hs)) hn hd (starEach_ns hs) (star_plain (es := [eb]) (by rw [List.all_cons, hs2]; rfl))) fun σ H Q h => tCB2 s h
end

open PySem PySem.Spec PyProof.Rows L2
/-! ## defs: what they promise -/
abbrev Sem1 := List W → Tp → Option (D × Tp)
inductive ArgAll (K : PySem.W.Frag) (F : Hp) (t : Option Addr) : List V → List W → Prop
  | nil : ArgAll K F t [] []
  | d {v : V} {vs : List V} {x : D} {ws : List W} : Dq K F v x → ArgAll K F t vs ws → ArgAll K F t (v :: vs) (.d x :: ws)
  | tp {a : Addr} {vs : List V} {ws : List W} : t = some a → ArgAll K F t vs ws → ArgAll K F t (.ref a :: vs) (.tp :: ws)
theorem ArgAll.len {K : PySem.W.Frag} {F : Hp} {t : Option Addr} {vs : List V} {ws : List W} (h : ArgAll K F t vs ws) : vs.length = ws.length := by
  induction h with
  | nil => rfl
  | d _ _ ih => simp [ih]
  | tp _ _ ih => simp [ih]
theorem ArgAll.mono {K : PySem.W.Frag} {F F' : Hp} {t : Option Addr} {vs : List V} {ws : List W} (h : ArgAll K F t vs ws) (e : Same F F') : ArgAll K F' t vs ws := by
  induction h with
  | nil => exact .nil
  | d a _ ih => exact .d (dq_mono e a) ih
  | tp a _ ih => exact .tp a ih
def spD (K : PySem.W.Frag) (n : Nat) (sem : Sem1) : Sp := fun vs H Q _ => ∃ F t ws τ d τ', ws.length = n ∧ Same F H ∧ TapeOk K F H t τ ∧ ArgAll K F t vs ws ∧ sem ws τ = some (d, τ') ∧ ∀ F' v H', Post K t τ' F H F' H' → Dq K F' v d → Q v H'
theorem spD_len {K : PySem.W.Frag} {n : Nat} {sem : Sem1} {vs : List V} {H : Hp} {Q : VK} {E : XK} (h : spD K n sem vs H Q E) : vs.length = n := by
  obtain ⟨F, t, ws, τ, d, τ', h1, _, _, h2, _⟩ := h
  rw [h2.len, h1]
/-! the arguments as the def sees them -/
def noLoc : List W → Bool
  | [] => true
  | .loc _ :: _ => false
  | _ :: r => noLoc r
def noTp : List W → Bool
  | [] => true
  | .tp :: _ => false
  | _ :: r => noTp r
def seen (env : En) : List W → Option (List W)
  | [] => some []
  | .loc i :: r => match env[i]?, seen env r with
    | some (.own ds), some l => some (.d (.list ds) :: l)
    | _, _ => none
  | .d x :: r => match seen env r with
    | some l => some (.d x :: l)
    | none => none
  | _ => none
mutual
def noLst : D → Bool
  | .list _ => false
  | .tuple ds => noLstAll ds
  | .dict _ => false
  | _ => true
def noLstAll : List D → Bool
  | [] => true
  | d :: r => noLst d && noLstAll r
end
def eCall (sem : Sem1) (f : EvA) : EvF := fun env τ => match f env τ with
  | some (ws, τ1) => if noLoc ws = true then (if noTp ws = true then (match sem ws [] with
        | some (d, _) => some (.d d, τ1)
        | none => none)
      else (match sem ws τ1 with
        | some (d, τ2) => some (.d d, τ2)
        | none => none))
    else (match seen env ws with
      | some us => (match sem us [] with
        | some (d, _) => if noLst d = true then some (.d d, τ1) else none
        | none => none)
      | none => none)
  | none => none
section
variable {K : PySem.W.Frag} {F H F' H' Hb : Hp} {t : Option Addr} {env : En} {τ τ' : Tp} {σ : L2.St}
theorem args_of : ∀ {vs : List V} {ws : List W}, RwAll K F H Hb t σ vs ws → noLoc ws = true → (∀ w ∈ ws, ∀ ds, w ≠ .new ds) → ArgAll K F t vs ws
  | _, _, .nil, _, _ => .nil
  | _, _, .cons (w := w) a b, h, hn => by
    cases w with
    | d x => exact .d a (args_of b h fun w hw => hn w (List.mem_cons_of_mem _ hw))
    | loc i => cases h
    | tp =>
      obtain ⟨c, h1, rfl⟩ := a
      exact .tp h1 (args_of b h fun w hw => hn w (List.mem_cons_of_mem _ hw))
    | new ds => exact absurd rfl (hn _ (by simp) ds)
theorem args_notp {t' : Option Addr} {vs : List V} {ws : List W} (h : ArgAll K F t vs ws) (hn : noTp ws = true) : ArgAll K F t' vs ws := by
  induction h with
  | nil => exact .nil
  | d a _ ih => exact .d a (ih hn)
  | tp => cases hn
/-- a call that gets no tape leaves it -/
theorem Post.untaped (S : Sok K F H t env τ σ) (P : Post K none τ' F H F' H') : Post K t τ F H F' H' := by
  refine ⟨P.ext, P.same, P.new, fun b o h _ => P.keep b o h (fun z => nomatch z), ?_⟩
  have tp := S.tape
  cases t with
  | none => trivial
  | some a =>
    obtain ⟨h1, vs, h2, h3⟩ := tp
    exact ⟨P.none_of h1 h2, vs, P.keep _ _ h2 (fun z => nomatch z), dqAll_mono P.ext h3⟩
/-- the heap as data with the lists that the slots own -/
def OwnAddr (env : En) (σ : L2.St) (b : Addr) : Prop := ∃ (i : Nat) (ds : List D), env[i]? = some (Sl.own ds) ∧ σ[i]? = some (some (V.ref b))
open Classical in
noncomputable def withOwn (env : En) (σ : L2.St) (F H : Hp) : Hp := fun b => if OwnAddr env σ b then H b else F b
open Classical in
noncomputable def lessOwn (env : En) (σ : L2.St) (F : Hp) : Hp := fun b => if OwnAddr env σ b then none else F b
theorem own_at (S : Sok K F H t env τ σ) {b : Addr} (h : OwnAddr env σ b) : ∃ ds vs, F b = none ∧ t ≠ some b ∧ H b = some (.lst vs) ∧ DqAll K F vs ds := by
  obtain ⟨i, ds, h1, h2⟩ := h
  obtain ⟨a, vs, z1, z2, z3, z4, z5⟩ := S.slot i _ h1
  rw [h2] at z1
  cases z1
  exact ⟨ds, vs, z2, z3, z4, z5⟩
theorem withOwn_yes {b : Addr} (h : OwnAddr env σ b) : withOwn env σ F H b = H b := by unfold withOwn; rw [if_pos h]
theorem withOwn_no {b : Addr} (h : ¬ OwnAddr env σ b) : withOwn env σ F H b = F b := by unfold withOwn; rw [if_neg h]
theorem withOwn_ext (S : Sok K F H t env τ σ) : Same F (withOwn env σ F H) := fun b o e => by
  by_cases h : OwnAddr env σ b
  · obtain ⟨_, _, h1, _⟩ := own_at S h
    rw [h1] at e
    cases e
  · rw [withOwn_no h]
    exact e
theorem withOwn_same (S : Sok K F H t env τ σ) : Same (withOwn env σ F H) H := fun b o e => by
  by_cases h : OwnAddr env σ b
  · rw [withOwn_yes h] at e
    exact e
  · rw [withOwn_no h] at e
    exact S.same _ _ e
theorem seen_ok (S : Sok K F H t env τ σ) : ∀ {vs : List V} {ws us : List W}, RwAll K F H Hb t σ vs ws → seen env ws = some us → ArgAll K (withOwn env σ F H) none vs us
  | _, _, _, .nil, e => by cases e; exact .nil
  | _, _, _, .cons (v := v) (w := w) a b, e => by
    cases w with
    | d x =>
      unfold seen at e
      split at e
      · rename_i l h
        cases e
        exact .d (dq_mono (withOwn_ext S) a) (seen_ok S b h)
      · cases e
    | loc i =>
      unfold seen at e
      split at e
      · rename_i ds l h1 h2
        cases e
        obtain ⟨c, vs, z1, z2, z3, z4, z5⟩ := S.slot i _ h1
        have a' : σ[i]? = some (some v) := a
        rw [z1] at a'
        cases a'
        refine .d (.lst ?_ (dqAll_mono (withOwn_ext S) z5)) (seen_ok S b h2)
        rw [withOwn_yes ⟨i, ds, h1, z1⟩]
        exact z4
      · cases e
    | tp => cases e
    | new ds => cases e
mutual
theorem dq_less {G G' : Hp} (hg : ∀ b xs, Rd G b (.tup xs) → Rd G' b (.tup xs)) : ∀ {d : D} {v : V}, Dq K G v d → noLst d = true → Dq K G' v d
  | .none, _, h, _ => by cases h; exact .non
  | .bool b, _, h, _ => by cases h; exact .bl b
  | .int i, _, h, _ => by cases h; exact .int i
  | .str x, _, h, _ => by cases h; exact .str x
  | .list ds, _, _, e => by cases e
  | .tuple ds, _, h, e => by
    cases h with
    | tup s a =>
      refine .tup ?_ (dqAll_less hg a (by simpa [noLst] using e))
      rcases s with s | s
      · exact .inl (hg _ _ s)
      · exact .inr s
  | .dict _, _, h, _ => by cases h
theorem dqAll_less {G G' : Hp} (hg : ∀ b xs, Rd G b (.tup xs) → Rd G' b (.tup xs)) : ∀ {ds : List D} {vs : List V}, DqAll K G vs ds → noLstAll ds = true → DqAll K G' vs ds
  | [], _, h, _ => by cases h; exact .nil
  | d :: ds, _, h, e => by
    have e : noLst d = true ∧ noLstAll ds = true := by simpa [noLstAll] using e
    cases h with
    | cons a b => exact .cons (dq_less hg a e.1) (dqAll_less hg b e.2)
end
theorem Post.lessOwn (S : Sok K F H t env τ σ) (P : Post K none τ' (withOwn env σ F H) H F' H') {v : V} {d : D} (hd : Dq K F' v d) (hn : noLst d = true) : Post K t τ F H (lessOwn env σ F') H' ∧ Dq K (lessOwn env σ F') v d := by
  have yes : ∀ {b}, OwnAddr env σ b → Ev.lessOwn env σ F' b = none := fun {b} h => by unfold Ev.lessOwn; rw [if_pos h]
  have no : ∀ {b}, ¬ OwnAddr env σ b → Ev.lessOwn env σ F' b = F' b := fun {b} h => by unfold Ev.lessOwn; rw [if_neg h]
  have ext : Same F (Ev.lessOwn env σ F') := fun b o e => by
    have hb : ¬ OwnAddr env σ b := fun h => by
      obtain ⟨_, _, h1, _⟩ := own_at S h
      rw [h1] at e
      cases e
    rw [no hb]
    exact P.ext _ _ (withOwn_ext S _ _ e)
  refine ⟨⟨ext, fun b o e => ?_, fun b e => ?_, fun b o h _ => P.keep b o h (fun z => nomatch z), ?_⟩, ?_⟩
  · by_cases h : OwnAddr env σ b
    · rw [yes h] at e
      cases e
    · rw [no h] at e
      exact P.same _ _ e
  · by_cases h : OwnAddr env σ b
    · rw [yes h] at e
      exact absurd rfl e
    · rw [no h] at e
      have := P.new b e
      rw [withOwn_no h] at this
      exact this
  · have tp := S.tape
    cases t with
    | none => trivial
    | some a =>
      obtain ⟨h1, vs, h2, h3⟩ := tp
      have ha : ¬ OwnAddr env σ a := fun h => by
        obtain ⟨_, _, _, z, _⟩ := own_at S h
        exact z rfl
      have h4 : withOwn env σ F H a = none := by rw [withOwn_no ha]; exact h1
      exact ⟨by rw [no ha]; exact P.none_of h4 h2, vs, P.keep _ _ h2 (fun z => nomatch z), dqAll_mono ext h3⟩
  · refine dq_less (fun b xs h => ?_) hd hn
    by_cases hb : OwnAddr env σ b
    · obtain ⟨_, vs, _, _, z, _⟩ := own_at S hb
      have h5 : F' b = some (.lst vs) := P.ext _ _ (by rw [withOwn_yes hb]; exact z)
      rcases h with h | ⟨o, h⟩
      · rw [h5] at h; cases h
      · rw [h5] at h; cases h
    · unfold Rd
      rw [no hb]
      exact h
end
theorem RwAll.noNew {K : PySem.W.Frag} {F H Hb : Hp} {t : Option Addr} {σ : L2.St} {vs : List V} {ws : List W} (h : ∀ w ∈ ws, ∀ ds, w ≠ .new ds) (r : RwAll K F H Hb t σ vs ws) : True := trivial
section
variable {X : Cx}
/-- the arguments hold no list that was just made -/
def NoNew (f : EvA) : Prop := ∀ env τ ws τ', f env τ = some (ws, τ') → ∀ w ∈ ws, ∀ ds, w ≠ W.new ds
theorem noNew_nil : NoNew aNil := fun env τ ws τ' e w hw => by
  cases e
  cases hw
theorem noNew_cons {a : EvF} {r : EvA} (h : NoNew r) : NoNew (aCons a r) := fun env τ ws τ' e w hw ds z => by
  unfold aCons at e
  split at e
  · rename_i y τ1 e1
    split at e
    · rename_i ws' τ2 e2
      cases e
      rcases List.mem_cons.mp hw with q | q
      · rw [q] at z
        cases y <;> cases z
      · exact h _ _ _ _ e2 w q ds z
    · cases e
  · cases e
theorem call_core {sem : Sem1} {n : Nat} {f : EvA} {E : XK} (hn : NoNew f) (hlen : ∀ env τ ws τ', f env τ = some (ws, τ') → ws.length = n) {σ : L2.St} {H : Hp} {Q : VK} (h : tE X.K (eCall sem f) σ H Q) : tCall (spD X.K n sem) [] E (tA X.K f) σ H Q := by
  obtain ⟨F, t, env, τ, w, τ', S, e, q⟩ := h
  unfold eCall at e
  split at e
  · rename_i ws τ1 e1
    refine ⟨F, t, env, τ, ws, τ1, S, e1, fun F1 vs H1 P1 r1 => ?_⟩
    have S1 := S.post P1
    have hl := hlen _ _ _ _ e1
    show spD X.K n sem (vs ++ []) H1 Q E
    rw [List.append_nil]
    split at e
    · rename_i h1
      have ha := args_of r1 h1 (hn _ _ _ _ e1)
      split at e
      · rename_i h2
        split at e
        · rename_i d τ2 e2
          cases e
          exact ⟨F1, none, ws, [], d, τ2, hl, S1.same, trivial, args_notp ha h2, e2, fun F' v H' P r => q F' v H' (P1.trans (P.untaped S1)) r⟩
        · cases e
      · split at e
        · rename_i d τ2 e2
          cases e
          exact ⟨F1, t, ws, τ1, d, _, hl, S1.same, S1.tape, ha, e2, fun F' v H' P r => q F' v H' (P1.trans P) r⟩
        · cases e
    · split at e
      · rename_i us e2
        split at e
        · rename_i d τ2 e3
          split at e
          · rename_i h3
            cases e
            have ha := seen_ok S1 r1 e2
            have hl2 : us.length = n := by
              rw [← ha.len, ← hl]
              exact (by
                have : ∀ {vs : List V} {ws : List W}, RwAll X.K F1 H1 H t σ vs ws → vs.length = ws.length := fun {vs ws} r => by
                  induction r with
                  | nil => rfl
                  | cons _ _ ih => simp [ih]
                exact this r1)
            refine ⟨_, none, us, [], d, τ2, hl2, withOwn_same S1, trivial, ha, e3, fun F' v H' P r => ?_⟩
            obtain ⟨P', r'⟩ := P.lessOwn S1 r h3
            exact q _ v H' (P1.trans P') r'
          · cases e
        · cases e
      · cases e
  · cases e

def LenIs (f : EvA) (n : Nat) : Prop := ∀ env τ ws τ', f env τ = some (ws, τ') → ws.length = n
theorem lenIs_nil : LenIs aNil 0 := fun env τ ws τ' e => by
  cases e
  rfl
theorem lenIs_cons {a : EvF} {r : EvA} {n : Nat} (h : LenIs r n) : LenIs (aCons a r) (n + 1) := fun env τ ws τ' e => by
  unfold aCons at e
  split at e
  · rename_i y τ1 e1
    split at e
    · rename_i ws' τ2 e2
      cases e
      rw [List.length_cons, h _ _ _ _ e2]
    · cases e
  · cases e
/-- the def x stands in the text and keeps its promise -/
structure FnIn (X : Cx) (k : Nat) (x : Str) (n : Nat) (sem : Sem1) : Prop where
  ex : ∃ (f : Addr) (fd : FuncData) (ps : List Str), X.mg x = some (.ref f) ∧ PySem.W.keepIn X.K (.ref f) = true ∧ Binds X.K fd ps [] ∧ ps.length = n ∧ FnOk X.prog X.w X.K X.mg X.base CX0 k f fd ps (spD X.K n sem)
theorem call_ok {k n : Nat} {x : Str} {sem : Sem1} {f : EvA} {e : Expr} {es : List Expr} {p pos : Pos} (F : FnIn X k x n sem) (hr : Room k X.A) (hg : Gl X x) (ha : PA X (e :: es) (tA X.K f)) (hn : NoNew f) (hl : LenIs f n) (hd : (x == ("__debug__" : Str)) = false) (hs : (e :: es).all nst = true) :
    PE X (.Call (.Name x p) (e :: es) [] pos) (tE X.K (eCall sem f)) := by
  obtain ⟨fa, fd, ps, h1, h2, h3, h4, h5⟩ := F.ex
  rw [List.all_cons, Bool.and_eq_true] at hs
  exact weakE (pe_call h5 hr hg h1 h2 h3 .nil pass0 ha hd (starEach_ns hs.1) (star_plain hs.2)) fun σ H Q h => call_core hn hl h
theorem call0_ok {k : Nat} {x : Str} {sem : Sem1} {p pos : Pos} (F : FnIn X k x 0 sem) (hr : Room k X.A) (hg : Gl X x) (hd : (x == ("__debug__" : Str)) = false) :
    PE X (.Call (.Name x p) [] [] pos) (tE X.K (eCall sem aNil)) := by
  obtain ⟨fa, fd, ps, h1, h2, h3, h4, h5⟩ := F.ex
  refine weakE (pe_call0 h5 hr hg h1 h2 h3 .nil pass0 hd) fun σ H Q h => ?_
  obtain ⟨F, t, env, τ, ws, τ', S, e, q⟩ := call_core (E := E0) noNew_nil lenIs_nil h
  cases e
  exact q F [] H (.refl S) .nil
end

open PySem PySem.Spec PyProof.Rows L2
/-! ### iterators over a list or a tuple (true: a list) -/
def IsSeqB (b : Bool) (h : Heap) (a : Addr) (its : Array Value) : Prop := if b = true then h.IsList a its else h.IsTuple a its
def ItB (b : Bool) (h : Heap) (it a : Addr) (i : Nat) : Prop := if b = true then h.IsListIter it a i else h.IsTupleIter it a i
def objB (b : Bool) (a : Addr) : Obj := if b = true then { cls := .type "list_iterator", data := .fields #[.ref a, .int 0 0] } else { cls := .type "tuple_iterator", data := .fields #[.ref a, .int 0 0] }
def SqB (K : PySem.W.Frag) (b : Bool) (H : Hp) (a : Addr) (xs : List V) : Prop := if b = true then SqL K H a xs else SqT K H a xs
theorem Sq.B {K : PySem.W.Frag} {b : Bool} {H : Hp} {a : Addr} {vs : List V} (h : Sq K b H a vs) : SqB K b H a vs := by
  cases b with
  | true => exact SqL.of h
  | false => exact h
theorem SqB.mono {K : PySem.W.Frag} {b : Bool} {H H' : Hp} {a : Addr} {vs : List V} (h : SqB K b H a vs) (e : Same H H') : SqB K b H' a vs := by
  cases b with
  | true => exact e.seq h
  | false => exact seqT_mono e h
section
variable {X : Cx} {pins : List (Addr × Obj)} {σ : L2.St} {H : Hp} {s : Shared}
theorem seqB (I : Inv X pins σ H s) {b : Bool} {a : Addr} {xs : List V} (h : SqB X.K b H a xs) : ∃ its : List Value, Vals xs its ∧ IsSeqB b s.heap a its.toArray ∧ a < s.heap.objs.size := by
  cases b with
  | true =>
    obtain ⟨its, r, p, _⟩ := I.list h
    exact ⟨its, r, p.isList, p.lt⟩
  | false =>
    obtain ⟨its, r, p, _⟩ := I.tuple h
    obtain ⟨o, ho, _⟩ := id p
    exact ⟨its, r, p, Heap.lt_size ho⟩
theorem seqB_inj (I : Inv X pins σ H s) {b : Bool} {a : Addr} {xs ys : List V} (h : SqB X.K b H a xs) (h' : SqB X.K b H a ys) : xs = ys := by
  cases b with
  | true => exact I.list_inj h h'
  | false => exact I.tuple_inj h h'
end
theorem drawsB {prog : Program} {w : World} {A : Around} (hh : A.handled = none) (b : Bool) (it a : Addr) (hne : a ≠ it) (items : Array Value) :
    Draws prog w A it [it, a] items.size (fun i v => items[i]? = some v) (fun i h => ItB b h it a i ∧ IsSeqB b h a items) := by
  cases b with
  | true => exact Draws.list hh it a hne items
  | false => exact Draws.tuple hh it a hne items
theorem beginsB (b : Bool) (a : Addr) (items : Array Value) : Begins (.ref a) (objB b a) fun h => IsSeqB b h a items := by
  cases b with
  | true => exact begins_list a items
  | false => exact begins_tuple a items
theorem itB_start {b : Bool} {h : Heap} {it a : Addr} (e : h.get? it = some (objB b a)) : ItB b h it a 0 := by
  cases b with
  | true => exact ⟨_, e, rfl, rfl⟩
  | false => exact ⟨_, e, rfl, rfl⟩
theorem itB_at {b : Bool} {h h' : Heap} {it a : Addr} {i : Nat} (x : ItB b h it a i) (k : ∀ o, h.get? it = some o → h'.get? it = some o) : ItB b h' it a i := by
  cases b with
  | true => exact Heap.IsListIter.at (show h.IsListIter it a i from x) k
  | false => exact Heap.IsTupleIter.at (show h.IsTupleIter it a i from x) k
theorem itB_obj {b : Bool} {h : Heap} {it a : Addr} {i : Nat} (x : ItB b h it a i) : ∃ o, h.get? it = some o ∧ ∀ v, o.data ≠ .cell v := by
  cases b with
  | true =>
    obtain ⟨o, e, _, d⟩ := (show h.IsListIter it a i from x)
    exact ⟨o, e, fun v q => by rw [d] at q; cases q⟩
  | false =>
    obtain ⟨o, e, _, d⟩ := (show h.IsTupleIter it a i from x)
    exact ⟨o, e, fun v q => by rw [d] at q; cases q⟩
/-! ### enumerate -/
def JEnum (K : PySem.W.Frag) (b : Bool) (a : Addr) : It :=
  ⟨fun i H => ∃ (xs : List V) (x : V), SqB K b H a xs ∧ xs[i]? = some x, fun i H v H' => ∃ T x, v = .ref T ∧ H T = none ∧ H' = upd H T (.tup [.int (i : Nat), x]) ∧ ∀ xs, SqB K b H a xs → xs[i]? = some x, fun i H => ∃ xs : List V, SqB K b H a xs ∧ xs.length = i⟩
theorem turn_enumB {P : Program} {w : World} {K : PySem.W.Frag} {elts : List Expr} {kk : Nat} {tpos : Pos} (b : Bool) (a e it : Addr) (hai : a ≠ it) (hea : e ≠ a) :
    Turn P w K (.Tuple elts kk tpos) (JEnum K b a) [e, it] e (fun i h => (∃ old, IsEnum h e it ((i : Nat) : Int) old) ∧ ItB b h it a i ∧ e ≠ it) where
  mem := by simp
  obj := fun i h st c hc => by
    obtain ⟨⟨old, he⟩, hi, _⟩ := st
    have e' : c = e ∨ c = it := by simpa using hc
    rcases e' with z | z
    · rw [z]; exact ⟨_, he, fun v q => nomatch q⟩
    · rw [z]; exact itB_obj hi
  keep := fun i h h' st k => let ⟨⟨old, he⟩, hi, hne⟩ := st; ⟨⟨old, k e (by simp) _ he⟩, itB_at hi fun o q => k it (by simp) o q, hne⟩
  item := by
    intro X hP hw hK hc i pins s σ H E I hf st hg
    subst hP hw hK
    obtain ⟨⟨old, he⟩, hit, hne⟩ := st
    obtain ⟨xs, x, hq, hx⟩ := hg
    obtain ⟨its, rv, p, _⟩ := seqB I hq
    obtain ⟨u, hu, ru⟩ := rv.get hx
    have hel : e < s.heap.objs.size := Heap.lt_size he
    have hil : it < s.heap.objs.size := by obtain ⟨_, q, _⟩ := itB_obj hit; exact Heap.lt_size q
    have hlt : i < its.toArray.size := by
      have := (List.getElem?_eq_some_iff.mp hu).1
      simpa using this
    refine wpAny_pyNext_enum_itemC (drawsB (A := X.A.in1) (I.ok.hd hc) b it a hai its.toArray) he ⟨hit, p⟩ hlt hne (by simp [hne, hea]) fun y h' tk hy ho hit' hT hsz hk => ?_
    have hyu : y = u := by
      have : its.toArray[i]? = some u := by simpa using hu
      rw [this] at hy
      exact (Option.some.inj hy).symm
    subst hyu
    refine ⟨_, rfl, wpAny_letOwnedTupleGo_enum (s := { s with heap := h', toks := tk + 1 }) ho fun h'' he' sb => ?_⟩
    have hT2 : h''.get? s.heap.objs.size = some { cls := .type "tuple", data := .seq #[.int i tk, y] } := (sb.2 _ (Nat.ne_of_gt hel)).trans hT
    have new : ObjOk X.prog X.w (upd H s.heap.objs.size (.tup [.int (i : Nat), x])) h'' s.heap.objs.size (.tup [.int (i : Nat), x]) :=
      ⟨by show 2 ≤ sizeLine; decide, [.int i tk, y], .cons ⟨_, rfl⟩ (.cons ru .nil), ⟨_, hT2, rfl, _, rfl⟩⟩
    have I1 : Inv X pins σ (upd H s.heap.objs.size (.tup [.int (i : Nat), x])) { s with heap := h'', toks := tk + 1 } :=
      I.turnedNew (ch := [e, it]) (fun c ob hb q => (sb.2 c (fun z => hb (by simp [z]))).trans (hk c ob (fun z => hb (by simp [z])) (fun z => hb (by simp [z])) q)) hf (Nat.le_refl _) new
    refine ⟨.ref s.heap.objs.size, _, I1, rfl, ⟨_, x, rfl, I.hok.fresh (Nat.le_refl _), rfl, fun ys hy => by rw [seqB_inj I hy hq]; exact hx⟩, ⟨⟨y, ?_⟩, itB_at hit'.1 fun o q => (sb.2 it (Ne.symm hne)).trans q, hne⟩, fun c hb => ?_⟩
    · have e1 : ((i + 1 : Nat) : Int) = (i : Int) + 1 := by omega
      rw [e1]; exact he'
    · have hb' : c < s.heap.objs.size := by
        have e' : c = e ∨ c = it := by simpa using hb
        rcases e' with z | z
        · rw [z]; exact hel
        · rw [z]; exact hil
      rw [upd_ne (Nat.ne_of_lt hb')]
      exact (hf c hb).1
  done := by
    intro X hP hw hK hc i pins s σ H E I hf st hg
    subst hP hw hK
    obtain ⟨⟨old, he⟩, hit, hne⟩ := st
    obtain ⟨xs, hq, hx⟩ := hg
    obtain ⟨its, rv, p, _⟩ := seqB I hq
    obtain ⟨f0, f1, f2, f3, f4, f5⟩ := hf it (by simp)
    have hl := rv.length
    have hi : i = its.toArray.size := by simp; omega
    subst hi
    exact wpAny_pyNext_enum_endD (drawsB (A := X.A.in1) (I.ok.hd hc) b it a hai its.toArray) he ⟨hit, p⟩ fun h' eb => ⟨rfl, I.turned (t' := s.toks) (fun c o hb q => eb c o hb q) f0 f1 f3 f4 f5⟩
  self := fun A i s Q E st h => let ⟨⟨_, he⟩, _⟩ := st; wpAny_pyIter_enum he h
set_option maxHeartbeats 1000000 in
theorem enum_new1 {v : Value} {o : Obj} {H : Heap → Prop} (B : Begins v o H) :
    Meets (Builtin.«enumerate.__new__» ⟨[.type "enumerate", v], []⟩) (fun _ R s => H s.heap ∧
      R (.ok (.ret (.ref (s.heap.push o).objs.size))) { s with heap := (s.heap.push o).push { cls := .type "enumerate", data := .fields #[.none, .bool false, .ref s.heap.objs.size, rawInt 0, .none, .none] } }) :=
  .of_wp fun prog w A R s h => by
    obtain ⟨hp, g, d, tk, os⟩ := s; obtain ⟨h1, h⟩ := h
    have hsub := sub_enumerate
    have q1 : ∀ {A' : Around} {E : Value → Shared → Prop} {Q : Value → Shared → Prop}, Q (.ref hp.objs.size) ⟨hp.push o, g, d, tk, os⟩ → wpAny (model prog w) A' (pyIter v) Q E ⟨hp, g, d, tk, os⟩ :=
      fun q => B.iter prog w _ _ ⟨hp, g, d, tk, os⟩ _ h1 q
    wp_walk using q1
    refine wpAny_stack_any fun st => wpAny_pure ?_
    split
    · rename_i c _ _ _ _ _
      cases (c == Value.type "enumerate")
      · wp_walk using q1
        exact ⟨_, rfl, h⟩
      · wp_walk using q1
        exact ⟨_, rfl, h⟩
    · wp_walk using q1
      exact ⟨_, rfl, h⟩
section
variable {prog : Program} {w : World} {A : Around} {E : Value → Shared → Prop} {s : Shared}
theorem enum_begins1 {v : Value} {o : Obj} {H : Heap → Prop} {Q : Value → Shared → Prop} (B : Begins v o H) (h1 : H s.heap)
    (h : ∀ h', IsEnum h' (s.heap.objs.size + 1) s.heap.objs.size 0 .none → h'.get? s.heap.objs.size = some o → h'.objs.size = s.heap.objs.size + 2 →
      (∀ b o, s.heap.get? b = some o → h'.get? b = some o) → Q (.ref (s.heap.objs.size + 1)) { s with heap := h' }) :
    wpAny (model prog w) A (call (.type "enumerate") [v]) Q E s := by
  refine callType_new F.called_enumerate (by decide) (F.typeCall_enumerate_1 _) (F.newCall_enumerate_1 _) (fun obj => F.args_object_init_2 obj _) F.entry_enumerate_new
    (enum_new1 B) ⟨h1, ?_⟩
  have hz : (s.heap.push o).objs.size = s.heap.objs.size + 1 := Heap.size_push ..
  show _ ∧ _
  rw [hz]
  have he : IsEnum ((s.heap.push o).push { cls := .type "enumerate", data := .fields #[.none, .bool false, .ref s.heap.objs.size, rawInt 0, .none, .none] }) (s.heap.objs.size + 1) s.heap.objs.size 0 .none := by
    have := Heap.get?_push_size (s.heap.push o) (o := { cls := .type "enumerate", data := .fields #[.none, .bool false, .ref s.heap.objs.size, rawInt 0, .none, .none] }) rfl
    rw [hz] at this; exact this
  refine ⟨⟨_, he, rfl⟩, h _ he (Heap.get?_push_of_some _ (Heap.get?_push_size _ B.free)) (by rw [Heap.size_push, hz]) fun b o x => Heap.get?_push_of_some _ (Heap.get?_push_of_some _ x)⟩
end
def iEnumB (K : PySem.W.Frag) (ta : TA) : TI := fun σ H R => ta σ H fun vs H1 => ∃ b a xs, vs = [.ref a] ∧ SqB K b H1 a xs ∧ R (JEnum K b a) H1
theorem pi_enumB {X : Cx} {e : Expr} {ta : TA} {p pos tpos : Pos} {elts : List Expr} {kk : Nat} (hg : Gl X "enumerate") (hm : X.mg "enumerate" = none) (ha : PA X [e] ta) (hs : starEach [e] X.env = [(false, eval e X.env)]) :
    PI X (.Tuple elts kk tpos) (.Call (.Name "enumerate" p) [e] [] pos) (iEnumB X.K ta) := by
  refine ⟨fun pins s σ H R I h => ?_⟩
  refine Call_ (ld_blt I hg hm boot_enumerate (PyProof.Rows.callWith_type1 (thn (ha.run pos pins s σ H _ I h) fun us s1 ⟨vs, H1, I1, r1, q1⟩ => ?_) hs rfl))
  obtain ⟨b, a, xs, ex, hq, q⟩ := q1
  subst ex
  cases r1 with
  | cons r rr =>
    cases rr
    cases r
    obtain ⟨its, rv, p', hal⟩ := seqB I1 hq
    refine enum_begins1 (beginsB b a its.toArray) p' fun h' he hit hsz hk => wpAny_pyIter_enum he ?_
    have I2 : Inv X pins σ H1 { s1 with heap := h' } := I1.kept (t' := s1.toks) hk
    refine ⟨s1.heap.objs.size + 1, [s1.heap.objs.size + 1, s1.heap.objs.size], _, _, H1, rfl, I2, turn_enumB b a (s1.heap.objs.size + 1) s1.heap.objs.size (Nat.ne_of_lt hal) (Nat.ne_of_gt (Nat.lt_succ_of_lt hal)), ⟨⟨.none, he⟩, itB_start hit, Nat.succ_ne_self _⟩, fun c hb => ?_, q⟩
    have e' : c = s1.heap.objs.size + 1 ∨ c = s1.heap.objs.size := by simpa using hb
    have hle : s1.heap.objs.size ≤ c := by
      rcases e' with z | z
      · rw [z]; exact Nat.le_add_right _ _
      · rw [z]; exact Nat.le_refl _
    exact I1.fpOk hle (I1.hok.fresh hle)
/-! ### zip of two -/
def JZip (K : PySem.W.Frag) (b c : Bool) (a1 a2 : Addr) : It :=
  ⟨fun i H => ∃ (xs ys : List V) (x y : V), SqB K b H a1 xs ∧ SqB K c H a2 ys ∧ xs[i]? = some x ∧ ys[i]? = some y,
    fun i H v H' => ∃ T x y, v = .ref T ∧ H T = none ∧ H' = upd H T (.tup [x, y]) ∧ (∀ xs, SqB K b H a1 xs → xs[i]? = some x) ∧ ∀ ys, SqB K c H a2 ys → ys[i]? = some y,
    fun i H => ∃ xs ys : List V, SqB K b H a1 xs ∧ SqB K c H a2 ys ∧ i ≤ xs.length ∧ i ≤ ys.length ∧ (i = xs.length ∨ i = ys.length)⟩
theorem turn_zipB {P : Program} {w : World} {K : PySem.W.Frag} {elts : List Expr} {kk : Nat} {tpos : Pos} (b c : Bool) {a1 a2 z TI TO i1 i2 : Addr} (S : ZipSep2 z TI TO i1 i2 [i1, a1] [i2, a2]) (h1i : a1 ≠ i1) (h2i : a2 ≠ i2) :
    Turn P w K (.Tuple elts kk tpos) (JZip K b c a1 a2) [z, TI, TO, i1, i2] z (fun i h => IsZip h z TI TO .none ∧ IsTupOf2 h TI (.ref i1) (.ref i2) ∧ (∃ x y, IsTupOf2 h TO x y) ∧ ItB b h i1 a1 i ∧ ItB c h i2 a2 i) where
  mem := by simp
  obj := fun i h st d hc => by
    obtain ⟨hz, hTI, ⟨x, y, hTO⟩, h1, h2⟩ := st
    have e' : d = z ∨ d = TI ∨ d = TO ∨ d = i1 ∨ d = i2 := by simpa using hc
    rcases e' with q | q | q | q | q
    · rw [q]; exact ⟨_, hz, fun v q => nomatch q⟩
    · rw [q]; exact ⟨_, hTI, fun v q => nomatch q⟩
    · rw [q]; exact ⟨_, hTO, fun v q => nomatch q⟩
    · rw [q]; exact itB_obj h1
    · rw [q]; exact itB_obj h2
  keep := fun i h h' st k => by
    obtain ⟨hz, hTI, ⟨x, y, hTO⟩, h1, h2⟩ := st
    exact ⟨k z (by simp) _ hz, k TI (by simp) _ hTI, ⟨x, y, k TO (by simp) _ hTO⟩, itB_at h1 fun o q => k i1 (by simp) o q, itB_at h2 fun o q => k i2 (by simp) o q⟩
  item := by
    intro X hP hw hK hc i pins s σ H E I hf st hg
    subst hP hw hK
    obtain ⟨hz, hTI, ⟨x0, y0, hTO⟩, h1, h2⟩ := st
    obtain ⟨xs, ys, x, y, hqx, hqy, hx, hy⟩ := hg
    obtain ⟨its, rv, p, _⟩ := seqB I hqx
    obtain ⟨its2, rv2, p2, _⟩ := seqB I hqy
    obtain ⟨u, hu, ru⟩ := rv.get hx
    obtain ⟨u2, hu2, ru2⟩ := rv2.get hy
    have hzl : z < s.heap.objs.size := Heap.lt_size hz
    have hl1 : i < its.toArray.size := by
      have := (List.getElem?_eq_some_iff.mp hu).1
      simpa using this
    have hl2 : i < its2.toArray.size := by
      have := (List.getElem?_eq_some_iff.mp hu2).1
      simpa using this
    have hh := I.ok.hd hc
    refine wpAny_pyNext_zipD2_item S (drawsB (A := X.A.in1) hh b i1 a1 h1i its.toArray) (drawsB (A := X.A.in1) hh c i2 a2 h2i its2.toArray) hz hTI hTO ⟨h1, p⟩ ⟨h2, p2⟩ hl1 hl2 fun y1 y2 h' tk hy1 hy2 z' TO' h1' h2' hT hsz hk => ?_
    have e1 : y1 = u := by
      have : its.toArray[i]? = some u := by simpa using hu
      rw [this] at hy1
      exact (Option.some.inj hy1).symm
    have e2 : y2 = u2 := by
      have : its2.toArray[i]? = some u2 := by simpa using hu2
      rw [this] at hy2
      exact (Option.some.inj hy2).symm
    subst e1 e2
    refine ⟨_, rfl, wpAny_letOwnedTupleGo_zip (s := { s with heap := h', toks := tk }) z' fun h'' z'' sb => ?_⟩
    have hT2 : h''.get? s.heap.objs.size = some { cls := .type "tuple", data := .seq #[y1, y2] } := (sb.2 _ (Nat.ne_of_gt hzl)).trans hT
    have new : ObjOk X.prog X.w (upd H s.heap.objs.size (.tup [x, y])) h'' s.heap.objs.size (.tup [x, y]) :=
      ⟨by show 2 ≤ sizeLine; decide, [y1, y2], .cons ru (.cons ru2 .nil), ⟨_, hT2, rfl, _, rfl⟩⟩
    have I1 : Inv X pins σ (upd H s.heap.objs.size (.tup [x, y])) { s with heap := h'', toks := tk } :=
      I.turnedNew (ch := [z, TI, TO, i1, i2]) (fun d o hb q => (sb.2 d (fun q' => hb (by simp [q']))).trans (hk d o (fun q' => hb (by simp [q'])) (fun q' => hb (by simp [q'])) (fun q' => hb (by simp [q'])) (fun q' => hb (by simp [q'])) q)) hf (Nat.le_refl _) new
    refine ⟨.ref s.heap.objs.size, _, I1, rfl, ⟨_, x, y, rfl, I.hok.fresh (Nat.le_refl _), rfl, fun l hl => by rw [seqB_inj I hl hqx]; exact hx, fun l hl => by rw [seqB_inj I hl hqy]; exact hy⟩, ⟨z'', ?_, ⟨y1, y2, ?_⟩, ?_, ?_⟩, fun d hcm => ?_⟩
    · exact (sb.2 _ S.TIz).trans (hk _ _ S.TIz S.TITO S.TIi1 S.TIi2 hTI)
    · exact (sb.2 _ S.TOz).trans TO'
    · exact itB_at h1'.1 fun o q => (sb.2 _ (Ne.symm S.zi1)).trans q
    · exact itB_at h2'.1 fun o q => (sb.2 _ (Ne.symm S.zi2)).trans q
    · have hlt : d < s.heap.objs.size := by
        have e' : d = z ∨ d = TI ∨ d = TO ∨ d = i1 ∨ d = i2 := by simpa using hcm
        rcases e' with q | q | q | q | q
        · rw [q]; exact hzl
        · rw [q]; exact Heap.lt_size hTI
        · rw [q]; exact Heap.lt_size hTO
        · rw [q]; obtain ⟨_, e1, _⟩ := itB_obj h1; exact Heap.lt_size e1
        · rw [q]; obtain ⟨_, e2, _⟩ := itB_obj h2; exact Heap.lt_size e2
      rw [upd_ne (Nat.ne_of_lt hlt)]
      exact (hf d hcm).1
  done := by
    intro X hP hw hK hc i pins s σ H E I hf st hg
    subst hP hw hK
    obtain ⟨hz, hTI, ⟨x0, y0, hTO⟩, h1, h2⟩ := st
    obtain ⟨xs, ys, hqx, hqy, l1, l2, hend⟩ := hg
    obtain ⟨its, rv, p, _⟩ := seqB I hqx
    obtain ⟨its2, rv2, p2, _⟩ := seqB I hqy
    have m1 := rv.length
    have m2 := rv2.length
    have hh := I.ok.hd hc
    refine wpAny_pyNext_zipD2_end S (drawsB (A := X.A.in1) hh b i1 a1 h1i its.toArray) (drawsB (A := X.A.in1) hh c i2 a2 h2i its2.toArray) hz hTI hTO ⟨h1, p⟩ ⟨h2, p2⟩ (by simp; omega) (by simp; omega) (by simp; omega) fun h' tk hk => ⟨rfl, I.turnedL (t' := tk) (ch := [z, TI, TO, i1, i2]) (fun d o hb q =>
      hk d o (fun q' => hb (by simp [q'])) (fun q' => hb (by simp [q'])) (fun q' => hb (by simp [q'])) (fun q' => hb (by simp [q'])) q) hf⟩
  self := fun A i s Q E st h => wpAny_pyIter_zip st.1 h
def iZipB (K : PySem.W.Frag) (ta : TA) : TI := fun σ H R => ta σ H fun vs H1 => ∃ b c a1 a2 xs ys, vs = [.ref a1, .ref a2] ∧ SqB K b H1 a1 xs ∧ SqB K c H1 a2 ys ∧ R (JZip K b c a1 a2) H1
theorem pi_zipB {X : Cx} {e e2 : Expr} {ta : TA} {p pos tpos : Pos} {elts : List Expr} {kk : Nat} (hg : Gl X "zip") (hm : X.mg "zip" = none) (ha : PA X [e, e2] ta)
    (hs : starEach [e, e2] X.env = (false, eval e X.env) :: starEach [e2] X.env) (hpl : (backTo pos (starEach [e2] X.env)).any (·.1) = false) :
    PI X (.Tuple elts kk tpos) (.Call (.Name "zip" p) [e, e2] [] pos) (iZipB X.K ta) := by
  refine ⟨fun pins s σ H R I h => ?_⟩
  refine Call_ (ld_blt I hg hm PyProof.Rows.boot_zip (PyProof.Rows.callWith_type1 (thn (ha.run pos pins s σ H _ I h) fun us s1 ⟨vs, H1, I1, r1, q1⟩ => ?_) hs hpl))
  obtain ⟨b, c, a1, a2, xs, ys, ex, hqx, hqy, q⟩ := q1
  subst ex
  cases r1 with
  | cons r rr =>
    cases rr with
    | cons r' rr =>
      cases rr
      cases r
      cases r'
      obtain ⟨its, rv, p1, l1⟩ := seqB I1 hqx
      obtain ⟨its2, rv2, p2, l2⟩ := seqB I1 hqy
      refine zip_begins2 (beginsB b a1 its.toArray) (beginsB c a2 its2.toArray) p1 p2 fun h' hz hTI hTO h1 h2 hsz hk => wpAny_pyIter_zip hz ?_
      have I2 : Inv X pins σ H1 { s1 with heap := h' } := I1.kept (t' := s1.toks) hk
      refine ⟨s1.heap.objs.size + 4, [s1.heap.objs.size + 4, s1.heap.objs.size + 2, s1.heap.objs.size + 3, s1.heap.objs.size, s1.heap.objs.size + 1], _, _, H1, rfl, I2,
        turn_zipB b c (zip_sep2 (N := s1.heap.objs.size) (fp1 := [a1]) (fp2 := [a2]) (fun d hd => by rw [List.mem_singleton.mp hd]; exact l1) fun d hd => by rw [List.mem_singleton.mp hd]; exact l2) (Nat.ne_of_lt l1) (Nat.ne_of_lt (Nat.lt_succ_of_lt l2)),
        ⟨hz, hTI, ⟨_, _, hTO⟩, itB_start h1, itB_start h2⟩, fun d hcm => ?_, q⟩
      have e' : d = s1.heap.objs.size + 4 ∨ d = s1.heap.objs.size + 2 ∨ d = s1.heap.objs.size + 3 ∨ d = s1.heap.objs.size ∨ d = s1.heap.objs.size + 1 := by simpa using hcm
      have hle : s1.heap.objs.size ≤ d := by
        rcases e' with z | z | z | z | z
        · rw [z]; exact Nat.le_add_right _ _
        · rw [z]; exact Nat.le_add_right _ _
        · rw [z]; exact Nat.le_add_right _ _
        · rw [z]; exact Nat.le_refl _
        · rw [z]; exact Nat.le_add_right _ _
      exact I1.fpOk hle (I1.hok.fresh hle)

open PySem PySem.Spec PyProof.Rows L2
/-! ### a, b = a list -/
section
variable {prog : Program} {w : World} {A : Around} {E : Value → Shared → Prop} {s : Shared}
theorem drawL {it t : Addr} {items : Array Value} (hne : t ≠ it) : ∀ (n i : Nat) (s : Shared) (Q : List Value → Shared → Prop), s.heap.IsListIter it t i → s.heap.IsList t items → i + n ≤ items.size →
    (∀ h', h'.IsListIter it t (i + n) → Heap.SameBut it s.heap h' → Q ((items.toList.drop i).take n) { s with heap := h' }) → wpAny (model prog w) A (draw (.ref it) n) Q E s
  | 0, i, s, Q, hit, _, _, hQ => by
    show wpAny _ _ (pure []) Q E s
    exact wpAny_pure (by simpa using hQ s.heap hit (Heap.SameBut.refl ..))
  | n + 1, i, s, Q, hit, ht, hle, hQ => by
    have hlt : i < items.size := by omega
    show wpAny _ _ (pyNext (.ref it) >>= _) Q E s
    refine wpAny_bind (wpAny_pyNext_list_item hit ht (x := items[i]) (by simp [hlt]) fun h₁ hit₁ hs₁ => ?_)
    refine wpAny_bind (wpAny_holding (drawL hne n (i + 1) _ _ hit₁ (ht.extBut hs₁.extBut hne) (by omega) fun h₂ hit₂ hs₂ => wpAny_pure ?_))
    have hd : items.toList.drop i = items[i] :: items.toList.drop (i + 1) := by simp [List.drop_eq_getElem_cons, hlt]
    have := hQ h₂ (by rw [show i + (n + 1) = i + 1 + n by omega]; exact hit₂) (hs₁.trans hs₂)
    rw [hd, List.take_succ_cons] at this
    exact this
theorem unpackL {t : Addr} {items : Array Value} {Q : List Value → Shared → Prop} (hh : A.handled = none) (ht : s.heap.IsList t items)
    (hQ : ∀ h', Heap.ExtBut s.heap.objs.size s.heap h' → Q items.toList { s with heap := h' }) : wpAny (model prog w) A (unpackItems (.ref t) items.size none) Q E s := by
  have hlt : t ≠ s.heap.objs.size := by obtain ⟨o, ho, _⟩ := ht; exact Nat.ne_of_lt (Heap.lt_size ho)
  unfold unpackItems
  refine wpAny_bind ?_
  · unfold notIterableAtAll
    refine wpAny_bind (wpAny_specialOf ht.typeIs F.slot_list_iter.lookup ?_)
    refine wpAny_pure ?_
    simp only [Bool.false_eq_true, if_false]
    refine wpAny_bind (wpAny_holding (wpAny_pyIter_list ht ?_))
    refine wpAny_bind (wpAny_holding (drawL hlt items.size 0 _ _ ⟨_, Heap.get?_push_size _ rfl, rfl, rfl⟩ (ht.push _) (by omega) fun h₁ hit₁ hs₁ => ?_))
    have hall : List.take items.size (List.drop 0 items.toList) = items.toList := by
      rw [List.drop_zero]; exact List.take_of_length_le (by simp)
    rw [hall]
    rw [if_neg (by simp)]
    have ht₁ : h₁.IsList t items := (ht.push _).extBut hs₁.extBut hlt
    refine wpAny_bind (wpAny_holding (wpAny_pyNext_list_end hh hit₁ ht₁ (by simp) fun h₂ he₂ => ?_))
    simp only [Option.isSome_none, Bool.false_eq_true, if_false]
    refine wpAny_pure (hQ h₂ fun b o hb e => he₂ b o hb (hs₁.extBut b o hb (Heap.get?_push_of_some _ e)))
theorem assign_tupL {env : Env} {elts : List Expr} {x1} {pos : Pos} {t : Addr} {items : Array Value} {Q : Unit → Shared → Prop} (hh : A.handled = none) (ht : s.heap.IsList t items)
    (hn : (assignEach elts env).length = items.size) (hstar : (assignEach elts env).findIdx? (·.1) = none)
    (h : ∀ h', Heap.ExtBut s.heap.objs.size s.heap h' → wpAny (model prog w) A (assignInOrder ((assignEach elts env).map (·.2)) items.toList) Q E { s with heap := h' }) :
    wpAny (model prog w) A (assign (.Tuple elts x1 pos) env (.ref t)) Q E s := by
  rw [assign_Tuple]
  refine wpAny_bind (wpAny_standAt ?_)
  unfold unpack
  rw [hn, hstar]
  exact wpAny_bind (wpAny_holding (unpackL hh ht h))
end
theorem assignEach_ns : ∀ {es : List Expr} {env : Env}, es.all nst = true → (assignEach es env).length = es.length ∧ (assignEach es env).findIdx? (·.1) = none
  | [], _, _ => ⟨rfl, rfl⟩
  | e :: r, env, h => by
    rw [List.all_cons, Bool.and_eq_true] at h
    obtain ⟨h1, h2⟩ := assignEach_ns (env := env) h.2
    have he : assignEach (e :: r) env = (false, assign e env) :: assignEach r env := by
      have h0 := h.1
      cases e <;> first | rfl | cases h0
    rw [he]
    refine ⟨by rw [List.length_cons, List.length_cons, h1], ?_⟩
    rw [List.findIdx?_cons, h2]
    rfl
theorem assignEach_cons {e : Expr} {r : List Expr} {env : Env} (h : nst e = true) : (assignEach (e :: r) env).map (·.2) = assign e env :: (assignEach r env).map (·.2) := by
  cases e <;> first | rfl | cases h
section
variable {X : Cx}
def gSeq (K : PySem.W.Frag) (n : Nat) (t : TGs) : TG := fun v σ H Q => ∃ b a xs, v = .ref a ∧ SqB K b H a xs ∧ xs.length = n ∧ t xs σ H Q
theorem pg_seq {es : List Expr} {k : Nat} {pos : Pos} {t : TGs} {n : Nat} (hc : X.calm = true) (h : PGs X es t) (hn : es.length = n) (hs : es.all nst = true) : PG X (.Tuple es k pos) (gSeq X.K n t) := by
  refine ⟨fun pins s σ H v u Q I r hw => ?_⟩
  obtain ⟨b, a, xs, e1, hq, hl, hw⟩ := hw
  subst e1
  cases r
  obtain ⟨h1, h2⟩ := assignEach_ns (env := X.env) hs
  obtain ⟨its, rv, ht, hz⟩ := seqB I hq
  have fin : ∀ h', Heap.ExtBut s.heap.objs.size s.heap h' → wpAny (model X.prog X.w) X.A (assignInOrder ((assignEach es X.env).map (·.2)) its.toArray.toList) (fun _ s' => ∃ σ' H', Inv X pins σ' H' s' ∧ Q σ' H') X.xe { s with heap := h' } := fun h' hx => by
    have I1 : Inv X pins σ H { s with heap := h' } := I.kept (t' := s.toks) fun b o e => hx b o (Nat.ne_of_lt (Heap.lt_size e)) e
    exact h.run pins _ σ H xs _ Q I1 (by simpa using rv) hw
  have hsz : (assignEach es X.env).length = its.toArray.size := by rw [h1, hn, ← hl, List.size_toArray, rv.length]
  cases b with
  | true => exact assign_tupL (I.ok.hd hc) ht hsz h2 fin
  | false => exact assign_Tuple_tuple (I.ok.hd hc) ht hsz h2 fin
/-! ## targets -/
inductive Tg where
  | nm (i : Nat) | nl | cn (a b : Tg) | tu (l : Tg)
mutual
def bindT : Tg → D → En → Option En
  | .nm i, d, env => if i < env.length then some (env.set i (.d d)) else none
  | .tu l, .tuple ds, env => bindTs l ds env
  | .tu l, .list ds, env => bindTs l ds env
  | _, _, _ => none
def bindTs : Tg → List D → En → Option En
  | .nl, [], env => some env
  | .cn a b, d :: ds, env => match bindT a d env with
    | some env' => bindTs b ds env'
    | none => none
  | _, _, _ => none
end
/-- the slots that a target stores -/
def Tg.slots : Tg → List Nat
  | .nm i => [i]
  | .nl => []
  | .cn a b => a.slots ++ b.slots
  | .tu l => l.slots
structure Off (l : List Nat) (σ σ' : L2.St) : Prop where
  len : σ'.length = σ.length
  at_ : ∀ j, j ∉ l → σ'[j]? = σ[j]?
structure OffE (l : List Nat) (env env' : En) : Prop where
  own : ∀ (j : Nat) (ds : List D), env'[j]? = some (Sl.own ds) → env[j]? = some (Sl.own ds) ∧ j ∉ l
theorem Off.refl (σ : L2.St) : Off [] σ σ := ⟨rfl, fun _ _ => rfl⟩
theorem Off.trans {l m : List Nat} {σ σ1 σ2 : L2.St} (a : Off l σ σ1) (b : Off m σ1 σ2) : Off (l ++ m) σ σ2 :=
  ⟨b.len.trans a.len, fun j h => by rw [List.mem_append, not_or] at h; exact (b.at_ j h.2).trans (a.at_ j h.1)⟩
theorem OffE.trans {l m : List Nat} {σ σ1 σ2 : En} (a : OffE l σ σ1) (b : OffE m σ1 σ2) : OffE (l ++ m) σ σ2 :=
  ⟨fun j ds h => by
    obtain ⟨h1, h2⟩ := b.own j ds h
    obtain ⟨h3, h4⟩ := a.own j ds h1
    exact ⟨h3, by rw [List.mem_append, not_or]; exact ⟨h4, h2⟩⟩⟩
def tG (K : PySem.W.Frag) (T : Tg) : TG := fun v σ H Q => ∃ F t env τ d env', Sok K F H t env τ σ ∧ Dq K F v d ∧ bindT T d env = some env' ∧ ∀ σ', Sok K F H t env' τ σ' → Off T.slots σ σ' → OffE T.slots env env' → Q σ' H
def tGs (K : PySem.W.Frag) (T : Tg) : TGs := fun vs σ H Q => ∃ F t env τ ds env', Sok K F H t env τ σ ∧ DqAll K F vs ds ∧ bindTs T ds env = some env' ∧ ∀ σ', Sok K F H t env' τ σ' → Off T.slots σ σ' → OffE T.slots env env' → Q σ' H
theorem weakG {e : Expr} {t t' : TG} (h : PG X e t) (w : ∀ v σ H Q, t' v σ H Q → t v σ H Q) : PG X e t' := ⟨fun pins s σ H v u Q I r q => h.run pins s σ H v u Q I r (w _ _ _ _ q)⟩
theorem weakGs {e : List Expr} {t t' : TGs} (h : PGs X e t) (w : ∀ v σ H Q, t' v σ H Q → t v σ H Q) : PGs X e t' := ⟨fun pins s σ H v u Q I r q => h.run pins s σ H v u Q I r (w _ _ _ _ q)⟩
theorem Sok.setD {K : PySem.W.Frag} {F H : Hp} {t : Option Addr} {env : En} {τ : Tp} {σ : L2.St} {i : Nat} {v : V} {d : D} (S : Sok K F H t env τ σ) (hi : i < env.length) (h : Dq K F v d) : Sok K F H t (env.set i (.d d)) τ (σ.set i (some v)) := by
  refine ⟨S.same, by rw [List.length_set, List.length_set, S.len], fun j s e => ?_, fun j k ds es h1 h2 hne => ?_, S.tape⟩
  · by_cases hj : i = j
    · subst hj
      rw [List.getElem?_set_self hi] at e
      cases e
      exact ⟨v, List.getElem?_set_self (by rw [← S.len]; exact hi), h⟩
    · rw [List.getElem?_set_ne hj] at e
      have so := S.slot j s e
      cases s with
      | no => trivial
      | d x =>
        obtain ⟨u, z1, z2⟩ := so
        exact ⟨u, by rw [List.getElem?_set_ne hj]; exact z1, z2⟩
      | own ds =>
        obtain ⟨a, vs, z1, z2⟩ := so
        exact ⟨a, vs, by rw [List.getElem?_set_ne hj]; exact z1, z2⟩
      | tp =>
        obtain ⟨a, z1, z2⟩ := so
        exact ⟨a, z1, by rw [List.getElem?_set_ne hj]; exact z2⟩
      | ob fl =>
        obtain ⟨p, C, dx, fs, z1, z2⟩ := so
        exact ⟨p, C, dx, fs, by rw [List.getElem?_set_ne hj]; exact z1, z2⟩
  · have hj : i ≠ j := fun q => by
      subst q
      rw [List.getElem?_set_self hi] at h1
      cases h1
    have hk : i ≠ k := fun q => by
      subst q
      rw [List.getElem?_set_self hi] at h2
      cases h2
    rw [List.getElem?_set_ne hj] at h1 ⊢
    rw [List.getElem?_set_ne hk] at h2 ⊢
    exact S.dis j k ds es h1 h2 hne
theorem off_set {σ : L2.St} {i : Nat} {v : Option V} : Off [i] σ (σ.set i v) := ⟨by rw [List.length_set], fun j hj => by
  rw [List.mem_singleton] at hj
  rw [List.getElem?_set_ne (Ne.symm hj)]⟩
theorem offE_set {env : En} {i : Nat} {d : D} (hi : i < env.length) : OffE [i] env (env.set i (.d d)) := ⟨fun j ds h => by
  by_cases hj : i = j
  · subst hj
    rw [List.getElem?_set_self hi] at h
    cases h
  · rw [List.getElem?_set_ne hj] at h
    exact ⟨h, by rw [List.mem_singleton]; exact Ne.symm hj⟩⟩
theorem tgNm_ok {i : Nat} {x : Str} {pos : Pos} (hN : X.N.Nodup) (hi : X.N[i]? = some x) (hx : Loc X.env.scope x) (hf : X.fn x = true ∨ X.env.scope.names.lookup x = some .local) : PG X (.Name x pos) (tG X.K (.nm i)) := by
  refine weakG (pg_name hN hi hx hf) fun v σ H Q ⟨F, t, env, τ, d, env', S, hd, e, q⟩ => ?_
  unfold bindT at e
  split at e
  · rename_i hl
    cases e
    exact q _ (S.setD hl hd) off_set (offE_set hl)
  · cases e
theorem tgNl_ok : PGs X [] (tGs X.K .nl) := weakGs pgs_nil fun v σ H Q ⟨F, t, env, τ, ds, env', S, hd, e, q⟩ => by
  cases ds with
  | cons d ds => unfold bindTs at e; cases e
  | nil =>
    unfold bindTs at e
    cases e
    cases hd
    exact ⟨rfl, q σ S (Off.refl σ) ⟨fun j ds h => ⟨h, by simp [Tg.slots]⟩⟩⟩
theorem tgCn_ok {a b : Tg} {e : Expr} {es : List Expr} (ha : PG X e (tG X.K a)) (hb : PGs X es (tGs X.K b)) (hs : nst e = true) : PGs X (e :: es) (tGs X.K (.cn a b)) := by
  refine weakGs (pgs_cons ha hb (assignEach_cons hs)) fun v σ H Q ⟨F, t, env, τ, ds, env', S, hd, e, q⟩ => ?_
  cases ds with
  | nil => unfold bindTs at e; cases e
  | cons d ds =>
    unfold bindTs at e
    split at e
    · rename_i env1 e1
      cases hd with
      | cons h1 h2 =>
        refine ⟨_, _, rfl, F, t, env, τ, d, env1, S, h1, e1, fun σ1 S1 o1 oe1 => ?_⟩
        exact ⟨F, t, env1, τ, ds, env', S1, h2, e, fun σ2 S2 o2 oe2 => q σ2 S2 (o1.trans o2) (oe1.trans oe2)⟩
    · cases e
def Tg.len : Tg → Nat
  | .cn _ b => b.len + 1
  | _ => 0
theorem bind_len : ∀ (l : Tg) {ds : List D} {env env' : En}, bindTs l ds env = some env' → ds.length = l.len
  | .nl, [], _, _, _ => rfl
  | .nl, _ :: _, _, _, e => by unfold bindTs at e; cases e
  | .cn a b, [], _, _, e => by unfold bindTs at e; cases e
  | .cn a b, d :: ds, _, _, e => by
    unfold bindTs at e
    split at e
    · rw [List.length_cons, bind_len b e]
      rfl
    · cases e
  | .nm _, _, _, _, e => by unfold bindTs at e; cases e
  | .tu _, _, _, _, e => by unfold bindTs at e; cases e
theorem tgTu_ok {l : Tg} {es : List Expr} {k : Nat} {pos : Pos} (hc : X.calm = true) (h : PGs X es (tGs X.K l)) (hs : es.all nst = true) (hl : es.length = l.len) : PG X (.Tuple es k pos) (tG X.K (.tu l)) := by
  refine weakG (pg_seq hc h hl hs) fun v σ H Q ⟨F, t, env, τ, d, env', S, hd, e, q⟩ => ?_
  cases hd with
  | tup s a =>
    rename_i ad xs ds _
    have e' : bindTs l ds env = some env' := by unfold bindT at e; exact e
    exact ⟨false, ad, xs, rfl, seqT_mono S.same s, by rw [dqAll_len a]; exact bind_len l e', F, t, env, τ, ds, env', S, a, e', q⟩
  | lst s a =>
    rename_i ad xs ds _
    have e' : bindTs l ds env = some env' := by unfold bindT at e; exact e
    exact ⟨true, ad, xs, rfl, SqL.of (S.same _ _ s), by rw [dqAll_len a]; exact bind_len l e', F, t, env, τ, ds, env', S, a, e', q⟩
  | _ => unfold bindT at e; cases e
end

open PySem PySem.Spec PyProof.Rows L2
/-! ### sources of iteration -/
theorem pi_seqB {X : Cx} {tg l : Expr} {tl : TE} (hl : PE X l tl) : PI X tg l (fun σ H R => tl σ H fun x H1 => ∃ b a xs, x = .ref a ∧ SqB X.K b H1 a xs ∧ R (if b = true then Itl X.K a else Itt X.K a) H1) := by
  refine ⟨fun pins s σ H R I h => ?_⟩
  refine thn (hl.run pins s σ H _ I h) fun v s1 ⟨x, H1, I1, r1, q1⟩ => ?_
  obtain ⟨b, a, xs, e, hq, q⟩ := q1
  subst e
  cases r1
  cases b with
  | true =>
    obtain ⟨its, rv, p, hz⟩ := I1.list hq
    refine wpAny_pyIter_list p.isList ?_
    refine ⟨s1.heap.objs.size, [s1.heap.objs.size], _, _, H1, rfl, I1.kept (t' := s1.toks) fun b o e => Heap.get?_push_of_some _ e, turn_list a _, ⟨_, Heap.get?_push_size _ rfl, rfl, rfl⟩, fun b hb => ?_, q⟩
    have e : b = s1.heap.objs.size := by simpa using hb
    subst e
    exact I1.fpOk (Nat.le_refl _) (I1.hok.fresh (Nat.le_refl _))
  | false =>
    obtain ⟨its, rv, p, hz⟩ := I1.tuple hq
    refine wpAny_pyIter_tuple (show s1.heap.IsTuple a its.toArray from p) ?_
    refine ⟨s1.heap.objs.size, [s1.heap.objs.size], _, _, H1, rfl, I1.kept (t' := s1.toks) fun b o e => Heap.get?_push_of_some _ e, turn_tuple a _, ⟨_, Heap.get?_push_size _ rfl, rfl, rfl⟩, fun b hb => ?_, q⟩
    have e : b = s1.heap.objs.size := by simpa using hb
    subst e
    exact I1.fpOk (Nat.le_refl _) (I1.hok.fresh (Nat.le_refl _))

/-- the iterator gives the items its, as long as F grows and G stays -/
structure ItOk (K : PySem.W.Frag) (t : Option Addr) (F G : Hp) (J : It) (its : List D) : Prop where
  go : ∀ F1 H1 env τ σ i, Same F F1 → Same G H1 → Sok K F1 H1 t env τ σ → i < its.length → J.go i H1
  yld : ∀ F1 H1 env τ σ i d, Same F F1 → Same G H1 → Sok K F1 H1 t env τ σ → its[i]? = some d → ∀ x H2, J.yld i H1 x H2 → ∃ F2, Post K t τ F1 H1 F2 H2 ∧ Dq K F2 x d
  stop : ∀ F1 H1 env τ σ, Same F F1 → Same G H1 → Sok K F1 H1 t env τ σ → J.stop its.length H1
section
variable {K : PySem.W.Frag} {t : Option Addr} {F G : Hp}
theorem Sq.mono {b : Bool} {H H' : Hp} {a : Addr} {vs : List V} (h : Sq K b H a vs) (e : Same H H') : Sq K b H' a vs := by
  cases b with
  | true => exact e _ _ h
  | false => exact seqT_mono e h
theorem itOk_seq {b : Bool} {a : Addr} {vs : List V} {ds : List D} (d : DqAll K F vs ds) (s : Sq K b G a vs) : ItOk K t F G (if b = true then Itl K a else Itt K a) ds := by
  have hl := dqAll_len d
  cases b with
  | true =>
    have sq : ∀ {H1}, Same G H1 → SqL K H1 a vs := fun e => SqL.of (e _ _ s)
    refine ⟨fun F1 H1 env τ σ i hF hG S hi => ?_, fun F1 H1 env τ σ i d1 hF hG S hi x H2 hy => ?_, fun F1 H1 env τ σ hF hG S => ?_⟩
    · exact ⟨vs, vs[i]'(by omega), sq hG, by simp [hl, hi]⟩
    · obtain ⟨e1, e2⟩ := hy
      subst e1
      obtain ⟨v, h1, h2⟩ := dqAll_at d hi
      have := e2 vs (sq hG)
      rw [h1] at this
      cases this
      exact ⟨F1, .refl S, dq_mono hF h2⟩
    · exact ⟨vs, sq hG, by omega⟩
  | false =>
    have sq : ∀ {H1}, Same G H1 → SqT K H1 a vs := fun e => seqT_mono e s
    refine ⟨fun F1 H1 env τ σ i hF hG S hi => ?_, fun F1 H1 env τ σ i d1 hF hG S hi x H2 hy => ?_, fun F1 H1 env τ σ hF hG S => ?_⟩
    · exact ⟨vs, vs[i]'(by omega), sq hG, by simp [hl, hi]⟩
    · obtain ⟨e1, e2⟩ := hy
      subst e1
      obtain ⟨v, h1, h2⟩ := dqAll_at d hi
      have := e2 vs (sq hG)
      rw [h1] at this
      cases this
      exact ⟨F1, .refl S, dq_mono hF h2⟩
    · exact ⟨vs, sq hG, by omega⟩
def rangeD (lo : Int) (n : Nat) : List D := (List.range n).map fun i => .int (lo + (i : Nat))
def rangeC (lo c : Int) (n : Nat) : List D := (List.range n).map fun i => .int (lo + (i : Nat) * c)
theorem itOk_rangeC (lo c : Int) (n : Nat) : ItOk K t F G (Itc lo c n) (rangeC lo c n) := by
  have hl : (rangeC lo c n).length = n := by simp [rangeC]
  refine ⟨fun F1 H1 env τ σ i hF hG S hi => ?_, fun F1 H1 env τ σ i d1 hF hG S hi x H2 hy => ?_, fun F1 H1 env τ σ hF hG S => ?_⟩
  · rw [hl] at hi; exact hi
  · obtain ⟨e1, e2⟩ := hy
    subst e1 e2
    have hi' : i < n := by
      have := (List.getElem?_eq_some_iff.mp hi).1
      omega
    have : d1 = .int (lo + (i : Nat) * c) := by
      simp [rangeC, hi'] at hi
      exact hi.symm
    subst this
    exact ⟨F1, .refl S, .int _⟩
  · show n ≤ _
    omega
theorem itOk_range (lo : Int) (n : Nat) : ItOk K t F G (Itr lo n) (rangeD lo n) := by
  have hl : (rangeD lo n).length = n := by simp [rangeD]
  refine ⟨fun F1 H1 env τ σ i hF hG S hi => ?_, fun F1 H1 env τ σ i d1 hF hG S hi x H2 hy => ?_, fun F1 H1 env τ σ hF hG S => ?_⟩
  · rw [hl] at hi; exact hi
  · obtain ⟨e1, e2⟩ := hy
    subst e1 e2
    have hi' : i < n := by
      have := (List.getElem?_eq_some_iff.mp hi).1
      omega
    have : d1 = .int (lo + (i : Nat)) := by
      simp [rangeD, hi'] at hi
      exact hi.symm
    subst this
    exact ⟨F1, .refl S, .int _⟩
  · rw [hl]; exact Nat.le_refl _
def enumFrom (k : Nat) : List D → List D
  | [] => []
  | d :: r => .tuple [.int (k : Nat), d] :: enumFrom (k + 1) r
theorem enumFrom_len : ∀ (ds : List D) (k : Nat), (enumFrom k ds).length = ds.length
  | [], _ => rfl
  | d :: r, k => by simp [enumFrom, enumFrom_len r]
theorem enumFrom_at : ∀ (ds : List D) (k i : Nat) (d : D), (enumFrom k ds)[i]? = some d → ∃ x, ds[i]? = some x ∧ d = .tuple [.int ((k + i : Nat) : Int), x]
  | [], _, i, _, h => by simp [enumFrom] at h
  | e :: r, k, 0, d, h => by
    simp [enumFrom] at h
    exact ⟨e, rfl, by simp [← h]⟩
  | e :: r, k, i + 1, d, h => by
    obtain ⟨x, h1, h2⟩ := enumFrom_at r (k + 1) i d (by simpa [enumFrom] using h)
    exact ⟨x, by simpa using h1, by rw [h2]; simp; omega⟩
theorem itOk_enum {b : Bool} {a : Addr} {vs : List V} {ds : List D} (d : DqAll K F vs ds) (s : Sq K b G a vs) : ItOk K t F G (JEnum K b a) (enumFrom 0 ds) := by
  have hl := dqAll_len d
  have sq : ∀ {H1}, Same G H1 → SqB K b H1 a vs := fun e => (s.mono e).B
  refine ⟨fun F1 H1 env τ σ i hF hG S hi => ?_, fun F1 H1 env τ σ i d1 hF hG S hi x H2 hy => ?_, fun F1 H1 env τ σ hF hG S => ?_⟩
  · rw [enumFrom_len] at hi
    exact ⟨vs, vs[i]'(by omega), sq hG, by simp [hl, hi]⟩
  · obtain ⟨T, y, rfl, hT, rfl, e2⟩ := hy
    obtain ⟨z, h1, rfl⟩ := enumFrom_at _ _ _ _ hi
    obtain ⟨v, h2, h3⟩ := dqAll_at d h1
    have := e2 vs (sq hG)
    rw [h2] at this
    cases this
    obtain ⟨P, r⟩ := S.newTup (vs := [.int (i : Nat), y]) (ds := [.int (i : Nat), z]) hT (.cons (.int _) (.cons (dq_mono hF h3) .nil))
    exact ⟨_, P, by simpa using r⟩
  · exact ⟨vs, sq hG, by rw [enumFrom_len]; exact hl⟩
def zipD : List D → List D → List D
  | a :: r, b :: s => .tuple [a, b] :: zipD r s
  | _, _ => []
theorem zipD_len : ∀ (ds es : List D), (zipD ds es).length = min ds.length es.length
  | [], _ => by simp [zipD]
  | _ :: _, [] => by simp [zipD]
  | a :: r, b :: s => by simp [zipD, zipD_len r s]
theorem zipD_at : ∀ (ds es : List D) (i : Nat) (d : D), (zipD ds es)[i]? = some d → ∃ x y, ds[i]? = some x ∧ es[i]? = some y ∧ d = .tuple [x, y]
  | [], _, i, _, h => by simp [zipD] at h
  | _ :: _, [], i, _, h => by simp [zipD] at h
  | a :: r, b :: s, 0, d, h => by
    simp [zipD] at h
    exact ⟨a, b, rfl, rfl, h.symm⟩
  | a :: r, b :: s, i + 1, d, h => by
    obtain ⟨x, y, h1, h2, h3⟩ := zipD_at r s i d (by simpa [zipD] using h)
    exact ⟨x, y, by simpa using h1, by simpa using h2, h3⟩
theorem itOk_zip {b c : Bool} {a1 a2 : Addr} {vs us : List V} {ds es : List D} (d : DqAll K F vs ds) (s : Sq K b G a1 vs) (d2 : DqAll K F us es) (s2 : Sq K c G a2 us) : ItOk K t F G (JZip K b c a1 a2) (zipD ds es) := by
  have hl := dqAll_len d
  have hl2 := dqAll_len d2
  have sq : ∀ {H1}, Same G H1 → SqB K b H1 a1 vs := fun e => (s.mono e).B
  have sq2 : ∀ {H1}, Same G H1 → SqB K c H1 a2 us := fun e => (s2.mono e).B
  refine ⟨fun F1 H1 env τ σ i hF hG S hi => ?_, fun F1 H1 env τ σ i d1 hF hG S hi x H2 hy => ?_, fun F1 H1 env τ σ hF hG S => ?_⟩
  · rw [zipD_len] at hi
    exact ⟨vs, us, vs[i]'(by omega), us[i]'(by omega), sq hG, sq2 hG, by simp, by simp⟩
  · obtain ⟨T, y1, y2, rfl, hT, rfl, e1, e2⟩ := hy
    obtain ⟨z1, z2, h1, h2, rfl⟩ := zipD_at _ _ _ _ hi
    obtain ⟨v, h3, h4⟩ := dqAll_at d h1
    obtain ⟨u, h5, h6⟩ := dqAll_at d2 h2
    have := e1 vs (sq hG)
    rw [h3] at this
    cases this
    have := e2 us (sq2 hG)
    rw [h5] at this
    cases this
    obtain ⟨P, r⟩ := S.newTup (vs := [y1, y2]) (ds := [z1, z2]) hT (.cons (dq_mono hF h4) (.cons (dq_mono hF h6) .nil))
    exact ⟨_, P, r⟩
  · exact ⟨vs, us, sq hG, sq2 hG, by rw [zipD_len]; omega, by rw [zipD_len]; omega, by rw [zipD_len]; omega⟩
end

open PySem PySem.Spec PyProof.Rows L2
/-! ### iterators by sources -/
abbrev EvI := En → Tp → Option (List D × List W × Tp)
def SrcOk (K : PySem.W.Frag) (F G : Hp) (env : En) (τ : Tp) (v : V) (w : W) : Prop := ∀ b ds, seqOf env τ w = some (b, ds) → ∃ a vs, v = .ref a ∧ DqAll K F vs ds ∧ Sq K b G a vs
inductive SrcAll (K : PySem.W.Frag) (F G : Hp) (env : En) (τ : Tp) : List V → List W → Prop
  | nil : SrcAll K F G env τ [] []
  | cons {v : V} {vs : List V} {w : W} {ws : List W} : SrcOk K F G env τ v w → SrcAll K F G env τ vs ws → SrcAll K F G env τ (v :: vs) (w :: ws)
def tI (K : PySem.W.Frag) (f : EvI) : TI := fun σ H R => ∃ F t env τ its ws τ', Sok K F H t env τ σ ∧ f env τ = some (its, ws, τ') ∧ ∀ F' H' J vs, Post K t τ' F H F' H' → RwAll K F' H' H t σ vs ws →
  (∀ F2 G, Same F' F2 → SrcAll K F2 G env τ' vs ws → ItOk K t F2 G J its) → R J H'
theorem weakI {X : Cx} {tg e : Expr} {t t' : TI} (h : PI X tg e t) (w : ∀ σ H R, t' σ H R → t σ H R) : PI X tg e t' := ⟨fun pins s σ H R I q => h.run pins s σ H R I (w _ _ _ q)⟩
def iSeq (a : EvF) : EvI := fun env τ => match a env τ with
  | some (w, τ1) => (match seqOf env τ1 w with
    | some (_, ds) => some (ds, [w], τ1)
    | none => none)
  | none => none
def iEnum (f : EvA) : EvI := fun env τ => match f env τ with
  | some ([w], τ1) => (match seqOf env τ1 w with
    | some (_, ds) => some (enumFrom 0 ds, [w], τ1)
    | none => none)
  | _ => none
def iZip (f : EvA) : EvI := fun env τ => match f env τ with
  | some ([w, u], τ1) => (match seqOf env τ1 w, seqOf env τ1 u with
    | some (_, ds), some (_, es) => some (zipD ds es, [w, u], τ1)
    | _, _ => none)
  | _ => none
def inR (j : Int) : Bool := decide (-(2 ^ 62) ≤ j) && decide (j < 2 ^ 62)
def iRng (f : EvA) : EvI := fun env τ => match f env τ with
  | some ([.d (.int j)], τ1) => if inR j = true then some (rangeD 0 j.toNat, [], τ1) else none
  | some ([.d (.int i), .d (.int j)], τ1) => if (inR i && inR j) = true then some (rangeD i (j - i).toNat, [], τ1) else none
  | _ => none
def stepOk (i j c : Int) : Bool := decide (c ≠ 0) && decide (c.natAbs < 1073741824) && Builtin.Range.small i j c && decide (0 ≤ Builtin.Range.rangeSize i j c)
def iRngS (f : EvA) : EvI := fun env τ => match f env τ with
  | some ([.d (.int i), .d (.int j), .d (.int c)], τ1) => if stepOk i j c = true then some (rangeC i c (Builtin.Range.rangeSize i j c).toNat, [], τ1) else none
  | _ => none
theorem inR_ok {j : Int} (h : inR j = true) : -(2 ^ 62) ≤ j ∧ j < 2 ^ 62 := by
  unfold inR at h
  rw [Bool.and_eq_true] at h
  exact ⟨of_decide_eq_true h.1, of_decide_eq_true h.2⟩
section
variable {X : Cx} {tg e : Expr}
theorem iSeq_ok {a : EvF} (h : PE X e (tE X.K a)) : PI X tg e (tI X.K (iSeq a)) :=
  weakI (pi_seqB h) fun σ H R ⟨F, t, env, τ, its, ws, τ', S, e1, q⟩ => by
    unfold iSeq at e1
    split at e1
    · rename_i w τ1 e2
      split at e1
      · rename_i b ds e3
        cases e1
        refine ⟨F, t, env, τ, w, _, S, e2, fun F1 v1 H1 P1 r1 => ?_⟩
        obtain ⟨a, vs, rfl, d, s⟩ := deref (S.post P1) r1 e3
        refine ⟨b, a, vs, rfl, s.B, q F1 H1 _ _ P1 (.cons r1 .nil) fun F2 G hs hG => ?_⟩
        cases hG with
        | cons h1 h2 =>
          obtain ⟨a', vs', z, d', s'⟩ := h1 _ _ e3
          cases z
          exact itOk_seq d' s'
      · cases e1
    · cases e1
theorem iEnum_ok {a : EvA} {p pos tpos : Pos} {elts : List Expr} {kk : Nat} {x : Str} (hx : x = "enumerate") (hg : Gl X x) (hm : X.mg x = none) (ha : PA X [e] (tA X.K a)) (hs : nst e = true) : PI X (.Tuple elts kk tpos) (.Call (.Name x p) [e] [] pos) (tI X.K (iEnum a)) := by
  subst hx
  refine weakI (pi_enumB hg hm ha (starEach_ns hs)) fun σ H R ⟨F, t, env, τ, its, ws, τ', S, e1, q⟩ => ?_
  unfold iEnum at e1
  split at e1
  · rename_i w τ1 e2
    split at e1
    · rename_i b ds e3
      cases e1
      refine ⟨F, t, env, τ, [w], _, S, e2, fun F1 vs H1 P1 r1 => ?_⟩
      cases r1 with
      | cons r r0 =>
        cases r0
        obtain ⟨a, vs, rfl, d, s⟩ := deref (S.post P1) r e3
        refine ⟨b, a, vs, rfl, s.B, q F1 H1 _ _ P1 (.cons r .nil) fun F2 G hs hG => ?_⟩
        cases hG with
        | cons h1 h2 =>
          obtain ⟨a', vs', z, d', s'⟩ := h1 _ _ e3
          cases z
          exact itOk_enum d' s'
    · cases e1
  · cases e1
theorem iZip_ok {a : EvA} {e2 : Expr} {p pos tpos : Pos} {elts : List Expr} {kk : Nat} {x : Str} (hx : x = "zip") (hg : Gl X x) (hm : X.mg x = none) (ha : PA X [e, e2] (tA X.K a)) (hs : nst e = true) (hs2 : nst e2 = true) : PI X (.Tuple elts kk tpos) (.Call (.Name x p) [e, e2] [] pos) (tI X.K (iZip a)) := by
  subst hx
  refine weakI (pi_zipB hg hm ha (starEach_ns hs) (star_plain (es := [e2]) (by rw [List.all_cons, hs2]; rfl))) fun σ H R ⟨F, t, env, τ, its, ws, τ', S, e1, q⟩ => ?_
  unfold iZip at e1
  split at e1
  · rename_i w u τ1 e2
    split at e1
    · rename_i b ds c es e3 e4
      cases e1
      refine ⟨F, t, env, τ, [w, u], _, S, e2, fun F1 vs H1 P1 r1 => ?_⟩
      cases r1 with
      | cons r r0 =>
        cases r0 with
        | cons r' r00 =>
          cases r00
          obtain ⟨a, vs, rfl, d, s⟩ := deref (S.post P1) r e3
          obtain ⟨a2, us, rfl, d2, s2⟩ := deref (S.post P1) r' e4
          refine ⟨b, c, a, a2, vs, us, rfl, s.B, s2.B, q F1 H1 _ _ P1 (.cons r (.cons r' .nil)) fun F2 G hs hG => ?_⟩
          cases hG with
          | cons h1 h2 =>
            cases h2 with
            | cons h2 h3 =>
              obtain ⟨a', vs', z, d', s'⟩ := h1 _ _ e3
              cases z
              obtain ⟨a2', us', z, d2', s2'⟩ := h2 _ _ e4
              cases z
              exact itOk_zip d' s' d2' s2'
    · cases e1
  · cases e1
theorem iRng1_ok {a : EvA} {p pos : Pos} {x : Str} (hx : x = "range") (hg : Gl X x) (hm : X.mg x = none) (ha : PA X [e] (tA X.K a)) (hs : nst e = true) (hl : LenIs a 1) : PI X tg (.Call (.Name x p) [e] [] pos) (tI X.K (iRng a)) := by
  subst hx
  refine weakI (pi_range1 hg hm ha (starEach_ns hs)) fun σ H R ⟨F, t, env, τ, its, ws, τ', S, e1, q⟩ => ?_
  unfold iRng at e1
  split at e1
  · rename_i j τ1 e2
    split at e1
    · rename_i hj
      cases e1
      refine ⟨F, t, env, τ, _, _, S, e2, fun F1 vs H1 P1 r1 => ?_⟩
      cases r1 with
      | cons r r0 =>
        cases r0
        cases r
        exact ⟨j, rfl, (inR_ok hj).1, (inR_ok hj).2, q F1 H1 _ [] P1 .nil fun F2 G hs hG => itOk_range 0 _⟩
    · cases e1
  · rename_i i j τ1 e2
    have := hl _ _ _ _ e2
    cases this
  · cases e1
theorem iRng2_ok {a : EvA} {e2 : Expr} {p pos : Pos} {x : Str} (hx : x = "range") (hg : Gl X x) (hm : X.mg x = none) (ha : PA X [e, e2] (tA X.K a)) (hs : nst e = true) (hs2 : nst e2 = true) (hl : LenIs a 2) : PI X tg (.Call (.Name x p) [e, e2] [] pos) (tI X.K (iRng a)) := by
  subst hx
  refine weakI (pi_range2 hg hm ha (by rw [starEach_ns hs, starEach_ns hs2]; rfl) (starEach_ns hs2)) fun σ H R ⟨F, t, env, τ, its, ws, τ', S, e1, q⟩ => ?_
  unfold iRng at e1
  split at e1
  · rename_i j τ1 e2
    have := hl _ _ _ _ e2
    cases this
  · rename_i i j τ1 e2
    split at e1
    · rename_i hj
      rw [Bool.and_eq_true] at hj
      cases e1
      refine ⟨F, t, env, τ, _, _, S, e2, fun F1 vs H1 P1 r1 => ?_⟩
      cases r1 with
      | cons r r0 =>
        cases r0 with
        | cons r' r00 =>
          cases r00
          cases r
          cases r'
          exact ⟨i, j, rfl, ⟨(inR_ok hj.1).1, (inR_ok hj.1).2, (inR_ok hj.2).1, (inR_ok hj.2).2⟩, q F1 H1 _ [] P1 .nil fun F2 G hs hG => itOk_range _ _⟩
    · cases e1
  · cases e1
theorem iRngS_ok {a : EvA} {e2 e3 : Expr} {p pos : Pos} {x : Str} (hx : x = "range") (hg : Gl X x) (hm : X.mg x = none) (ha : PA X [e, e2, e3] (tA X.K a)) (hs : nst e = true) (hs2 : nst e2 = true) (hs3 : nst e3 = true) : PI X tg (.Call (.Name x p) [e, e2, e3] [] pos) (tI X.K (iRngS a)) := by
  subst hx
  refine weakI (pi_range3 hg hm ha (starEach_ns hs) (star_plain (es := [e2, e3]) (by rw [List.all_cons, List.all_cons, hs2, hs3]; rfl))) fun σ H R ⟨F, t, env, τ, its, ws, τ', S, e1, q⟩ => ?_
  unfold iRngS at e1
  split at e1
  · rename_i i j c τ1 e2
    split at e1
    · rename_i hj
      unfold stepOk at hj
      rw [Bool.and_eq_true, Bool.and_eq_true, Bool.and_eq_true] at hj
      cases e1
      refine ⟨F, t, env, τ, _, _, S, e2, fun F1 vs H1 P1 r1 => ?_⟩
      cases r1 with
      | cons r r0 =>
        cases r0 with
        | cons r' r00 =>
          cases r00 with
          | cons r'' r000 =>
            cases r000
            cases r
            cases r'
            cases r''
            refine ⟨i, j, c, _, rfl, ⟨of_decide_eq_true hj.1.1.1, of_decide_eq_true hj.1.1.2, hj.1.2, ?_⟩, q F1 H1 _ [] P1 .nil fun F2 G hs hG => itOk_rangeC _ _ _⟩
            rw [Int.toNat_of_nonneg (of_decide_eq_true hj.2)]
    · cases e1
  · cases e1
end

/-! ### sources in a comprehension -/
def offT (t : Option Addr) (H : Hp) : Hp := fun b => if t = some b then none else H b
def notTp : W → Bool
  | .tp => false
  | _ => true
section
variable {K : PySem.W.Frag} {F H Hb : Hp} {t : Option Addr} {env : En} {τ : Tp} {σ : L2.St}
theorem offT_ne {b : Addr} (h : t ≠ some b) : offT t H b = H b := by unfold offT; rw [if_neg h]
theorem src_c (S : Sok K F H t env τ σ) : ∀ {vs : List V} {ws : List W}, RwAll K F H Hb t σ vs ws → ws.all notTp = true → SrcAll K F (offT t H) env τ vs ws
  | _, _, .nil, _ => .nil
  | _, _, .cons (v := v) (w := w) r r0, h => by
    rw [List.all_cons, Bool.and_eq_true] at h
    refine .cons (fun b ds e => ?_) (src_c S r0 h.2)
    obtain ⟨a, vs, rfl, d, s⟩ := deref S r e
    refine ⟨a, vs, rfl, d, ?_⟩
    by_cases ht : t = some a
    · have tp := S.tape
      rw [ht] at tp
      obtain ⟨t1, us, t2, t3⟩ := tp
      cases w with
      | d x =>
        cases b with
        | true =>
          cases x with
          | list es =>
            cases r with
            | lst s' _ => rw [t1] at s'; cases s'
          | tuple es => cases e
          | _ => cases e
        | false =>
          rcases s with (s | ⟨o, s⟩) | s
          · rw [t2] at s; cases s
          · rw [t2] at s; cases s
          · exact .inr s
      | new es =>
        obtain ⟨a', vs', h1, h2, h3, _⟩ := r
        cases h1
        exact absurd ht h3
      | loc i =>
        obtain ⟨c, hc⟩ : ∃ es, env[i]? = some (Sl.own es) := by
          change (match env[i]? with | some (.own ds) => some (true, ds) | _ => none) = _ at e
          split at e
          · rename_i es he; exact ⟨es, he⟩
          · cases e
        obtain ⟨a', vs', h1, h2, h3, _⟩ := S.slot i _ hc
        have : σ[i]? = some (some (.ref a)) := r
        rw [h1] at this
        cases this
        exact absurd ht h3
      | tp => cases h.1
    · cases b with
      | true => show offT t H a = _; rw [offT_ne ht]; exact s
      | false =>
        rcases s with s | s
        · refine .inl ?_
          unfold Rd
          rw [offT_ne ht]
          exact s
        · exact .inr s
end

open PySem PySem.Spec PyProof.Rows L2
/-! ### slots wiped -/
def wipeE (env : En) : List Nat → En
  | [] => env
  | v :: vs => (wipeE env vs).set v .no
section
variable {K : PySem.W.Frag} {F H F' H' Hb : Hp} {t : Option Addr} {env : En} {τ τ' : Tp} {σ : L2.St}
theorem Sok.setNo {i : Nat} (S : Sok K F H t env τ σ) : Sok K F H t (env.set i .no) τ (σ.set i none) := by
  refine ⟨S.same, by rw [List.length_set, List.length_set, S.len], fun j s e => ?_, fun j k ds es h1 h2 hne => ?_, S.tape⟩
  · by_cases hj : i = j
    · subst hj
      by_cases hi : i < env.length
      · rw [List.getElem?_set_self hi] at e
        cases e
        trivial
      · rw [List.getElem?_eq_none (by rw [List.length_set]; omega)] at e
        cases e
    · rw [List.getElem?_set_ne hj] at e
      have h := S.slot j s e
      cases s with
      | no => trivial
      | d x =>
        obtain ⟨v, h1, h2⟩ := h
        exact ⟨v, by rw [List.getElem?_set_ne hj]; exact h1, h2⟩
      | own ds =>
        obtain ⟨a, vs, h1, h2⟩ := h
        exact ⟨a, vs, by rw [List.getElem?_set_ne hj]; exact h1, h2⟩
      | tp =>
        obtain ⟨a, h1, h2⟩ := h
        exact ⟨a, h1, by rw [List.getElem?_set_ne hj]; exact h2⟩
      | ob fl =>
        obtain ⟨p, C, dx, fs, z1, z2⟩ := h
        exact ⟨p, C, dx, fs, by rw [List.getElem?_set_ne hj]; exact z1, z2⟩
  · have f : ∀ {j ds}, (env.set i Sl.no)[j]? = some (Sl.own ds) → i ≠ j ∧ env[j]? = some (Sl.own ds) := fun {j ds} h => by
      by_cases hj : i = j
      · subst hj
        by_cases hi : i < env.length
        · rw [List.getElem?_set_self hi] at h
          cases h
        · rw [List.getElem?_eq_none (by rw [List.length_set]; omega)] at h
          cases h
      · rw [List.getElem?_set_ne hj] at h
        exact ⟨hj, h⟩
    obtain ⟨n1, h1⟩ := f h1
    obtain ⟨n2, h2⟩ := f h2
    rw [List.getElem?_set_ne n1, List.getElem?_set_ne n2]
    exact S.dis _ _ _ _ h1 h2 hne
theorem Sok.wipe (S : Sok K F H t env τ σ) : ∀ vs : List Nat, Sok K F H t (wipeE env vs) τ (L2.wipe σ vs)
  | [] => S
  | v :: vs => (Sok.wipe S vs).setNo
theorem wipe_in {j : Nat} : ∀ {vs : List Nat}, j ∈ vs → (L2.wipe σ vs)[j]? = if j < σ.length then some none else none
  | [], h => by cases h
  | v :: vs, h => by
    unfold L2.wipe
    by_cases hv : v = j
    · subst hv
      by_cases hl : v < σ.length
      · rw [List.getElem?_set_self (by rw [wipe_length]; exact hl), if_pos hl]
      · rw [List.getElem?_eq_none (by rw [List.length_set, wipe_length]; omega), if_neg hl]
    · rw [List.getElem?_set_ne hv]
      rcases List.mem_cons.mp h with q | q
      · exact absurd q.symm hv
      · exact wipe_in q
theorem wipe_off {l vs : List Nat} {σ2 : L2.St} (o : Off l (L2.wipe σ vs) σ2) (h : ∀ j ∈ l, j ∈ vs) : L2.wipe σ2 vs = L2.wipe σ vs := by
  have hl : σ2.length = σ.length := by rw [o.len, wipe_length]
  apply List.ext_getElem?
  intro j
  by_cases hj : j ∈ vs
  · rw [wipe_in hj, wipe_in hj, hl]
  · rw [wipe_out hj, o.at_ j (fun z => hj (h j z))]
theorem Post.updNew {F1 H1 : Hp} {D : Addr} {o : HO} (P : Post K t τ F1 H1 F H) (h1 : H1 D = none) (h2 : F D = none) (h3 : t ≠ some D) : Post K t τ F1 H1 F (upd H D o) := by
  refine ⟨P.ext, fun b u e => ?_, P.new, fun b u e k => ?_, ?_⟩
  · rw [upd_ne (ne_of_none e h2)]
    exact P.same _ _ e
  · rw [upd_ne (ne_of_none e h1)]
    exact P.keep _ _ e k
  · have tp := P.tape
    cases t with
    | none => trivial
    | some a =>
      obtain ⟨t1, us, t2, t3⟩ := tp
      have hc : a ≠ D := fun z => h3 (by rw [z])
      exact ⟨t1, us, by rw [upd_ne hc]; exact t2, t3⟩
end
/-! ### comprehensions -/
def lcGo (tg : Tg) (tt te : EvF) (env : En) : List D → Tp → Option (List D × Tp)
  | [], τ => some ([], τ)
  | d :: r, τ => match bindT tg d env with
    | some env1 => (match tt env1 τ with
      | some (.d (.bool true), τ1) => (match te env1 τ1 with
        | some (w, τ2) => (match toD w with
          | some x => (match lcGo tg tt te env r τ2 with
            | some (l, τ3) => some (x :: l, τ3)
            | none => none)
          | none => none)
        | none => none)
      | some (.d (.bool false), τ1) => lcGo tg tt te env r τ1
      | _ => none)
    | none => none
def eLc (fi : EvI) (tg : Tg) (tt te : EvF) (vs : List Nat) : EvF := fun env τ => match fi env τ with
  | some (its, ws, τ1) => if (ws.all notTp && decide (its.length ≤ 1000000)) = true then (match lcGo tg tt te (wipeE env vs) its τ1 with
      | some (l, τ2) => some (.new l, τ2)
      | none => none)
    else none
  | none => none
theorem line_big : 1000000 < sizeLine := by decide
section
variable {K : PySem.W.Frag}
theorem same_offT {F1 H1 F' H' : Hp} {t : Option Addr} {τ : Tp} (P : Post K t τ F1 H1 F' H') : Same (offT t H1) H' := fun b o e => by
  unfold offT at e
  split at e
  · cases e
  · rename_i h
    exact P.keep _ _ e h
theorem lc_sem {fi : EvI} {tg : Tg} {tt te : EvF} {vs : List Nat} {tt' : TT} (ht : ∀ σ H Q, tT K tt σ H Q → tt' σ H Q) (hv : ∀ j ∈ tg.slots, j ∈ vs) {σ : L2.St} {H : Hp} {Q : VK} (h : tE K (eLc fi tg tt te vs) σ H Q) :
    tLc (tI K fi) (tG K tg) tt' (tE K te) vs σ H Q := by
  obtain ⟨F, t, env, τ, w, τ', S, e, q⟩ := h
  unfold eLc at e
  split at e
  · rename_i its ws τ1 e1
    split at e
    · rename_i hg
      rw [Bool.and_eq_true] at hg
      have hlen := of_decide_eq_true hg.2
      split at e
      · rename_i l τ2 e2
        cases e
        refine ⟨F, t, env, τ, its, ws, τ1, S, e1, fun F1 H1 J us P1 r1 it => ?_⟩
        intro D hD
        have S1 := S.post P1
        have IT := it F1 (offT t H1) (.refl _) (src_c S1 r1 hg.1)
        have tD := S1.tne hD
        refine ⟨fun i m H' => m = its.length - i ∧ i ≤ its.length ∧ ∃ F' τi acc accd rest, Post K t τi F1 H1 F' H' ∧ H' D = some (.lst acc) ∧ F' D = none ∧ DqAll K F' acc accd ∧ lcGo tg tt te (wipeE env vs) (its.drop i) τi = some (rest, τ') ∧ l = accd ++ rest ∧ acc.length ≤ i,
          ⟨its.length, by simp, Nat.zero_le _, F1, τ1, [], [], l, S1.laid hD, upd_same, S1.fnone hD, .nil, by simpa using e2, rfl, Nat.le_refl _⟩, ?_⟩
        rintro i m H' ⟨rfl, hi, F', τi, acc, accd, rest, P, hHD, hFD, dacc, hgo, hl, hacc⟩
        have S2 := S1.post P
        by_cases hlt : i < its.length
        · refine .inr ⟨IT.go F' H' env τi σ i P.ext (same_offT P) S2 hlt, fun H'' => ∃ F' τi acc accd rest, Post K t τi F1 H1 F' H'' ∧ H'' D = some (.lst acc) ∧ F' D = none ∧ DqAll K F' acc accd ∧ lcGo tg tt te (wipeE env vs) (its.drop (i + 1)) τi = some (rest, τ') ∧ l = accd ++ rest ∧ acc.length ≤ i + 1,
            fun H'' n => ⟨its.length - (i + 1), by omega, rfl, hlt, n⟩, fun x H2 y => ?_⟩
          obtain ⟨F2, P2, dx⟩ := IT.yld F' H' env τi σ i its[i] P.ext (same_offT P) S2 (by simp [hlt]) x H2 y
          rw [List.drop_eq_getElem_cons hlt] at hgo
          unfold lcGo at hgo
          split at hgo
          · rename_i env1 hb
            refine ⟨F2, t, wipeE env vs, τi, its[i], env1, (S2.post P2).wipe vs, dx, hb, fun σ2 S3 o oe => ⟨wipe_off o hv, ?_⟩⟩
            split at hgo
            · rename_i τ3 h3
              refine ht _ _ _ ⟨F2, t, env1, τi, true, τ3, S3, h3, fun F3 H3 P3 => ?_⟩
              show ite _ _ _
              rw [if_pos rfl]
              split at hgo
              · rename_i w4 τ4 h4
                refine ⟨F3, t, env1, τ3, w4, τ4, S3.post P3, h4, fun F4 v4 H4 P4 r4 => ?_⟩
                split at hgo
                · rename_i x4 hx4
                  obtain ⟨F5, P5, s5, S5, d5⟩ := freeze (S3.post P3) ((S3.post P3).post P4) P4 r4 hx4
                  split at hgo
                  · rename_i l' τ5 h5
                    cases hgo
                    have Pz := P2.trans (P3.trans P5)
                    have Pa := P.trans Pz
                    have hD4 : H4 D = some (.lst acc) := Pz.keep _ _ hHD tD
                    have hF5 : F5 D = none := Pz.none_of hFD hHD
                    refine ⟨acc, hD4, by have := line_big; omega, F5, τ4, acc ++ [v4], accd ++ [x4], l', Pa.updNew hD hF5 tD, upd_same, hF5, dqAll_snoc (dqAll_mono Pz.ext dacc) d5, h5, by rw [hl]; simp, by simp; omega⟩
                  · cases hgo
                · cases hgo
              · cases hgo
            · rename_i τ3 h3
              refine ht _ _ _ ⟨F2, t, env1, τi, false, τ3, S3, h3, fun F3 H3 P3 => ?_⟩
              show ite _ _ _
              rw [if_neg Bool.false_ne_true]
              have Pz := P2.trans P3
              exact ⟨F3, τ3, acc, accd, rest, P.trans Pz, Pz.keep _ _ hHD tD, Pz.none_of hFD hHD, dqAll_mono Pz.ext dacc, hgo, hl, by omega⟩
            · cases hgo
          · cases hgo
        · have hi' : i = its.length := by omega
          subst hi'
          rw [List.drop_length] at hgo
          unfold lcGo at hgo
          cases hgo
          rw [List.append_nil] at hl
          subst hl
          exact .inl ⟨IT.stop F' H' env _ σ P.ext (same_offT P) S2, q F' _ H' (P1.trans P) ⟨D, acc, rfl, hFD, tD, P1.bnone hD tD, hHD, dacc⟩⟩
      · cases e
    · cases e
  · cases e
end

open PySem PySem.Spec PyProof.Rows L2
/-! ### comprehensions with two clauses -/
def isDW : W → Bool
  | .d _ => true
  | _ => false
theorem src_f {K : PySem.W.Frag} {F H Hb : Hp} {t : Option Addr} {env : En} {τ : Tp} {σ : L2.St} : ∀ {vs : List V} {ws : List W}, RwAll K F H Hb t σ vs ws → ws.all isDW = true → SrcAll K F F env τ vs ws
  | _, _, .nil, _ => .nil
  | _, _, .cons (v := v) (w := w) r r0, h => by
    rw [List.all_cons, Bool.and_eq_true] at h
    refine .cons (fun b ds e => ?_) (src_f r0 h.2)
    cases w with
    | d x =>
      cases x with
      | list es =>
        cases e
        cases r with
        | lst s a => exact ⟨_, _, rfl, a, s⟩
      | tuple es =>
        cases e
        cases r with
        | tup s a => exact ⟨_, _, rfl, a, s⟩
      | _ => cases e
    | _ => cases h.1
theorem wipeE_own {env : En} {j : Nat} {ds : List D} : ∀ {vs : List Nat}, (wipeE env vs)[j]? = some (Sl.own ds) → env[j]? = some (Sl.own ds) ∧ j ∉ vs
  | [], h => ⟨h, by simp⟩
  | v :: vs, h => by
    unfold wipeE at h
    by_cases hv : v = j
    · subst hv
      by_cases hl : v < (wipeE env vs).length
      · rw [List.getElem?_set_self hl] at h; cases h
      · rw [List.getElem?_eq_none (by rw [List.length_set]; omega)] at h; cases h
    · rw [List.getElem?_set_ne hv] at h
      obtain ⟨h1, h2⟩ := wipeE_own h
      exact ⟨h1, by rw [List.mem_cons, not_or]; exact ⟨Ne.symm hv, h2⟩⟩
theorem Sok.rebase {K : PySem.W.Frag} {F2 H2 F' H' : Hp} {t : Option Addr} {env env1 : En} {τ τ' : Tp} {σ σ2 : L2.St} {l vs : List Nat} (S3 : Sok K F2 H2 t env1 τ σ2) (S' : Sok K F' H' t env τ' σ) (e : Same F2 F') (o : Off l (L2.wipe σ vs) σ2) (oe : OffE l (wipeE env vs) env1) : Sok K F' H' t env1 τ' σ2 := by
  refine ⟨S'.same, S3.len, fun j s h => ?_, S3.dis, S'.tape⟩
  cases s with
  | no => trivial
  | d x =>
    obtain ⟨v, h1, h2⟩ := S3.slot j _ h
    exact ⟨v, h1, dq_mono e h2⟩
  | own ds =>
    obtain ⟨h1, h2⟩ := oe.own j ds h
    obtain ⟨h3, h4⟩ := wipeE_own h1
    obtain ⟨a, us, z1, z2⟩ := S'.slot j _ h3
    exact ⟨a, us, by rw [o.at_ j h2, wipe_out h4]; exact z1, z2⟩
  | tp => exact S3.slot j _ h
  | ob fl =>
    obtain ⟨p, C, dx, fs, h1, h2, h3, h4⟩ := S3.slot j _ h
    exact ⟨p, C, dx, fs, h1, e _ _ h2, h3, fun f x q => let ⟨k1, v, k2, k3⟩ := h4 f x q; ⟨k1, v, k2, dq_mono e k3⟩⟩
def lc2Go (tg : Tg) (tt : EvF) (fi1 : EvI) (tg1 : Tg) (tt1 te : EvF) (vs1 : List Nat) (env : En) : List D → Tp → Option (List D × Tp)
  | [], τ => some ([], τ)
  | d :: r, τ => match bindT tg d env with
    | some env1 => (match tt env1 τ with
      | some (.d (.bool true), τ1) => (match fi1 env1 τ1 with
        | some (its, ws, τ2) => if (ws.all isDW && decide (its.length ≤ 1000)) = true then (match lcGo tg1 tt1 te (wipeE env1 vs1) its τ2 with
            | some (l, τ3) => (match lc2Go tg tt fi1 tg1 tt1 te vs1 env r τ3 with
              | some (l2, τ4) => some (l ++ l2, τ4)
              | none => none)
            | none => none)
          else none
        | none => none)
      | some (.d (.bool false), τ1) => lc2Go tg tt fi1 tg1 tt1 te vs1 env r τ1
      | _ => none)
    | none => none
def eLc2 (fi : EvI) (tg : Tg) (tt : EvF) (fi1 : EvI) (tg1 : Tg) (tt1 te : EvF) (vs vs1 : List Nat) : EvF := fun env τ => match fi env τ with
  | some (its, ws, τ1) => if (ws.all notTp && decide (its.length ≤ 1000)) = true then (match lc2Go tg tt fi1 tg1 tt1 te vs1 (wipeE env vs) its τ1 with
      | some (l, τ2) => some (.new l, τ2)
      | none => none)
    else none
  | none => none
theorem line_big2 : 1000000 + 1000 < sizeLine := by decide
section
variable {K : PySem.W.Frag}
theorem lc2_sem {fi : EvI} {tg : Tg} {tt : EvF} {fi1 : EvI} {tg1 : Tg} {tt1 te : EvF} {vs vs1 : List Nat} {tt' tt1' : TT} (ht : ∀ σ H Q, tT K tt σ H Q → tt' σ H Q) (ht1 : ∀ σ H Q, tT K tt1 σ H Q → tt1' σ H Q) (hv : ∀ j ∈ tg.slots, j ∈ vs) (hv1 : ∀ j ∈ tg1.slots, j ∈ vs1)
    {σ : L2.St} {H : Hp} {Q : VK} (h : tE K (eLc2 fi tg tt fi1 tg1 tt1 te vs vs1) σ H Q) :
    tLc2 (tI K fi) (tG K tg) tt' (tI K fi1) (tG K tg1) tt1' (tE K te) vs vs1 σ H Q := by
  obtain ⟨F, t, env, τ, w, τ', S, e, q⟩ := h
  unfold eLc2 at e
  split at e
  · rename_i its ws τ1 e1
    split at e
    · rename_i hg
      rw [Bool.and_eq_true] at hg
      have hlen := of_decide_eq_true hg.2
      split at e
      · rename_i l τ2 e2
        cases e
        refine ⟨F, t, env, τ, its, ws, τ1, S, e1, fun F1 H1 J us P1 r1 it => ?_⟩
        intro D hD
        have S1 := S.post P1
        have IT := it F1 (offT t H1) (.refl _) (src_c S1 r1 hg.1)
        have tD := S1.tne hD
        refine ⟨fun i m H' => m = its.length - i ∧ i ≤ its.length ∧ ∃ F' τi acc accd rest, Post K t τi F1 H1 F' H' ∧ H' D = some (.lst acc) ∧ F' D = none ∧ DqAll K F' acc accd ∧ lc2Go tg tt fi1 tg1 tt1 te vs1 (wipeE env vs) (its.drop i) τi = some (rest, τ') ∧ l = accd ++ rest ∧ acc.length ≤ i * 1000,
          ⟨its.length, by simp, Nat.zero_le _, F1, τ1, [], [], l, S1.laid hD, upd_same, S1.fnone hD, .nil, by simpa using e2, rfl, Nat.zero_le _⟩, ?_⟩
        rintro i m H' ⟨rfl, hi, F', τi, acc, accd, rest, P, hHD, hFD, dacc, hgo, hl, hacc⟩
        have S2 := S1.post P
        by_cases hlt : i < its.length
        · refine .inr ⟨IT.go F' H' env τi σ i P.ext (same_offT P) S2 hlt, fun H'' => ∃ F' τi acc accd rest, Post K t τi F1 H1 F' H'' ∧ H'' D = some (.lst acc) ∧ F' D = none ∧ DqAll K F' acc accd ∧ lc2Go tg tt fi1 tg1 tt1 te vs1 (wipeE env vs) (its.drop (i + 1)) τi = some (rest, τ') ∧ l = accd ++ rest ∧ acc.length ≤ (i + 1) * 1000,
            fun H'' n => ⟨its.length - (i + 1), by omega, rfl, hlt, n⟩, fun x H2 y => ?_⟩
          obtain ⟨F2, P2, dx⟩ := IT.yld F' H' env τi σ i its[i] P.ext (same_offT P) S2 (by simp [hlt]) x H2 y
          rw [List.drop_eq_getElem_cons hlt] at hgo
          unfold lc2Go at hgo
          split at hgo
          · rename_i env1 hb
            refine ⟨F2, t, wipeE env vs, τi, its[i], env1, (S2.post P2).wipe vs, dx, hb, fun σ2 S3 o oe => ⟨wipe_off o hv, ?_⟩⟩
            split at hgo
            · rename_i τ3 h3
              refine ht _ _ _ ⟨F2, t, env1, τi, true, τ3, S3, h3, fun F3 H3 P3 => ?_⟩
              show ite _ _ _
              rw [if_pos rfl]
              split at hgo
              · rename_i its1 ws1 τ4 h4
                split at hgo
                · rename_i hg1
                  rw [Bool.and_eq_true] at hg1
                  have hlen1 := of_decide_eq_true hg1.2
                  split at hgo
                  · rename_i l1 τ5 h5
                    split at hgo
                    · rename_i l2 τ6 h6
                      cases hgo
                      refine ⟨F3, t, env1, τ3, its1, ws1, τ4, S3.post P3, h4, fun F4 H4 J1 us1 P4 r4 it1 => ?_⟩
                      have S4 := (S3.post P3).post P4
                      have IT1 := it1 F4 F4 (.refl _) (src_f r4 hg1.1)
                      have Pz := P2.trans (P3.trans P4)
                      have hHD4 : H4 D = some (.lst acc) := Pz.keep _ _ hHD tD
                      have hFD4 : F4 D = none := Pz.none_of hFD hHD
                      refine ⟨fun j k H6 => k = its1.length - j ∧ j ≤ its1.length ∧ ∃ F' τi acc2 accd2 rest, Post K t τi F1 H1 F' H6 ∧ Same F4 F' ∧ H6 D = some (.lst acc2) ∧ F' D = none ∧ DqAll K F' acc2 accd2 ∧ lcGo tg1 tt1 te (wipeE env1 vs1) (its1.drop j) τi = some (rest, τ5) ∧ accd ++ l1 = accd2 ++ rest ∧ acc2.length ≤ i * 1000 + j,
                        ⟨its1.length, by simp, Nat.zero_le _, F4, τ4, acc, accd, l1, P.trans Pz, .refl _, hHD4, hFD4, dqAll_mono Pz.ext dacc, by simpa using h5, rfl, by omega⟩, ?_⟩
                      rintro j k H6 ⟨rfl, hj, F6, τj, acc6, accd6, rest6, P6, sF6, hHD6, hFD6, dacc6, hgo6, hl6, hacc6⟩
                      have S6 : Sok K F6 H6 t env1 τj σ2 := S4.rebase (S1.post P6) sF6 o oe
                      have sH6 : Same F4 H6 := sF6.trans S6.same
                      by_cases hlt6 : j < its1.length
                      · refine .inr ⟨IT1.go F6 H6 env1 τj σ2 j sF6 sH6 S6 hlt6, fun H7 => ∃ F' τi acc2 accd2 rest, Post K t τi F1 H1 F' H7 ∧ Same F4 F' ∧ H7 D = some (.lst acc2) ∧ F' D = none ∧ DqAll K F' acc2 accd2 ∧ lcGo tg1 tt1 te (wipeE env1 vs1) (its1.drop (j + 1)) τi = some (rest, τ5) ∧ accd ++ l1 = accd2 ++ rest ∧ acc2.length ≤ i * 1000 + (j + 1),
                          fun H7 n => ⟨its1.length - (j + 1), by omega, rfl, hlt6, n⟩, fun x1 H7 y1 => ?_⟩
                        obtain ⟨F7, P7, dx7⟩ := IT1.yld F6 H6 env1 τj σ2 j its1[j] sF6 sH6 S6 (by simp [hlt6]) x1 H7 y1
                        rw [List.drop_eq_getElem_cons hlt6] at hgo6
                        unfold lcGo at hgo6
                        split at hgo6
                        · rename_i env7 hb7
                          refine ⟨F7, t, wipeE env1 vs1, τj, its1[j], env7, (S6.post P7).wipe vs1, dx7, hb7, fun σ7 S7 o7 oe7 => ⟨wipe_off o7 hv1, ?_⟩⟩
                          have offD : ∀ {F8 H8 τ8}, Post K t τ8 F7 H7 F8 H8 → H8 D = some (.lst acc6) ∧ F8 D = none := fun {F8 H8 τ8} P8 => ⟨(P7.trans P8).keep _ _ hHD6 tD, (P7.trans P8).none_of hFD6 hHD6⟩
                          split at hgo6
                          · rename_i τ8 h8
                            refine ht1 _ _ _ ⟨F7, t, env7, τj, true, τ8, S7, h8, fun F8 H8 P8 => ?_⟩
                            show ite _ _ _
                            rw [if_pos rfl]
                            split at hgo6
                            · rename_i w9 τ9 h9
                              refine ⟨F8, t, env7, τ8, w9, τ9, S7.post P8, h9, fun F9 v9 H9 P9 r9 => ?_⟩
                              split at hgo6
                              · rename_i x9 hx9
                                obtain ⟨Fa, Pa, sa, Sa, da⟩ := freeze (S7.post P8) ((S7.post P8).post P9) P9 r9 hx9
                                split at hgo6
                                · rename_i l' τb hb'
                                  cases hgo6
                                  have Pq := P8.trans Pa
                                  have Pw := P7.trans Pq
                                  obtain ⟨hD9, hFa⟩ := offD Pq
                                  have Pn : Post K t τ9 F1 H1 Fa (upd H9 D (.lst (acc6 ++ [v9]))) := (P6.trans Pw).updNew hD hFa tD
                                  refine ⟨acc6, hD9, by have := line_big2; omega, Fa, τ9, acc6 ++ [v9], accd6 ++ [x9], l', Pn, sF6.trans Pw.ext, upd_same, hFa, dqAll_snoc (dqAll_mono Pw.ext dacc6) da, hb', by rw [hl6]; simp, by simp; omega⟩
                                · cases hgo6
                              · cases hgo6
                            · cases hgo6
                          · rename_i τ8 h8
                            refine ht1 _ _ _ ⟨F7, t, env7, τj, false, τ8, S7, h8, fun F8 H8 P8 => ?_⟩
                            show ite _ _ _
                            rw [if_neg Bool.false_ne_true]
                            have Pw := P7.trans P8
                            exact ⟨F8, τ8, acc6, accd6, rest6, P6.trans Pw, sF6.trans Pw.ext, (offD P8).1, (offD P8).2, dqAll_mono Pw.ext dacc6, hgo6, hl6, by omega⟩
                          · cases hgo6
                        · cases hgo6
                      · have hj' : j = its1.length := by omega
                        subst hj'
                        rw [List.drop_length] at hgo6
                        unfold lcGo at hgo6
                        cases hgo6
                        rw [List.append_nil] at hl6
                        refine .inl ⟨IT1.stop F6 H6 env1 _ σ2 sF6 sH6 S6, F6, _, acc6, accd6, l2, P6, hHD6, hFD6, dacc6, h6, ?_, by omega⟩
                        rw [hl, ← List.append_assoc, hl6]
                    · cases hgo
                  · cases hgo
                · cases hgo
              · cases hgo
            · rename_i τ3 h3
              refine ht _ _ _ ⟨F2, t, env1, τi, false, τ3, S3, h3, fun F3 H3 P3 => ?_⟩
              show ite _ _ _
              rw [if_neg Bool.false_ne_true]
              have Pz := P2.trans P3
              exact ⟨F3, τ3, acc, accd, rest, P.trans Pz, Pz.keep _ _ hHD tD, Pz.none_of hFD hHD, dqAll_mono Pz.ext dacc, hgo, hl, by omega⟩
            · cases hgo
          · cases hgo
        · have hi' : i = its.length := by omega
          subst hi'
          rw [List.drop_length] at hgo
          unfold lc2Go at hgo
          cases hgo
          rw [List.append_nil] at hl
          subst hl
          exact .inl ⟨IT.stop F' H' env _ σ P.ext (same_offT P) S2, q F' _ H' (P1.trans P) ⟨D, acc, rfl, hFD, tD, P1.bnone hD tD, hHD, dacc⟩⟩
      · cases e
    · cases e
  · cases e
end

open PySem PySem.Spec PyProof.Rows L2
/-! ### the state between statements -/
structure SI (K : PySem.W.Frag) (F0 H0 F H : Hp) (t : Option Addr) (env : En) (τ : Tp) (σ : L2.St) : Prop where
  ok : Sok K F H t env τ σ
  post : Post K t τ F0 H0 F H
  own : ∀ (i : Nat) (ds : List D) (a : Addr), env[i]? = some (Sl.own ds) → σ[i]? = some (some (V.ref a)) → H0 a = none
section
variable {K : PySem.W.Frag} {F0 H0 F H F' H' Hb : Hp} {t : Option Addr} {env env' : En} {τ τ' : Tp} {σ : L2.St}
theorem SI.step (I : SI K F0 H0 F H t env τ σ) (P : Post K t τ' F H F' H') : SI K F0 H0 F' H' t env τ' σ := ⟨I.ok.post P, I.post.trans P, I.own⟩
theorem SI.fz (I : SI K F0 H0 F H t env τ σ) {a : Addr} {vs : List V} {ds : List D} (h3 : t ≠ some a) (h0 : H0 a = none) (hH : H a = some (.lst vs)) (hd : ∀ (i : Nat) (es : List D), env[i]? = some (Sl.own es) → σ[i]? ≠ some (some (V.ref a))) :
    ∃ F2, Same F F2 ∧ SI K F0 H0 F2 H t env τ σ ∧ F2 a = some (.lst vs) ∧ ∀ b, b ≠ a → F2 b = F b := by
  cases hF : F a with
  | some o =>
    have := I.ok.same _ _ hF
    rw [hH] at this
    cases this
    exact ⟨F, .refl _, I, hF, fun _ _ => rfl⟩
  | none =>
    have e1 : Same F (upd F a (.lst vs)) := fun b o q => by
      rw [upd_ne (ne_of_none q hF)]
      exact q
    have e2 : Same (upd F a (.lst vs)) H := fun b o q => by
      by_cases hb : b = a
      · subst hb
        rw [upd_same] at q
        rw [hH, ← q]
      · rw [upd_ne hb] at q
        exact I.ok.same _ _ q
    have tp : TapeOk K (upd F a (.lst vs)) H t τ := by
      have tp := I.ok.tape
      cases t with
      | none => trivial
      | some c =>
        obtain ⟨t1, us, t2, t3⟩ := tp
        have hc : c ≠ a := fun z => h3 (by rw [z])
        exact ⟨by rw [upd_ne hc]; exact t1, us, t2, dqAll_mono e1 t3⟩
    refine ⟨_, e1, ⟨⟨e2, I.ok.len, fun i s q => ?_, I.ok.dis, tp⟩, ⟨I.post.ext.trans e1, e2, fun b q => ?_, I.post.keep, tp⟩, I.own⟩, upd_same, fun b hb => upd_ne hb⟩
    · have h := I.ok.slot i s q
      cases s with
      | no => trivial
      | d x =>
        obtain ⟨v, z1, z2⟩ := h
        exact ⟨v, z1, dq_mono e1 z2⟩
      | own es =>
        obtain ⟨c, us, z1, z2, z3, z4, z5⟩ := h
        have hc : c ≠ a := fun z => hd i es q (by rw [z1, z])
        exact ⟨c, us, z1, by rw [upd_ne hc]; exact z2, z3, z4, dqAll_mono e1 z5⟩
      | tp => exact h
      | ob fl =>
        obtain ⟨p, C, dx, fs, h1, h2, h3, h4⟩ := h
        exact ⟨p, C, dx, fs, h1, e1 _ _ h2, h3, fun f x q => let ⟨k1, v, k2, k3⟩ := h4 f x q; ⟨k1, v, k2, dq_mono e1 k3⟩⟩
    · by_cases hb : b = a
      · subst hb
        exact .inr h0
      · rw [upd_ne hb] at q
        exact I.post.new b q
theorem SI.dropOwn (I : SI K F0 H0 F H t env τ σ) (i : Nat) : SI K F0 H0 F H t (env.set i .no) τ σ := by
  have f : ∀ {j : Nat} {s : Sl}, (env.set i Sl.no)[j]? = some s → s = .no ∨ (i ≠ j ∧ env[j]? = some s) := fun {j s} h => by
    by_cases hj : i = j
    · subst hj
      by_cases hi : i < env.length
      · rw [List.getElem?_set_self hi] at h
        cases h
        exact .inl rfl
      · rw [List.getElem?_eq_none (by rw [List.length_set]; omega)] at h
        cases h
    · rw [List.getElem?_set_ne hj] at h
      exact .inr ⟨hj, h⟩
  refine ⟨⟨I.ok.same, by rw [List.length_set, I.ok.len], fun j s h => ?_, fun j k ds es h1 h2 hne => ?_, I.ok.tape⟩, I.post, fun j ds a h e => ?_⟩
  · rcases f h with q | ⟨_, q⟩
    · subst q; trivial
    · exact I.ok.slot j s q
  · rcases f h1 with q | ⟨_, q⟩
    · cases q
    · rcases f h2 with q' | ⟨_, q'⟩
      · cases q'
      · exact I.ok.dis _ _ _ _ q q' hne
  · rcases f h with q | ⟨_, q⟩
    · cases q
    · exact I.own j ds a q e
/-- a slot's value is told as data -/
theorem SI.tell (I : SI K F0 H0 F H t env τ σ) {i : Nat} {v : V} {d : D} (hi : σ[i]? = some (some v)) (hd : Dq K F v d) : SI K F0 H0 F H t (env.set i (.d d)) τ σ := by
  have hl : i < env.length := by rw [I.ok.len]; exact (List.getElem?_eq_some_iff.mp hi).1
  refine ⟨⟨I.ok.same, by rw [List.length_set, I.ok.len], fun j s h => ?_, fun j k ds es h1 h2 hne => ?_, I.ok.tape⟩, I.post, fun j ds a h e => ?_⟩
  · by_cases hj : i = j
    · subst hj
      rw [List.getElem?_set_self hl] at h
      cases h
      exact ⟨v, hi, hd⟩
    · rw [List.getElem?_set_ne hj] at h
      exact I.ok.slot j s h
  · have n1 : i ≠ j := fun z => by subst z; rw [List.getElem?_set_self hl] at h1; cases h1
    have n2 : i ≠ k := fun z => by subst z; rw [List.getElem?_set_self hl] at h2; cases h2
    rw [List.getElem?_set_ne n1] at h1
    rw [List.getElem?_set_ne n2] at h2
    exact I.ok.dis _ _ _ _ h1 h2 hne
  · have n1 : i ≠ j := fun z => by subst z; rw [List.getElem?_set_self hl] at h; cases h
    rw [List.getElem?_set_ne n1] at h
    exact I.own j ds a h e
/-- an own list is given away: from now on it stays -/
theorem SI.freezeLoc (I : SI K F0 H0 F H t env τ σ) {i : Nat} {ds : List D} (h : env[i]? = some (Sl.own ds)) :
    ∃ a vs F2, σ[i]? = some (some (.ref a)) ∧ Same F F2 ∧ F2 a = some (.lst vs) ∧ DqAll K F2 vs ds ∧ SI K F0 H0 F2 H t (env.set i (.d (.list ds))) τ σ := by
  obtain ⟨a, vs, h1, h2, h3, h4, h5⟩ := I.ok.slot i _ h
  have hl : i < env.length := (List.getElem?_eq_some_iff.mp h).1
  obtain ⟨F2, e1, I2, f2, _⟩ := (I.dropOwn i).fz (ds := ds) h3 (I.own i ds a h h1) h4 (fun j es hj z => by
    have n1 : i ≠ j := fun z => by subst z; rw [List.getElem?_set_self hl] at hj; cases hj
    rw [List.getElem?_set_ne n1] at hj
    exact I.ok.dis i j _ _ h hj n1 (h1.trans z.symm))
  have d2 := dqAll_mono e1 h5
  have I3 := I2.tell h1 (.lst f2 d2)
  rw [List.set_set] at I3
  exact ⟨a, vs, F2, h1, e1, f2, d2, I3⟩

/-! ### sources given away -/
def freezeS (env : En) : List W → En
  | [] => env
  | .loc i :: ws => match env[i]? with
    | some (.own ds) => freezeS (env.set i (.d (.list ds))) ws
    | _ => freezeS env ws
  | _ :: ws => freezeS env ws
theorem SrcAll.mono {F2 : Hp} {vs : List V} {ws : List W} (h : SrcAll K F F env τ vs ws) (e : Same F F2) : SrcAll K F2 F2 env τ vs ws := by
  induction h with
  | nil => exact .nil
  | cons a b ih =>
    refine .cons (fun b ds q => ?_) ih
    obtain ⟨c, us, z1, z2, z3⟩ := a b ds q
    exact ⟨c, us, z1, dqAll_mono e z2, z3.mono e⟩
theorem src_s {F1 H1 Fb : Hp} {τb τ1 : Tp} (Ib : SI K F0 H0 Fb Hb t env τb σ) (S1 : Sok K F1 H1 t env τ1 σ) (P1 : Post K t τ1 Fb Hb F1 H1) : ∀ {vs : List V} {ws : List W} {env' : En} {F' : Hp}, SI K F0 H0 F' H1 t env' τ1 σ → Same F1 F' →
    (∀ (i : Nat) (ds : List D), env[i]? = some (Sl.own ds) → env'[i]? = some (Sl.own ds) ∨ env'[i]? = some (Sl.d (.list ds))) → (∀ (i : Nat) (ds : List D), env'[i]? = some (Sl.own ds) → env[i]? = some (Sl.own ds)) → RwAll K F1 H1 Hb t σ vs ws → ws.all notTp = true →
    ∃ F2, Same F' F2 ∧ SI K F0 H0 F2 H1 t (freezeS env' ws) τ1 σ ∧ SrcAll K F2 F2 env τ1 vs ws
  | _, _, env', F', I, e, hr, hr', .nil, _ => ⟨F', .refl _, I, .nil⟩
  | _, _, env', F', I, e, hr, hr', .cons (v := v) (vs := vs) (w := w) (ws := ws) r r0, h => by
    rw [List.all_cons, Bool.and_eq_true] at h
    cases w with
    | d x =>
      obtain ⟨F2, e2, I2, A2⟩ := src_s Ib S1 P1 I e hr hr' r0 h.2
      refine ⟨F2, e2, I2, .cons (fun b ds q => ?_) A2⟩
      have r2 := dq_mono (e.trans e2) r
      cases x with
      | list es =>
        cases q
        cases r2 with
        | lst s a => exact ⟨_, _, rfl, a, s⟩
      | tuple es =>
        cases q
        cases r2 with
        | tup s a => exact ⟨_, _, rfl, a, s⟩
      | _ => cases q
    | new ds =>
      obtain ⟨a, us, rfl, h2, h3, h4, h5, h6⟩ := r
      have h0 : H0 a = none := Ib.post.bnone h4 h3
      obtain ⟨F3, e3, I3, f3, _⟩ := I.fz (ds := ds) h3 h0 h5 (fun j es hj z => by
        obtain ⟨b, us', z1, z2, z3, z4, z5⟩ := Ib.ok.slot j _ (hr' j es hj)
        rw [z] at z1
        cases z1
        rw [h4] at z4
        cases z4)
      obtain ⟨F2, e2, I2, A2⟩ := src_s Ib S1 P1 I3 (e.trans e3) hr hr' r0 h.2
      refine ⟨F2, e3.trans e2, I2, .cons (fun b ds' q => ?_) A2⟩
      cases q
      exact ⟨a, us, rfl, dqAll_mono ((e.trans e3).trans e2) h6, e2 _ _ f3⟩
    | loc i =>
      -- the slot is own still, or given away already
      cases hown : env[i]? with
      | none =>
        have z : freezeS env' (.loc i :: ws) = freezeS env' ws := by
          have : ∀ ds, env'[i]? ≠ some (Sl.own ds) := fun ds q => by rw [hr' i ds q] at hown; cases hown
          show (match env'[i]? with | some (.own ds) => freezeS (env'.set i (.d (.list ds))) ws | _ => freezeS env' ws) = _
          split
          · rename_i ds q; exact absurd q (this ds)
          · rfl
        rw [z]
        obtain ⟨F2, e2, I2, A2⟩ := src_s Ib S1 P1 I e hr hr' r0 h.2
        refine ⟨F2, e2, I2, .cons (fun b ds q => ?_) A2⟩
        change (match env[i]? with | some (.own ds) => some (true, ds) | _ => none) = _ at q
        rw [hown] at q
        cases q
      | some s =>
        cases s with
        | own ds =>
          rcases hr i ds hown with k | k
          · have z : freezeS env' (.loc i :: ws) = freezeS (env'.set i (.d (.list ds))) ws := by
              show (match env'[i]? with | some (.own ds) => freezeS (env'.set i (.d (.list ds))) ws | _ => freezeS env' ws) = _
              rw [k]
            rw [z]
            have hl : i < env'.length := (List.getElem?_eq_some_iff.mp k).1
            obtain ⟨a, us, F3, s1, e3, f3, d3, I3⟩ := I.freezeLoc k
            obtain ⟨F2, e2, I2, A2⟩ := src_s Ib S1 P1 I3 (e.trans e3) (fun j es hj => by
              by_cases hij : i = j
              · subst hij
                rw [hown] at hj
                cases hj
                exact .inr (List.getElem?_set_self hl)
              · rw [List.getElem?_set_ne hij]
                exact hr j es hj) (fun j es hj => by
              by_cases hij : i = j
              · subst hij
                rw [List.getElem?_set_self hl] at hj
                cases hj
              · rw [List.getElem?_set_ne hij] at hj
                exact hr' j es hj) r0 h.2
            refine ⟨F2, e3.trans e2, I2, .cons (fun b ds' q => ?_) A2⟩
            change (match env[i]? with | some (.own ds) => some (true, ds) | _ => none) = _ at q
            rw [hown] at q
            cases q
            have : σ[i]? = some (some v) := r
            rw [s1] at this
            cases this
            exact ⟨a, us, rfl, dqAll_mono e2 d3, e2 _ _ f3⟩
          · have z : freezeS env' (.loc i :: ws) = freezeS env' ws := by
              show (match env'[i]? with | some (.own ds) => freezeS (env'.set i (.d (.list ds))) ws | _ => freezeS env' ws) = _
              rw [k]
            rw [z]
            obtain ⟨v', k1, k2⟩ := I.ok.slot i _ k
            obtain ⟨F2, e2, I2, A2⟩ := src_s Ib S1 P1 I e hr hr' r0 h.2
            refine ⟨F2, e2, I2, .cons (fun b ds' q => ?_) A2⟩
            change (match env[i]? with | some (.own ds) => some (true, ds) | _ => none) = _ at q
            rw [hown] at q
            cases q
            have : σ[i]? = some (some v) := r
            rw [k1] at this
            cases this
            cases k2 with
            | lst s a => exact ⟨_, _, rfl, dqAll_mono e2 a, e2 _ _ s⟩
        | _ =>
          have z : freezeS env' (.loc i :: ws) = freezeS env' ws := by
            have : ∀ ds, env'[i]? ≠ some (Sl.own ds) := fun ds q => by rw [hr' i ds q] at hown; cases hown
            show (match env'[i]? with | some (.own ds) => freezeS (env'.set i (.d (.list ds))) ws | _ => freezeS env' ws) = _
            split
            · rename_i ds q; exact absurd q (this ds)
            · rfl
          rw [z]
          obtain ⟨F2, e2, I2, A2⟩ := src_s Ib S1 P1 I e hr hr' r0 h.2
          refine ⟨F2, e2, I2, .cons (fun b ds q => ?_) A2⟩
          change (match env[i]? with | some (.own ds) => some (true, ds) | _ => none) = _ at q
          rw [hown] at q
          cases q
    | tp => cases h.1
/-! ### a slot is set -/
def setW (own : Bool) (i : Nat) (w : W) (env : En) : Option En := if i < env.length then (match w with
  | .d x => some (env.set i (.d x))
  | .new ds => some (env.set i (if own = true then .own ds else .d (.list ds)))
  | _ => none) else none
theorem SI.setD (I : SI K F0 H0 F H t env τ σ) {i : Nat} {v : V} {d : D} (hi : i < env.length) (h : Dq K F v d) : SI K F0 H0 F H t (env.set i (.d d)) τ (σ.set i (some v)) :=
  ⟨I.ok.setD hi h, I.post, fun j ds a e1 e2 => by
    have n1 : i ≠ j := fun z => by subst z; rw [List.getElem?_set_self hi] at e1; cases e1
    rw [List.getElem?_set_ne n1] at e1 e2
    exact I.own j ds a e1 e2⟩
theorem SI.setOwn (I : SI K F0 H0 F H t env τ σ) {i : Nat} {a : Addr} {vs : List V} {ds : List D} (hi : i < env.length) (h1 : F a = none) (h2 : t ≠ some a) (h0 : H0 a = none) (h3 : H a = some (.lst vs)) (h4 : DqAll K F vs ds)
    (hd : ∀ (j : Nat) (es : List D), env[j]? = some (Sl.own es) → j ≠ i → σ[j]? ≠ some (some (V.ref a))) : SI K F0 H0 F H t (env.set i (.own ds)) τ (σ.set i (some (.ref a))) := by
  have hl : i < σ.length := by rw [← I.ok.len]; exact hi
  refine ⟨⟨I.ok.same, by rw [List.length_set, List.length_set, I.ok.len], fun j s h => ?_, fun j k es fs e1 e2 hne => ?_, I.ok.tape⟩, I.post, fun j es b e1 e2 => ?_⟩
  · by_cases hj : i = j
    · subst hj
      rw [List.getElem?_set_self hi] at h
      cases h
      exact ⟨a, vs, List.getElem?_set_self hl, h1, h2, h3, h4⟩
    · rw [List.getElem?_set_ne hj] at h
      have q := I.ok.slot j s h
      cases s with
      | no => trivial
      | d x =>
        obtain ⟨v, z1, z2⟩ := q
        exact ⟨v, by rw [List.getElem?_set_ne hj]; exact z1, z2⟩
      | own es =>
        obtain ⟨c, us, z1, z2⟩ := q
        exact ⟨c, us, by rw [List.getElem?_set_ne hj]; exact z1, z2⟩
      | tp =>
        obtain ⟨c, z1, z2⟩ := q
        exact ⟨c, z1, by rw [List.getElem?_set_ne hj]; exact z2⟩
      | ob fl =>
        obtain ⟨p, C, dx, fs, z1, z2⟩ := q
        exact ⟨p, C, dx, fs, by rw [List.getElem?_set_ne hj]; exact z1, z2⟩
  · by_cases hj : i = j
    · subst hj
      rw [List.getElem?_set_ne hne] at e2
      rw [List.getElem?_set_self hl, List.getElem?_set_ne hne]
      exact fun z => hd k fs e2 (Ne.symm hne) z.symm
    · by_cases hk : i = k
      · subst hk
        rw [List.getElem?_set_ne hj] at e1
        rw [List.getElem?_set_self hl, List.getElem?_set_ne hj]
        exact hd j es e1 hne
      · rw [List.getElem?_set_ne hj] at e1
        rw [List.getElem?_set_ne hk] at e2
        rw [List.getElem?_set_ne hj, List.getElem?_set_ne hk]
        exact I.ok.dis _ _ _ _ e1 e2 hne
  · by_cases hj : i = j
    · subst hj
      rw [List.getElem?_set_self hl] at e2
      cases e2
      exact h0
    · rw [List.getElem?_set_ne hj] at e1 e2
      exact I.own j es b e1 e2
end

open PySem PySem.Spec PyProof.Rows L2
/-! ### what statements come to -/
inductive Out where
  | nx (env : En) (τ : Tp) | bk (env : En) (τ : Tp) | ct (env : En) (τ : Tp) | rt (d : D) (τ : Tp)
abbrev EvS := En → Tp → Option Out
def Kont (K : PySem.W.Frag) (F0 H0 F : Hp) (t : Option Addr) (E : Ends) : Out → Prop
  | .nx e τ => ∀ F' H' σ', Same F F' → SI K F0 H0 F' H' t e τ σ' → E.nx σ' H'
  | .bk e τ => ∀ F' H' σ', Same F F' → SI K F0 H0 F' H' t e τ σ' → E.bk σ' H'
  | .ct e τ => ∀ F' H' σ', Same F F' → SI K F0 H0 F' H' t e τ σ' → E.ct σ' H'
  | .rt d τ => ∀ F' H' v, Post K t τ F0 H0 F' H' → Dq K F' v d → E.rt v H'
def tS (K : PySem.W.Frag) (f : EvS) : TS := fun E σ H => ∃ F0 H0 F t env τ o, SI K F0 H0 F H t env τ σ ∧ f env τ = some o ∧ Kont K F0 H0 F t E o
theorem Kont.mono {K : PySem.W.Frag} {F0 H0 F F2 : Hp} {t : Option Addr} {E : Ends} {o : Out} (h : Kont K F0 H0 F t E o) (e : Same F F2) : Kont K F0 H0 F2 t E o := by
  cases o with
  | nx a b => exact fun F' H' σ' s => h F' H' σ' (e.trans s)
  | bk a b => exact fun F' H' σ' s => h F' H' σ' (e.trans s)
  | ct a b => exact fun F' H' σ' s => h F' H' σ' (e.trans s)
  | rt a b => exact h
section
variable {K : PySem.W.Frag} {F0 H0 F H F' H' Hb : Hp} {t : Option Addr} {env env' : En} {τ τ' : Tp} {σ : L2.St}
theorem SI.fresh (I : SI K F0 H0 F H t env τ σ) {a : Addr} (h : H a = none) : ∀ (j : Nat) (es : List D), env[j]? = some (Sl.own es) → σ[j]? ≠ some (some (V.ref a)) := fun j es hj z => by
  obtain ⟨b, us, z1, z2, z3, z4, z5⟩ := I.ok.slot j _ hj
  rw [z] at z1
  cases z1
  rw [h] at z4
  cases z4
theorem SI.setW {own : Bool} {i : Nat} {v : V} {w : W} (I : SI K F0 H0 F H t env τ σ) (P : Post K t τ' F H F' H') (r : Rw K F' H' H t σ v w) (e : setW own i w env = some env') :
    ∃ F2, Same F' F2 ∧ SI K F0 H0 F2 H' t env' τ' (σ.set i (some v)) := by
  unfold Ev.setW at e
  split at e
  · rename_i hi
    cases w with
    | d x => cases e; exact ⟨F', .refl _, (I.step P).setD hi r⟩
    | new ds =>
      obtain ⟨a, us, rfl, h2, h3, h4, h5, h6⟩ := r
      have h0 : H0 a = none := I.post.bnone h4 h3
      have hd := I.fresh h4
      cases own with
      | true =>
        cases e
        exact ⟨F', .refl _, (I.step P).setOwn hi h2 h3 h0 h5 h6 fun j es hj _ => hd j es hj⟩
      | false =>
        cases e
        obtain ⟨F2, e2, I2, f2, _⟩ := (I.step P).fz (ds := ds) h3 h0 h5 hd
        exact ⟨F2, e2, I2.setD hi (.lst f2 (dqAll_mono e2 h6))⟩
    | loc j => cases e
    | tp => cases e
  · cases e
/-- an own list is written -/
theorem SI.updOwn {i : Nat} {a : Addr} {ds ds' : List D} {vs' : List V} (I : SI K F0 H0 F H t env τ σ) (h : env[i]? = some (Sl.own ds)) (hs : σ[i]? = some (some (V.ref a))) (d : DqAll K F vs' ds') :
    SI K F0 H0 F (upd H a (.lst vs')) t (env.set i (.own ds')) τ σ := by
  obtain ⟨b, us, z1, z2, z3, z4, z5⟩ := I.ok.slot i _ h
  rw [hs] at z1
  cases z1
  have hl : i < env.length := (List.getElem?_eq_some_iff.mp h).1
  have h0 := I.own i ds a h hs
  have e2 : Same F (upd H a (.lst vs')) := fun b o q => by
    rw [upd_ne (ne_of_none q z2)]
    exact I.ok.same _ _ q
  have tp : TapeOk K F (upd H a (.lst vs')) t τ := by
    have tp := I.ok.tape
    cases t with
    | none => trivial
    | some c =>
      obtain ⟨t1, us, t2, t3⟩ := tp
      have hc : c ≠ a := fun z => z3 (by rw [z])
      exact ⟨t1, us, by rw [upd_ne hc]; exact t2, t3⟩
  refine ⟨⟨e2, by rw [List.length_set, I.ok.len], fun j s q => ?_, fun j k es fs q1 q2 hne => ?_, tp⟩, ⟨I.post.ext, e2, I.post.new, fun b o q k => ?_, tp⟩, fun j es b q1 q2 => ?_⟩
  · by_cases hj : i = j
    · subst hj
      rw [List.getElem?_set_self hl] at q
      cases q
      exact ⟨a, vs', hs, z2, z3, upd_same, d⟩
    · rw [List.getElem?_set_ne hj] at q
      have r := I.ok.slot j s q
      cases s with
      | no => trivial
      | d x => exact r
      | own es =>
        obtain ⟨c, us', y1, y2, y3, y4, y5⟩ := r
        have hc : c ≠ a := fun z => I.ok.dis i j _ _ h q hj (by rw [hs, y1, z])
        exact ⟨c, us', y1, y2, y3, by rw [upd_ne hc]; exact y4, y5⟩
      | tp => exact r
      | ob fl => exact r
  · have f : ∀ {j : Nat} {es : List D}, (env.set i (Sl.own ds'))[j]? = some (Sl.own es) → ∃ gs, env[j]? = some (Sl.own gs) := fun {j es} q => by
      by_cases hj : i = j
      · subst hj; exact ⟨_, h⟩
      · rw [List.getElem?_set_ne hj] at q; exact ⟨_, q⟩
    obtain ⟨_, q1⟩ := f q1
    obtain ⟨_, q2⟩ := f q2
    exact I.ok.dis _ _ _ _ q1 q2 hne
  · rw [upd_ne (ne_of_none q h0)]
    exact I.post.keep _ _ q k
  · by_cases hj : i = j
    · subst hj; rw [hs] at q2; cases q2; exact h0
    · rw [List.getElem?_set_ne hj] at q1; exact I.own j es b q1 q2
/-- the tape is written -/
theorem SI.updTape {a : Addr} {ds' : List D} {vs' : List V} (I : SI K F0 H0 F H t env τ σ) (ht : t = some a) (d : DqAll K F vs' ds') : SI K F0 H0 F (upd H a (.lst vs')) t env ds' σ := by
  have tp := I.ok.tape
  rw [ht] at tp
  obtain ⟨t1, us, t2, t3⟩ := tp
  have e2 : Same F (upd H a (.lst vs')) := fun b o q => by
    rw [upd_ne (ne_of_none q t1)]
    exact I.ok.same _ _ q
  have tp' : TapeOk K F (upd H a (.lst vs')) t ds' := by rw [ht]; exact ⟨t1, vs', upd_same, d⟩
  refine ⟨⟨e2, I.ok.len, fun j s q => ?_, I.ok.dis, tp'⟩, ⟨I.post.ext, e2, I.post.new, fun b o q k => ?_, tp'⟩, I.own⟩
  · have r := I.ok.slot j s q
    cases s with
    | no => trivial
    | d x => exact r
    | own es =>
      obtain ⟨c, us', y1, y2, y3, y4, y5⟩ := r
      have hc : c ≠ a := fun z => y3 (by rw [ht, z])
      exact ⟨c, us', y1, y2, y3, by rw [upd_ne hc]; exact y4, y5⟩
    | tp => exact r
    | ob fl => exact r
  · rw [upd_ne (fun z => k (by rw [ht, z]))]
    exact I.post.keep _ _ q k
end
section
variable {X : Cx} {st : Stmt} {rest : List Stmt}
/-! ### small statements -/
def sNext : EvS := fun env τ => some (.nx env τ)
def sSeq (f g : EvS) : EvS := fun env τ => match f env τ with
  | some (.nx e t) => g e t
  | some o => some o
  | none => none
theorem next_ok {D : Ends} {σ : L2.St} {H : Hp} (h : tS X.K sNext D σ H) : tNext D σ H := by
  obtain ⟨F0, H0, F, t, env, τ, o, I, e, q⟩ := h
  cases e
  exact q F H σ (.refl _) I
theorem nil_ok : PSs X [] (tS X.K sNext) := weakSs pss_nil fun D σ H h => next_ok h
theorem pass_ok {pos : Pos} : PS X (.Pass pos) (tS X.K sNext) := weakS ps_pass fun D σ H h => next_ok h
theorem cons_ok {f g : EvS} (h1 : PS X st (tS X.K f)) (h2 : PSs X rest (tS X.K g)) : PSs X (st :: rest) (tS X.K (sSeq f g)) :=
  weakSs (pss_cons h1 h2) fun D σ H ⟨F0, H0, F, t, env, τ, o, I, e, q⟩ => by
    unfold sSeq at e
    split at e
    · rename_i e1 t1 h1
      refine ⟨F0, H0, F, t, env, τ, _, I, h1, fun F' H' σ' s I' => ?_⟩
      exact ⟨F0, H0, F', t, e1, t1, o, I', e, q.mono s⟩
    · rename_i o' hn h1
      cases e
      refine ⟨F0, H0, F, t, env, τ, _, I, h1, ?_⟩
      cases o with
      | nx a b => exact absurd rfl (hn a b)
      | bk a b => exact q
      | ct a b => exact q
      | rt a b => exact q
    · cases e
def sBreak : EvS := fun env τ => some (.bk env τ)
def sCont : EvS := fun env τ => some (.ct env τ)
theorem break_ok {pos : Pos} : PS X (.Break pos) (tS X.K sBreak) := weakS ps_break fun D σ H ⟨F0, H0, F, t, env, τ, o, I, e, q⟩ => by
  cases e
  exact q F H σ (.refl _) I
theorem cont_ok {pos : Pos} : PS X (.Continue pos) (tS X.K sCont) := weakS ps_continue fun D σ H ⟨F0, H0, F, t, env, τ, o, I, e, q⟩ => by
  cases e
  exact q F H σ (.refl _) I
/-! ### name = e -/
def sSet (own : Bool) (i : Nat) (f : EvF) : EvS := fun env τ => match f env τ with
  | some (w, τ1) => (match setW own i w env with
    | some env' => some (.nx env' τ1)
    | none => none)
  | none => none
theorem set_core {own : Bool} {i : Nat} {f : EvF} {D : Ends} {σ : L2.St} {H : Hp} (h : tS X.K (sSet own i f) D σ H) : tAsg (tE X.K f) (gName i) D σ H := by
  obtain ⟨F0, H0, F, t, env, τ, o, I, e, q⟩ := h
  unfold sSet at e
  split at e
  · rename_i w τ1 e1
    split at e
    · rename_i env' e2
      cases e
      refine ⟨F, t, env, τ, w, _, I.ok, e1, fun F' v H' P r => ?_⟩
      obtain ⟨F2, s2, I2⟩ := I.setW P r e2
      exact q F2 H' _ (P.ext.trans s2) I2
    · cases e
  · cases e
/-! ### return -/
def retD (env : En) : W → Option D
  | .d x => some x
  | .new ds => some (.list ds)
  | .loc i => match env[i]? with
    | some (.own ds) => some (.list ds)
    | _ => none
  | .tp => none
def sRet (f : EvF) : EvS := fun env τ => match f env τ with
  | some (w, τ1) => (match retD env w with
    | some d => some (.rt d τ1)
    | none => none)
  | none => none
theorem ret_ok {f : EvF} {e : Expr} {pos : Pos} (h : PE X e (tE X.K f)) : PS X (.Return (some e) pos) (tS X.K (sRet f)) :=
  weakS (ps_ret h) fun D σ H ⟨F0, H0, F, t, env, τ, o, I, e, q⟩ => by
    unfold sRet at e
    split at e
    · rename_i w τ1 e1
      split at e
      · rename_i d e2
        cases e
        refine ⟨F, t, env, τ, w, _, I.ok, e1, fun F' v H' P r => ?_⟩
        have I1 := I.step P
        cases w with
        | d x => cases e2; exact q F' H' v I1.post r
        | new ds =>
          cases e2
          obtain ⟨a, us, rfl, h2, h3, h4, h5, h6⟩ := r
          obtain ⟨F2, s2, I2, f2, _⟩ := I1.fz (ds := ds) h3 (I.post.bnone h4 h3) h5 (I.fresh h4)
          exact q F2 H' _ I2.post (.lst f2 (dqAll_mono s2 h6))
        | loc i =>
          change (match env[i]? with | some (.own ds) => some (PyData.list ds) | _ => none) = _ at e2
          split at e2
          · rename_i ds hd
            cases e2
            obtain ⟨a, us, F2, s1, s2, f2, d2, I2⟩ := I1.freezeLoc hd
            have : σ[i]? = some (some v) := r
            rw [s1] at this
            cases this
            exact q F2 H' _ I2.post (.lst f2 d2)
          · cases e2
        | tp => cases e2
      · cases e
    · cases e
/-! ### an expression whose value is dropped -/
def sDrop (f : EvF) : EvS := fun env τ => match f env τ with
  | some (_, τ1) => some (.nx env τ1)
  | none => none
theorem drop_ok {f : EvF} {e : Expr} {pos : Pos} (h : PE X e (tE X.K f)) (hs : swapsWith e none pos.line X.env = pure false) : PS X (.Expr e pos) (tS X.K (sDrop f)) :=
  weakS (ps_expr h hs) fun D σ H ⟨F0, H0, F, t, env, τ, o, I, e, q⟩ => by
    unfold sDrop at e
    split at e
    · rename_i w τ1 e1
      cases e
      exact ⟨F, t, env, τ, w, _, I.ok, e1, fun F' v H' P r => q F' H' σ P.ext (I.step P)⟩
    · cases e
/-! ### if -/
def sIf (c : EvF) (f g : EvS) : EvS := fun env τ => match c env τ with
  | some (.d (.bool true), τ1) => f env τ1
  | some (.d (.bool false), τ1) => g env τ1
  | _ => none
theorem if_ok {c : EvF} {f g : EvS} {e : Expr} {a b : List Stmt} {pos : Pos} (hc : PT X e (tT X.K c)) (ha : PSs X a (tS X.K f)) (hb : PSs X b (tS X.K g)) : PS X (.If e a b pos) (tS X.K (sIf c f g)) :=
  weakS (ps_if hc ha hb) fun D σ H ⟨F0, H0, F, t, env, τ, o, I, e, q⟩ => by
    unfold sIf at e
    split at e
    · rename_i τ1 e1
      refine ⟨F, t, env, τ, _, _, I.ok, e1, fun F' H' P => ?_⟩
      show ite _ _ _
      rw [if_pos rfl]
      exact ⟨F0, H0, F', t, env, τ1, o, I.step P, e, q.mono P.ext⟩
    · rename_i τ1 e1
      refine ⟨F, t, env, τ, _, _, I.ok, e1, fun F' H' P => ?_⟩
      show ite _ _ _
      rw [if_neg Bool.false_ne_true]
      exact ⟨F0, H0, F', t, env, τ1, o, I.step P, e, q.mono P.ext⟩
    · cases e
/-! ### for -/
def forGo (tg : Tg) (body : EvS) : List D → En → Tp → Option Out
  | [], env, τ => some (.nx env τ)
  | d :: r, env, τ => match bindT tg d env with
    | some env1 => (match body env1 τ with
      | some (.nx e t) => forGo tg body r e t
      | some (.ct e t) => forGo tg body r e t
      | some (.bk e t) => some (.nx e t)
      | some (.rt d t) => some (.rt d t)
      | none => none)
    | none => none
def sFor (fi : EvI) (tg : Tg) (body : EvS) : EvS := fun env τ => match fi env τ with
  | some (its, ws, τ1) => if ws.all notTp = true then forGo tg body its (freezeS env ws) τ1 else none
  | none => none
theorem for_sem {K : PySem.W.Frag} {fi : EvI} {tg : Tg} {body : EvS} {D : Ends} {σ : L2.St} {H : Hp} (h : tS K (sFor fi tg body) D σ H) : tFor (tI K fi) (tG K tg) (tS K body) D σ H := by
  obtain ⟨F0, H0, F, t, env, τ, o, I, e, q⟩ := h
  unfold sFor at e
  split at e
  · rename_i its ws τ1 e1
    split at e
    · rename_i hall
      refine ⟨F, t, env, τ, its, ws, τ1, I.ok, e1, fun F1 H1 J vs P1 r1 it => ?_⟩
      obtain ⟨F2, s2, I2, A2⟩ := src_s I (I.ok.post P1) P1 (I.step P1) (.refl _) (fun i ds h => .inl h) (fun i ds h => h) r1 hall
      have IT := it F2 F2 s2 A2
      refine ⟨fun i m σ' H' => m = its.length - i ∧ i ≤ its.length ∧ ∃ F' env' τ', SI K F0 H0 F' H' t env' τ' σ' ∧ Same F2 F' ∧ forGo tg body (its.drop i) env' τ' = some o,
        ⟨its.length, by simp, Nat.zero_le _, F2, _, τ1, I2, .refl _, by simpa using e⟩, ?_⟩
      rintro i m σ' H' ⟨rfl, hi, F', env', τ', I', s', hgo⟩
      have sH : Same F2 H' := s'.trans I'.ok.same
      by_cases hlt : i < its.length
      · refine .inr ⟨IT.go F' H' env' τ' σ' i s' sH I'.ok hlt, fun σ'' H'' => ∃ F' env' τ', SI K F0 H0 F' H'' t env' τ' σ'' ∧ Same F2 F' ∧ forGo tg body (its.drop (i + 1)) env' τ' = some o, fun σ'' H'' n => ⟨its.length - (i + 1), by omega, rfl, hlt, n⟩, fun x H'' y => ?_⟩
        obtain ⟨F3, P3, dx⟩ := IT.yld F' H' env' τ' σ' i its[i] s' sH I'.ok (by simp [hlt]) x H'' y
        rw [List.drop_eq_getElem_cons hlt] at hgo
        unfold forGo at hgo
        split at hgo
        · rename_i env1 hb
          have I3 := I'.step P3
          refine ⟨F3, t, env', τ', its[i], env1, I3.ok, dx, hb, fun σ2 S2 o2 oe2 => ?_⟩
          have I4 : SI K F0 H0 F3 H'' t env1 τ' σ2 := ⟨S2, I3.post, fun j ds a q1 q2 => by
            obtain ⟨z1, z2⟩ := oe2.own j ds q1
            exact I'.own j ds a z1 (by rw [← o2.at_ j z2]; exact q2)⟩
          have s3 : Same F2 F3 := s'.trans P3.ext
          split at hgo
          · rename_i e5 t5 h5
            exact ⟨F0, H0, F3, t, env1, τ', _, I4, h5, fun F5 H5 σ5 s5 I5 => ⟨F5, e5, t5, I5, s3.trans s5, hgo⟩⟩
          · rename_i e5 t5 h5
            exact ⟨F0, H0, F3, t, env1, τ', _, I4, h5, fun F5 H5 σ5 s5 I5 => ⟨F5, e5, t5, I5, s3.trans s5, hgo⟩⟩
          · rename_i e5 t5 h5
            cases hgo
            exact ⟨F0, H0, F3, t, env1, τ', _, I4, h5, fun F5 H5 σ5 s5 I5 => q F5 H5 σ5 ((P1.ext.trans s2).trans (s3.trans s5)) I5⟩
          · rename_i d5 t5 h5
            cases hgo
            exact ⟨F0, H0, F3, t, env1, τ', _, I4, h5, fun F5 H5 v5 P5 d5 => q F5 H5 v5 P5 d5⟩
          · cases hgo
        · cases hgo
      · have hi' : i = its.length := by omega
        subst hi'
        rw [List.drop_length] at hgo
        unfold forGo at hgo
        cases hgo
        exact .inl ⟨IT.stop F' H' env' τ' σ' s' sH I'.ok, q F' H' σ' ((P1.ext.trans s2).trans s') I'⟩
    · cases e
  · cases e
/-! ### while -/
def whM (c : EvF) (body : EvS) : Nat → En → Tp → Option Out
  | 0, _, _ => none
  | m + 1, env, τ => match c env τ with
    | some (.d (.bool true), τ1) => (match body env τ1 with
      | some (.nx e t) => whM c body m e t
      | some (.ct e t) => whM c body m e t
      | some (.bk e t) => some (.nx e t)
      | some (.rt d t) => some (.rt d t)
      | none => none)
    | some (.d (.bool false), τ1) => some (.nx env τ1)
    | _ => none
open Classical in
noncomputable def sWhile (c : EvF) (body : EvS) : EvS := fun env τ => if h : ∃ m o, whM c body m env τ = some o then some (Classical.choose (Classical.choose_spec h)) else none
theorem whM_mono {c : EvF} {body : EvS} : ∀ {m : Nat} {env : En} {τ : Tp} {o : Out}, whM c body m env τ = some o → ∀ n, whM c body (m + n) env τ = some o
  | 0, _, _, _, h, _ => by cases h
  | m + 1, env, τ, o, h, n => by
    rw [show m + 1 + n = (m + n) + 1 by omega]
    unfold whM at h ⊢
    cases hc : c env τ with
    | none => rw [hc] at h; exact h
    | some r =>
      obtain ⟨w, τ1⟩ := r
      rw [hc] at h
      cases w with
      | d x =>
        cases x with
        | bool b =>
          cases b with
          | true =>
            dsimp only at h ⊢
            cases hb : body env τ1 with
            | none => rw [hb] at h; exact h
            | some o1 =>
              rw [hb] at h
              cases o1 with
              | nx e t => exact whM_mono h n
              | ct e t => exact whM_mono h n
              | bk e t => exact h
              | rt e t => exact h
          | false => exact h
        | _ => exact h
      | _ => exact h
theorem sWhile_eq {c : EvF} {body : EvS} {m : Nat} {env : En} {τ : Tp} {o : Out} (h : whM c body m env τ = some o) : sWhile c body env τ = some o := by
  have hx : ∃ m o, whM c body m env τ = some o := ⟨m, o, h⟩
  unfold sWhile
  rw [dif_pos hx]
  have h2 := Classical.choose_spec (Classical.choose_spec hx)
  have h3 := whM_mono h (Classical.choose hx)
  have h4 := whM_mono h2 m
  rw [Nat.add_comm] at h4
  rw [h4] at h3
  exact h3
theorem sWhile_ex {c : EvF} {body : EvS} {env : En} {τ : Tp} {o : Out} (h : sWhile c body env τ = some o) : ∃ m, whM c body m env τ = some o := by
  unfold sWhile at h
  split at h
  · rename_i hx
    have h2 := Classical.choose_spec (Classical.choose_spec hx)
    cases h
    exact ⟨_, h2⟩
  · cases h
theorem while_sem {K : PySem.W.Frag} {c : EvF} {body : EvS} {D : Ends} {σ : L2.St} {H : Hp} (h : tS K (sWhile c body) D σ H) : tWhile (tT K c) (tS K body) D σ H := by
  obtain ⟨F0, H0, F, t, env, τ, o, I, e, q⟩ := h
  obtain ⟨m0, e⟩ := sWhile_ex e
  refine ⟨fun m σ' H' => ∃ F' env' τ', SI K F0 H0 F' H' t env' τ' σ' ∧ Same F F' ∧ whM c body m env' τ' = some o, ⟨m0, F, env, τ, I, .refl _, e⟩, ?_⟩
  rintro m σ' H' ⟨F', env', τ', I', s', hgo⟩
  cases m with
  | zero => cases hgo
  | succ m =>
    unfold whM at hgo
    split at hgo
    · rename_i τ1 h1
      refine ⟨F', t, env', τ', _, _, I'.ok, h1, fun F1 H1 P1 => ?_⟩
      show ite _ _ _
      rw [if_pos rfl]
      refine ⟨fun σ' H' => ∃ F' env' τ', SI K F0 H0 F' H' t env' τ' σ' ∧ Same F F' ∧ whM c body m env' τ' = some o, fun σ'' H'' n => ⟨m, Nat.lt_succ_self _, n⟩, ?_⟩
      have I1 := I'.step P1
      have s1 := s'.trans P1.ext
      split at hgo
      · rename_i e5 t5 h5
        exact ⟨F0, H0, F1, t, env', τ1, _, I1, h5, fun F5 H5 σ5 s5 I5 => ⟨F5, e5, t5, I5, s1.trans s5, hgo⟩⟩
      · rename_i e5 t5 h5
        exact ⟨F0, H0, F1, t, env', τ1, _, I1, h5, fun F5 H5 σ5 s5 I5 => ⟨F5, e5, t5, I5, s1.trans s5, hgo⟩⟩
      · rename_i e5 t5 h5
        cases hgo
        exact ⟨F0, H0, F1, t, env', τ1, _, I1, h5, fun F5 H5 σ5 s5 I5 => q F5 H5 σ5 (s1.trans s5) I5⟩
      · rename_i d5 t5 h5
        cases hgo
        exact ⟨F0, H0, F1, t, env', τ1, _, I1, h5, fun F5 H5 v5 P5 d5 => q F5 H5 v5 P5 d5⟩
      · cases hgo
    · rename_i τ1 h1
      cases hgo
      refine ⟨F', t, env', τ', _, _, I'.ok, h1, fun F1 H1 P1 => ?_⟩
      show ite _ _ _
      rw [if_neg Bool.false_ne_true]
      exact q F1 H1 σ' (s'.trans P1.ext) (I'.step P1)
    · cases hgo
end

open PySem PySem.Spec PyProof.Rows L2
section
variable {K : PySem.W.Frag} {F0 H0 F H F' H' Hb : Hp} {t : Option Addr} {env env' : En} {τ τ' : Tp} {σ : L2.St}
/-- a value given away, between statements -/
theorem SI.give {v : V} {w : W} {d : D} (I : SI K F0 H0 F H t env τ σ) (P : Post K t τ' F H F' H') (r : Rw K F' H' H t σ v w) (e : toD w = some d) : ∃ F2, Post K t τ' F H F2 H' ∧ Same F' F2 ∧ SI K F0 H0 F2 H' t env τ' σ ∧ Dq K F2 v d := by
  obtain ⟨F2, P2, s2, S2, d2⟩ := freeze I.ok (I.ok.post P) P r e
  exact ⟨F2, P2, s2, I.step P2, d2⟩
end
section
variable {X : Cx}
/-! ### a, b = a value -/
def sTg (tg : Tg) (f : EvF) : EvS := fun env τ => match f env τ with
  | some (w, τ1) => (match toD w with
    | some d => (match bindT tg d env with
      | some env' => some (.nx env' τ1)
      | none => none)
    | none => none)
  | none => none
theorem tg_core {tg : Tg} {f : EvF} {D : Ends} {σ : L2.St} {H : Hp} (h : tS X.K (sTg tg f) D σ H) : tAsg (tE X.K f) (tG X.K tg) D σ H := by
  obtain ⟨F0, H0, F, t, env, τ, o, I, e, q⟩ := h
  unfold sTg at e
  split at e
  · rename_i w τ1 e1
    split at e
    · rename_i d e2
      split at e
      · rename_i env' e3
        cases e
        refine ⟨F, t, env, τ, w, _, I.ok, e1, fun F' v H' P r => ?_⟩
        obtain ⟨F2, P2, s2, I2, d2⟩ := I.give P r e2
        refine ⟨F2, t, env, τ1, d, env', I2.ok, d2, e3, fun σ2 S2 o2 oe2 => ?_⟩
        exact q F2 H' σ2 P2.ext ⟨S2, I2.post, fun j ds a q1 q2 => by
            obtain ⟨z1, z2⟩ := oe2.own j ds q1
            exact I2.own j ds a z1 (by rw [← o2.at_ j z2]; exact q2)⟩
      · cases e
    · cases e
  · cases e
/-! ### x[i] = e -/
def setSub (i : Nat) (d : D) (k : Int) (env : En) (τ : Tp) : Option Out := match env[i]? with
  | some (.own ds) => (match ixN ds.length k with
    | some j => some (.nx (env.set i (.own (ds.set j d))) τ)
    | none => none)
  | some .tp => (match ixN τ.length k with
    | some j => some (.nx env (τ.set j d))
    | none => none)
  | _ => none
def sSub (i : Nat) (fi f : EvF) : EvS := fun env τ => match f env τ with
  | some (w, τ1) => (match toD w with
    | some d => (match fi env τ1 with
      | some (.d (.int k), τ2) => setSub i d k env τ2
      | _ => none)
    | none => none)
  | none => none
theorem sub_core {i : Nat} {fi f : EvF} {D : Ends} {σ : L2.St} {H : Hp} (h : tS X.K (sSub i fi f) D σ H) : tAsg (tE X.K f) (L2.gSub (tE X.K (eVar i)) (tE X.K fi) rSetL) D σ H := by
  obtain ⟨F0, H0, F, t, env, τ, o, I, e, q⟩ := h
  unfold sSub at e
  split at e
  · rename_i w τ1 e1
    split at e
    · rename_i d e2
      split at e
      · rename_i k τ2 e3
        refine ⟨F, t, env, τ, w, _, I.ok, e1, fun F' v H' P r => ?_⟩
        obtain ⟨F2, P2, s2, I2, d2⟩ := I.give P r e2
        unfold setSub at e
        split at e
        · rename_i ds hs
          split at e
          · rename_i j hj
            cases e
            refine ⟨F2, t, env, τ1, .loc i, τ1, I2.ok, by unfold eVar; rw [hs], fun F3 v3 H3 P3 r3 => ?_⟩
            have I3 := I2.step P3
            refine ⟨F3, t, env, τ1, _, τ2, I3.ok, e3, fun F4 v4 H4 P4 r4 => ?_⟩
            have I4 := I3.step P4
            cases r4
            obtain ⟨a, us, z1, z2, z3, z4, z5⟩ := I4.ok.slot i _ hs
            have : σ[i]? = some (some v3) := r3
            rw [z1] at this
            cases this
            refine ⟨a, us, k, j, rfl, rfl, z4, by rw [dqAll_len z5]; exact hj, ?_⟩
            have I5 := I4.updOwn hs z1 (dqAll_set j z5 (dq_mono (P3.ext.trans P4.ext) d2))
            exact q F4 _ σ ((P2.ext.trans P3.ext).trans P4.ext) I5
          · cases e
        · rename_i hs
          split at e
          · rename_i j hj
            cases e
            refine ⟨F2, t, env, τ1, .tp, τ1, I2.ok, by unfold eVar; rw [hs], fun F3 v3 H3 P3 r3 => ?_⟩
            have I3 := I2.step P3
            refine ⟨F3, t, env, τ1, _, τ2, I3.ok, e3, fun F4 v4 H4 P4 r4 => ?_⟩
            have I4 := I3.step P4
            cases r4
            obtain ⟨a, ht, rfl⟩ := r3
            have tp := I4.ok.tape
            rw [ht] at tp
            obtain ⟨t1, us, t2, t3⟩ := tp
            refine ⟨a, us, k, j, rfl, rfl, t2, by rw [dqAll_len t3]; exact hj, ?_⟩
            have I5 := I4.updTape ht (dqAll_set j t3 (dq_mono (P3.ext.trans P4.ext) d2))
            exact q F4 _ σ ((P2.ext.trans P3.ext).trans P4.ext) I5
          · cases e
        · cases e
      · cases e
    · cases e
  · cases e
/-! ### x.append(e), x.insert(k, e), x.pop(k), y = x.pop() -/
def sApp (i : Nat) (f : EvA) : EvS := fun env τ => match env[i]? with
  | some (.own ds) => (match f env τ with
    | some ([.d d], τ1) => if ds.length < 1000000 then some (.nx (env.set i (.own (ds ++ [d]))) τ1) else none
    | _ => none)
  | _ => none
def sIns (i : Nat) (f : EvA) : EvS := fun env τ => match env[i]? with
  | some (.own ds) => (match f env τ with
    | some ([.d (.int k), .d d], τ1) => if ds.length < 1000000 ∧ 0 ≤ k ∧ k < 1000000 then some (.nx (env.set i (.own (ds.take k.toNat ++ [d] ++ ds.drop k.toNat))) τ1) else none
    | _ => none)
  | _ => none
def sPopAt (i : Nat) (f : EvA) : EvS := fun env τ => match env[i]? with
  | some (.own ds) => (match f env τ with
    | some ([.d (.int k)], τ1) => if 0 ≤ k ∧ k < ds.length ∧ k < 1000000 then some (.nx (env.set i (.own (ds.eraseIdx k.toNat))) τ1) else none
    | _ => none)
  | _ => none
def sPopSet (y i : Nat) : EvS := fun env τ => match env[i]? with
  | some (.own ds) => (match ds[ds.length - 1]? with
    | some d => if y < env.length then some (.nx ((env.set i (.own ds.dropLast)).set y (.d d)) τ) else none
    | none => none)
  | _ => none
theorem dqAll_ins {K : PySem.W.Frag} {F : Hp} {vs : List V} {ds : List D} {k : Nat} {v : V} {d : D} (h : DqAll K F vs ds) (g : Dq K F v d) : DqAll K F (vs.take k ++ [v] ++ vs.drop k) (ds.take k ++ [d] ++ ds.drop k) :=
  dqAll_append (dqAll_snoc (dqAll_take k h) g) (dqAll_drop k h)
theorem dqAll_dropLast {K : PySem.W.Frag} {F : Hp} {vs : List V} {ds : List D} (h : DqAll K F vs ds) : DqAll K F vs.dropLast ds.dropLast := by
  rw [List.dropLast_eq_take, List.dropLast_eq_take, dqAll_len h]
  exact dqAll_take _ h
theorem own_loc {K : PySem.W.Frag} {F H Hb : Hp} {t : Option Addr} {env : En} {τ : Tp} {σ : L2.St} {v : V} {i : Nat} {ds : List D} (S : Sok K F H t env τ σ) (r : Rw K F H Hb t σ v (.loc i)) (hs : env[i]? = some (Sl.own ds)) :
    ∃ a vs, v = .ref a ∧ σ[i]? = some (some (.ref a)) ∧ H a = some (.lst vs) ∧ DqAll K F vs ds := by
  obtain ⟨a, us, z1, z2, z3, z4, z5⟩ := S.slot i _ hs
  have : σ[i]? = some (some v) := r
  rw [z1] at this
  cases this
  exact ⟨a, us, rfl, z1, z4, z5⟩
theorem app_core {i : Nat} {f : EvA} {D : Ends} {σ : L2.St} {H : Hp} (h : tS X.K (sApp i f) D σ H) : tDrop (tBM X.K "list" rAppend (tE X.K (eVar i)) (tA X.K f)) D σ H := by
  obtain ⟨F0, H0, F, t, env, τ, o, I, e, q⟩ := h
  unfold sApp at e
  split at e
  · rename_i ds hs
    split at e
    · rename_i d τ1 e1
      split at e
      · rename_i hz
        cases e
        refine ⟨F, t, env, τ, .loc i, τ, I.ok, by unfold eVar; rw [hs], fun F1 v1 H1 P1 r1 => ?_⟩
        have I1 := I.step P1
        obtain ⟨a, us, rfl, z1, z4, z5⟩ := own_loc I1.ok r1 hs
        refine ⟨.inl ⟨rfl, us, SqL.of z4⟩, F1, t, env, τ, _, τ1, I1.ok, e1, fun F2 vs2 H2 P2 r2 => ?_⟩
        have I2 := I1.step P2
        cases r2 with
        | cons r r0 =>
          cases r0
          obtain ⟨a', us2, e2, y1, y4, y5⟩ := own_loc I2.ok (r1.post P2) hs
          cases e2
          refine ⟨a, us2, _, rfl, rfl, y4, by rw [dqAll_len y5]; have := line_big; omega, ?_⟩
          exact q F2 _ σ (P1.ext.trans P2.ext) (I2.updOwn hs y1 (dqAll_snoc y5 r))
      · cases e
    · cases e
  · cases e
theorem ins_core {i : Nat} {f : EvA} {D : Ends} {σ : L2.St} {H : Hp} (h : tS X.K (sIns i f) D σ H) : tDrop (tBM X.K "list" (fun x vs H Q => ∃ (l : Addr) (xs : List V) (i : Int) (y : V), x = .ref l ∧ vs = [.int i, y] ∧ H l = some (.lst xs) ∧ xs.length < sizeLine ∧ 0 ≤ i ∧ i < 2 ^ 63 ∧
    Q .non (upd H l (.lst (xs.take i.toNat ++ [y] ++ xs.drop i.toNat)))) (tE X.K (eVar i)) (tA X.K f)) D σ H := by
  obtain ⟨F0, H0, F, t, env, τ, o, I, e, q⟩ := h
  unfold sIns at e
  split at e
  · rename_i ds hs
    split at e
    · rename_i k d τ1 e1
      split at e
      · rename_i hz
        cases e
        refine ⟨F, t, env, τ, .loc i, τ, I.ok, by unfold eVar; rw [hs], fun F1 v1 H1 P1 r1 => ?_⟩
        have I1 := I.step P1
        obtain ⟨a, us, rfl, z1, z4, z5⟩ := own_loc I1.ok r1 hs
        refine ⟨.inl ⟨rfl, us, SqL.of z4⟩, F1, t, env, τ, _, τ1, I1.ok, e1, fun F2 vs2 H2 P2 r2 => ?_⟩
        have I2 := I1.step P2
        cases r2 with
        | cons r r0 =>
          cases r0 with
          | cons r' r00 =>
            cases r00
            cases r
            obtain ⟨a', us2, e2, y1, y4, y5⟩ := own_loc I2.ok (r1.post P2) hs
            cases e2
            refine ⟨a, us2, k, _, rfl, rfl, y4, by rw [dqAll_len y5]; have := line_big; omega, hz.2.1, by omega, ?_⟩
            exact q F2 _ σ (P1.ext.trans P2.ext) (I2.updOwn hs y1 (dqAll_ins y5 r'))
      · cases e
    · cases e
  · cases e
theorem popAt_core {i : Nat} {f : EvA} {D : Ends} {σ : L2.St} {H : Hp} (h : tS X.K (sPopAt i f) D σ H) : tDrop (tBM X.K "list" rPopAt (tE X.K (eVar i)) (tA X.K f)) D σ H := by
  obtain ⟨F0, H0, F, t, env, τ, o, I, e, q⟩ := h
  unfold sPopAt at e
  split at e
  · rename_i ds hs
    split at e
    · rename_i k τ1 e1
      split at e
      · rename_i hz
        cases e
        refine ⟨F, t, env, τ, .loc i, τ, I.ok, by unfold eVar; rw [hs], fun F1 v1 H1 P1 r1 => ?_⟩
        have I1 := I.step P1
        obtain ⟨a, us, rfl, z1, z4, z5⟩ := own_loc I1.ok r1 hs
        refine ⟨.inl ⟨rfl, us, SqL.of z4⟩, F1, t, env, τ, _, τ1, I1.ok, e1, fun F2 vs2 H2 P2 r2 => ?_⟩
        have I2 := I1.step P2
        cases r2 with
        | cons r r0 =>
          cases r0
          cases r
          obtain ⟨a', us2, e2, y1, y4, y5⟩ := own_loc I2.ok (r1.post P2) hs
          cases e2
          have hl := dqAll_len y5
          have hk : k.toNat < us2.length := by omega
          refine ⟨a, us2, k, k.toNat, us2[k.toNat], rfl, rfl, y4, by omega, by omega, ?_, by simp [hk], ?_⟩
          · exact (ixN_seq (by unfold ixN; rw [if_pos hz.1, if_pos (by omega)])).1
          · exact q F2 _ σ (P1.ext.trans P2.ext) (I2.updOwn hs y1 (dqAll_erase _ y5))
      · cases e
    · cases e
  · cases e
theorem popSet_core {y i : Nat} {D : Ends} {σ : L2.St} {H : Hp} (h : tS X.K (sPopSet y i) D σ H) : tAsg (tBM0 X.K "list" rPop (tE X.K (eVar i))) (gName y) D σ H := by
  obtain ⟨F0, H0, F, t, env, τ, o, I, e, q⟩ := h
  unfold sPopSet at e
  split at e
  · rename_i ds hs
    split at e
    · rename_i d hd
      split at e
      · rename_i hy
        cases e
        refine ⟨F, t, env, τ, .loc i, τ, I.ok, by unfold eVar; rw [hs], fun F1 v1 H1 P1 r1 => ?_⟩
        have I1 := I.step P1
        obtain ⟨a, us, rfl, z1, z4, z5⟩ := own_loc I1.ok r1 hs
        obtain ⟨v, hv, dv⟩ := dqAll_at z5 hd
        refine ⟨.inl ⟨rfl, us, SqL.of z4⟩, a, us, v, rfl, rfl, z4, by rw [dqAll_len z5]; exact hv, ?_⟩
        have I2 := I1.updOwn hs z1 (dqAll_dropLast z5)
        exact q F1 _ _ P1.ext (I2.setD (by rw [List.length_set]; exact hy) dv)
      · cases e
    · cases e
  · cases e
end

open PySem PySem.Spec PyProof.Rows L2
/-! ### values for several names at once: lists just made stay lists just made -/
inductive RwD (K : PySem.W.Frag) (F H Hb : Hp) (t : Option Addr) (σ : L2.St) : List V → List W → Prop
  | nil : RwD K F H Hb t σ [] []
  | cons {v : V} {vs : List V} {w : W} {ws : List W} : Rw K F H Hb t σ v w → (∀ ds ds' u w', w = .new ds → (u, w') ∈ vs.zip ws → w' = W.new ds' → u ≠ v) → RwD K F H Hb t σ vs ws → RwD K F H Hb t σ (v :: vs) (w :: ws)
section
variable {K : PySem.W.Frag} {F0 H0 F H F' H' Hb : Hp} {t : Option Addr} {env env' : En} {τ τ' : Tp} {σ σ' : L2.St}
theorem RwD.mem {vs : List V} {ws : List W} (r : RwD K F H Hb t σ vs ws) : ∀ {u w}, (u, w) ∈ vs.zip ws → Rw K F H Hb t σ u w := by
  induction r with
  | nil => intro u w h; simp at h
  | cons a _ b ih =>
    intro u w h
    rw [List.zip_cons_cons, List.mem_cons] at h
    rcases h with q | q
    · cases q; exact a
    · exact ih q
theorem RwD.len {vs : List V} {ws : List W} (r : RwD K F H Hb t σ vs ws) : vs.length = ws.length := by
  induction r with
  | nil => rfl
  | cons a _ b ih => simp [ih]
theorem RwD.base {F2 H2 : Hp} {vs : List V} {ws : List W} (r : RwD K F' H' H t σ vs ws) (P : Post K t τ' F2 H2 F H) : RwD K F' H' H2 t σ vs ws := by
  induction r with
  | nil => exact .nil
  | cons a d b ih => exact .cons (a.base P) d ih
def tAd (K : PySem.W.Frag) (f : EvA) : TA := fun σ H Q => ∃ F t env τ ws τ', Sok K F H t env τ σ ∧ f env τ = some (ws, τ') ∧ ∀ F' vs H', Post K t τ' F H F' H' → RwD K F' H' H t σ vs ws → Q vs H'
def dCons (a : EvF) (r : EvA) : EvA := fun env τ => match a env τ with
  | some (w, τ1) => (match r env τ1 with
    | some (ws, τ2) => some (w :: ws, τ2)
    | none => none)
  | none => none
theorem dNil_ok {X : Cx} : PA X [] (tAd X.K aNil) := weakA pa_nil fun σ H Q ⟨F, t, env, τ, ws, τ', S, e, q⟩ => by
  cases e
  exact q F [] H (.refl S) .nil
theorem dCons_ok {X : Cx} {a : EvF} {r : EvA} {ea : Expr} {es : List Expr} (ha : PE X ea (tE X.K a)) (hr : PA X es (tAd X.K r)) (hs : nst ea = true) : PA X (ea :: es) (tAd X.K (dCons a r)) :=
  weakA (pa_cons ha hr (starEach_ns hs)) fun σ H Q ⟨F, t, env, τ, ws, τ', S, e, q⟩ => by
    unfold dCons at e
    split at e
    · rename_i w τ1 e1
      split at e
      · rename_i ws' τ2 e2
        cases e
        refine ⟨F, t, env, τ, w, τ1, S, e1, fun F1 v1 H1 P1 r1 => ?_⟩
        refine ⟨F1, t, env, τ1, ws', _, S.post P1, e2, fun F2 vs H2 P2 r2 => q F2 _ H2 (P1.trans P2) (.cons (r1.post P2) (fun ds ds' u w' hw hm hw' => ?_) (r2.base P1))⟩
        subst hw hw'
        obtain ⟨a1, us1, rfl, _, _, _, z1, _⟩ := r1
        obtain ⟨a2, us2, rfl, _, _, z2, _, _⟩ := r2.mem hm
        intro z
        cases z
        rw [z1] at z2
        cases z2
      · cases e
    · cases e
/-! ### the names are set -/
def setWs (own : Nat → Bool) : List Nat → List W → En → Option En
  | [], [], env => some env
  | i :: is, w :: ws, env => match setW (own i) i w env with
    | some env' => setWs own is ws env'
    | none => none
  | _, _, _ => none
def setVs : List Nat → List V → L2.St → L2.St
  | i :: is, v :: vs, σ => setVs is vs (σ.set i (some v))
  | _, _, σ => σ
theorem setWs_len {own : Nat → Bool} : ∀ {is : List Nat} {ws : List W} {env env' : En}, setWs own is ws env = some env' → is.length = ws.length
  | [], [], _, _, _ => rfl
  | [], _ :: _, _, _, e => by cases e
  | _ :: _, [], _, _, e => by cases e
  | i :: is, w :: ws, env, env', e => by
    unfold setWs at e
    split at e
    · rw [List.length_cons, List.length_cons, setWs_len e]
    · cases e
theorem SI.setWs {own : Nat → Bool} {σ0 : L2.St} (h0 : ∀ a, t ≠ some a → Hb a = none → H0 a = none) : ∀ {is : List Nat} {vs : List V} {ws : List W} {F : Hp} {env : En} {σ : L2.St}, SI K F0 H0 F H t env τ σ → RwD K F H Hb t σ0 vs ws →
    (∀ (j : Nat) es b, env[j]? = some (Sl.own es) → σ[j]? = some (some (V.ref b)) → ∀ u ds, (u, W.new ds) ∈ vs.zip ws → u ≠ .ref b) → Ev.setWs own is ws env = some env' → ∃ F2, Same F F2 ∧ SI K F0 H0 F2 H t env' τ (setVs is vs σ)
  | [], vs, ws, F, env, σ, I, r, hd, e => by
    cases r with
    | nil => cases e; exact ⟨F, .refl _, I⟩
    | cons => cases e
  | i :: is, vs, ws, F, env, σ, I, r, hd, e => by
    cases r with
    | nil => cases e
    | @cons v vs w ws r1 d1 r0 =>
      unfold Ev.setWs at e
      split at e
      · rename_i env1 e1
        unfold Ev.setW at e1
        split at e1
        · rename_i hi
          cases w with
          | d x =>
            cases e1
            refine SI.setWs (is := is) (vs := vs) (σ := σ.set i (some v)) h0 (I.setD hi r1) r0 (fun j es b hj hb u ds hu => ?_) e
            have n1 : i ≠ j := fun z => by subst z; rw [List.getElem?_set_self hi] at hj; cases hj
            rw [List.getElem?_set_ne n1] at hj hb
            exact hd j es b hj hb u ds (by rw [List.zip_cons_cons]; exact List.mem_cons_of_mem _ hu)
          | new ds =>
            obtain ⟨a, us, rfl, h2, h3, h4, h5, h6⟩ := r1
            have hda : ∀ (j : Nat) (es : List D), env[j]? = some (Sl.own es) → σ[j]? ≠ some (some (V.ref a)) := fun j es hj z => hd j es a hj z (.ref a) ds (by rw [List.zip_cons_cons]; exact List.mem_cons_self) rfl
            dsimp only at e1
            cases ho : own i with
            | true =>
              rw [ho] at e1
              cases e1
              refine SI.setWs (is := is) (vs := vs) (σ := σ.set i (some (.ref a))) h0 (I.setOwn hi h2 h3 (h0 a h3 h4) h5 h6 fun j es hj _ => hda j es hj) r0 (fun j es b hj hb u ds' hu => ?_) e
              by_cases n1 : i = j
              · subst n1
                rw [List.getElem?_set_self (by rw [← I.ok.len]; exact hi)] at hb
                cases hb
                exact d1 ds ds' u _ rfl hu rfl
              · rw [List.getElem?_set_ne n1] at hj hb
                exact hd j es b hj hb u ds' (by rw [List.zip_cons_cons]; exact List.mem_cons_of_mem _ hu)
            | false =>
              rw [ho] at e1
              cases e1
              obtain ⟨F2, e2, I2, f2, k2⟩ := I.fz (ds := ds) h3 (h0 a h3 h4) h5 hda
              have r2 : RwD K F2 H Hb t σ0 vs ws := by
                clear e hd
                induction r0 with
                | nil => exact .nil
                | @cons v' vs' w' ws' q1 q2 q3 ih =>
                  refine .cons ?_ q2 (ih (fun ds1 ds' u w'' hw hm hw' => d1 ds1 ds' u w'' hw (by rw [List.zip_cons_cons]; exact List.mem_cons_of_mem _ hm) hw'))
                  cases w' with
                  | d x => exact dq_mono e2 q1
                  | loc j => exact q1
                  | tp => exact q1
                  | new es =>
                    obtain ⟨a', us', rfl, y2, y3, y4, y5, y6⟩ := q1
                    have hne : a' ≠ a := fun z => d1 ds es (.ref a') _ rfl (by rw [List.zip_cons_cons]; exact List.mem_cons_self) rfl (by rw [z])
                    exact ⟨a', us', rfl, by rw [k2 _ hne]; exact y2, y3, y4, y5, dqAll_mono e2 y6⟩
              obtain ⟨F3, e3, I3⟩ := SI.setWs (is := is) (vs := vs) (σ := σ.set i (some (.ref a))) h0 (I2.setD hi (.lst f2 (dqAll_mono e2 h6))) r2 (fun j es b hj hb u ds' hu => by
                have n1 : i ≠ j := fun z => by subst z; rw [List.getElem?_set_self hi] at hj; cases hj
                rw [List.getElem?_set_ne n1] at hj hb
                exact hd j es b hj hb u ds' (by rw [List.zip_cons_cons]; exact List.mem_cons_of_mem _ hu)) e
              exact ⟨F3, e2.trans e3, I3⟩
          | loc j => cases e1
          | tp => cases e1
        · cases e1
      · cases e
def sPar (own : Nat → Bool) (is : List Nat) (f : EvA) : EvS := fun env τ => match f env τ with
  | some (ws, τ1) => (match setWs own is ws env with
    | some env' => some (.nx env' τ1)
    | none => none)
  | none => none
theorem par_sem {own : Nat → Bool} {is : List Nat} {f : EvA} {E : Ends} {σ : L2.St} {H : Hp} (h : tS K (sPar own is f) E σ H) : tAd K f σ H fun vs H' => is.length = vs.length ∧ vs.length = vs.length ∧ ∀ H2, (∀ b o, H' b = some o → H2 b = some o) → (∀ b, H' b = none → H2 b = none ∨ True) → (H2 = H' ∨ ∃ p o, H' p = none ∧ H2 = upd H' p o) → E.nx (setVs is vs σ) H2 := by
  obtain ⟨F0, H0, F, t, env, τ, o, I, e, q⟩ := h
  unfold sPar at e
  split at e
  · rename_i ws τ1 e1
    split at e
    · rename_i env' e2
      cases e
      refine ⟨F, t, env, τ, ws, τ1, I.ok, e1, fun F' vs H' P r => ⟨by rw [r.len]; exact setWs_len e2, rfl, fun H2 h1 _ h2 => ?_⟩⟩
      have I1 := I.step P
      have hh : ∀ a, t ≠ some a → H a = none → H0 a = none := fun a k z => I.post.bnone z k
      have hd : ∀ (j : Nat) es b, env[j]? = some (Sl.own es) → σ[j]? = some (some (V.ref b)) → ∀ u ds, (u, W.new ds) ∈ vs.zip ws → u ≠ .ref b := fun j es b hj hb u ds hu z => by
        obtain ⟨a, us, z1, _, _, z4, _⟩ := r.mem hu
        rw [z1] at z
        cases z
        exact I.fresh z4 j es hj hb
      rcases h2 with h2 | ⟨p, ob, hp, h2⟩
      · subst h2
        obtain ⟨F2, s2, I2⟩ := I1.setWs hh r hd e2
        exact q F2 H2 _ (P.ext.trans s2) I2
      · have PL := I1.ok.laid (o := ob) hp
        have I1' := I1.step PL
        rw [← h2] at I1'
        have r' : RwD K F' H2 H t σ vs ws := by
          clear hd e2 e1
          induction r with
          | nil => exact .nil
          | @cons v vs w ws a d b ih =>
            refine .cons ?_ d ih
            cases w with
            | d x => exact a
            | loc j => exact a
            | tp => exact a
            | new es =>
              obtain ⟨a', us', rfl, y2, y3, y4, y5, y6⟩ := a
              exact ⟨a', us', rfl, y2, y3, y4, h1 _ _ y5, y6⟩
        obtain ⟨F2, s2, I2⟩ := I1'.setWs hh r' hd e2
        exact q F2 H2 _ (P.ext.trans s2) I2
    · cases e
  · cases e
end
section
variable {X : Cx}
def gNames : List Nat → TGs
  | [] => gNil
  | i :: is => gCons (gName i) (gNames is)
theorem gNames_of : ∀ {is : List Nat} {vs : List V} {σ : L2.St} {H : Hp} {Q : L2.St → Hp → Prop}, is.length = vs.length → Q (setVs is vs σ) H → gNames is vs σ H Q
  | [], [], _, _, _, _, q => ⟨rfl, q⟩
  | [], _ :: _, _, _, _, h, _ => by cases h
  | _ :: _, [], _, _, _, h, _ => by cases h
  | i :: is, v :: vs, σ, H, Q, h, q => ⟨v, vs, rfl, gNames_of (is := is) (by simpa using h) q⟩
theorem par2_core {own : Nat → Bool} {i j : Nat} {f : EvA} {E : Ends} {σ : L2.St} {H : Hp} (h : tS X.K (sPar own [i, j] f) E σ H) : tPar i j (tAd X.K f) E σ H := by
  obtain ⟨F, t, env, τ, ws, τ', S, e, q⟩ := par_sem h
  refine ⟨F, t, env, τ, ws, τ', S, e, fun F' vs H' P r => ?_⟩
  obtain ⟨h1, _, h2⟩ := q F' vs H' P r
  match vs, h1 with
  | [v, w], _ => exact ⟨v, w, rfl, h2 H' (fun _ _ e => e) (fun _ _ => .inr trivial) (.inl rfl)⟩
theorem par3_core {own : Nat → Bool} {i j l : Nat} {f : EvA} {E : Ends} {σ : L2.St} {H : Hp} (h : tS X.K (sPar own [i, j, l] f) E σ H) : tPar3 i j l (tAd X.K f) E σ H := by
  obtain ⟨F, t, env, τ, ws, τ', S, e, q⟩ := par_sem h
  refine ⟨F, t, env, τ, ws, τ', S, e, fun F' vs H' P r => ?_⟩
  obtain ⟨h1, _, h2⟩ := q F' vs H' P r
  match vs, h1 with
  | [u, v, w], _ => exact ⟨u, v, w, rfl, h2 H' (fun _ _ e => e) (fun _ _ => .inr trivial) (.inl rfl)⟩
theorem parT_core {own : Nat → Bool} {is : List Nat} {f : EvA} {E : Ends} {σ : L2.St} {H : Hp} (hl : is.length ≤ sizeLine) (h : tS X.K (sPar own is f) E σ H) : tAsg (tTup (tAd X.K f)) (gTup X.K is.length (gNames is)) E σ H := by
  obtain ⟨F, t, env, τ, ws, τ', S, e, q⟩ := par_sem h
  refine ⟨F, t, env, τ, ws, τ', S, e, fun F' vs H' P r => ?_⟩
  obtain ⟨h1, _, h2⟩ := q F' vs H' P r
  refine ⟨by rw [← h1]; exact hl, fun p hp => ⟨p, vs, rfl, SqT.of upd_same, h1.symm, gNames_of h1 (h2 _ (fun b o e => ?_) (fun _ _ => .inr trivial) (.inr ⟨p, _, hp, rfl⟩))⟩⟩
  rw [upd_ne (ne_of_none e hp)]
  exact e
end

open PySem PySem.Spec PyProof.Rows L2
open PySem.W (minD maxD)
/-! # the evaluator over the program's own text -/
structure FnS where
  n : Nat
  sem : Sem1
abbrev SemM := List (Str × D) → List W → Option D
structure MtS where
  n : Nat
  sem : SemM
structure Ct where
  N : List Str
  sc : Scope
  fnc : Str → Bool
  fns : List (Str × FnS)
  gl : List (Str × D)
  cls : Int
  mth : List (Str × MtS)
def fail : EvF := fun _ _ => none
def ixOf : List Str → Str → Option Nat
  | [], _ => none
  | y :: r, x => if y == x then some 0 else match ixOf r x with
    | some i => some (i + 1)
    | none => none
theorem ixOf_ok : ∀ {N : List Str} {x : Str} {i : Nat}, ixOf N x = some i → N[i]? = some x
  | [], _, _, h => by cases h
  | y :: r, x, i, h => by
    unfold ixOf at h
    split at h
    · rename_i e
      cases h
      rw [eq_of_beq e]
      rfl
    · split at h
      · rename_i j e
        cases h
        simpa using ixOf_ok e
      · cases h
def dbg (x : Str) : Bool := x == ("__debug__" : Str) || x == ("__classdict__" : Str) || x == ("__name__" : Str)
def visB (c : Ct) (x : Str) : Bool := match c.sc.names.lookup x with
  | some .local => true
  | some .cell => true
  | some .free => true
  | _ => false
def slot (c : Ct) (x : Str) : Option Nat := if (visB c x && !dbg x) = true then ixOf c.N x else none
def slotT (c : Ct) (x : Str) : Option Nat := match c.sc.names.lookup x with
  | some .local => ixOf c.N x
  | some .cell => if c.fnc x = true then ixOf c.N x else none
  | _ => none
def isGl (c : Ct) (x : Str) : Bool := (match c.sc.names.lookup x with
  | some .globalImplicit => true
  | _ => false) && !dbg x
def conD : Const → Option D
  | .none => some .none
  | .bool b => some (.bool b)
  | .int i => some (.int i)
  | .str x => some (.str x)
  | _ => none
def gBin : Operator → Option G2
  | .Add => some gAdd
  | .Sub => some gSub
  | .Mult => some gMul
  | .FloorDiv => some (gI dDiv)
  | .Mod => some (gI dMod)
  | .Pow => some (gI dPow)
  | _ => none
def gCmp : CmpOp → Option G2
  | .Eq => some (gEqD false)
  | .NotEq => some (gEqD true)
  | .Lt => some gLt
  | .LtE => some gLe
  | .Gt => some (gI fun i j => some (.bool (decide (j < i))))
  | .GtE => some (gI fun i j => some (.bool (decide (j ≤ i))))
  | .Is => some (gIs false)
  | .IsNot => some (gIs true)
  | .In => some (gIn false)
  | .NotIn => some (gIn true)
def evBool (f : Expr → EvF) : BoolOp → List Expr → EvF
  | _, [] => fail
  | _, [a] => f a
  | .And, a :: b :: r => eAnd (f a) (evBool f .And (b :: r))
  | .Or, a :: b :: r => eOr (f a) (evBool f .Or (b :: r))
def evA (f : Expr → EvF) : List Expr → EvA
  | [] => aNil
  | e :: r => aCons (f e) (evA f r)
def evD (f : Expr → EvF) : List Expr → EvA
  | [] => aNil
  | e :: r => dCons (f e) (evD f r)
def evO (f : Expr → EvF) : Option Expr → EvO
  | none => oNone
  | some e => oSome (f e)
def evSub (f : Expr → EvF) (a : Expr) : Expr → EvF
  | .Slice none none (some (.UnaryOp .USub (.Constant (.int i) _ _) _)) _ => if i = 1 then f1 gRev (f a) else fail
  | .Slice lo hi none _ => eSl (f a) (evO f lo) (evO f hi)
  | .Slice _ _ _ _ => fail
  | s => f2 gIx (f a) (f s)
def b1 (x : Str) : Option G1 :=
  if x == ("len" : Str) then some gLen else
  if x == ("abs" : Str) then some gAbs else
  if x == ("tuple" : Str) then some gTuple else
  if x == ("list" : Str) then some gList else
  if x == ("all" : Str) then some gAll else
  if x == ("any" : Str) then some gAny else
  if x == ("sorted" : Str) then some gSorted else
  if x == ("min" : Str) then some gMin else
  if x == ("max" : Str) then some gMax else
  if x == ("int" : Str) then some gInt else none
def b2 (x : Str) : Option G2 :=
  if x == ("max" : Str) then some (gMM2 maxD) else
  if x == ("min" : Str) then some (gMM2 minD) else none
def btOf (c : Ct) (x : Str) : Option BT := if isGl c x = true then (
  if x == ("int" : Str) then some .int else
  if x == ("bool" : Str) then some .bool else
  if x == ("tuple" : Str) then some .tuple else
  if x == ("list" : Str) then some .list else
  if x == ("str" : Str) then some .str else none) else none
def evIsi (c : Ct) (f : EvF) : Expr → EvF
  | .Name ty _ => (match btOf c ty with
    | some b => f1 (gIsi b) f
    | none => fail)
  | .Tuple [.Name ty _, .Name tz _] _ _ => (match btOf c ty, btOf c tz with
    | some b, some d => f1 (gIsi2 b d) f
    | _, _ => fail)
  | _ => fail
def evCallB (f : Expr → EvF) (c : Ct) (x : Str) : List Expr → EvF
  | [a] => (match b1 x with
    | some g => f1 g (f a)
    | none => fail)
  | [a, b] => if x == ("isinstance" : Str) then evIsi c (f a) b else (match b2 x with
    | some g => f2 g (f a) (f b)
    | none => fail)
  | _ => fail
def evCall (f : Expr → EvF) (c : Ct) (x : Str) (args : List Expr) : EvF := if (isGl c x && args.all nst) = true then (match c.fns.lookup x with
    | some s => if (args.length == s.n) = true then eCall s.sem (evA f args) else fail
    | none => evCallB f c x args)
  else fail
def plainSet : Expr → Bool
  | .Set .. => false
  | _ => true
def isTupE : Expr → Bool
  | .Tuple .. => true
  | _ => false
def failI : EvI := fun _ _ => none
def evIB (f : Expr → EvF) (tg : Expr) (x : Str) (args : List Expr) (other : EvI) : EvI :=
  if x == ("range" : Str) then (match args with
    | [a] => iRng (evA f [a])
    | [a, b] => iRng (evA f [a, b])
    | [a, b, c] => iRngS (evA f [a, b, c])
    | _ => failI)
  else if x == ("enumerate" : Str) then (if isTupE tg = true then (match args with
    | [a] => iEnum (evA f [a])
    | _ => failI) else failI)
  else if x == ("zip" : Str) then (if isTupE tg = true then (match args with
    | [a, b] => iZip (evA f [a, b])
    | _ => failI) else failI)
  else other
def evI (f : Expr → EvF) (c : Ct) (tg : Expr) : Expr → EvI
  | .Call (.Name x p) args [] pos => if (isGl c x && args.all nst && (c.fns.lookup x).isNone) = true then evIB f tg x args (iSeq (f (.Call (.Name x p) args [] pos))) else iSeq (f (.Call (.Name x p) args [] pos))
  | e => if plainSet e = true then iSeq (f e) else failI
mutual
def evTg (c : Ct) : Nat → Expr → Option Tg
  | 0, _ => none
  | n + 1, e => match e with
    | .Name x _ => (match slotT c x with
      | some i => some (.nm i)
      | none => none)
    | .Tuple es _ _ => if es.all nst = true then (match evTgs c n es with
      | some l => some (.tu l)
      | none => none) else none
    | _ => none
def evTgs (c : Ct) : Nat → List Expr → Option Tg
  | _, [] => some .nl
  | 0, _ :: _ => none
  | n + 1, e :: r => match evTg c n e, evTgs c n r with
    | some a, some b => some (.cn a b)
    | _, _ => none
end
/-! comprehensions -/
def ownOf (N : List Str) : List (Str × NameKind) → List (Str × Nat)
  | [] => []
  | (y, k) :: r => if (k == .local || k == .cell) = true then (match ixOf N y with
    | some i => (y, i) :: ownOf N r
    | none => ownOf N r) else ownOf N r
def blkB (c : Ct) (scope : Scope) : Bool := (scope.kind == .function) && scope.names.all (fun y => scope.names.lookup y.1 == some y.2) && scope.names.all (fun y => if (y.2 == .free) = true then c.sc.names.lookup y.1 == some .cell || c.sc.names.lookup y.1 == some .free else true)
def Ct.blk (c : Ct) (scope : Scope) : Ct := { c with sc := relS scope c.sc, fnc := fun x => scope.names.lookup x == some .cell }
def inAll (a b : List Nat) : Bool := a.all fun i => b.contains i
def tYesF : EvF := eCon (.bool true)
def evIfs (f : Expr → EvF) : List Expr → Option EvF
  | [] => some tYesF
  | [e] => some (f e)
  | _ => none
def evLc (F : Ct → Expr → EvF) (c : Ct) (elt : Expr) (scope : Scope) : List Comprehension → EvF
  | [⟨tg, it, ifs, 0⟩] => if blkB c scope = true then (match evTg (c.blk scope) 9 tg, evIfs (F (c.blk scope)) ifs with
      | some T, some tt => if (inAll T.slots ((ownOf c.N scope.names).map (·.2)) && plainSet it) = true then eLc (evI (F c) c tg it) T tt (F (c.blk scope) elt) ((ownOf c.N scope.names).map (·.2)) else fail
      | _, _ => fail) else fail
  | [⟨tg, it, ifs, 0⟩, ⟨tg1, it1, ifs1, 0⟩] => if blkB c scope = true then (match evTg (c.blk scope) 9 tg, evIfs (F (c.blk scope)) ifs, evTg (c.blk scope) 9 tg1, evIfs (F (c.blk scope)) ifs1 with
      | some T, some tt, some T1, some tt1 => if (inAll T.slots ((ownOf c.N scope.names).map (·.2)) && inAll T1.slots ((ownOf c.N scope.names).map (·.2)) && plainSet it1 && plainSet it) = true then
          eLc2 (evI (F c) c tg it) T tt (evI (F (c.blk scope)) (c.blk scope) tg1 it1) T1 tt1 (F (c.blk scope) elt) ((ownOf c.N scope.names).map (·.2)) T1.slots else fail
      | _, _, _, _ => fail) else fail
  | _ => fail
/-- a method that changes nothing, of an object that stays -/
def eMet (i : Nat) (cls : Int) (sem : SemM) (f : EvA) : EvF := fun env τ => match env[i]? with
  | some (.ob fl) => if mark fl = some cls then (match f env τ with
    | some (ws, τ1) => if (noLoc ws && noTp ws) = true then (match sem (fl.take 4) ws with
      | some d => some (.d d, τ1)
      | none => none) else none
    | none => none) else none
  | _ => none
def evE1 (F : Ct → Expr → EvF) (c : Ct) : Expr → EvF
  | .Name x _ => (match slot c x with
    | some i => eVar i
    | none => if isGl c x = true then (match c.gl.lookup x with
      | some d => eCon d
      | none => fail) else fail)
  | .Constant v _ _ => (match conD v with
    | some d => eCon d
    | none => fail)
  | .BinOp a op b _ => (match gBin op with
    | some g => f2 g (F c a) (F c b)
    | none => fail)
  | .UnaryOp op a _ => (match op with
    | .USub => f1 gNeg (F c a)
    | .Not => f1 gNot (F c a)
    | _ => fail)
  | .BoolOp op es _ => evBool (F c) op es
  | .IfExp t a b _ => eIf (F c t) (F c a) (F c b)
  | .Compare a [op] [b] _ => if behindInMarks op b = true then fail else (match gCmp op with
    | some g => f2 g (F c a) (F c b)
    | none => fail)
  | .Compare a [o, o'] [b, d] _ => if lastMarks [o, o'] [b, d] = true then fail else (match gCmp o, gCmp o' with
    | some g, some g' => eChn g g' (F c a) (F c b) (F c d)
    | _, _ => fail)
  | .Subscript a s _ => evSub (F c) a s
  | .List es _ => if es.all nst = true then eLst (evA (F c) es) else fail
  | .Tuple es _ _ => if es.all nst = true then eTup (evA (F c) es) else fail
  | .Call (.Name x _) args [] _ => evCall (F c) c x args
  | .Call (.Attribute (.Name x _) m ap) args [] cp => if (args.all nst && ap.endLine == cp.line && !flKeys.elem m && decide (args.length < 2)) = true then (match slot c x, c.mth.lookup m with
    | some i, some s => if (args.length == s.n) = true then eMet i c.cls s.sem (evA (F c) args) else fail
    | _, _ => fail) else fail
  | .ListComp elt gens scope _ => evLc F c elt scope gens
  | .Attribute (.Name x _) f _ => (match slot c x with
    | some i => eFld i f
    | none => fail)
  | _ => fail
def evE : Nat → Ct → Expr → EvF
  | 0, _, _ => fail
  | n + 1, c, e => evE1 (evE n) c e

open PySem PySem.Spec PyProof.Rows L2
open PySem.W (minD maxD)
/-! # the evaluator is right -/
def bltNames : List Str := ["len", "abs", "tuple", "list", "all", "any", "sorted", "min", "max", "int", "bool", "str", "isinstance", "range", "enumerate", "zip"]
/-- the fields of an object that stays -/
structure ObAt (K : PySem.W.Frag) (F : Hp) (p : Addr) (fl : List (Str × D)) : Prop where
  ex : ∃ C dx fs, F p = some (.ins C dx fs) ∧ ClsM K C fs fl ∧ ∀ f x, fl.lookup f = some x → L2.NoAttr K C f ∧ ∃ v, fs.lookup f = some v ∧ Dq K F v x
def spM (K : PySem.W.Frag) (n : Nat) (sem : SemM) : Sp := fun vs H Q _ => ∃ F p us fl ws d, ws.length = n ∧ Same F H ∧ vs = .ref p :: us ∧ ObAt K F p fl ∧ ArgAll K F none us ws ∧ sem fl ws = some d ∧ ∀ F' v H', Post K none [] F H F' H' → Dq K F' v d → Q v H'
theorem spM_len {K : PySem.W.Frag} {n : Nat} {sem : SemM} {vs : List V} {H : Hp} {Q : VK} {E : XK} (h : spM K n sem vs H Q E) : vs.length = n + 1 := by
  obtain ⟨F, p, us, fl, ws, d, h1, h2, rfl, h4, h5, _⟩ := h
  rw [List.length_cons, h5.len, h1]
/-- a method of the class at C that may be called -/
structure Mth (P : Program) (w : World) (K : PySem.W.Frag) (mg : Str → Option Value) (base : Heap) (k : Nat) (C : Addr) (m : Str) (sp : Sp) : Prop where
  ex : ∃ (f : Addr) (fd : FuncData) (ps : List Str), L2.Meth K C m f ∧ FnOk P w K mg base CX0 k f fd ps sp ∧ Binds K fd ps []
structure Mat (X : Cx) (k : Nat) (c : Ct) : Prop where
  calm : X.calm = true
  nd : X.N.Nodup
  N : X.N = c.N
  sc : X.env.scope = c.sc
  fn : ∀ x, c.fnc x = true → X.fn x = true
  xe : X.xe = fun _ _ => False
  room : Room k X.A
  fns : ∀ x s, c.fns.lookup x = some s → FnIn X k x s.n s.sem
  gl : ∀ x d, c.gl.lookup x = some d → ∃ v u, X.mg x = some u ∧ RelV v u ∧ ∀ F, Dq X.K F v d
  blt : ∀ x, x ∈ bltNames → X.mg x = none
  mth : ∀ m s, c.mth.lookup m = some s → ∀ C : Addr, (C : Int) = c.cls → L2.Cls X.K C ∧ Mth X.prog X.w X.K X.mg X.base k C m (spM X.K s.n s.sem)
section
variable {X : Cx} {k : Nat} {c : Ct}
theorem Mat.un (M : Mat X k c) : X.A.units + 65 < cLine := by have := M.room.un; omega
theorem Mat.un64 (M : Mat X k c) : X.A.units + 64 < cLine := by have := M.room.un; omega
theorem pe_fail {e : Expr} : PE X e (tE X.K fail) := ⟨fun pins s σ H Q I ⟨F, t, env, τ, w, τ', S, e, q⟩ => by cases e⟩
theorem pt_fail {e : Expr} : PT X e (tT X.K fail) := ⟨fun pins s σ H Q I ⟨F, t, env, τ, w, τ', S, e, q⟩ => by cases e⟩
theorem pw_fail {e : Expr} : PW X e (tT X.K fail) := ⟨fun w pins s σ H Q I ⟨F, t, env, τ, b, τ', S, e, q⟩ => by cases e⟩
theorem pi_fail {tg e : Expr} : PI X tg e (tI X.K failI) := ⟨fun pins s σ H R I ⟨F, t, env, τ, its, ws, τ', S, e, q⟩ => by cases e⟩
theorem vis_of (M : Mat X k c) {x : Str} (h : visB c x = true) : Vis X.env.scope x := by
  unfold visB at h
  unfold Vis
  rw [M.sc]
  split at h
  · exact .inl ‹_›
  · exact .inr (.inl ‹_›)
  · exact .inr (.inr ‹_›)
  · cases h
theorem dbg_of {x : Str} (h : (!dbg x) = true) : (x == ("__debug__" : Str)) = false ∧ (x == ("__classdict__" : Str)) = false ∧ x ≠ "__name__" := by
  unfold dbg at h
  rw [Bool.not_eq_true', Bool.or_eq_false_iff, Bool.or_eq_false_iff] at h
  exact ⟨h.1.1, h.1.2, fun e => by rw [e] at h; exact absurd h.2 (by simp)⟩
theorem slot_of (M : Mat X k c) {x : Str} {i : Nat} (h : slot c x = some i) : X.N[i]? = some x ∧ Vis X.env.scope x ∧ (x == ("__debug__" : Str)) = false ∧ (x == ("__classdict__" : Str)) = false := by
  unfold slot at h
  split at h
  · rename_i e
    rw [Bool.and_eq_true] at e
    have d := dbg_of e.2
    exact ⟨by rw [M.N]; exact ixOf_ok h, vis_of M e.1, d.1, d.2.1⟩
  · cases h
theorem slotT_of (M : Mat X k c) {x : Str} {i : Nat} (h : slotT c x = some i) : X.N[i]? = some x ∧ L2.Loc X.env.scope x ∧ (X.fn x = true ∨ X.env.scope.names.lookup x = some .local) := by
  unfold slotT at h
  unfold L2.Loc
  rw [M.sc]
  split at h
  · exact ⟨by rw [M.N]; exact ixOf_ok h, .inl ‹_›, .inr ‹_›⟩
  · split at h
    · rename_i e
      exact ⟨by rw [M.N]; exact ixOf_ok h, .inr ‹_›, .inl (M.fn _ e)⟩
    · cases h
  · cases h
theorem gl_of (M : Mat X k c) {x : Str} (h : isGl c x = true) : Gl X x ∧ (x == ("__debug__" : Str)) = false ∧ x ≠ "__name__" := by
  unfold isGl at h
  rw [Bool.and_eq_true] at h
  have d := dbg_of h.2
  refine ⟨?_, d.1, d.2.2⟩
  show X.env.scope.names.lookup x = _
  rw [M.sc]
  have h1 := h.1
  split at h1
  · assumption
  · cases h1
theorem gBin_ok {op : Operator} {g : G2} (h : gBin op = some g) : OpOk X (binaryOp op) g := by
  cases op <;> first
    | (cases h; exact ok_add)
    | (cases h; exact ok_sub)
    | (cases h; exact ok_mul)
    | (cases h; exact ok_div)
    | (cases h; exact ok_mod)
    | (cases h; exact ok_pow)
    | cases h
theorem gCmp_ok (M : Mat X k c) {op : CmpOp} {g : G2} (h : gCmp op = some g) : OpOk X (compareOp op) g := by
  cases op
  · cases h; exact ok_eq M.un64
  · cases h; exact ok_ne M.un64
  · cases h; exact ok_lt M.un64
  · cases h; exact ok_le M.un64
  · cases h; exact ok_gt
  · cases h; exact ok_ge
  · cases h; exact ok_is
  · cases h; exact ok_isNot
  · cases h; exact ok_in M.un
  · cases h; exact ok_notIn M.un
theorem evA_ok {f : Expr → EvF} (hf : ∀ e, PE X e (tE X.K (f e))) : ∀ {es : List Expr}, es.all nst = true → PA X es (tA X.K (evA f es))
  | [], _ => aNil_ok
  | e :: r, h => by
    rw [List.all_cons, Bool.and_eq_true] at h
    exact aCons_ok (hf e) (evA_ok hf h.2) h.1
theorem evD_ok {f : Expr → EvF} (hf : ∀ e, PE X e (tE X.K (f e))) : ∀ {es : List Expr}, es.all nst = true → PA X es (tAd X.K (evD f es))
  | [], _ => dNil_ok
  | e :: r, h => by
    rw [List.all_cons, Bool.and_eq_true] at h
    exact dCons_ok (hf e) (evD_ok hf h.2) h.1
theorem evA_new (f : Expr → EvF) : ∀ es : List Expr, NoNew (evA f es)
  | [] => noNew_nil
  | e :: r => noNew_cons (evA_new f r)
theorem evA_len (f : Expr → EvF) : ∀ es : List Expr, LenIs (evA f es) es.length
  | [] => lenIs_nil
  | e :: r => lenIs_cons (evA_len f r)
theorem evO_ok {f : Expr → EvF} (hf : ∀ e, PE X e (tE X.K (f e))) : ∀ o : Option Expr, PO X o (tO X.K (evO f o))
  | none => oNone_ok
  | some e => oSome_ok (hf e)
theorem evBool_ok {f : Expr → EvF} (hf : ∀ e, PE X e (tE X.K (f e))) {op : BoolOp} {pos : Pos} : ∀ {es : List Expr}, PE X (.BoolOp op es pos) (tE X.K (evBool f op es))
  | [] => by unfold evBool; exact pe_fail
  | [a] => by unfold evBool; exact pe_one (hf a)
  | a :: b :: r => by
    cases op
    · unfold evBool; exact and_ok (hf a) (evBool_ok hf)
    · unfold evBool; exact or_ok (hf a) (evBool_ok hf)
theorem evBoolW_ok {f : Expr → EvF} (hf : ∀ e, PT X e (tT X.K (f e))) {op : BoolOp} {pos : Pos} : ∀ {es : List Expr}, PW X (.BoolOp op es pos) (tT X.K (evBool f op es))
  | [] => by unfold evBool; exact pw_fail
  | [a] => by
    unfold evBool
    cases op
    · exact pw_and1 (hf a)
    · exact pw_or1 (hf a)
  | a :: b :: r => by
    cases op
    · unfold evBool; exact andW_ok (hf a) (evBoolW_ok hf)
    · unfold evBool; exact orW_ok (hf a) (evBoolW_ok hf)
theorem evSub_ok {f : Expr → EvF} (hf : ∀ e, PE X e (tE X.K (f e))) {a s : Expr} {pos : Pos} : PE X (.Subscript a s pos) (tE X.K (evSub f a s)) := by
  unfold evSub
  split
  · split
    · rename_i h
      subst h
      exact rev_ok (hf a)
    · exact pe_fail
  · exact sl_ok (hf a) (evO_ok hf _) (evO_ok hf _)
  · exact pe_fail
  · rename_i h1 h2 h3
    refine ix_ok (hf a) (hf s) ?_
    cases s with
    | Slice lo hi st p => exact (h3 lo hi st p rfl).elim
    | _ => rfl
theorem boot_len' : bootBuiltins ("len" : Str) = some (.builtin "len") := boot_len
theorem star1 {a b : Expr} {env : Env} (h : nst a = true) : starEach [a, b] env = (false, eval a env) :: starEach [b] env := starEach_ns h
theorem bt_of (M : Mat X k c) {x : Str} {b : BT} (h : btOf c x = some b) : x = Str.ofString b.name ∧ Gl X x ∧ X.mg x = none := by
  unfold btOf at h
  split at h
  · rename_i hg
    have g := (gl_of M hg).1
    have done : ∀ {b' : BT} {y : Str}, x = y → y = Str.ofString b'.name → y ∈ bltNames → some b' = some b → x = Str.ofString b.name ∧ Gl X x ∧ X.mg x = none := fun {b' y} e1 e2 e3 e4 => by
      cases e4
      exact ⟨e1.trans e2, g, M.blt x (by rw [e1]; exact e3)⟩
    split at h
    · exact done (eq_of_beq ‹_›) rfl (by decide) h
    · split at h
      · exact done (eq_of_beq ‹_›) rfl (by decide) h
      · split at h
        · exact done (eq_of_beq ‹_›) rfl (by decide) h
        · split at h
          · exact done (eq_of_beq ‹_›) rfl (by decide) h
          · split at h
            · exact done (eq_of_beq ‹_›) rfl (by decide) h
            · cases h
  · cases h
end

open PySem PySem.Spec PyProof.Rows L2
open PySem.W (minD maxD)
section
variable {X : Cx} {k : Nat} {c : Ct}
theorem gl_mg (M : Mat X k c) {x y : Str} (h : isGl c x = true) (e : x = y) (hy : y ∈ bltNames) : Gl X y ∧ X.mg y = none ∧ (y == ("__debug__" : Str)) = false ∧ y ≠ "__name__" := by
  subst e
  obtain ⟨h1, h2, h3⟩ := gl_of M h
  exact ⟨h1, M.blt _ hy, h2, h3⟩
theorem b1_ok (M : Mat X k c) {x : Str} {g : G1} {a : EvF} {ea : Expr} {p pos : Pos} (hg : isGl c x = true) (h : b1 x = some g) (ha : PE X ea (tE X.K a)) (hs : nst ea = true) : PE X (.Call (.Name x p) [ea] [] pos) (tE X.K (f1 g a)) := by
  unfold b1 at h
  split at h
  · rename_i e
    cases h
    obtain ⟨h1, h2, h3, h4⟩ := gl_mg M hg (eq_of_beq e) (by decide)
    rw [eq_of_beq e]
    exact c1_ok ok_len ha h1 h2 boot_len h4 h3 hs
  split at h
  · rename_i e
    cases h
    obtain ⟨h1, h2, h3, h4⟩ := gl_mg M hg (eq_of_beq e) (by decide)
    rw [eq_of_beq e]
    exact c1_ok ok_abs ha h1 h2 PyProof.Rows.boot_abs h4 h3 hs
  split at h
  · rename_i e
    cases h
    obtain ⟨h1, h2, h3, h4⟩ := gl_mg M hg (eq_of_beq e) (by decide)
    rw [eq_of_beq e]
    exact c1T_ok ok_tuple ha h1 h2 PyProof.Rows.boot_tuple h4 h3 hs
  split at h
  · rename_i e
    cases h
    obtain ⟨h1, h2, h3, h4⟩ := gl_mg M hg (eq_of_beq e) (by decide)
    rw [eq_of_beq e]
    exact c1T_ok ok_list ha h1 h2 PyProof.Rows.boot_list h4 h3 hs
  split at h
  · rename_i e
    cases h
    obtain ⟨h1, h2, h3, h4⟩ := gl_mg M hg (eq_of_beq e) (by decide)
    rw [eq_of_beq e]
    exact c1_ok (ok_all M.calm) ha h1 h2 PyProof.Rows.boot_all h4 h3 hs
  split at h
  · rename_i e
    cases h
    obtain ⟨h1, h2, h3, h4⟩ := gl_mg M hg (eq_of_beq e) (by decide)
    rw [eq_of_beq e]
    exact c1_ok (ok_any M.calm) ha h1 h2 PyProof.Rows.boot_any h4 h3 hs
  split at h
  · rename_i e
    cases h
    obtain ⟨h1, h2, h3, h4⟩ := gl_mg M hg (eq_of_beq e) (by decide)
    rw [eq_of_beq e]
    exact c1_ok (ok_sorted M.un64) ha h1 h2 PyProof.Rows.boot_sorted h4 h3 hs
  split at h
  · rename_i e
    cases h
    obtain ⟨h1, h2, h3, h4⟩ := gl_mg M hg (eq_of_beq e) (by decide)
    rw [eq_of_beq e]
    exact c1_ok (ok_min M.calm M.un64) ha h1 h2 PyProof.Rows.boot_min h4 h3 hs
  split at h
  · rename_i e
    cases h
    obtain ⟨h1, h2, h3, h4⟩ := gl_mg M hg (eq_of_beq e) (by decide)
    rw [eq_of_beq e]
    exact c1_ok (ok_max M.calm M.un64) ha h1 h2 PyProof.Rows.boot_max h4 h3 hs
  split at h
  · rename_i e
    cases h
    obtain ⟨h1, h2, h3, h4⟩ := gl_mg M hg (eq_of_beq e) (by decide)
    rw [eq_of_beq e]
    exact c1T_ok ok_intB ha h1 h2 PyProof.Rows.boot_int h4 h3 hs
  · cases h
theorem b2_ok (M : Mat X k c) {x : Str} {g : G2} {a b : EvF} {ea eb : Expr} {p pos : Pos} (hg : isGl c x = true) (h : b2 x = some g) (ha : PE X ea (tE X.K a)) (hb : PE X eb (tE X.K b)) (hs : nst ea = true) (hs2 : nst eb = true) : PE X (.Call (.Name x p) [ea, eb] [] pos) (tE X.K (f2 g a b)) := by
  unfold b2 at h
  split at h
  · rename_i e
    cases h
    obtain ⟨h1, h2, h3, h4⟩ := gl_mg M hg (eq_of_beq e) (by decide)
    rw [eq_of_beq e]
    exact c2_ok (ok_max2 M.calm M.un64) ha hb h1 h2 PyProof.Rows.boot_max h4 h3 hs hs2
  split at h
  · rename_i e
    cases h
    obtain ⟨h1, h2, h3, h4⟩ := gl_mg M hg (eq_of_beq e) (by decide)
    rw [eq_of_beq e]
    exact c2_ok (ok_min2 M.calm M.un64) ha hb h1 h2 PyProof.Rows.boot_min h4 h3 hs hs2
  · cases h
theorem evIsi_ok (M : Mat X k c) {x : Str} {a : EvF} {ea b : Expr} {p pos : Pos} (hg : isGl c x = true) (hx : (x == ("isinstance" : Str)) = true) (ha : PE X ea (tE X.K a)) (hs : nst ea = true) : PE X (.Call (.Name x p) [ea, b] [] pos) (tE X.K (evIsi c a b)) := by
  obtain ⟨h1, h2, h3, h4⟩ := gl_mg M hg (eq_of_beq hx) (by decide)
  have e := eq_of_beq hx
  unfold evIsi
  split
  · split
    · rename_i b hb
      obtain ⟨z1, z2, z3⟩ := bt_of M hb
      rw [e]
      exact isi_ok ha rfl h1 h2 z1 z2 z3 (starEach_ns hs)
    · exact pe_fail
  · split
    · rename_i b d hb hd
      obtain ⟨z1, z2, z3⟩ := bt_of M hb
      obtain ⟨y1, y2, y3⟩ := bt_of M hd
      rw [e]
      exact isi2_ok ha rfl h1 h2 z1 z2 z3 y1 y2 y3 (starEach_ns hs)
    · exact pe_fail
  · exact pe_fail
theorem evCallB_ok (M : Mat X k c) {f : Expr → EvF} (hf : ∀ e, PE X e (tE X.K (f e))) {x : Str} {args : List Expr} {p pos : Pos} (hg : isGl c x = true) (hs : args.all nst = true) : PE X (.Call (.Name x p) args [] pos) (tE X.K (evCallB f c x args)) := by
  unfold evCallB
  split
  · rename_i a
    split
    · rename_i g h
      exact b1_ok M hg h (hf _) (by simpa using hs)
    · exact pe_fail
  · rename_i a b
    have hs' : nst a = true ∧ nst b = true := by simpa using hs
    split
    · rename_i hx
      exact evIsi_ok M hg hx (hf _) hs'.1
    · split
      · rename_i g h
        exact b2_ok M hg h (hf _) (hf _) hs'.1 hs'.2
      · exact pe_fail
  · exact pe_fail
theorem evCall_ok (M : Mat X k c) {f : Expr → EvF} (hf : ∀ e, PE X e (tE X.K (f e))) {x : Str} {args : List Expr} {p pos : Pos} : PE X (.Call (.Name x p) args [] pos) (tE X.K (evCall f c x args)) := by
  unfold evCall
  split
  · rename_i h
    rw [Bool.and_eq_true] at h
    obtain ⟨g1, g2, g3⟩ := gl_of M h.1
    split
    · rename_i s hs
      split
      · rename_i hl
        have hl : args.length = s.n := eq_of_beq hl
        have F := M.fns _ _ hs
        cases args with
        | nil =>
          have hl : 0 = s.n := hl
          rw [← hl] at F
          exact call0_ok F M.room g1 g2
        | cons e es =>
          rw [← hl] at F
          exact call_ok F M.room g1 (evA_ok hf h.2) (evA_new f _) (evA_len f _) g2 h.2
      · exact pe_fail
    · exact evCallB_ok M hf h.1 h.2
  · exact pe_fail
/-! ### iterators -/
theorem evIB_ok (M : Mat X k c) {f : Expr → EvF} (hf : ∀ e, PE X e (tE X.K (f e))) {tg : Expr} {x : Str} {args : List Expr} {p pos : Pos} {other : EvI} (hg : isGl c x = true) (hs : args.all nst = true) (ho : PI X tg (.Call (.Name x p) args [] pos) (tI X.K other)) :
    PI X tg (.Call (.Name x p) args [] pos) (tI X.K (evIB f tg x args other)) := by
  unfold evIB
  split
  · rename_i e
    obtain ⟨h1, h2, h3, h4⟩ := gl_mg M hg (eq_of_beq e) (by decide)
    have e := eq_of_beq e
    subst e
    split
    · rename_i a
      have hs : nst a = true := by simpa using hs
      exact iRng1_ok rfl h1 h2 (evA_ok hf (by simpa using hs)) hs (evA_len f _)
    · rename_i a b
      have hs' : nst a = true ∧ nst b = true := by simpa using hs
      exact iRng2_ok rfl h1 h2 (evA_ok hf hs) hs'.1 hs'.2 (evA_len f _)
    · rename_i a b c
      have hs' : nst a = true ∧ nst b = true ∧ nst c = true := by simpa using hs
      exact iRngS_ok rfl h1 h2 (evA_ok hf hs) hs'.1 hs'.2.1 hs'.2.2
    · exact pi_fail
  split
  · rename_i e
    obtain ⟨h1, h2, h3, h4⟩ := gl_mg M hg (eq_of_beq e) (by decide)
    have e := eq_of_beq e
    subst e
    split
    · rename_i ht
      split
      · rename_i a
        have hs : nst a = true := by simpa using hs
        cases tg with
        | Tuple es j q => exact iEnum_ok rfl h1 h2 (evA_ok hf (by simpa using hs)) hs
        | _ => cases ht
      · exact pi_fail
    · exact pi_fail
  split
  · rename_i e
    obtain ⟨h1, h2, h3, h4⟩ := gl_mg M hg (eq_of_beq e) (by decide)
    have e := eq_of_beq e
    subst e
    split
    · rename_i ht
      split
      · rename_i a b
        have hs' : nst a = true ∧ nst b = true := by simpa using hs
        cases tg with
        | Tuple es j q => exact iZip_ok rfl h1 h2 (evA_ok hf hs) hs'.1 hs'.2
        | _ => cases ht
      · exact pi_fail
    · exact pi_fail
  · exact ho
theorem evI_ok (M : Mat X k c) {f : Expr → EvF} (hf : ∀ e, PE X e (tE X.K (f e))) {tg e : Expr} : PI X tg e (tI X.K (evI f c tg e)) := by
  unfold evI
  split
  · split
    · rename_i h
      rw [Bool.and_eq_true, Bool.and_eq_true] at h
      exact evIB_ok M hf h.1.1 h.1.2 (iSeq_ok (hf _))
    · exact iSeq_ok (hf _)
  · split
    · exact iSeq_ok (hf _)
    · exact pi_fail
theorem evI_fold {f : Expr → EvF} {c : Ct} {tg e : Expr} {env : Env} {x : Value} (h : plainSet e = true) : foldedSetIterable e env x = pure x := by
  cases e <;> first | rfl | cases h
/-! ### targets -/
mutual
theorem evTg_ok (M : Mat X k c) : ∀ {n : Nat} {e : Expr} {T : Tg}, evTg c n e = some T → PG X e (tG X.K T)
  | 0, _, _, h => by unfold evTg at h; cases h
  | n + 1, e, T, h => by
    unfold evTg at h
    split at h
    · split at h
      · rename_i i hi
        cases h
        obtain ⟨h1, h2, h3⟩ := slotT_of M hi
        exact tgNm_ok M.nd h1 h2 h3
      · cases h
    · split at h
      · rename_i hs
        split at h
        · rename_i l hl
          cases h
          exact tgTu_ok M.calm (evTgs_ok M hs hl).1 hs (evTgs_ok M hs hl).2
        · cases h
      · cases h
    · cases h
theorem evTgs_ok (M : Mat X k c) : ∀ {n : Nat} {es : List Expr} {T : Tg}, es.all nst = true → evTgs c n es = some T → PGs X es (tGs X.K T) ∧ es.length = T.len
  | n, [], T, _, h => by
    have : T = .nl := by
      cases n <;> (unfold evTgs at h; cases h; rfl)
    subst this
    exact ⟨tgNl_ok, rfl⟩
  | 0, _ :: _, _, _, h => by unfold evTgs at h; cases h
  | n + 1, e :: r, T, hs, h => by
    rw [List.all_cons, Bool.and_eq_true] at hs
    unfold evTgs at h
    split at h
    · rename_i a b ha hb
      cases h
      obtain ⟨h1, h2⟩ := evTgs_ok M hs.2 hb
      exact ⟨tgCn_ok (evTg_ok M ha) h1 hs.1, by rw [List.length_cons, h2]; rfl⟩
    · cases h
end
end
def bndOf (o : Expr) (env : Env) : Sem Bool := do return (← importBound o env).getD true
theorem mcall_at {o : Expr} {m : Str} {apos pos : Pos} {env : Env} {ov : Value} {n : Nat} {args : List (Bool × Sem Value)} {kws : List (Option Str × Sem Value)} (hf : methodCallForm n args kws = true) (hl : (apos.endLine == pos.line) = true) :
    methodCall o m apos pos env ov n args kws = (do
      let (f, first) ← PySem.holding [ov] (getMethod ov m (bndOf o env))
      callWith pos f first args kws) := by
  have e1 : calleeOf (methodCallForm n args kws) o env ov m = getMethod ov m (bndOf o env) := by
    rw [hf] <;> rfl
  have e2 : methodCallPos (methodCallForm n args kws) o env apos pos = pure pos := by
    unfold methodCallPos
    exact if_pos (by rw [hl, Bool.or_true])
  unfold methodCall
  rw [e1, e2]
  first
    | rfl
    | simp only [pure_bind]
theorem call_ht {o : Expr} {m : Str} {args : List Expr} {apos pos : Pos} {env : Env} (hb : attributeBase o m env (eval o env) = eval o env) (hf : methodCallForm (args.length + ([] : List Keyword).length) (backTo pos (starEach args env)) (backToKw pos (keywordEach [] env)) = true) (hl : (apos.endLine == pos.line) = true) :
    eval (.Call (.Attribute o m apos) args [] pos) env = (do
      let ov ← eval o env
      standAt apos.atName
      let (f, first) ← PySem.holding [ov] (getMethod ov m (bndOf o env))
      callWith pos f first (backTo pos (starEach args env)) (backToKw pos (keywordEach [] env))) := by
  rw [arm_eval_Call, hb]
  refine congrArg _ (funext fun ov => ?_)
  refine congrArg _ (funext fun _ => ?_)
  exact mcall_at hf hl
section
variable {X : Cx} {k j : Nat} {c : Ct}
theorem mth_pe {C : Addr} {m : Str} {sp : Sp} {o e : Expr} {es : List Expr} {ta : TE} {t : TA} {apos pos : Pos} {pl : Sem Bool} (M : Mth X.prog X.w X.K X.mg X.base k C m sp) (cl : L2.Cls X.K C) (hr : Room j X.A) (hk : k ≤ j) (he : PE X o ta) (ha : PA X (e :: es) t)
    (hst : starEach (e :: es) X.env = (false, eval e X.env) :: starEach es X.env := by rfl) (hpl : (backTo pos (starEach es X.env)).any (·.1) = false := by rfl)
    (ht : eval (.Call (.Attribute o m apos) (e :: es) [] pos) X.env = (do
      let ov ← eval o X.env
      standAt apos.atName
      let (f, first) ← PySem.holding [ov] (getMethod ov m pl)
      callWith pos f first (backTo pos (starEach (e :: es) X.env)) (backToKw pos (keywordEach [] X.env))) := by rfl) :
    PE X (.Call (.Attribute o m apos) (e :: es) [] pos) (tMeth C m sp [] E0 ta t) := by
  obtain ⟨f, fd, ps, hm, F, b⟩ := M.ex
  exact pe_meth (pl := pl) he cl hm F (hr.mono hk) b .nil pass0 ha hst hpl ht
theorem mth_pe0 {C : Addr} {m : Str} {sp : Sp} {o : Expr} {ta : TE} {apos pos : Pos} {pl : Sem Bool} (M : Mth X.prog X.w X.K X.mg X.base k C m sp) (cl : L2.Cls X.K C) (hr : Room j X.A) (hk : k ≤ j) (he : PE X o ta)
    (ht : eval (.Call (.Attribute o m apos) [] [] pos) X.env = (do
      let ov ← eval o X.env
      standAt apos.atName
      let (f, first) ← PySem.holding [ov] (getMethod ov m pl)
      callWith pos f first (backTo pos (starEach [] X.env)) (backToKw pos (keywordEach [] X.env))) := by rfl) :
    PE X (.Call (.Attribute o m apos) [] [] pos) (tMeth C m sp [] E0 ta tNil) := by
  obtain ⟨f, fd, ps, hm, F, b⟩ := M.ex
  exact pe_meth0 (pl := pl) he cl hm F (hr.mono hk) b .nil pass0 ht
end

section
variable {X : Cx} {k : Nat} {c : Ct}
theorem lk_take {f : Str} {x : D} : ∀ {fl : List (Str × D)} {n : Nat}, (fl.take n).lookup f = some x → fl.lookup f = some x
  | [], n, h => by rw [List.take_nil] at h; cases h
  | a :: r, 0, h => by rw [List.take_zero] at h; cases h
  | (g, y) :: r, n + 1, h => by
    rw [List.take_succ_cons, List.lookup_cons] at h
    rw [List.lookup_cons]
    split at h
    · exact h
    · exact lk_take h
theorem mark_take (fl : List (Str × D)) : mark (fl.take 4) = none := by
  match fl with
  | [] => rfl
  | [_] => rfl
  | [_, _] => rfl
  | [_, _, _] => rfl
  | _ :: _ :: _ :: _ :: _ => rfl
theorem met_core {i n : Nat} {cls : Int} {sem : SemM} {f : EvA} {m : Str} {C : Addr} (hC : (C : Int) = cls) (hm : m ∉ flKeys) (hn : NoNew f) (hl : LenIs f n) {σ : L2.St} {H : Hp} {Q : VK} (h : tE X.K (eMet i cls sem f) σ H Q) :
    tMeth C m (spM X.K n sem) [] E0 (tVar i) (tA X.K f) σ H Q := by
  obtain ⟨F, t, env, τ, w, τ', S, e, q⟩ := h
  unfold eMet at e
  split at e
  · rename_i fl hs
    split at e
    · rename_i hk
      split at e
      · rename_i ws τ1 e1
        split at e
        · rename_i hw
          rw [Bool.and_eq_true] at hw
          split at e
          · rename_i d e2
            cases e
            obtain ⟨p, C', dx, fs, z1, z2, ⟨z3, z4⟩, z5⟩ := S.slot i _ hs
            obtain ⟨z6, z7⟩ := z4 _ hk
            have : C' = C := Int.ofNat.inj (z6.trans hC.symm)
            subst this
            refine ⟨.ref p, z1, p, dx, fs, rfl, S.same _ _ z2, z7 m hm, F, t, env, τ, ws, _, S, e1, fun F1 vs H1 P1 r1 => ?_⟩
            have ha := args_notp (t' := none) (args_of r1 hw.1 (hn _ _ _ _ e1)) hw.2
            refine ⟨F1, p, vs, fl.take 4, ws, d, hl _ _ _ _ e1, P1.same, by rw [List.append_nil], ⟨C', dx, fs, P1.ext _ _ z2, ⟨z3, fun c e => by rw [mark_take] at e; cases e⟩, fun f x e => ?_⟩, ha, e2, fun F' v H' P r => q F' v H' (P1.trans (P.untaped (S.post P1))) r⟩
            obtain ⟨y1, v, y2, y3⟩ := z5 f x (lk_take e)
            exact ⟨y1, v, y2, dq_mono P1.ext y3⟩
          · cases e
        · cases e
      · cases e
    · cases e
  · cases e
theorem evMet_ok (M : Mat X k c) {f : Expr → EvF} (hf : ∀ e, PE X e (tE X.K (f e))) {x m : Str} {px ap cp : Pos} {args : List Expr} : PE X (.Call (.Attribute (.Name x px) m ap) args [] cp) (tE X.K (if (args.all nst && ap.endLine == cp.line && !flKeys.elem m && decide (args.length < 2)) = true then (match slot c x, c.mth.lookup m with
    | some i, some s => if (args.length == s.n) = true then eMet i c.cls s.sem (evA f args) else fail
    | _, _ => fail) else fail)) := by
  split
  · rename_i h
    rw [Bool.and_eq_true, Bool.and_eq_true, Bool.and_eq_true] at h
    obtain ⟨⟨⟨h1, h2⟩, h3⟩, h8⟩ := h
    have h8 : args.length < 2 := of_decide_eq_true h8
    have hm : m ∉ flKeys := by simpa using h3
    split
    · rename_i i s hi hs
      split
      · rename_i hl
        have hl : args.length = s.n := eq_of_beq hl
        by_cases hC : ∃ C : Addr, (C : Int) = c.cls
        · obtain ⟨C, hC⟩ := hC
          obtain ⟨cl, mt⟩ := M.mth _ _ hs C hC
          obtain ⟨s1, s2, s3, s4⟩ := slot_of M hi
          have hv := pe_var (pos := px) s1 s2 s3 s4
          cases args with
          | nil =>
            have hl : 0 = s.n := hl
            refine weakE (mth_pe0 mt cl M.room (Nat.le_refl _) hv (call_ht rfl rfl h2)) fun σ H Q h => ?_
            obtain ⟨v, h4, a, dx, fs, h5, h6, h7, F, t, env, τ, ws, τ1, S, e, q⟩ := met_core (f := evA f []) (m := m) hC hm noNew_nil (hl ▸ lenIs_nil) h
            refine ⟨v, h4, a, dx, fs, h5, h6, h7, ?_⟩
            cases e
            exact q F [] H (.refl S) .nil
          | cons e es =>
            rw [List.all_cons, Bool.and_eq_true] at h1
            refine weakE (mth_pe mt cl M.room (Nat.le_refl _) hv (evA_ok hf (by rw [List.all_cons, h1.1, h1.2]; rfl)) (starEach_ns h1.1) (star_plain h1.2) (call_ht rfl ?_ h2)) fun σ H Q h => met_core (m := m) hC hm (evA_new f _) (hl ▸ evA_len f _) h
            cases es with
            | nil => rw [starEach_ns h1.1]; rfl
            | cons _ _ => simp at h8; omega
        · refine weakE pe_fail fun σ H Q ⟨F, t, env, τ, w, τ', S, e, q⟩ => ?_
          exfalso
          unfold eMet at e
          split at e
          · rename_i fl hs'
            split at e
            · rename_i hk
              obtain ⟨p, C', dx, fs, z1, z2, ⟨z3, z4⟩, z5⟩ := S.slot i _ hs'
              exact hC ⟨C', (z4 _ hk).1⟩
            · cases e
          · cases e
      · exact pe_fail
    · exact pe_fail
  · exact pe_fail
end

open PySem PySem.Spec PyProof.Rows L2
open PySem.W (minD maxD)
section
variable {X : Cx} {k : Nat} {c : Ct}
theorem ownOf_ix {N : List Str} : ∀ {l : List (Str × NameKind)}, ∀ p ∈ ownOf N l, N[p.2]? = some p.1
  | [], p, h => by cases h
  | (y, kd) :: r, p, h => by
    unfold ownOf at h
    split at h
    · split at h
      · rename_i i hi
        rcases List.mem_cons.mp h with q | q
        · subst q; exact ixOf_ok hi
        · exact ownOf_ix p q
      · exact ownOf_ix p h
    · exact ownOf_ix p h
theorem ixOf_none : ∀ {N : List Str} {x : Str}, ixOf N x = none → x ∉ N
  | [], _, _ => by simp
  | y :: r, x, h => by
    unfold ixOf at h
    split at h
    · cases h
    · rename_i e
      split at h
      · cases h
      · rename_i h2
        rw [List.mem_cons, not_or]
        exact ⟨fun z => e (by rw [z]; exact beq_self_eq_true y), ixOf_none h2⟩
theorem ownOf_own {N : List Str} : ∀ {l : List (Str × NameKind)}, ∀ y ∈ l, y.2 = .local ∨ y.2 = .cell → y.1 ∈ (ownOf N l).map (·.1) ∨ y.1 ∉ N
  | [], y, h, _ => by cases h
  | (z, kd) :: r, y, h, hk => by
    unfold ownOf
    rcases List.mem_cons.mp h with q | q
    · subst q
      rw [if_pos (by rcases hk with q | q <;> (simp only at q; subst q; rfl))]
      split
      · exact .inl (by simp)
      · exact .inr (ixOf_none ‹_›)
    · have ih := ownOf_own (N := N) y q hk
      split
      · split
        · rcases ih with t | t
          · exact .inl (by rw [List.map_cons]; exact List.mem_cons_of_mem _ t)
          · exact .inr t
        · exact ih
      · exact ih
theorem blk_ok (M : Mat X k c) {scope : Scope} (h : blkB c scope = true) : BlkOk X.N X.env.scope scope (ownOf c.N scope.names) := by
  unfold blkB at h
  rw [Bool.and_eq_true, Bool.and_eq_true, List.all_eq_true, List.all_eq_true] at h
  obtain ⟨⟨h1, h2⟩, h3⟩ := h
  refine ⟨eq_of_beq h1, fun y hy => eq_of_beq (h2 y hy), fun p hp => by rw [M.N]; exact ownOf_ix p hp, fun y hy e => ?_, fun y hy e => by rw [M.N]; exact ownOf_own y hy e⟩
  have := h3 y hy
  rw [e] at this
  rw [if_pos (by rfl), Bool.or_eq_true] at this
  rw [M.sc]
  rcases this with q | q
  · exact .inl (eq_of_beq q)
  · exact .inr (eq_of_beq q)
theorem Mat.blk (M : Mat X k c) (s : Shared) (H : Hp) (scope : Scope) (cl : List (Str × Addr)) (C : Addr) (fp : List Addr) : Mat (X.blk s H scope (compEnvC scope cl C X.env) fp) k (c.blk scope) where
  calm := M.calm
  nd := M.nd
  N := M.N
  sc := by
    show relS scope X.env.scope = relS scope c.sc
    rw [M.sc]
  fn := fun x h => h
  xe := rfl
  room := M.room
  fns := fun x s h => ⟨(M.fns x s h).ex⟩
  gl := M.gl
  blt := M.blt
  mth := M.mth
theorem inAll_ok {a b : List Nat} (h : inAll a b = true) : ∀ j ∈ a, j ∈ b := fun j hj => by
  unfold inAll at h
  rw [List.all_eq_true] at h
  have := h j hj
  simpa using this
theorem evIfs_ok {f : Expr → EvF} (hf : ∀ e, PT X e (tT X.K (f e))) {ifs : List Expr} {tt : EvF} (h : evIfs f ifs = some tt) : PTs X ifs (if ifs.isEmpty = true then tYes else tT X.K tt) := by
  unfold evIfs at h
  split at h
  · cases h; exact pts_nil
  · cases h; exact pts_one (hf _)
  · cases h
theorem evIfs_tt {f : Expr → EvF} {ifs : List Expr} {tt : EvF} {K : PySem.W.Frag} (h : evIfs f ifs = some tt) : ∀ σ H Q, tT K tt σ H Q → (if ifs.isEmpty = true then tYes else tT K tt) σ H Q := by
  unfold evIfs at h
  split at h
  · cases h
    intro σ H Q ⟨F, t, env, τ, b, τ', S, e, q⟩
    cases e
    exact q F H (.refl S)
  · cases h
    intro σ H Q q
    exact q
  · cases h
/-- what the evaluator promises of every expression -/
structure Good (k : Nat) (F : Ct → Expr → EvF) : Prop where
  pe : ∀ {X : Cx} {c : Ct}, Mat X k c → ∀ e, PE X e (tE X.K (F c e))
  pt : ∀ {X : Cx} {c : Ct}, Mat X k c → ∀ e, PT X e (tT X.K (F c e))
theorem evLc_both {F : Ct → Expr → EvF} (G : Good k F) (M : Mat X k c) {elt : Expr} {scope : Scope} {gens : List Comprehension} {pos : Pos} :
    ∃ t : TE, PE X (.ListComp elt gens scope pos) t ∧ (∀ (i : Nat) (y : Str) (py spos : Pos), X.N[i]? = some y → X.env.scope.names.lookup y = some .local → swapsWith (.ListComp elt gens scope pos) (some (.Name y py)) spos.line X.env = pure true →
      PS X (.Assign [.Name y py] (.ListComp elt gens scope pos) spos) (tAsg t (gName i))) ∧ ∀ σ H Q, tE X.K (evLc F c elt scope gens) σ H Q → t σ H Q := by
  have bad : ∀ gens : List Comprehension, ∃ t : TE, PE X (.ListComp elt gens scope pos) t ∧ (∀ (i : Nat) (y : Str) (py spos : Pos), X.N[i]? = some y → X.env.scope.names.lookup y = some .local → swapsWith (.ListComp elt gens scope pos) (some (.Name y py)) spos.line X.env = pure true →
      PS X (.Assign [.Name y py] (.ListComp elt gens scope pos) spos) (tAsg t (gName i))) ∧ ∀ σ H Q, tE X.K fail σ H Q → t σ H Q := fun gens =>
    ⟨_, pe_fail, fun i y py spos _ _ _ => ⟨fun pins s σ H D I ⟨F, t, env, τ, w, τ', S, e, q⟩ => by cases e⟩, fun σ H Q h => h⟩
  unfold evLc
  split
  · rename_i tg it ifs
    split
    · rename_i hb
      split
      · rename_i T tt hT ht
        split
        · rename_i hv
          rw [Bool.and_eq_true] at hv
          have a1 := evI_ok (tg := tg) (e := it) M (G.pe M)
          have a2 := fun s H C cl fp => evTg_ok (M.blk s H scope cl C fp) hT
          have a3 := fun s H C cl fp => evIfs_ok (G.pt (M.blk s H scope cl C fp)) ht
          have a4 := fun s H C cl fp => G.pe (M.blk s H scope cl C fp) elt
          refine ⟨_, pe_lc (own := ownOf c.N scope.names) M.calm M.nd a1 (blk_ok M hb) a2 a3 a4 (fun x => evI_fold (f := F c) (c := c) (tg := tg) hv.2), fun i y py spos hi hl hw => ?_, fun σ H Q h => lc_sem (evIfs_tt ht) (inAll_ok hv.1) h⟩
          exact ps_setLc (own := ownOf c.N scope.names) M.calm M.nd hi hl hw a1 (blk_ok M hb) a2 a3 a4 (fun x => evI_fold (f := F c) (c := c) (tg := tg) hv.2)
        · exact bad _
      · exact bad _
    · exact bad _
  · rename_i tg it ifs tg1 it1 ifs1
    split
    · rename_i hb
      split
      · rename_i T tt T1 tt1 hT ht hT1 ht1
        split
        · rename_i hv
          rw [Bool.and_eq_true, Bool.and_eq_true, Bool.and_eq_true] at hv
          obtain ⟨⟨⟨hv, hv1⟩, hp⟩, hp0⟩ := hv
          have a1 := evI_ok (tg := tg) (e := it) M (G.pe M)
          have a2 := fun s H C cl fp => evTg_ok (M.blk s H scope cl C fp) hT
          have a3 := fun s H C cl fp => evIfs_ok (G.pt (M.blk s H scope cl C fp)) ht
          have a4 := fun s H C cl fp => G.pe (M.blk s H scope cl C fp) elt
          have b1 := fun s H C cl fp => evI_ok (tg := tg1) (e := it1) (M.blk s H scope cl C fp) (G.pe (M.blk s H scope cl C fp))
          have b2 := fun s H C cl fp => evTg_ok (M.blk s H scope cl C fp) hT1
          have b3 := fun s H C cl fp => evIfs_ok (G.pt (M.blk s H scope cl C fp)) ht1
          have f0 : ∀ x, foldedSetIterable it X.env x = pure x := fun x => evI_fold (f := F c) (c := c) (tg := tg) hp0
          have f1 : ∀ env x, foldedSetIterable it1 env x = pure x := fun env x => evI_fold (f := F c) (c := c) (tg := tg) hp
          refine ⟨_, pe_lc2 (own := ownOf c.N scope.names) (vs1 := T1.slots) M.calm M.nd a1 (blk_ok M hb) (inAll_ok hv1) a2 a3 b1 b2 b3 a4 f0 f1, fun i y py spos hi hl hw => ?_, fun σ H Q h => lc2_sem (evIfs_tt ht) (evIfs_tt ht1) (inAll_ok hv) (fun j h => h) h⟩
          exact ps_setLc2 (own := ownOf c.N scope.names) (vs1 := T1.slots) M.calm M.nd hi hl hw a1 (blk_ok M hb) (inAll_ok hv1) a2 a3 b1 b2 b3 a4 f0 f1
        · exact bad _
      · exact bad _
    · exact bad _
  · exact bad _
theorem evLc_ok {F : Ct → Expr → EvF} (G : Good k F) (M : Mat X k c) {elt : Expr} {scope : Scope} {gens : List Comprehension} {pos : Pos} : PE X (.ListComp elt gens scope pos) (tE X.K (evLc F c elt scope gens)) := by
  obtain ⟨t, h, _, w⟩ := evLc_both G M (elt := elt) (scope := scope) (gens := gens) (pos := pos)
  exact weakE h w
/-! ### all expressions -/
theorem ifeT_ok {fc a b : EvF} {ec ea eb : Expr} {pos : Pos} (hc : PT X ec (tT X.K fc)) (ha : PT X ea (tT X.K a)) (hb : PT X eb (tT X.K b)) : PT X (.IfExp ec ea eb pos) (tT X.K (eIf fc a b)) := by
  refine ⟨fun pins s σ H Q I h => ?_⟩
  obtain ⟨F, t, env, τ, w, τ', S, e, q⟩ := h
  unfold eIf at e
  split at e
  · rename_i τ1 e1
    refine PyProof.Rows.isTrue_IfExp (thn (hc.run pins s σ H (fun k H1 => k = true ∧ tT X.K a σ H1 Q) I ⟨F, t, env, τ, true, τ1, S, e1, fun F1 H1 P1 => ⟨rfl, F1, t, env, τ1, w, τ', S.post P1, e, fun F2 H2 P2 => q F2 H2 (P1.trans P2)⟩⟩) fun k s1 ⟨H1, I1, hk, q1⟩ => ?_)
    subst hk
    exact ha.run pins s1 σ H1 Q I1 q1
  · rename_i τ1 e1
    refine PyProof.Rows.isTrue_IfExp (thn (hc.run pins s σ H (fun k H1 => k = false ∧ tT X.K b σ H1 Q) I ⟨F, t, env, τ, false, τ1, S, e1, fun F1 H1 P1 => ⟨rfl, F1, t, env, τ1, w, τ', S.post P1, e, fun F2 H2 P2 => q F2 H2 (P1.trans P2)⟩⟩) fun k s1 ⟨H1, I1, hk, q1⟩ => ?_)
    subst hk
    exact hb.run pins s1 σ H1 Q I1 q1
  · cases e
def plainT : Expr → Bool
  | .BoolOp .. => false
  | .Compare .. => false
  | .UnaryOp .Not _ _ => false
  | .IfExp .. => false
  | _ => true
theorem plainT_ok {e : Expr} {env : Env} (h : plainT e = true) : ∀ whole, isTrue e env whole = (do let v ← whole; standAt e.pos; PySem.holding [v] (truthy v)) := by
  intro whole
  cases e with
  | UnaryOp op a p => cases op <;> first | rfl | cases h
  | _ => first | rfl | cases h
theorem evE1_pe {F : Ct → Expr → EvF} (G : Good k F) (M : Mat X k c) (e : Expr) : PE X e (tE X.K (evE1 F c e)) := by
  unfold evE1
  split
  · split
    · rename_i i hi
      obtain ⟨h1, h2, h3, h4⟩ := slot_of M hi
      exact var_ok h1 h2 h3 h4
    · split
      · rename_i hg
        obtain ⟨g1, g2, g3⟩ := gl_of M hg
        split
        · rename_i d hd
          obtain ⟨v, u, m, r, dv⟩ := M.gl _ _ hd
          exact con_ok (pe_glob g1 m r g2) dv
        · exact pe_fail
      · exact pe_fail
  · split
    · rename_i hd
      unfold conD at hd
      split at hd
      · cases hd; exact con_ok pe_non fun F => .non
      · cases hd; exact con_ok pe_bl fun F => .bl _
      · cases hd; exact con_ok pe_int fun F => .int _
      · cases hd; exact con_ok pe_str fun F => .str _
      · cases hd
    · exact pe_fail
  · split
    · exact bin_ok (gBin_ok ‹_›) (G.pe M _) (G.pe M _)
    · exact pe_fail
  · split
    · exact neg_ok (G.pe M _)
    · exact not_ok (G.pe M _)
    · exact pe_fail
  · exact evBool_ok (G.pe M)
  · exact ife_ok (G.pt M _) (G.pe M _) (G.pe M _)
  · split
    · exact pe_fail
    · rename_i hm
      split
      · exact cmp_ok (gCmp_ok M ‹_›) (G.pe M _) (G.pe M _) (by simpa using hm)
      · exact pe_fail
  · split
    · exact pe_fail
    · rename_i hm
      split
      · rename_i g g' h1 h2
        exact chn_ok (gCmp_ok M h1) (gCmp_ok M h2) (G.pe M _) (G.pe M _) (G.pe M _) (by simpa using hm)
      · exact pe_fail
  · exact evSub_ok (G.pe M)
  · split
    · exact lst_ok (evA_ok (G.pe M) ‹_›)
    · exact pe_fail
  · split
    · exact tup_ok (evA_ok (G.pe M) ‹_›)
    · exact pe_fail
  · exact evCall_ok M (G.pe M)
  · exact evMet_ok M (G.pe M)
  · exact evLc_ok G M
  · split
    · rename_i i hi
      obtain ⟨h1, h2, h3, h4⟩ := slot_of M hi
      exact fld_ok h1 h2 h3 h4
    · exact pe_fail
  · exact pe_fail
theorem evE1_pt {F : Ct → Expr → EvF} (G : Good k F) (M : Mat X k c) (e : Expr) : PT X e (tT X.K (evE1 F c e)) := by
  by_cases hp : plainT e = true
  · exact tT_of (evE1_pe G M e) (plainT_ok hp)
  · unfold evE1
    split <;> first
      | exact absurd rfl hp
      | skip
    · split
      · exact absurd rfl hp
      · exact notT_ok (G.pt M _)
      · exact pt_fail
    · exact (evBoolW_ok (G.pt M)).pt
    · exact ifeT_ok (G.pt M _) (G.pt M _) (G.pt M _)
    · split
      · exact pt_fail
      · rename_i hm
        split
        · exact cmpT_ok (gCmp_ok M ‹_›) (G.pe M _) (G.pe M _) (by simpa using hm)
        · exact pt_fail
    · split
      · exact pt_fail
      · rename_i hm
        split
        · rename_i g g' h1 h2
          exact chnT_ok (gCmp_ok M h1) (gCmp_ok M h2) (G.pe M _) (G.pe M _) (G.pe M _) (by simpa using hm)
        · exact pt_fail
    · exact pt_fail
theorem evE_good : ∀ n : Nat, Good k (evE n)
  | 0 => ⟨fun M e => pe_fail, fun M e => pt_fail⟩
  | n + 1 => ⟨fun M e => evE1_pe (evE_good n) M e, fun M e => evE1_pt (evE_good n) M e⟩
end

open PySem PySem.Spec PyProof.Rows L2
open PySem.W (minD maxD)
/-! # statements -/
def failS : EvS := fun _ _ => none
/-- how two or three names are stored at once: some (some names) from the right, some none as a tuple, none: not told -/
def swKind (c : Ct) (ts vs : List Expr) : Option (Option (List Str)) :=
  if (!(ts.length == 2 || ts.length == 3) || vs.length != ts.length) = true then some none else
  if (vs.any fun | .Starred .. => true | _ => false) = true then some none else
  if ((ts.filterMap fun | .Name id pos => if (c.sc.names.lookup id == some .local && pos.line == (ts.head?.map (·.pos.line)).getD 0) = true then some id else none | _ => none).length != ts.length || (ts.filterMap fun | .Name id pos => if (c.sc.names.lookup id == some .local && pos.line == (ts.head?.map (·.pos.line)).getD 0) = true then some id else none | _ => none).eraseDups.length != (ts.filterMap fun | .Name id pos => if (c.sc.names.lookup id == some .local && pos.line == (ts.head?.map (·.pos.line)).getD 0) = true then some id else none | _ => none).length) = true then some none else
  if vs.all (foldedForSure 8) = true then some none else
  if vs.all (constantsAlone 8) = true then none else
  some (some (ts.filterMap fun | .Name id pos => if (c.sc.names.lookup id == some .local && pos.line == (ts.head?.map (·.pos.line)).getD 0) = true then some id else none | _ => none))
theorem swKind_ok {X : Cx} {k : Nat} {c : Ct} (M : Mat X k c) (hk : c.sc.kind = .function) {ts vs : List Expr} {kt kv : Nat} {pt pv : Pos} {r : Option (List Str)} (h : swKind c ts vs = some r) : swappedStores [.Tuple ts kt pt] (.Tuple vs kv pv) X.env = pure r := by
  have hb : (X.env.blockKind != .function) = false := by
    unfold Env.blockKind
    rw [M.sc, hk]
    rfl
  have hk2 : ∀ id, X.env.kindOf id = c.sc.names.lookup id := fun id => by
    show X.env.scope.names.lookup id = _
    rw [M.sc]
  unfold swKind at h
  unfold swappedStores
  simp only [hb, hk2, Bool.or_false]
  split at h
  · rename_i h1
    cases h
    simp only [h1, if_true]
  rename_i h1
  simp only [h1, if_false, Bool.false_eq_true]
  split at h
  · rename_i h2
    cases h
    exact if_pos h2
  rename_i h2
  refine (if_neg h2).trans ?_
  split at h
  · rename_i h3
    cases h
    exact if_pos h3
  rename_i h3
  refine (if_neg h3).trans ?_
  split at h
  · rename_i h4
    cases h
    exact if_pos h4
  rename_i h4
  refine (if_neg h4).trans ?_
  split at h
  · cases h
  · rename_i h5
    cases h
    exact if_neg h5
def tgNames (c : Ct) : List Expr → Option (List Nat)
  | [] => some []
  | .Name x _ :: r => (match slotT c x, tgNames c r with
    | some i, some l => some (i :: l)
    | _, _ => none)
  | _ => none
def locB (c : Ct) (x : Str) : Bool := match c.sc.names.lookup x with
  | some .local => true
  | _ => false
def parOk (c : Ct) (ns : List Str) : List Expr → List Nat → Bool
  | [.Name x _, .Name y _], [i, j] => (ns == [x, y]) && locB c x && locB c y && !(i == j)
  | [.Name x _, .Name y _, .Name z _], [i, j, l] => (ns == [x, y, z]) && locB c x && locB c y && locB c z && !(i == j) && !(i == l) && !(j == l)
  | _, _ => false
def evPar (own : Nat → Bool) (F : Expr → EvF) (c : Ct) (ts vs : List Expr) : EvS := if (vs.all nst && ts.all nst && (vs.length == ts.length)) = true then (match tgNames c ts with
    | some is => if is.length ≤ 9 then (match swKind c ts vs with
      | some none => sPar own is (evD F vs)
      | some (some ns) => if parOk c ns ts is = true then sPar own is (evD F vs) else failS
      | none => failS) else failS
    | none => failS) else failS
def notComp : Expr → Bool
  | .SetComp .. => false
  | .DictComp .. => false
  | .ListComp .. => false
  | _ => true
def evNm (own : Nat → Bool) (F : Expr → EvF) (c : Ct) (i : Nat) : Expr → EvS
  | .Call (.Attribute (.Name y _) m ap) [] [] cp => if (m == ("pop" : Str) && ap.endLine == cp.line) = true then (match slot c y with
      | some j => sPopSet i j
      | none => failS) else failS
  | .SetComp .. => failS
  | .DictComp .. => failS
  | e => sSet (own i) i (F e)
def evAsg (own : Nat → Bool) (F : Expr → EvF) (c : Ct) : Expr → Expr → EvS
  | .Name x _, e => (match slotT c x with
    | some i => evNm own F c i e
    | none => failS)
  | .Subscript (.Name x _) idx _, e => if plainIx idx = true then (match slot c x with
    | some i => sSub i (F idx) (F e)
    | none => failS) else failS
  | .Tuple ts _ _, .Tuple vs _ _ => evPar own F c ts vs
  | .Tuple ts k p, e => (match evTg c 9 (.Tuple ts k p) with
    | some T => sTg T (F e)
    | none => failS)
  | _, _ => failS
def evX (F : Expr → EvF) (c : Ct) : Expr → EvS
  | .Call (.Attribute (.Name x _) m ap) args [] cp => if (ap.endLine == cp.line && args.all nst) = true then (match slot c x with
      | some i => if m == ("append" : Str) then (match args with
          | [a] => sApp i (evA F [a])
          | _ => failS)
        else if m == ("insert" : Str) then (match args with
          | [a, b] => sIns i (evA F [a, b])
          | _ => failS)
        else if m == ("pop" : Str) then (match args with
          | [a] => sPopAt i (evA F [a])
          | _ => failS)
        else failS
      | none => failS) else failS
  | e => if notComp e = true then sDrop (F e) else failS
noncomputable def evS1 (G : List Stmt → EvS) (own : Nat → Bool) (F : Expr → EvF) (c : Ct) : Stmt → EvS
  | .Return (some e) _ => sRet (F e)
  | .If t a b _ => sIf (F t) (G a) (G b)
  | .While t b [] _ => sWhile (F t) (G b)
  | .For tg it b [] _ => if plainSet it = true then (match evTg c 9 tg with
    | some T => sFor (evI F c tg it) T (G b)
    | none => failS) else failS
  | .Assign [tg] e _ => evAsg own F c tg e
  | .Expr e _ => evX F c e
  | .Pass _ => sNext
  | .Break _ => sBreak
  | .Continue _ => sCont
  | _ => failS
noncomputable def evB (g : Stmt → EvS) : List Stmt → EvS
  | [] => sNext
  | s :: r => sSeq (g s) (evB g r)
noncomputable def evS (own : Nat → Bool) (F : Expr → EvF) (c : Ct) : Nat → Stmt → EvS
  | 0, _ => failS
  | n + 1, st => evS1 (evB (evS own F c n)) own F c st
section
variable {X : Cx} {k : Nat} {c : Ct} {own : Nat → Bool} {F : Expr → EvF}
theorem ps_fail {st : Stmt} : PS X st (tS X.K failS) := ⟨fun pins s σ H D I ⟨F0, H0, F, t, env, τ, o, I', e, q⟩ => by cases e⟩
theorem locB_of (M : Mat X k c) {x : Str} (h : locB c x = true) : X.env.scope.names.lookup x = some .local := by
  unfold locB at h
  rw [M.sc]
  split at h
  · assumption
  · cases h
theorem tgNames_ok (M : Mat X k c) : ∀ {ts : List Expr} {is : List Nat}, tgNames c ts = some is → PGs X ts (gNames is) ∧ ts.length = is.length
  | [], is, h => by
    unfold tgNames at h
    cases h
    exact ⟨pgs_nil, rfl⟩
  | e :: r, is, h => by
    unfold tgNames at h
    split at h
    · rename_i h0
      cases h0
    · rename_i x p r' e0
      cases e0
      split at h
      · rename_i i l hi hl
        cases h
        obtain ⟨h1, h2, h3⟩ := slotT_of M hi
        obtain ⟨g1, g2⟩ := tgNames_ok M hl
        exact ⟨pgs_cons (pg_name M.nd h1 h2 h3) g1 rfl, by rw [List.length_cons, g2]; rfl⟩
      · cases h
    · cases h
theorem evPar_ok (M : Mat X k c) (hk : c.sc.kind = .function) (hF : ∀ e, PE X e (tE X.K (F e))) {ts vs : List Expr} {kt kv : Nat} {pt pv pos : Pos} : PS X (.Assign [.Tuple ts kt pt] (.Tuple vs kv pv) pos) (tS X.K (evPar own F c ts vs)) := by
  unfold evPar
  split
  · rename_i hg
    rw [Bool.and_eq_true, Bool.and_eq_true] at hg
    obtain ⟨⟨hv, ht⟩, hl⟩ := hg
    have hl : vs.length = ts.length := eq_of_beq hl
    split
    · rename_i is hi
      split
      · rename_i h9
        obtain ⟨g1, g2⟩ := tgNames_ok M hi
        split
        · rename_i hw
          obtain ⟨a1, a2⟩ := assignEach_ns (env := X.env) ht
          have := ps_asg (pos := pos) (pe_tup (x1 := kv) (pos := pv) (evD_ok hF hv)) (pg_tup (k := kt) (pos := pt) (n := is.length) M.calm g1 (by rw [a1, g2]) a2) rfl (swKind_ok M hk hw) rfl
          exact weakS this fun D σ H h => parT_core (by have := line_big; omega) h
        · rename_i ns hw
          split
          · rename_i hp
            have hsw := swKind_ok M hk (kt := kt) (kv := kv) (pt := pt) (pv := pv) hw
            unfold parOk at hp
            split at hp
            · rename_i x px y py i j _
              simp only [Bool.and_eq_true] at hp
              obtain ⟨⟨⟨h1, h2⟩, h3⟩, h4⟩ := hp
              have h1 : ns = [x, y] := eq_of_beq h1
              subst h1
              have hij : i ≠ j := fun z => by subst z; simp at h4
              match vs, hl with
              | [a, b], _ =>
                obtain ⟨si, sj⟩ : X.N[i]? = some x ∧ X.N[j]? = some y := by
                  unfold tgNames at hi
                  split at hi
                  · rename_i i' l' hi' hl'
                    cases hi
                    unfold tgNames at hl'
                    split at hl'
                    · rename_i j' l'' hj' hl''
                      cases hl'
                      exact ⟨(slotT_of M hi').1, (slotT_of M hj').1⟩
                    · cases hl'
                  · cases hi
                exact weakS (ps_par M.calm M.nd si sj hij (locB_of M h2) (locB_of M h3) (evD_ok hF hv) hsw rfl) fun D σ H h => par2_core h
            · rename_i x px y py z pz i j l _
              simp only [Bool.and_eq_true] at hp
              obtain ⟨⟨⟨⟨⟨⟨h1, h2⟩, h3⟩, h4⟩, h5⟩, h6⟩, h7⟩ := hp
              have h1 : ns = [x, y, z] := eq_of_beq h1
              subst h1
              have hij : i ≠ j := fun z => by subst z; simp at h5
              have hil : i ≠ l := fun z => by subst z; simp at h6
              have hjl : j ≠ l := fun z => by subst z; simp at h7
              match vs, hl with
              | [a, b, d], _ =>
                obtain ⟨si, sj, sl⟩ : X.N[i]? = some x ∧ X.N[j]? = some y ∧ X.N[l]? = some z := by
                  unfold tgNames at hi
                  split at hi
                  · rename_i i' l' hi' hl'
                    cases hi
                    unfold tgNames at hl'
                    split at hl'
                    · rename_i j' l'' hj' hl''
                      cases hl'
                      unfold tgNames at hl''
                      split at hl''
                      · rename_i k' l''' hk' hl'''
                        cases hl''
                        exact ⟨(slotT_of M hi').1, (slotT_of M hj').1, (slotT_of M hk').1⟩
                      · cases hl''
                    · cases hl'
                  · cases hi
                exact weakS (ps_par3 M.calm M.nd si sj sl hij hil hjl (locB_of M h2) (locB_of M h3) (locB_of M h4) (evD_ok hF hv) hsw rfl) fun D σ H h => par3_core h
            · cases hp
          · exact ps_fail
        · exact ps_fail
      · exact ps_fail
    · exact ps_fail
  · exact ps_fail
end

open PySem PySem.Spec PyProof.Rows L2
open PySem.W (minD maxD)
section
variable {X : Cx} {k : Nat} {c : Ct} {own : Nat → Bool}
theorem sw_name {e : Expr} {t : Expr} {l : Nat} {env : Env} (h : notComp e = true) : swapsWith e (some t) l env = pure false := by
  cases e <;> first | rfl | cases h
theorem sw_none {e : Expr} {l : Nat} {env : Env} (h : notComp e = true) : swapsWith e none l env = pure false := by
  cases e <;> first | rfl | cases h
theorem sw_sub {e a b : Expr} {p : Pos} {l : Nat} {env : Env} : swapsWithSole [.Subscript a b p] e l env = pure false := by
  cases e <;> rfl
theorem sw_tup {e : Expr} {ts : List Expr} {j : Nat} {p : Pos} {l : Nat} {env : Env} : swapsWithSole [.Tuple ts j p] e l env = pure false := by
  cases e <;> rfl
theorem evNm_ok {n : Nat} (M : Mat X k c) {x : Str} {px pos : Pos} {i : Nat} (hi : slotT c x = some i) (e : Expr) : PS X (.Assign [.Name x px] e pos) (tS X.K (evNm own (evE (n + 1) c) c i e)) := by
  obtain ⟨h1, h2, h3⟩ := slotT_of M hi
  have gen : ∀ e, notComp e = true → PS X (.Assign [.Name x px] e pos) (tS X.K (sSet (own i) i (evE (n + 1) c e))) := fun e hn =>
    weakS (ps_set M.nd h1 h2 ((evE_good (n + 1)).pe M e) (sw_name hn) h3) fun D σ H h => set_core h
  unfold evNm
  split
  · split
    · rename_i y py m ap cp hm
      rw [Bool.and_eq_true] at hm
      split
      · rename_i j hj
        have hp : m = ("pop" : Str) := eq_of_beq hm.1
        subst hp
        obtain ⟨s1, s2, s3, s4⟩ := slot_of M hj
        have he := pe_bm0 (X := X) (apos := ap) (cpos := cp) (name := ("pop" : Str)) PySem.F.plainAttrs_list PySem.F.slot_list_pop PySem.F.type_list_pop mt_pop (var_ok (pos := py) s1 s2 s3 s4) rfl hm.2
        exact weakS (ps_set M.nd h1 h2 he rfl h3) fun D σ H h => popSet_core h
      · exact ps_fail
    · exact ps_fail
  · exact ps_fail
  · exact ps_fail
  · rename_i n1 n2 n3
    cases e with
    | SetComp => exact (n2 _ _ _ _ rfl).elim
    | DictComp => exact (n3 _ _ _ _ _ rfl).elim
    | ListComp elt gens scope p =>
      have hb : swapsWith (.ListComp elt gens scope p) (some (.Name x px)) pos.line X.env = pure (X.env.blockKind == .function && X.env.kindOf x == some .local && px.line == p.line && !(scope.names.any fun (n, k) => n == x && (k == .local || k == .cell))) := rfl
      cases hs : (X.env.blockKind == .function && X.env.kindOf x == some .local && px.line == p.line && !(scope.names.any fun (n, k) => n == x && (k == .local || k == .cell))) with
      | false =>
        rw [hs] at hb
        exact weakS (ps_set M.nd h1 h2 ((evE_good (n + 1)).pe M _) hb h3) fun D σ H h => set_core h
      | true =>
        rw [hs] at hb
        rw [Bool.and_eq_true, Bool.and_eq_true, Bool.and_eq_true] at hs
        have hl : X.env.scope.names.lookup x = some .local := eq_of_beq hs.1.1.2
        obtain ⟨t, p1, p2, p3⟩ := evLc_both (evE_good n) M (elt := elt) (scope := scope) (gens := gens) (pos := p)
        refine weakS (p2 i x px pos h1 hl hb) fun D σ H h => p3 _ _ _ ?_
        exact set_core h
    | _ => exact gen _ rfl
theorem asg_sub {o i : Expr} {pos : Pos} {env : Env} (h : plainIx i = true) : ∀ v, assign (.Subscript o i pos) env v = (do
      let ov ← PySem.holding [v] (eval o env)
      let iv ← PySem.holding [v, ov] (eval i env)
      standAt pos
      PySem.holding [v, ov, iv] (setItem ov iv v)
      release [v, ov, iv] []) := fun v => by
  cases i <;> first | rfl | cases h
theorem evAsg_ok {n : Nat} (M : Mat X k c) (hk : c.sc.kind = .function) (tg e : Expr) {pos : Pos} : PS X (.Assign [tg] e pos) (tS X.K (evAsg own (evE (n + 1) c) c tg e)) := by
  have hF := (evE_good (k := k) (n + 1)).pe M
  unfold evAsg
  split
  · split
    · exact evNm_ok M ‹_› _
    · exact ps_fail
  · split
    · rename_i hp
      split
      · rename_i i hi
        obtain ⟨s1, s2, s3, s4⟩ := slot_of M hi
        exact weakS (ps_asg (hF _) (pg_sub (var_ok s1 s2 s3 s4) (hF _) set_list (asg_sub hp)) sw_sub rfl rfl) fun D σ H h => sub_core h
      · exact ps_fail
    · exact ps_fail
  · exact evPar_ok M hk hF
  · rename_i ts j p hn
    split
    · rename_i T hT
      refine weakS (ps_asg (hF _) (evTg_ok M hT) sw_tup ?_ rfl) fun D σ H h => tg_core h
      cases e <;> first | rfl | exact (hn _ _ _ rfl).elim
    · exact ps_fail
  · exact ps_fail
theorem few1 {a : Expr} {env : Env} {cp : Pos} (h : nst a = true) : ((backTo cp (starEach [a] env)).all (fun x => !x.1) && (backToKw cp (keywordEach [] env)).all (fun x => x.1.isSome)
      && decide ([a].length + ([] : List Keyword).length + (if ([] : List Keyword).isEmpty then 0 else 1) < 30)) = true := by
  rw [starEach_ns h]
  rfl
theorem few2 {a b : Expr} {env : Env} {cp : Pos} (h : nst a = true) (h2 : nst b = true) : ((backTo cp (starEach [a, b] env)).all (fun x => !x.1) && (backToKw cp (keywordEach [] env)).all (fun x => x.1.isSome)
      && decide ([a, b].length + ([] : List Keyword).length + (if ([] : List Keyword).isEmpty then 0 else 1) < 30)) = true := by
  rw [starEach_ns h, starEach_ns h2]
  rfl
theorem evX_ok {F : Expr → EvF} (M : Mat X k c) (hF : ∀ e, PE X e (tE X.K (F e))) (e : Expr) {pos : Pos} : PS X (.Expr e pos) (tS X.K (evX F c e)) := by
  unfold evX
  split
  · split
    · rename_i x px m ap args cp hg
      rw [Bool.and_eq_true] at hg
      obtain ⟨hl, hs⟩ := hg
      split
      · rename_i i hi
        obtain ⟨s1, s2, s3, s4⟩ := slot_of M hi
        have hv := var_ok (pos := px) s1 s2 s3 s4
        split
        · rename_i hm
          have hm : m = ("append" : Str) := eq_of_beq hm
          subst hm
          split
          · rename_i a
            have ha : nst a = true := by simpa using hs
            exact weakS (ps_expr (pe_bm (T := "list") PySem.F.plainAttrs_list PySem.F.slot_list_append PySem.F.type_list_append mt_append hv (evA_ok hF hs) rfl (few1 ha) hl (starEach_ns ha) (star_plain (es := []) rfl)) rfl) fun D σ H h => app_core h
          · exact ps_fail
        · split
          · rename_i hm
            have hm : m = ("insert" : Str) := eq_of_beq hm
            subst hm
            split
            · rename_i a b
              have hs' : nst a = true ∧ nst b = true := by simpa using hs
              exact weakS (ps_expr (pe_bm (T := "list") PySem.F.plainAttrs_list PySem.F.slot_list_insert PySem.F.type_list_insert L2.mt_insert hv (evA_ok hF hs) rfl (few2 hs'.1 hs'.2) hl (starEach_ns hs'.1) (star_plain (es := [b]) (by rw [List.all_cons, hs'.2]; rfl))) rfl) fun D σ H h => ins_core h
            · exact ps_fail
          · split
            · rename_i hm
              have hm : m = ("pop" : Str) := eq_of_beq hm
              subst hm
              split
              · rename_i a
                have ha : nst a = true := by simpa using hs
                exact weakS (ps_expr (pe_bm (T := "list") PySem.F.plainAttrs_list PySem.F.slot_list_pop PySem.F.type_list_pop mt_popAt hv (evA_ok hF hs) rfl (few1 ha) hl (starEach_ns ha) (star_plain (es := []) rfl)) rfl) fun D σ H h => popAt_core h
              · exact ps_fail
            · exact ps_fail
      · exact ps_fail
    · exact ps_fail
  · split
    · exact drop_ok (hF _) (sw_none ‹_›)
    · exact ps_fail
theorem evS_ok {m : Nat} (M : Mat X k c) (hk : c.sc.kind = .function) : ∀ n : Nat, ∀ st : Stmt, PS X st (tS X.K (evS own (evE (m + 1) c) c n st))
  | 0, st => ps_fail
  | n + 1, st => by
    have hF := (evE_good (k := k) (m + 1)).pe M
    have hT := (evE_good (k := k) (m + 1)).pt M
    have hp : PassesOwn (model X.prog X.w) X.A X.env X.xe := by rw [M.xe]; exact .never
    have hB : ∀ l : List Stmt, PSs X l (tS X.K (evB (evS own (evE (m + 1) c) c n) l)) := fun l => by
      induction l with
      | nil => exact nil_ok
      | cons s r ih => exact cons_ok (evS_ok M hk n s) ih
    unfold evS evS1
    split
    · exact ret_ok (hF _)
    · exact if_ok (hT _) (hB _) (hB _)
    · exact weakS (ps_while hp (hT _) (hB _)) fun D σ H h => while_sem h
    · split
      · rename_i hpl
        split
        · rename_i T hTg
          exact weakS (ps_for hp M.calm (evI_ok M hF) (evTg_ok M hTg) (hB _) (fun x => evI_fold (f := evE 0 c) (c := c) (tg := .Name "x" ⟨0, 0, 0, 0⟩) hpl)) fun D σ H h => for_sem h
        · exact ps_fail
      · exact ps_fail
    · exact evAsg_ok M hk _ _
    · exact evX_ok M hF _
    · exact pass_ok
    · exact break_ok
    · exact cont_ok
    · exact ps_fail
theorem evB_ok {m n : Nat} (M : Mat X k c) (hk : c.sc.kind = .function) (l : List Stmt) : PSs X l (tS X.K (evB (evS own (evE (m + 1) c) c n) l)) := by
  induction l with
  | nil => exact nil_ok
  | cons s r ih => exact cons_ok (evS_ok M hk n s) ih
end

open PySem PySem.Spec PyProof.Rows L2
/-! # defs -/
def toSl : W → Sl
  | .d x => .d x
  | .tp => .tp
  | _ => .no
def startE (N : List Str) (ws : List W) : En := ws.map toSl ++ List.replicate (N.length - ws.length) Sl.no
def runB (f : EvS) (N : List Str) : Sem1 := fun ws τ => match f (startE N ws) τ with
  | some (.rt d τ') => some (d, τ')
  | some (.nx _ τ') => some (.none, τ')
  | _ => none
/-- the def stands in the text and keeps its promise -/
structure FnB (P : Program) (w : World) (K : PySem.W.Frag) (mg : Str → Option Value) (base : Heap) (k : Nat) (x : Str) (n : Nat) (sem : Sem1) : Prop where
  ex : ∃ (f : Addr) (fd : FuncData) (ps : List Str), mg x = some (.ref f) ∧ PySem.W.keepIn K (.ref f) = true ∧ Binds K fd ps [] ∧ ps.length = n ∧ FnOk P w K mg base CX0 k f fd ps (spD K n sem)
/-- what a def's body may lean on -/
structure Tab (P : Program) (w : World) (K : PySem.W.Frag) (mg : Str → Option Value) (base : Heap) (k : Nat) (fns : List (Str × FnS)) (gl : List (Str × D)) : Prop where
  fns : ∀ x s, fns.lookup x = some s → FnB P w K mg base k x s.n s.sem
  gl : ∀ x d, gl.lookup x = some d → ∃ v u, mg x = some u ∧ RelV v u ∧ ∀ F, Dq K F v d
  blt : ∀ x, x ∈ bltNames → mg x = none
section
variable {P : Program} {w : World} {K : PySem.W.Frag} {mg : Str → Option Value} {base : Heap} {k : Nat}
theorem FnB.mono {j : Nat} {x : Str} {n : Nat} {sem : Sem1} (h : FnB P w K mg base j x n sem) (hj : j ≤ k) : FnB P w K mg base k x n sem := by
  obtain ⟨f, fd, ps, h1, h2, h3, h4, h5⟩ := h.ex
  exact ⟨f, fd, ps, h1, h2, h3, h4, h5.mono hj⟩
theorem spD_imp {n : Nat} {sem sem' : Sem1} (hs : ∀ ws τ r, sem' ws τ = some r → sem ws τ = some r) : ∀ vs H Q E, spD K n sem' vs H Q E → spD K n sem vs H Q E := fun vs H Q E ⟨F, t, ws, τ, d, τ', h1, h2, h3, h4, h5, h6⟩ => ⟨F, t, ws, τ, d, τ', h1, h2, h3, h4, hs _ _ _ h5, h6⟩
theorem FnB.imp {x : Str} {n : Nat} {sem sem' : Sem1} (h : FnB P w K mg base k x n sem) (hs : ∀ ws τ r, sem' ws τ = some r → sem ws τ = some r) : FnB P w K mg base k x n sem' := by
  obtain ⟨f, fd, ps, h1, h2, h3, h4, h5⟩ := h.ex
  exact ⟨f, fd, ps, h1, h2, h3, h4, h5.imp (spD_imp hs)⟩
theorem Tab.nil (h : ∀ x, x ∈ bltNames → mg x = none) {gl : List (Str × D)} (hg : ∀ x d, gl.lookup x = some d → ∃ v u, mg x = some u ∧ RelV v u ∧ ∀ F, Dq K F v d) : Tab P w K mg base k [] gl := ⟨fun x s e => (by cases e), hg, h⟩
theorem Tab.cons {fns : List (Str × FnS)} {gl : List (Str × D)} {x : Str} {s : FnS} (T : Tab P w K mg base k fns gl) (h : FnB P w K mg base k x s.n s.sem) : Tab P w K mg base k ((x, s) :: fns) gl := by
  refine ⟨fun y t e => ?_, T.gl, T.blt⟩
  rw [List.lookup_cons] at e
  split at e
  · rename_i hy
    cases e
    rw [eq_of_beq hy]
    exact h
  · exact T.fns y t e
theorem Tab.mono {j : Nat} {fns : List (Str × FnS)} {gl : List (Str × D)} (T : Tab P w K mg base j fns gl) (h : j ≤ k) : Tab P w K mg base k fns gl := ⟨fun x s e => (T.fns x s e).mono h, T.gl, T.blt⟩
theorem argAll_start {F H : Hp} {t : Option Addr} {vs : List V} {ws : List W} (a : ArgAll K F t vs ws) : ∀ (σ0 : L2.St) (i : Nat) (s : Sl), (ws.map toSl)[i]? = some s → SlOk K F H t (vs.map some ++ σ0) i s := by
  induction a with
  | nil => intro σ0 i s h; simp at h
  | @d v vs x ws dx _ ih =>
    intro σ0 i s h
    cases i with
    | zero =>
      simp [toSl] at h
      subst h
      exact ⟨v, rfl, dx⟩
    | succ i =>
      have := ih σ0 i s (by simpa using h)
      cases s with
      | no => trivial
      | d y => obtain ⟨u, z1, z2⟩ := this; exact ⟨u, by simpa using z1, z2⟩
      | own ds => obtain ⟨b, us, z1, z2⟩ := this; exact ⟨b, us, by simpa using z1, z2⟩
      | tp => obtain ⟨b, z1, z2⟩ := this; exact ⟨b, z1, by simpa using z2⟩
      | ob fl => obtain ⟨p, C, dx, fs, z1, z2⟩ := this; exact ⟨p, C, dx, fs, by simpa using z1, z2⟩
  | @tp a vs ws ht _ ih =>
    intro σ0 i s h
    cases i with
    | zero =>
      simp [toSl] at h
      subst h
      exact ⟨a, ht, rfl⟩
    | succ i =>
      have := ih σ0 i s (by simpa using h)
      cases s with
      | no => trivial
      | d y => obtain ⟨u, z1, z2⟩ := this; exact ⟨u, by simpa using z1, z2⟩
      | own ds => obtain ⟨b, us, z1, z2⟩ := this; exact ⟨b, us, by simpa using z1, z2⟩
      | tp => obtain ⟨b, z1, z2⟩ := this; exact ⟨b, z1, by simpa using z2⟩
      | ob fl => obtain ⟨p, C, dx, fs, z1, z2⟩ := this; exact ⟨p, C, dx, fs, by simpa using z1, z2⟩
theorem startE_no {N : List Str} {F : Hp} {t : Option Addr} {vs : List V} {ws : List W} (a : ArgAll K F t vs ws) : ∀ {i : Nat} {ds : List D}, (startE N ws)[i]? ≠ some (Sl.own ds) := by
  intro i ds h
  unfold startE at h
  have h1 : ∀ {i : Nat}, (ws.map toSl)[i]? ≠ some (Sl.own ds) := by
    clear h
    induction a with
    | nil => intro i z; simp at z
    | d _ _ ih =>
      intro i z
      cases i with
      | zero => simp [toSl] at z
      | succ i => exact ih (by simpa using z)
    | tp _ _ ih =>
      intro i z
      cases i with
      | zero => simp [toSl] at z
      | succ i => exact ih (by simpa using z)
  rw [List.getElem?_append] at h
  split at h
  · exact h1 h
  · rw [List.getElem?_replicate] at h
    split at h
    · cases h
    · cases h
theorem start_si {N : List Str} {F H : Hp} {t : Option Addr} {τ : Tp} {vs : List V} {ws : List W} (a : ArgAll K F t vs ws) (hs : Same F H) (ht : TapeOk K F H t τ) : SI K F H F H t (startE N ws) τ (L2.start N vs) := by
  have hl := a.len
  have S : Sok K F H t (startE N ws) τ (L2.start N vs) := by
    refine ⟨hs, by unfold startE L2.start; simp [hl], fun i s h => ?_, fun i j ds es h1 h2 hne => (startE_no a h1).elim, ht⟩
    unfold startE at h
    rw [List.getElem?_append] at h
    split at h
    · exact argAll_start a _ i s h
    · rw [List.getElem?_replicate] at h
      split at h
      · cases h; trivial
      · cases h
  exact ⟨S, .refl S, fun i ds b h1 h2 => (startE_no a h1).elim⟩
/-- the context of a def's body -/
def ctOf (N : List Str) (sc : Scope) (fns : List (Str × FnS)) (gl : List (Str × D)) : Ct := ⟨N, sc, fun _ => true, fns, gl, 0, []⟩
/-- the meaning of a def's body -/
noncomputable def semOf (own : Nat → Bool) (N : List Str) (fns : List (Str × FnS)) (gl : List (Str × D)) (st : Stmt) : Sem1 := runB (evB (evS own (evE 41 (ctOf N (defScope st) fns gl)) (ctOf N (defScope st) fns gl) 40) (defBody st)) N
theorem fn_ev {x : Str} {st : Stmt} {f : Addr} {fd : FuncData} {N ps : List Str} {fns : List (Str × FnS)} {gl : List (Str × D)} (own : Nat → Bool) (T : Tab P w K mg base k fns gl) (F : L2.Fun K x x st f fd) (S : FnScope N ps (defScope st)) :
    FnOk P w K mg base CX0 (k + 1) f fd ps (spD K ps.length (semOf own N fns gl st)) := by
  refine F.ok S (fun vs H Q E h => spD_len h) fun cdv A outer s H vs Q E hr ⟨F1, t, ws, τ, d, τ', h1, h2, h3, h4, h5, h6⟩ => ?_
  have M : Mat (cxOf CX0 P w K mg base N x (defScope st) f cdv A outer s H E).nox k (ctOf N (defScope st) fns gl) := ⟨rfl, S.nd, rfl, rfl, fun _ _ => rfl, rfl, hr, fun y s' e => ⟨(T.fns y s' e).ex⟩, T.gl, T.blt, fun _ _ e => (by cases e)⟩
  refine ⟨_, evB_ok (own := own) (m := 40) (n := 40) M S.kind (defBody st), ?_⟩
  unfold semOf runB at h5
  split at h5
  · rename_i d' t' e
    cases h5
    exact ⟨F1, H, F1, t, startE N ws, τ, _, start_si h4 h2 h3, e, fun F' H' v P r => h6 F' v H' P r⟩
  · rename_i e' t' e
    cases h5
    exact ⟨F1, H, F1, t, startE N ws, τ, _, start_si h4 h2 h3, e, fun F' H' σ' s I => h6 F' .non H' I.post .non⟩
  · cases h5
end

open PySem PySem.Spec PyProof.Rows L2
/-! # the law's own body: its first statement makes the tape -/
/-- a list just made becomes the tape, kept in slot i -/
def tTape (i : Nat) (f : EvF) (g : EvS) : EvS := fun env _ => match f env [] with
  | some (.new ds, _) => if i < env.length then g (env.set i .tp) ds else none
  | _ => none
theorem tape_ok {X : Cx} {i : Nat} {f : EvF} {g : EvS} {e : Expr} {st : Stmt} {rest : List Stmt} (h1 : PE X e (tE X.K f)) (h2 : PS X st (tAsg (tE X.K f) (gName i))) (hr : PSs X rest (tS X.K g))
    {E : Ends} {F H : Hp} {env : En} {σ : L2.St} {o : Out} (S : Sok X.K F H none env [] σ) (ho : ∀ (j : Nat) ds, env[j]? ≠ some (Sl.own ds)) (e1 : tTape i f g env [] = some o)
    (q : ∀ F0 H0 F t, Kont X.K F0 H0 F t E o) : ∃ t, PSs X (st :: rest) t ∧ t E σ H := by
  refine ⟨_, pss_cons h2 hr, ?_⟩
  unfold tTape at e1
  split at e1
  · rename_i ds t1 hf
    split at e1
    · rename_i hi
      refine ⟨F, none, env, [], .new ds, t1, S, hf, fun F' v H' P r => ?_⟩
      obtain ⟨a, us, rfl, y2, y3, y4, y5, y6⟩ := r
      have S' := S.post P
      have hl : i < σ.length := by rw [← S.len]; exact hi
      have ts : TapeOk X.K F' H' (some a) ds := ⟨y2, us, y5, y6⟩
      have S2 : Sok X.K F' H' (some a) (env.set i .tp) ds (σ.set i (some (.ref a))) := by
        refine ⟨S'.same, by rw [List.length_set, List.length_set, S.len], fun j s h => ?_, fun j k d1 d2 k1 k2 hne => ?_, ts⟩
        · by_cases hj : i = j
          · subst hj
            rw [List.getElem?_set_self hi] at h
            cases h
            exact ⟨a, rfl, List.getElem?_set_self hl⟩
          · rw [List.getElem?_set_ne hj] at h
            have z := S'.slot j s h
            cases s with
            | no => trivial
            | d x => obtain ⟨v, z1, z2⟩ := z; exact ⟨v, by rw [List.getElem?_set_ne hj]; exact z1, z2⟩
            | own ds => exact (ho j ds h).elim
            | tp => obtain ⟨b, z1, z2⟩ := z; cases z1
            | ob fl => obtain ⟨p, C, dx, fs, z1, z2⟩ := z; exact ⟨p, C, dx, fs, by rw [List.getElem?_set_ne hj]; exact z1, z2⟩
        · by_cases hj : i = j
          · subst hj
            rw [List.getElem?_set_self hi] at k1
            cases k1
          · rw [List.getElem?_set_ne hj] at k1
            exact (ho _ _ k1).elim
      refine ⟨F', H', F', some a, env.set i .tp, ds, o, ⟨S2, .refl S2, fun j d1 b k1 => ?_⟩, e1, q _ _ _ _⟩
      by_cases hj : i = j
      · subst hj
        rw [List.getElem?_set_self hi] at k1
        cases k1
      · rw [List.getElem?_set_ne hj] at k1
        exact (ho _ _ k1).elim
    · cases e1
  · cases e1

open PySem PySem.Spec PyProof.Rows L2
/-! # the law: its first statement, then the evaluator -/
def spScript (K : PySem.W.Frag) : Sp := fun vs H Q _ => ∃ (a : Addr) (ns : List Int), vs = [.ref a] ∧ SqL K H a (ns.map V.int) ∧ ns.length ≤ 63 ∧ ∀ H', Q (.bl true) H'
theorem dq_of_ints {K : PySem.W.Frag} {F : Hp} : ∀ ns : List Int, DqAll K F (ns.map V.int) (ns.map PyData.int)
  | [] => .nil
  | n :: r => .cons (.int n) (dq_of_ints r)
/-- the rest of the law's body, from the tape on -/
def lawRun (f : EvS) (N : List Str) (ns : List Int) : Option Out := f (.no :: .tp :: List.replicate (N.length - 2) Sl.no) [.list (ns.map PyData.int), .int 0, .int 0]
section
variable {P : Program} {w : World} {K : PySem.W.Frag} {mg : Str → Option Value} {base : Heap} {k : Nat}
theorem law_ev {st : Stmt} {f : Addr} {fd : FuncData} {N : List Str} {fns : List (Str × FnS)} {gl : List (Str × D)} (own : Nat → Bool) (T : Tab P w K mg base k fns gl) (F : L2.Fun K "law" "law" st f fd) (S : FnScope N ["script"] (defScope st))
    {rest : List Stmt} {x : Str} {px p1 p2 p3 p4 p5 pos : Pos} {j1 j2 : Nat} {y : Str}
    (hb : defBody st = .Assign [.Name x px] (.List [.Call (.Name "list" p1) [.Name y p2] [] p3, .Constant (.int 0) j1 p4, .Constant (.int 0) j2 p5] pos) px :: rest) : True := trivial
end

open PySem PySem.Spec PyProof.Rows L2
theorem first_core {K : PySem.W.Frag} {g : EvS} {E : Ends} {N : List Str} {H : Hp} {a : Addr} {ns : List Int} (hN : 2 ≤ N.length) (hs : SqL K H a (ns.map V.int)) {o : Out} (ho : lawRun g N ns = some o) (q : ∀ F0 H0 F t, Kont K F0 H0 F t E o) :
    tAsg (tLst (tCons (tCB (fun xs H Q => ∃ p ys, xs = [V.ref p] ∧ (SqL K H p ys ∨ SqT K H p ys) ∧ ∀ l, H l = none → Q (.ref l) (upd H l (.lst ys))) (tCons (tVar 0) tNil)) (tCons (tC (.int 0)) (tCons (tC (.int 0)) tNil)))) (gName 1) { E with nx := tS K g E } (L2.start N [.ref a]) H := by
  refine ⟨.ref a, rfl, a, ns.map V.int, rfl, .inl hs, fun p hp => ⟨by show 3 ≤ sizeLine; decide, fun p2 hp2 => ?_⟩⟩
  have hne : p ≠ p2 := fun z => by rw [z, upd_same] at hp2; cases hp2
  let F : Hp := fun b => if b = p then some (.lst (ns.map V.int)) else none
  have hF : F p = some (.lst (ns.map V.int)) := if_pos rfl
  have hF2 : F p2 = none := if_neg (Ne.symm hne)
  have same : Same F (upd (upd H p (.lst (ns.map V.int))) p2 (.lst [.ref p, .int 0, .int 0])) := fun b u e => by
    by_cases hb : b = p
    · subst hb
      rw [hF] at e
      rw [upd_ne hne, upd_same]
      exact e
    · have : F b = none := if_neg hb
      rw [this] at e
      cases e
  have tp : TapeOk K F (upd (upd H p (.lst (ns.map V.int))) p2 (.lst [.ref p, .int 0, .int 0])) (some p2) [.list (ns.map PyData.int), .int 0, .int 0] :=
    ⟨hF2, _, upd_same, .cons (.lst hF (dq_of_ints ns)) (.cons (.int 0) (.cons (.int 0) .nil))⟩
  have S2 : Sok K F (upd (upd H p (.lst (ns.map V.int))) p2 (.lst [.ref p, .int 0, .int 0])) (some p2) (.no :: .tp :: List.replicate (N.length - 2) Sl.no) [.list (ns.map PyData.int), .int 0, .int 0] ((L2.start N [.ref a]).set 1 (some (.ref p2))) := by
    refine ⟨same, by simp [L2.start]; omega, fun j s h => ?_, fun j k d1 d2 k1 k2 hne => ?_, tp⟩
    · cases j with
      | zero => simp at h; subst h; trivial
      | succ j =>
        cases j with
        | zero =>
          simp at h
          subst h
          refine ⟨p2, rfl, List.getElem?_set_self ?_⟩
          simp [L2.start]
          omega
        | succ j =>
          simp [List.getElem?_replicate] at h
          obtain ⟨_, h⟩ := h
          subst h
          trivial
    · cases j with
      | zero => simp at k1
      | succ j =>
        cases j with
        | zero => simp at k1
        | succ j => simp [List.getElem?_replicate] at k1
  refine ⟨F, _, F, some p2, _, _, o, ⟨S2, .refl S2, fun j d1 b k1 => ?_⟩, ho, q _ _ _ _⟩
  cases j with
  | zero => simp at k1
  | succ j =>
    cases j with
    | zero => simp at k1
    | succ j => simp [List.getElem?_replicate] at k1

open PySem PySem.Spec PyProof.Rows L2
section
variable {P : Program} {w : World} {K : PySem.W.Frag} {mg : Str → Option Value} {base : Heap} {k : Nat}
theorem law_fn {st : Stmt} {f : Addr} {fd : FuncData} {N : List Str} {fns : List (Str × FnS)} {gl : List (Str × D)} (own : Nat → Bool) (T : Tab P w K mg base k fns gl) (F : L2.Fun K "law" "law" st f fd) (S : FnScope N ["script"] (defScope st))
    {rest : List Stmt} {px p1 p2 p3 p4 p5 pos pq : Pos} {j1 j2 : Nat}
    (hb : defBody st = .Assign [.Name "tape" px] (.List [.Call (.Name "list" p1) [.Name "script" p2] [] p3, .Constant (.int 0) j1 p4, .Constant (.int 0) j2 p5] pos) pq :: rest)
    (hN : 2 ≤ N.length) (h0 : N[0]? = some ("script" : Str)) (h1 : N[1]? = some ("tape" : Str)) (v0 : Vis (defScope st) "script") (v1 : Loc (defScope st) ("tape" : Str)) (gl' : (defScope st).names.lookup ("list" : Str) = some .globalImplicit)
    (plain : ∀ ns : List Int, ns.length ≤ 63 → ∃ τ, lawRun (evB (evS own (evE 41 (ctOf N (defScope st) fns gl)) (ctOf N (defScope st) fns gl) 40) rest) N ns = some (.rt (.bool true) τ)) :
    FnOk P w K mg base CX0 (k + 1) f fd ["script"] (spScript K) := by
  refine F.ok S (fun vs H Q E ⟨a, ns, e, _⟩ => by rw [e]; rfl) fun cdv A outer s H vs Q E hr ⟨a, ns, e, hs, hl, hq⟩ => ?_
  subst e
  have M : Mat (cxOf CX0 P w K mg base N "law" (defScope st) f cdv A outer s H E).nox k (ctOf N (defScope st) fns gl) := ⟨rfl, S.nd, rfl, rfl, fun _ _ => rfl, rfl, hr, fun y s' e => ⟨(T.fns y s' e).ex⟩, T.gl, T.blt, fun _ _ e => (by cases e)⟩
  obtain ⟨τ, hp⟩ := plain ns hl
  rw [hb]
  refine ⟨_, pss_cons (ps_set (i := 1) S.nd h1 v1 (pe_lst (pa_cons (pe_callTy call_list_of gl' (T.blt _ (by decide)) PyProof.Rows.boot_list (pa_cons (pe_var h0 v0) pa_nil)) (pa_cons pe_int (pa_cons pe_int pa_nil)))) rfl (.inl rfl)) (evB_ok (own := own) (m := 40) (n := 40) M S.kind rest), ?_⟩
  exact first_core hN hs hp fun F0 H0 F t F' H' v P r => by
    cases r
    exact hq H'
end

open PySem PySem.Spec PyProof.Rows L2
/-! # what the top has written -/
structure DefAt (K : PySem.W.Frag) (mg : Str → Option Value) (x : Str) (st : Stmt) : Prop where
  ex : ∃ f fd, mg x = some (.ref f) ∧ PySem.W.keepIn K (.ref f) = true ∧ L2.Fun K x x st f fd
section
variable {P : Program} {w : World} {K : PySem.W.Frag} {mg : Str → Option Value} {base : Heap} {k : Nat} {h : Heap}
theorem def_at {x : Str} {st : Stmt} {f : Addr} {oc : Value} {od an : Option Addr} {sl : Array (Option Value)} {kV dc pm cd ct : Value} (X : K.In h) (G : h.Ns mainGlobals mg)
    (a : PySem.W.nsIn K mainGlobals x = some (some (.ref f))) (l : K.lookup f = some ⟨oc, od, .func (PySem.W.fnOf x x (defArgs st) (defBody st) (defScope st) .none kV dc pm an cd ct), sl⟩) (c : PySem.W.codeIn K cd x = true) (k : PySem.W.keepIn K (.ref f) = true) : DefAt K mg x st :=
  ⟨f, _, PySem.W.mg_of X G a, k, fun_mk l c k⟩
theorem have_def {R : Prop} {x : Str} {st : Stmt} {f : Addr} {oc : Value} {od an : Option Addr} {sl : Array (Option Value)} {kV dc pm cd ct : Value} (X : K.In h) (G : h.Ns mainGlobals mg)
    (a : PySem.W.nsIn K mainGlobals x = some (some (.ref f))) (l : K.lookup f = some ⟨oc, od, .func (PySem.W.fnOf x x (defArgs st) (defBody st) (defScope st) .none kV dc pm an cd ct), sl⟩) (c : PySem.W.codeIn K cd x = true) (k : PySem.W.keepIn K (.ref f) = true) (r : DefAt K mg x st → R) : R :=
  r (def_at X G a l c k)
theorem fnB_of {x : Str} {st : Stmt} {N ps : List Str} {fns : List (Str × FnS)} {gl : List (Str × D)} {n : Nat} {sem : Sem1} (own : Nat → Bool) (D : DefAt K mg x st) (T : Tab P w K mg base k fns gl) (S : FnScope N ps (defScope st))
    (hb : ∀ f fd, L2.Fun K x x st f fd → Binds K fd ps []) (hn : ps.length = n) (hs : semOf own N fns gl st = sem) : FnB P w K mg base (k + 1) x n sem := by
  obtain ⟨f, fd, h1, h2, F⟩ := D.ex
  subst hs
  subst hn
  exact ⟨f, fd, ps, h1, h2, hb f fd F, rfl, fn_ev own T F S⟩
theorem fnB_none {x : Str} {st : Stmt} {ps : List Str} {n : Nat} (D : DefAt K mg x st) (hb : ∀ f fd, L2.Fun K x x st f fd → Binds K fd ps []) (hn : ps.length = n) : FnB P w K mg base k x n fun _ _ => none := by
  obtain ⟨f, fd, h1, h2, F⟩ := D.ex
  refine ⟨f, fd, ps, h1, h2, hb f fd F, hn, fun vs H Q E ⟨_, _, _, _, _, _, _, _, _, _, h5, _⟩ => (by cases h5), fun A outer s H args us vs Q E _ _ _ _ ⟨_, _, _, _, _, _, _, _, _, _, h5, _⟩ => (by cases h5)⟩
/-- a constant of the top -/
def ConAt (K : PySem.W.Frag) (mg : Str → Option Value) (x : Str) (d : D) : Prop := ∃ v u, mg x = some u ∧ RelV v u ∧ ∀ F, Dq K F v d
def GlOk (K : PySem.W.Frag) (mg : Str → Option Value) (gl : List (Str × D)) : Prop := ∀ x d, gl.lookup x = some d → ConAt K mg x d
theorem gl_nil : GlOk K mg [] := fun _ _ e => by cases e
theorem gl_cons {x : Str} {d : D} {gl : List (Str × D)} (h : ConAt K mg x d) (r : GlOk K mg gl) : GlOk K mg ((x, d) :: gl) := fun y e h2 => by
  rw [List.lookup_cons] at h2
  split at h2
  · rename_i hy
    cases h2
    rw [eq_of_beq hy]
    exact h
  · exact r y e h2
theorem have_int {R : Prop} {x : Str} {i : Int} {t : Tok} (X : K.In h) (G : h.Ns mainGlobals mg) (a : PySem.W.nsIn K mainGlobals x = some (some (.int i t))) (r : ConAt K mg x (.int i) → R) : R :=
  r ⟨.int i, _, PySem.W.mg_of X G a, ⟨t, rfl⟩, fun F => .int i⟩
theorem have_tup2 {R : Prop} {x : Str} {i j : Int} {t u : Tok} {a : Addr} {od : Option Addr} {n : Nat} {sl : Array (Option Value)} (X : K.In h) (G : h.Ns mainGlobals mg) (q : PySem.W.nsIn K mainGlobals x = some (some (.ref a)))
    (l : K.lookup a = some ⟨.type "tuple", od, .seq #[.int i t, .int j u] n, sl⟩) (r : ConAt K mg x (.tuple [.int i, .int j]) → R) : R :=
  r ⟨.ref a, _, PySem.W.mg_of X G q, rfl, fun F => .tup (xs := [.int i, .int j]) (.inr ⟨_, _, _, l, rfl, rfl, (show (2 : Nat) ≤ sizeLine by decide), .cons ⟨t, rfl⟩ (.cons ⟨u, rfl⟩ .nil)⟩) (.cons (.int i) (.cons (.int j) .nil))⟩
theorem law_top {st : Stmt} {fa : Addr} (hmg : mg "law" = some (.ref fa)) (D : DefAt K mg "law" st)
    (hb : ∀ (kV doc pm : Value) (an : Option Addr) (cdv ct u : Value), bindArgs (PySem.W.fnOf "law" "law" (defArgs st) (defBody st) (defScope st) .none kV doc pm an cdv ct) ⟨[u], []⟩ = pure [(("script" : Str), u)])
    (ok : ∀ (base : Heap) (fd : FuncData), L2.Fun K "law" "law" st fa fd → FnOk P w K mg base CX0 k fa fd ["script"] (spScript K)) :
    ∃ fd : FuncData, (∀ (s : Shared) (u : Value), BindsTo s fd ⟨[u], []⟩ [("script", u)]) ∧ ∀ base : Heap, K.In base → base.Ns mainGlobals mg → FnOk P w K mg base CX0 k fa fd ["script"] (spScript K) := by
  obtain ⟨f, fd, h1, h2, F⟩ := D.ex
  have e := hmg.symm.trans h1
  cases e
  refine ⟨fd, fun s u => ?_, fun base _ _ => ok base fd F⟩
  obtain ⟨oc, od, kV, doc, pm, an, cdv, ct, osl, rfl, lk, hcd⟩ := F.ex
  exact .of_eq (hb _ _ _ _ _ _ _)
end

open PySem PySem.Spec PyProof.Rows L2
/-! # methods that change nothing -/
def startM (N : List Str) (fl : List (Str × D)) (ws : List W) : En := .ob fl :: (ws.map toSl ++ List.replicate (N.length - (ws.length + 1)) Sl.no)
def runM (f : EvS) (N : List Str) : SemM := fun fl ws => match f (startM N fl ws) [] with
  | some (.rt d _) => some d
  | some (.nx _ _) => some .none
  | _ => none
noncomputable def semM (own : Nat → Bool) (N : List Str) (fns : List (Str × FnS)) (gl : List (Str × D)) (st : Stmt) : SemM := runM (evB (evS own (evE 41 (ctOf N (defScope st) fns gl)) (ctOf N (defScope st) fns gl) 40) (defBody st)) N
theorem start_m {K : PySem.W.Frag} {N : List Str} {F H : Hp} {p : Addr} {fl : List (Str × D)} {us : List V} {ws : List W} (a : ArgAll K F none us ws) (hs : Same F H) (ho : ObAt K F p fl) : SI K F H F H none (startM N fl ws) [] (L2.start N (.ref p :: us)) := by
  have hl := a.len
  have e0 : L2.start N (.ref p :: us) = some (.ref p) :: (us.map some ++ List.replicate (N.length - (us.length + 1)) none) := rfl
  have no : ∀ {i : Nat} {ds : List D}, (startM N fl ws)[i]? ≠ some (Sl.own ds) := by
    intro i ds h
    cases i with
    | zero => cases h
    | succ i =>
      have h : (ws.map toSl ++ List.replicate (N.length - (ws.length + 1)) Sl.no)[i]? = some (Sl.own ds) := h
      have := startE_no (N := List.replicate (N.length - 1) "") a (i := i) (ds := ds)
      unfold startE at this
      rw [List.length_replicate, show N.length - 1 - ws.length = N.length - (ws.length + 1) by omega] at this
      exact this h
  have S : Sok K F H none (startM N fl ws) [] (L2.start N (.ref p :: us)) := by
    refine ⟨hs, by rw [e0]; unfold startM; simp [hl], fun i s h => ?_, fun i j ds es h1 h2 hne => (no h1).elim, trivial⟩
    cases i with
    | zero =>
      cases h
      obtain ⟨C, dx, fs, h1, h2, h3⟩ := ho.ex
      exact ⟨p, C, dx, fs, rfl, h1, h2, h3⟩
    | succ i =>
      have h : (ws.map toSl ++ List.replicate (N.length - (ws.length + 1)) Sl.no)[i]? = some s := h
      have sh : SlOk K F H none (us.map some ++ List.replicate (N.length - (us.length + 1)) none) i s := by
        rw [List.getElem?_append] at h
        split at h
        · exact argAll_start a _ i s h
        · rw [List.getElem?_replicate] at h
          split at h
          · cases h; trivial
          · cases h
      rw [e0]
      cases s with
      | no => trivial
      | d x => exact sh
      | own ds => exact sh
      | tp => exact sh
      | ob fl => exact sh
  exact ⟨S, .refl S, fun i ds b h1 h2 => (no h1).elim⟩
section
variable {P : Program} {w : World} {K : PySem.W.Frag} {mg : Str → Option Value} {base : Heap} {k : Nat}
theorem meth_ev {x q : Str} {st : Stmt} {f : Addr} {fd : FuncData} {N ps : List Str} {fns : List (Str × FnS)} {gl : List (Str × D)} {n : Nat} (own : Nat → Bool) (T : Tab P w K mg base k fns gl) (F : L2.Fun K x q st f fd) (S : FnScope N ps (defScope st)) (hn : ps.length = n + 1) :
    FnOk P w K mg base CX0 (k + 1) f fd ps (spM K n (semM own N fns gl st)) := by
  refine F.ok S (fun vs H Q E h => by rw [spM_len h, hn]) fun cdv A outer s H vs Q E hr ⟨F1, p, us, fl, ws, d, h1, h2, h3, h4, h5, h6, h7⟩ => ?_
  subst h3
  have M : Mat (cxOf CX0 P w K mg base N q (defScope st) f cdv A outer s H E).nox k (ctOf N (defScope st) fns gl) := ⟨rfl, S.nd, rfl, rfl, fun _ _ => rfl, rfl, hr, fun y s' e => ⟨(T.fns y s' e).ex⟩, T.gl, T.blt, fun _ _ e => (by cases e)⟩
  refine ⟨_, evB_ok (own := own) (m := 40) (n := 40) M S.kind (defBody st), ?_⟩
  unfold semM runM at h6
  split at h6
  · rename_i d' t' e
    cases h6
    exact ⟨F1, H, F1, none, startM N fl ws, [], _, start_m h5 h2 h4, e, fun F' H' v P r => h7 F' v H' ⟨P.ext, P.same, P.new, P.keep, trivial⟩ r⟩
  · rename_i e' t' e
    cases h6
    exact ⟨F1, H, F1, none, startM N fl ws, [], _, start_m h5 h2 h4, e, fun F' H' σ' s I => h7 F' .non H' ⟨I.post.ext, I.post.same, I.post.new, I.post.keep, trivial⟩ .non⟩
  · cases h6
end

open PySem PySem.Spec PyProof.Rows L2
/-! # an object that changes: its three parts stand still for one expression -/
structure TCls (K : PySem.W.Frag) (C : Addr) : Prop where
  cl : L2.Cls K C
  nm : L2.NoAttr K C "many"
  nr : L2.NoAttr K C "rows"
  ng : L2.NoAttr K C "gain"
  nh : L2.NoAttr K C "held"
/-- the tableau's object p, its list of rows r, its list of held names l -/
structure TabAt (K : PySem.W.Frag) (C : Addr) (F H : Hp) (p r l : Addr) (m : D) (rows gain held : List D) : Prop where
  hp : ∃ dx fs g gv mv, H p = some (.ins C dx fs) ∧ (fs.length < 1000 ∧ ∀ x : Str, x ∉ flKeys → fs.lookup x = none) ∧ fs.lookup ("many" : Str) = some mv ∧ Dq K F mv m ∧ fs.lookup ("rows" : Str) = some (.ref r) ∧ fs.lookup ("gain" : Str) = some (.ref g) ∧ F g = some (.lst gv) ∧ DqAll K F gv gain ∧ fs.lookup ("held" : Str) = some (.ref l)
  hr : ∃ rv, H r = some (.lst rv) ∧ DqAll K F rv rows
  hl : ∃ hv, H l = some (.lst hv) ∧ DqAll K F hv held
  np : F p = none
  nr : F r = none
  nl : F l = none
  ne : r ≠ l
def flD (m : D) (rows gain held : List D) : List (Str × D) := [("many", m), ("rows", .list rows), ("gain", .list gain), ("held", .list held)]
def inT (p r l b : Addr) : Prop := b = p ∨ b = r ∨ b = l
instance {p r l b : Addr} : Decidable (inT p r l b) := by unfold inT; exact inferInstance
def frz (F H : Hp) (p r l : Addr) : Hp := fun b => if inT p r l b then H b else F b
def unf (F : Hp) (p r l : Addr) : Hp := fun b => if inT p r l b then none else F b
theorem frz_in {F H : Hp} {p r l b : Addr} (h : inT p r l b) : frz F H p r l b = H b := if_pos h
theorem frz_out {F H : Hp} {p r l b : Addr} (h : ¬inT p r l b) : frz F H p r l b = F b := if_neg h
theorem unf_in {F : Hp} {p r l b : Addr} (h : inT p r l b) : unf F p r l b = none := if_pos h
theorem unf_out {F : Hp} {p r l b : Addr} (h : ¬inT p r l b) : unf F p r l b = F b := if_neg h
section
variable {K : PySem.W.Frag} {C : Addr} {F H : Hp} {p r l : Addr} {m : D} {rows gain held : List D}
theorem TabAt.off (T : TabAt K C F H p r l m rows gain held) {b : Addr} {o : HO} (h : F b = some o) : ¬inT p r l b := fun q => by
  rcases q with rfl | rfl | rfl
  · rw [T.np] at h; cases h
  · rw [T.nr] at h; cases h
  · rw [T.nl] at h; cases h
theorem TabAt.same1 (T : TabAt K C F H p r l m rows gain held) : Same F (frz F H p r l) := fun b o h => by rw [frz_out (T.off h)]; exact h
theorem TabAt.same2 (T : TabAt K C F H p r l m rows gain held) (S : Same F H) : Same (frz F H p r l) H := fun b o h => by
  by_cases q : inT p r l b
  · rw [frz_in q] at h; exact h
  · rw [frz_out q] at h; exact S _ _ h
theorem TabAt.ob (T : TabAt K C F H p r l m rows gain held) (S : Same F H) (TC : TCls K C) : ObAt K (frz F H p r l) p (flD m rows gain held) := by
  obtain ⟨dx, fs, g, gv, mv, h1, _, h2, h3, h4, h5, h6, h7, h8⟩ := T.hp
  obtain ⟨rv, r1, r2⟩ := T.hr
  obtain ⟨hv, l1, l2⟩ := T.hl
  have s1 := T.same1
  refine ⟨C, dx, fs, by rw [frz_in (.inl rfl)]; exact h1, ⟨TC.cl, fun c e => (by cases e)⟩, fun f x e => ?_⟩
  unfold flD at e
  simp only [List.lookup_cons] at e
  split at e
  · rename_i q; cases e; rw [eq_of_beq q]; exact ⟨TC.nm, mv, h2, dq_mono s1 h3⟩
  · split at e
    · rename_i q; cases e; rw [eq_of_beq q]; exact ⟨TC.nr, _, h4, .lst (by rw [frz_in (.inr (.inl rfl))]; exact r1) (dqAll_mono s1 r2)⟩
    · split at e
      · rename_i q; cases e; rw [eq_of_beq q]; exact ⟨TC.ng, _, h5, .lst (s1 _ _ h6) (dqAll_mono s1 h7)⟩
      · split at e
        · rename_i q; cases e; rw [eq_of_beq q]; exact ⟨TC.nh, _, h8, .lst (by rw [frz_in (.inr (.inr rfl))]; exact l1) (dqAll_mono s1 l2)⟩
        · cases e
/-- what holds of the object holds in a greater heap -/
theorem TabAt.mono {F' H' : Hp} (T : TabAt K C F H p r l m rows gain held) (s : Same F F') (k : ∀ b o, H b = some o → H' b = some o) (np : F' p = none) (nr : F' r = none) (nl : F' l = none) : TabAt K C F' H' p r l m rows gain held := by
  obtain ⟨dx, fs, g, gv, mv, h1, h0, h2, h3, h4, h5, h6, h7, h8⟩ := T.hp
  obtain ⟨rv, r1, r2⟩ := T.hr
  obtain ⟨hv, l1, l2⟩ := T.hl
  exact ⟨⟨dx, fs, g, gv, mv, k _ _ h1, h0, h2, dq_mono s h3, h4, h5, s _ _ h6, dqAll_mono s h7, h8⟩, ⟨rv, k _ _ r1, dqAll_mono s r2⟩, ⟨hv, k _ _ l1, dqAll_mono s l2⟩, np, nr, nl, T.ne⟩
end
/-- data that cannot reach a list: a whole number, nothing, a pair of whole numbers -/
def isFr : D → Bool
  | .int _ => true
  | .none => true
  | .tuple [.int _, .int _] => true
  | _ => false
section
variable {K : PySem.W.Frag} {C : Addr} {F1 H1 : Hp} {p r l : Addr}
theorem rd_tup_unf {b : Addr} {xs : List V} (S : Same F1 H1) (h1 : ∃ dx fs, H1 p = some (.ins C dx fs)) (h2 : ∃ rv, H1 r = some (.lst rv)) (h3 : ∃ hv, H1 l = some (.lst hv)) (h : Rd F1 b (.tup xs)) : Rd (unf F1 p r l) b (.tup xs) := by
  obtain ⟨dx, fs, h1⟩ := h1
  obtain ⟨rv, h2⟩ := h2
  obtain ⟨hv, h3⟩ := h3
  have no : ∀ o, F1 b = some o → (o = .tup xs ∨ ∃ a, o = .frz a (.tup xs)) → unf F1 p r l b = some o := fun o e ho => by
    rw [unf_out fun q => ?_]
    · exact e
    · have e2 := S _ _ e
      rcases q with rfl | rfl | rfl
      · rw [h1] at e2; cases e2; rcases ho with z | ⟨_, z⟩ <;> cases z
      · rw [h2] at e2; cases e2; rcases ho with z | ⟨_, z⟩ <;> cases z
      · rw [h3] at e2; cases e2; rcases ho with z | ⟨_, z⟩ <;> cases z
  rcases h with h | ⟨o, h⟩
  · exact .inl (no _ h (.inl rfl))
  · exact .inr ⟨o, no _ h (.inr ⟨_, rfl⟩)⟩
theorem dq_unf {v : V} {d : D} (hd : isFr d = true) (S : Same F1 H1) (h1 : ∃ dx fs, H1 p = some (.ins C dx fs)) (h2 : ∃ rv, H1 r = some (.lst rv)) (h3 : ∃ hv, H1 l = some (.lst hv)) (h : Dq K F1 v d) : Dq K (unf F1 p r l) v d := by
  cases h with
  | non => exact .non
  | int i => exact .int i
  | @tup a xs ds s a2 =>
    have sq : SqT K (unf F1 p r l) a xs := by
      rcases s with s | s
      · exact .inl (rd_tup_unf S h1 h2 h3 s)
      · exact .inr s
    match ds, hd, a2 with
    | [.int i, .int j], _, a2 =>
      refine .tup sq ?_
      cases a2 with
      | cons x y =>
        cases y with
        | cons y z =>
          cases z
          cases x
          cases y
          exact .cons (.int _) (.cons (.int _) .nil)
  | bl b => cases hd
  | str s => cases hd
  | lst s a => cases hd
theorem dqAll_unf (S : Same F1 H1) (h1 : ∃ dx fs, H1 p = some (.ins C dx fs)) (h2 : ∃ rv, H1 r = some (.lst rv)) (h3 : ∃ hv, H1 l = some (.lst hv)) : ∀ {vs : List V} {ds : List D}, (∀ d ∈ ds, isFr d = true) → DqAll K F1 vs ds → DqAll K (unf F1 p r l) vs ds
  | _, _, _, .nil => .nil
  | _, _, hd, .cons a b => .cons (dq_unf (hd _ (by simp)) S h1 h2 h3 a) (dqAll_unf S h1 h2 h3 (fun d hm => hd d (by simp [hm])) b)
end
/-- the other locals: data, or nothing told -/
structure LocOk (K : PySem.W.Frag) (F : Hp) (env : En) (σ : L2.St) : Prop where
  len : env.length = σ.length
  at_ : ∀ (i : Nat) (s : Sl), env[i]? = some s → s = .no ∨ ∃ x v, s = .d x ∧ σ[i]? = some (some v) ∧ Dq K F v x
section
variable {K : PySem.W.Frag} {C : Addr} {F H : Hp} {p r l : Addr} {m : D} {rows gain held : List D} {env : En} {σ : L2.St}
theorem LocOk.sok (L : LocOk K F env σ) (T : TabAt K C F H p r l m rows gain held) (S : Same F H) (TC : TCls K C) : Sok K (frz F H p r l) H none (.ob (flD m rows gain held) :: env) [] (some (.ref p) :: σ) := by
  have no : ∀ {i : Nat} {ds : List D}, (Sl.ob (flD m rows gain held) :: env)[i]? ≠ some (Sl.own ds) := fun {i ds} h => by
    cases i with
    | zero => cases h
    | succ i =>
      rcases L.at_ i _ h with q | ⟨x, v, q, _⟩ <;> cases q
  refine ⟨T.same2 S, by simp [L.len], fun i s h => ?_, fun i j ds es h1 h2 hne => (no h1).elim, trivial⟩
  cases i with
  | zero =>
    cases h
    obtain ⟨C', dx, fs, h1, h2, h3⟩ := (T.ob S TC).ex
    exact ⟨p, C', dx, fs, rfl, h1, h2, h3⟩
  | succ i =>
    rcases L.at_ i _ h with rfl | ⟨x, v, rfl, h1, h2⟩
    · trivial
    · exact ⟨v, h1, dq_mono T.same1 h2⟩
/-- after an expression: the object as before, in a greater heap -/
structure Aft (K : PySem.W.Frag) (C : Addr) (F H F' H' : Hp) (p r l : Addr) (m : D) (rows gain held : List D) : Prop where
  ext : Same F F'
  same : Same F' H'
  keep : ∀ b o, H b = some o → H' b = some o
  tab : TabAt K C F' H' p r l m rows gain held
theorem aft_of (T : TabAt K C F H p r l m rows gain held) {F1 H1 : Hp} (P : Post K none [] (frz F H p r l) H F1 H1) : Aft K C F H (unf F1 p r l) H1 p r l m rows gain held := by
  have k : ∀ b o, H b = some o → H1 b = some o := fun b o h => P.keep b o h (by intro z; cases z)
  have e : Same F (unf F1 p r l) := fun b o h => by
    rw [unf_out (T.off h)]
    exact P.ext _ _ (T.same1 _ _ h)
  refine ⟨e, fun b o h => ?_, k, T.mono e k (unf_in (.inl rfl)) (unf_in (.inr (.inl rfl))) (unf_in (.inr (.inr rfl)))⟩
  by_cases q : inT p r l b
  · rw [unf_in q] at h; cases h
  · rw [unf_out q] at h; exact P.same _ _ h
theorem TabAt.kinds (T : TabAt K C F H p r l m rows gain held) : (∃ dx fs, H p = some (.ins C dx fs)) ∧ (∃ rv, H r = some (.lst rv)) ∧ ∃ hv, H l = some (.lst hv) := by
  obtain ⟨dx, fs, g, gv, mv, h1, _⟩ := T.hp
  obtain ⟨rv, r1, _⟩ := T.hr
  obtain ⟨hv, l1, _⟩ := T.hl
  exact ⟨⟨dx, fs, h1⟩, ⟨rv, r1⟩, ⟨hv, l1⟩⟩
/-- an expression that gives a whole number, nothing or a fraction -/
theorem use_d {f : EvF} {Q : VK} {d : D} (T : TabAt K C F H p r l m rows gain held) (S : Same F H) (TC : TCls K C) (L : LocOk K F env σ) (e : f (.ob (flD m rows gain held) :: env) [] = some (.d d, [])) (hd : isFr d = true)
    (q : ∀ F' H' v, Aft K C F H F' H' p r l m rows gain held → Dq K F' v d → Q v H') : tE K f (some (.ref p) :: σ) H Q := by
  refine ⟨frz F H p r l, none, _, [], .d d, [], L.sok T S TC, e, fun F1 v H1 P R => ?_⟩
  have A := aft_of T P
  obtain ⟨k1, k2, k3⟩ := A.tab.kinds
  exact q _ _ _ A (dq_unf hd P.same k1 k2 k3 R)
/-- an expression that makes a list of fractions -/
theorem use_new {f : EvF} {Q : VK} {ds : List D} (T : TabAt K C F H p r l m rows gain held) (S : Same F H) (TC : TCls K C) (L : LocOk K F env σ) (e : f (.ob (flD m rows gain held) :: env) [] = some (.new ds, [])) (hd : ∀ d ∈ ds, isFr d = true)
    (q : ∀ F' H' a vs, Aft K C F H F' H' p r l m rows gain held → F' a = some (.lst vs) → DqAll K F' vs ds → Q (.ref a) H') : tE K f (some (.ref p) :: σ) H Q := by
  refine ⟨frz F H p r l, none, _, [], .new ds, [], L.sok T S TC, e, fun F1 v H1 P R => ?_⟩
  have A := aft_of T P
  obtain ⟨k1, k2, k3⟩ := A.tab.kinds
  obtain ⟨a, vs, rfl, h1, _, h2, h3, h4⟩ := R
  have d1 := dqAll_unf (p := p) (r := r) (l := l) P.same k1 k2 k3 hd h4
  -- the list itself joins what stays
  have hn : ¬inT p r l a := fun z => by
    obtain ⟨⟨_, _, j1⟩, ⟨_, j2⟩, ⟨_, j3⟩⟩ := T.kinds
    rcases z with rfl | rfl | rfl
    · rw [h2] at j1; cases j1
    · rw [h2] at j2; cases j2
    · rw [h2] at j3; cases j3
  have na : unf F1 p r l a = none := by rw [unf_out hn]; exact h1
  have s1 : Same (unf F1 p r l) (upd (unf F1 p r l) a (.lst vs)) := fun b o h => by
    rw [upd_ne (ne_of_none h na)]
    exact h
  have hpn : p ≠ a := fun z => hn (.inl z.symm)
  have hrn : r ≠ a := fun z => hn (.inr (.inl z.symm))
  have hln : l ≠ a := fun z => hn (.inr (.inr z.symm))
  refine q (upd (unf F1 p r l) a (.lst vs)) _ a vs ⟨A.ext.trans s1, fun b o h => ?_, A.keep, A.tab.mono s1 (fun _ _ h => h) (by rw [upd_ne hpn]; exact A.tab.np) (by rw [upd_ne hrn]; exact A.tab.nr) (by rw [upd_ne hln]; exact A.tab.nl)⟩ upd_same (dqAll_mono s1 d1)
  by_cases hb : b = a
  · subst hb
    rw [upd_same] at h
    rw [h3, ← h]
  · rw [upd_ne hb] at h
    exact A.same _ _ h
end

open PySem PySem.Spec PyProof.Rows L2
/-! # changes of the tableau -/
theorem putF_len {f : Str} {v w : V} : ∀ {fs : List (Str × V)}, fs.lookup f = some w → (putF f v fs).length = fs.length
  | [], h => by cases h
  | (g, x) :: r, h => by
    unfold putF
    by_cases e : g = f
    · rw [if_pos e]; rfl
    · rw [if_neg e, List.length_cons, List.length_cons]
      refine congrArg (· + 1) (putF_len (f := f) (v := v) (w := w) ?_)
      have hb : (f == g) = false := beq_eq_false_iff_ne.mpr fun z => e z.symm
      simpa only [List.lookup_cons, hb] using h
section
variable {K : PySem.W.Frag} {C : Addr} {F0 H0 F H : Hp} {p r l : Addr} {m : D} {rows gain held : List D} {env : En} {σ : L2.St}
/-- what was before stays, but for the three -/
structure Bas (F0 H0 F H : Hp) (p r l : Addr) : Prop where
  ext : Same F0 F
  keep : ∀ b o, H0 b = some o → ¬inT p r l b → H b = some o
  new : ∀ b, F b ≠ none → F0 b ≠ none ∨ H0 b = none
/-- the state of a method that changes the object -/
structure Stt (K : PySem.W.Frag) (C : Addr) (F0 H0 F H : Hp) (p r l : Addr) (m : D) (rows gain held : List D) (env : En) (σ : L2.St) : Prop where
  same : Same F H
  tab : TabAt K C F H p r l m rows gain held
  loc : LocOk K F env σ
  bas : Bas F0 H0 F H p r l
theorem LocOk.mono {F' : Hp} (L : LocOk K F env σ) (s : Same F F') : LocOk K F' env σ := ⟨L.len, fun i x h => by
  rcases L.at_ i x h with q | ⟨x, v, h1, h2, h3⟩
  · exact .inl q
  · exact .inr ⟨x, v, h1, h2, dq_mono s h3⟩⟩
theorem LocOk.set {i : Nat} {v : V} {x : D} (L : LocOk K F env σ) (d : Dq K F v x) : LocOk K F (env.set i (.d x)) (σ.set i (some v)) := by
  refine ⟨by simp [L.len], fun j s h => ?_⟩
  by_cases e : i = j
  · subst e
    rw [List.getElem?_set] at h
    simp only [if_true] at h
    split at h
    · rename_i hl
      cases h
      refine .inr ⟨x, v, rfl, ?_, d⟩
      rw [List.getElem?_set]
      simp only [if_true]
      rw [if_pos (by rw [← L.len]; exact hl)]
    · cases h
  · rw [List.getElem?_set_ne e] at h
    rw [List.getElem?_set_ne e]
    exact L.at_ j s h
theorem LocOk.drop {i : Nat} (L : LocOk K F env σ) : LocOk K F (env.set i .no) σ := by
  refine ⟨by simp [L.len], fun j s h => ?_⟩
  by_cases e : i = j
  · subst e
    rw [List.getElem?_set] at h
    simp only [if_true] at h
    split at h
    · cases h; exact .inl rfl
    · cases h
  · rw [List.getElem?_set_ne e] at h
    exact L.at_ j s h
theorem Stt.mono {F' H' : Hp} (S : Stt K C F0 H0 F H p r l m rows gain held env σ) (P : Post K none [] (frz F H p r l) H F' H') : Stt K C F0 H0 (unf F' p r l) H' p r l m rows gain held env σ := by
  have A := aft_of S.tab P
  refine ⟨A.same, A.tab, S.loc.mono A.ext, S.bas.ext.trans A.ext, fun b o h q => A.keep _ _ (S.bas.keep b o h q), fun b h => ?_⟩
  by_cases q : inT p r l b
  · rw [unf_in q] at h; exact (h rfl).elim
  · rw [unf_out q] at h
    rcases P.new b h with z | z
    · rw [frz_out q] at z; exact S.bas.new b z
    · refine .inr ?_
      cases e : H0 b with
      | none => rfl
      | some o => rw [S.bas.keep b o e q] at z; cases z
theorem Stt.use_d {f : EvF} {Q : VK} {d : D} (S : Stt K C F0 H0 F H p r l m rows gain held env σ) (TC : TCls K C) (e : f (.ob (flD m rows gain held) :: env) [] = some (.d d, [])) (hd : isFr d = true)
    (q : ∀ F' H' v, Stt K C F0 H0 F' H' p r l m rows gain held env σ → Dq K F' v d → Q v H') : tE K f (some (.ref p) :: σ) H Q := by
  refine ⟨frz F H p r l, none, _, [], .d d, [], S.loc.sok S.tab S.same TC, e, fun F1 v H1 P R => ?_⟩
  have A := S.mono P
  obtain ⟨k1, k2, k3⟩ := A.tab.kinds
  exact q _ _ _ A (dq_unf hd P.same k1 k2 k3 R)
theorem Stt.use_t {f : EvF} {Q : Bool → Hp → Prop} {b : Bool} (S : Stt K C F0 H0 F H p r l m rows gain held env σ) (TC : TCls K C) (e : f (.ob (flD m rows gain held) :: env) [] = some (.d (.bool b), []))
    (q : ∀ F' H', Stt K C F0 H0 F' H' p r l m rows gain held env σ → Q b H') : tT K f (some (.ref p) :: σ) H Q :=
  ⟨frz F H p r l, none, _, [], b, [], S.loc.sok S.tab S.same TC, e, fun F1 H1 P => q _ _ (S.mono P)⟩
theorem Stt.use_a {f : EvA} {Q : List V → Hp → Prop} {k : Int} (S : Stt K C F0 H0 F H p r l m rows gain held env σ) (TC : TCls K C) (e : f (.ob (flD m rows gain held) :: env) [] = some ([.d (.int k)], []))
    (q : ∀ F' H', Stt K C F0 H0 F' H' p r l m rows gain held env σ → Q [.int k] H') : tA K f (some (.ref p) :: σ) H Q := by
  refine ⟨frz F H p r l, none, _, [], _, [], S.loc.sok S.tab S.same TC, e, fun F1 vs H1 P R => ?_⟩
  cases R with
  | cons a b =>
    cases b
    cases a
    exact q _ _ (S.mono P)
theorem Stt.use_new {f : EvF} {Q : VK} {ds : List D} (S : Stt K C F0 H0 F H p r l m rows gain held env σ) (TC : TCls K C) (e : f (.ob (flD m rows gain held) :: env) [] = some (.new ds, [])) (hd : ∀ d ∈ ds, isFr d = true)
    (q : ∀ F' H' a vs, Stt K C F0 H0 F' H' p r l m rows gain held env σ → F' a = some (.lst vs) → DqAll K F' vs ds → Q (.ref a) H') : tE K f (some (.ref p) :: σ) H Q := by
  refine ⟨frz F H p r l, none, _, [], .new ds, [], S.loc.sok S.tab S.same TC, e, fun F1 v H1 P R => ?_⟩
  have A := S.mono P
  obtain ⟨k1, k2, k3⟩ := A.tab.kinds
  obtain ⟨a, vs, rfl, h1, _, h2, h3, h4⟩ := R
  have d1 := dqAll_unf (p := p) (r := r) (l := l) P.same k1 k2 k3 hd h4
  have hn : ¬inT p r l a := fun z => by
    obtain ⟨⟨_, _, j1⟩, ⟨_, j2⟩, ⟨_, j3⟩⟩ := S.tab.kinds
    rcases z with rfl | rfl | rfl
    · rw [h2] at j1; cases j1
    · rw [h2] at j2; cases j2
    · rw [h2] at j3; cases j3
  have na : unf F1 p r l a = none := by rw [unf_out hn]; exact h1
  have s1 : Same (unf F1 p r l) (upd (unf F1 p r l) a (.lst vs)) := fun b o h => by
    rw [upd_ne (ne_of_none h na)]
    exact h
  have hpn : p ≠ a := fun z => hn (.inl z.symm)
  have hrn : r ≠ a := fun z => hn (.inr (.inl z.symm))
  have hln : l ≠ a := fun z => hn (.inr (.inr z.symm))
  refine q (upd (unf F1 p r l) a (.lst vs)) _ a vs ⟨fun b o h => ?_, A.tab.mono s1 (fun _ _ h => h) (by rw [upd_ne hpn]; exact A.tab.np) (by rw [upd_ne hrn]; exact A.tab.nr) (by rw [upd_ne hln]; exact A.tab.nl), A.loc.mono s1, A.bas.ext.trans s1, A.bas.keep, fun b h => ?_⟩ upd_same (dqAll_mono s1 d1)
  · by_cases hb : b = a
    · subst hb
      rw [upd_same] at h
      rw [h3, ← h]
    · rw [upd_ne hb] at h
      exact A.same _ _ h
  · by_cases hb : b = a
    · subst hb
      refine .inr ?_
      cases e : H0 b with
      | none => rfl
      | some o => rw [S.bas.keep b o e hn] at h2; cases h2
    · rw [upd_ne hb] at h
      exact A.bas.new _ h
theorem Stt.name {i : Nat} {v : V} {x : D} (S : Stt K C F0 H0 F H p r l m rows gain held env σ) (d : Dq K F v x) : Stt K C F0 H0 F H p r l m rows gain held (env.set i (.d x)) (σ.set i (some v)) := ⟨S.same, S.tab, S.loc.set d, S.bas⟩
theorem Stt.drop {i : Nat} (S : Stt K C F0 H0 F H p r l m rows gain held env σ) : Stt K C F0 H0 F H p r l m rows gain held (env.set i .no) σ := ⟨S.same, S.tab, S.loc.drop, S.bas⟩
/-- a change at one of the three is not seen in what stays -/
theorem Stt.upd_bas {b : Addr} {o : HO} (S : Stt K C F0 H0 F H p r l m rows gain held env σ) (hb : inT p r l b) : Same F (upd H b o) ∧ Bas F0 H0 F (upd H b o) p r l := by
  refine ⟨fun c u h => ?_, S.bas.ext, fun c u h q => ?_, S.bas.new⟩
  · have : c ≠ b := fun z => by subst z; exact S.tab.off h hb
    rw [upd_ne this]
    exact S.same _ _ h
  · have : c ≠ b := fun z => by subst z; exact q hb
    rw [upd_ne this]
    exact S.bas.keep _ _ h q
theorem Stt.ne_pr (S : Stt K C F0 H0 F H p r l m rows gain held env σ) : p ≠ r ∧ p ≠ l := by
  obtain ⟨⟨_, _, j1⟩, ⟨_, j2⟩, ⟨_, j3⟩⟩ := S.tab.kinds
  constructor
  · intro z; subst z; rw [j1] at j2; cases j2
  · intro z; subst z; rw [j1] at j3; cases j3
/-- self.rows[k] = a list -/
theorem Stt.set_row {ti : TE} {x : V} {k : Int} {j : Nat} {ds : List D} {Q : L2.St → Hp → Prop} (S : Stt K C F0 H0 F H p r l m rows gain held env σ) (TC : TCls K C) (hx : Dq K F x (.list ds))
    (hi : ∀ Q : VK, Q (.int k) H → ti (some (.ref p) :: σ) H Q) (hj : ixN rows.length k = some j)
    (q : ∀ H', Stt K C F0 H0 F H' p r l m (rows.set j (.list ds)) gain held env σ → Q (some (.ref p) :: σ) H') : L2.gSub (tFld K (tVar 0) "rows") ti rSetL x (some (.ref p) :: σ) H Q := by
  obtain ⟨dx, fs, g, gv, mv, h1, h0, h2, h3, h4, h5, h6, h7, h8⟩ := S.tab.hp
  obtain ⟨rv, r1, r2⟩ := S.tab.hr
  obtain ⟨hv, l1, l2⟩ := S.tab.hl
  obtain ⟨n1, n2⟩ := S.ne_pr
  refine ⟨.ref p, rfl, p, C, dx, fs, .ref r, rfl, h1, TC.cl, TC.nr, h4, hi _ ⟨r, rv, k, j, rfl, rfl, r1, by rw [dqAll_len r2]; exact hj, ?_⟩⟩
  obtain ⟨s1, s2⟩ := S.upd_bas (b := r) (o := .lst (rv.set j x)) (.inr (.inl rfl))
  exact q _ ⟨s1, ⟨⟨dx, fs, g, gv, mv, by rw [upd_ne n1]; exact h1, h0, h2, h3, h4, h5, h6, h7, h8⟩, ⟨_, upd_same, dqAll_set j r2 hx⟩, ⟨hv, by rw [upd_ne S.tab.ne.symm]; exact l1, l2⟩, S.tab.np, S.tab.nr, S.tab.nl, S.tab.ne⟩, S.loc, s2⟩
/-- self.held[k] = a number -/
theorem Stt.set_held {ti : TE} {x : V} {k : Int} {j : Nat} {d : D} {Q : L2.St → Hp → Prop} (S : Stt K C F0 H0 F H p r l m rows gain held env σ) (TC : TCls K C) (hx : Dq K F x d)
    (hi : ∀ Q : VK, Q (.int k) H → ti (some (.ref p) :: σ) H Q) (hj : ixN held.length k = some j)
    (q : ∀ H', Stt K C F0 H0 F H' p r l m rows gain (held.set j d) env σ → Q (some (.ref p) :: σ) H') : L2.gSub (tFld K (tVar 0) "held") ti rSetL x (some (.ref p) :: σ) H Q := by
  obtain ⟨dx, fs, g, gv, mv, h1, h0, h2, h3, h4, h5, h6, h7, h8⟩ := S.tab.hp
  obtain ⟨rv, r1, r2⟩ := S.tab.hr
  obtain ⟨hv, l1, l2⟩ := S.tab.hl
  obtain ⟨n1, n2⟩ := S.ne_pr
  refine ⟨.ref p, rfl, p, C, dx, fs, .ref l, rfl, h1, TC.cl, TC.nh, h8, hi _ ⟨l, hv, k, j, rfl, rfl, l1, by rw [dqAll_len l2]; exact hj, ?_⟩⟩
  obtain ⟨s1, s2⟩ := S.upd_bas (b := l) (o := .lst (hv.set j x)) (.inr (.inr rfl))
  exact q _ ⟨s1, ⟨⟨dx, fs, g, gv, mv, by rw [upd_ne n2]; exact h1, h0, h2, h3, h4, h5, h6, h7, h8⟩, ⟨rv, by rw [upd_ne S.tab.ne]; exact r1, r2⟩, ⟨_, upd_same, dqAll_set j l2 hx⟩, S.tab.np, S.tab.nr, S.tab.nl, S.tab.ne⟩, S.loc, s2⟩
/-- self.gain = a list just made -/
theorem Stt.set_gain {ds : List D} {Q : L2.St → Hp → Prop} {R : VK} {bk ct : L2.St → Hp → Prop} {f : EvF} (S : Stt K C F0 H0 F H p r l m rows gain held env σ) (TC : TCls K C)
    (e : f (.ob (flD m rows gain held) :: env) [] = some (.new ds, [])) (hd : ∀ d ∈ ds, isFr d = true)
    (q : ∀ F' H', Stt K C F0 H0 F' H' p r l m rows ds held env σ → Q (some (.ref p) :: σ) H') : L2.sFld K (tVar 0) (tE K f) "gain" ⟨Q, R, bk, ct⟩ (some (.ref p) :: σ) H := by
  refine S.use_new TC e hd fun F1 H1 a vs S1 a1 a2 => ?_
  obtain ⟨dx, fs, g, gv, mv, h1, h0, h2, h3, h4, h5, h6, h7, h8⟩ := S1.tab.hp
  obtain ⟨rv, r1, r2⟩ := S1.tab.hr
  obtain ⟨hv, l1, l2⟩ := S1.tab.hl
  obtain ⟨n1, n2⟩ := S1.ne_pr
  refine ⟨.ref p, rfl, p, C, dx, fs, rfl, h1, TC.cl, TC.ng, h0.1, ?_⟩
  obtain ⟨s1, s2⟩ := S1.upd_bas (b := p) (o := .ins C dx (putF "gain" (.ref a) fs)) (.inl rfl)
  have k : ∀ x : Str, x ≠ "gain" → (putF "gain" (.ref a) fs).lookup x = fs.lookup x := fun x hx => by rw [lookup_putF, if_neg hx]
  exact q _ _ ⟨s1, ⟨⟨dx, _, a, vs, mv, upd_same, ⟨by rw [putF_len h5]; exact h0.1, fun x hx => by rw [k x (fun z => hx (by subst z; decide))]; exact h0.2 x hx⟩, by rw [k _ (by decide)]; exact h2, h3, by rw [k _ (by decide)]; exact h4, by rw [lookup_putF, if_pos rfl], a1, a2, by rw [k _ (by decide)]; exact h8⟩, ⟨rv, by rw [upd_ne n1.symm]; exact r1, r2⟩, ⟨hv, by rw [upd_ne n2.symm]; exact l1, l2⟩, S1.tab.np, S1.tab.nr, S1.tab.nl, S1.tab.ne⟩, S1.loc, s2⟩
end

open PySem PySem.Spec PyProof.Rows L2
/-! # Table.exchange -/
def tExch (K : PySem.W.Frag) (e1 : EvF) (a2 : EvA) (c3 e4 e5 e6 e7 : EvF) : TS :=
  tSeq (tAsg (tE K e1) (gName 3))
  (tSeq (tFor (iRng1 (tA K a2)) (gName 4) (tSeq (tIfS (tT K c3) (tSeq (tAsg (tE K e4) (gName 5)) (tSeq (tAsg (tE K e5) (L2.gSub (tFld K (tVar 0) "rows") (tVar 4) rSetL)) tNext)) tNext) tNext))
  (tSeq (tAsg (tE K e6) (gName 5))
  (tSeq (L2.sFld K (tVar 0) (tE K e7) "gain")
  (tSeq (tAsg (tVar 3) (L2.gSub (tFld K (tVar 0) "rows") (tVar 2) rSetL))
  (tSeq (tAsg (tVar 1) (L2.gSub (tFld K (tVar 0) "held") (tVar 2) rSetL)) tNext)))))
def enX (m : D) (rows gain held : List D) (at_ spot : Nat) (lead other by_ : Sl) : En := .ob (flD m rows gain held) :: [.d (.int at_), .d (.int spot), lead, other, by_, .no, .no]
/-- what the expressions of exchange come to -/
structure ExH (e1 : EvF) (a2 : EvA) (c3 e4 e5 e6 e7 : EvF) (m : D) (rows gain held : List D) (at_ spot : Nat) (rows' gain' held' : List D) : Prop where
  ex : ∃ (n : Nat) (lead : List D) (ra : Nat → List D) (b : Nat → D) (nw : Nat → List D) (b' : D),
    e1 (enX m rows gain held at_ spot .no .no .no) [] = some (.new lead, []) ∧ (∀ d ∈ lead, isFr d = true) ∧
    a2 (enX m rows gain held at_ spot (.d (.list lead)) .no .no) [] = some ([.d (.int n)], []) ∧ n < 2 ^ 62 ∧ ra 0 = rows ∧
    (∀ i, i < n → c3 (enX m (ra i) gain held at_ spot (.d (.list lead)) (.d (.int i)) .no) [] = some (.d (.bool (decide (i ≠ spot))), []) ∧ (ra i).length = n ∧
      (i = spot → ra (i + 1) = ra i) ∧ (i ≠ spot → e4 (enX m (ra i) gain held at_ spot (.d (.list lead)) (.d (.int i)) .no) [] = some (.d (b i), []) ∧ isFr (b i) = true ∧
        e5 (enX m (ra i) gain held at_ spot (.d (.list lead)) (.d (.int i)) (.d (b i))) [] = some (.new (nw i), []) ∧ (∀ d ∈ nw i, isFr d = true) ∧ ra (i + 1) = (ra i).set i (.list (nw i)))) ∧
    e6 (enX m (ra n) gain held at_ spot (.d (.list lead)) .no .no) [] = some (.d b', []) ∧ isFr b' = true ∧
    e7 (enX m (ra n) gain held at_ spot (.d (.list lead)) .no (.d b')) [] = some (.new gain', []) ∧ (∀ d ∈ gain', isFr d = true) ∧
    spot < (ra n).length ∧ spot < held.length ∧ rows' = (ra n).set spot (.list lead) ∧ held' = held.set spot (.int at_)
theorem ixN_nat {n j : Nat} (h : j < n) : ixN n (j : Int) = some j := by
  unfold ixN
  rw [if_pos (by omega), if_pos (by omega)]
  simp
theorem tvar_i {σ : L2.St} {H : Hp} {i : Nat} {v : V} (h : σ[i]? = some (some v)) : ∀ Q : VK, Q v H → tVar i σ H Q := fun Q q => ⟨v, h, q⟩
section
variable {K : PySem.W.Frag} {C : Addr} {F0 H0 F H : Hp} {p r l : Addr} {m : D} {rows gain held : List D} {env : En} {σ : L2.St}
theorem Stt.at_d (S : Stt K C F0 H0 F H p r l m rows gain held env σ) {i : Nat} {x : D} (h : env[i]? = some (.d x)) : ∃ v, σ[i]? = some (some v) ∧ Dq K F v x := by
  rcases S.loc.at_ i _ h with q | ⟨y, v, q, h1, h2⟩
  · cases q
  · cases q
    exact ⟨v, h1, h2⟩
theorem Stt.at_i (S : Stt K C F0 H0 F H p r l m rows gain held env σ) {i : Nat} {x : Int} (h : env[i]? = some (.d (.int x))) : σ[i]? = some (some (.int x)) := by
  obtain ⟨v, h1, h2⟩ := S.at_d h
  cases h2
  exact h1
theorem exch_ok (TC : TCls K C) {e1 : EvF} {a2 : EvA} {c3 e4 e5 e6 e7 : EvF} {at_ spot : Nat} {rows' gain' held' : List D} {D : Ends}
    (S : Stt K C F0 H0 F H p r l m rows gain held [.d (.int at_), .d (.int spot), .no, .no, .no, .no, .no] σ) (E : ExH e1 a2 c3 e4 e5 e6 e7 m rows gain held at_ spot rows' gain' held')
    (q : ∀ F' H' σ' env', Stt K C F0 H0 F' H' p r l m rows' gain' held' env' σ' → D.nx (some (.ref p) :: σ') H') : tExch K e1 a2 c3 e4 e5 e6 e7 D (some (.ref p) :: σ) H := by
  obtain ⟨n, lead, ra, b, nw, b', h1, f1, h2, hn, r0, hl, h6, f6, h7, f7, sl, sh, rfl, rfl⟩ := E.ex
  refine S.use_new TC h1 f1 fun F1 H1 a vs S1 a1 a2' => ?_
  have S1 := S1.name (i := 2) (v := .ref a) (x := .list lead) (.lst a1 a2')
  refine S1.use_a TC h2 fun F2 H2 S2 => ⟨n, rfl, by omega, by omega, ?_⟩
  refine ⟨fun i mm σ H => mm + i = n ∧ ∃ F σ', σ = some (.ref p) :: σ' ∧ Stt K C F0 H0 F H p r l m (ra i) gain held [.d (.int at_), .d (.int spot), .d (.list lead), .no, .no, .no, .no] σ', ⟨n, by omega, F2, _, rfl, by rw [r0]; exact S2⟩, fun i mm σ H ⟨hm, F3, σ3, e3, S3⟩ => ?_⟩
  subst e3
  by_cases hi : i < n
  · refine .inr ⟨?_, fun σ H => ∃ F σ', σ = some (.ref p) :: σ' ∧ Stt K C F0 H0 F H p r l m (ra (i + 1)) gain held [.d (.int at_), .d (.int spot), .d (.list lead), .no, .no, .no, .no] σ', fun σ' H' w => ⟨mm - 1, by omega, by omega, w⟩, fun x H' hy => ?_⟩
    · show i < (n : Int).toNat
      omega
    · obtain ⟨rfl, rfl⟩ : H' = H ∧ x = .int (0 + i) := hy
      obtain ⟨k1, k2, k3, k4⟩ := hl i hi
      have S4 := S3.name (i := 3) (v := .int (0 + i)) (x := .int i) (by rw [Int.zero_add]; exact .int _)
      refine S4.use_t TC k1 fun F5 H5 S5 => ?_
      by_cases hs : i = spot
      · rw [show decide (i ≠ spot) = false from decide_eq_false (fun z => z hs)]
        rw [if_neg (by decide)]
        exact ⟨F5, _, rfl, by rw [k3 hs]; exact S5.drop (i := 3)⟩
      · rw [show decide (i ≠ spot) = true from decide_eq_true hs]
        rw [if_pos rfl]
        obtain ⟨g1, g2, g3, g4, g5⟩ := k4 hs
        refine S5.use_d TC g1 g2 fun F6 H6 v6 S6 d6 => ?_
        have S7 := S6.name (i := 4) d6
        refine S7.use_new TC g3 g4 fun F8 H8 a8 vs8 S8 a81 a82 => ?_
        have hj : ixN (ra i).length (i : Int) = some i := ixN_nat (by rw [k2]; exact hi)
        have hti := S8.at_i (i := 3) (x := i) rfl
        refine S8.set_row (k := i) TC (.lst a81 a82) (tvar_i hti) hj fun H9 S9 => ?_
        exact ⟨F8, _, rfl, by rw [g5]; exact (S9.drop (i := 3)).drop (i := 4)⟩
  · have hin : i = n := by omega
    subst hin
    refine .inl ⟨?_, ?_⟩
    · show (i : Int).toNat ≤ i
      omega
    · refine S3.use_d TC h6 f6 fun F6 H6 v6 S6 d6 => ?_
      have S7 := S6.name (i := 4) d6
      refine S7.set_gain TC h7 f7 fun F8 H8 S8 => ?_
      obtain ⟨v9, t9, d9⟩ := S8.at_d (i := 2) (x := .list lead) rfl
      refine ⟨v9, t9, ?_⟩
      refine S8.set_row (k := spot) TC d9 (tvar_i (S8.at_i (i := 1) (x := spot) rfl)) (ixN_nat sl) fun H9 S9 => ?_
      refine ⟨_, S9.at_i (i := 0) (x := at_) rfl, ?_⟩
      exact S9.set_held (k := spot) TC (.int _) (tvar_i (S9.at_i (i := 1) (x := spot) rfl)) (ixN_nat sh) fun H10 S10 => q _ _ _ _ S10
end

open PySem PySem.Spec PyProof.Rows L2
open PySem.W (minD maxD)
section
variable {X : Cx} {k : Nat} {c : Ct}
/-- name = an expression, and no more than that -/
def rawOk : Expr → Bool
  | .SetComp .. => false
  | .DictComp .. => false
  | _ => true
theorem asg_raw {n : Nat} (M : Mat X k c) {x : Str} {px pos : Pos} {i : Nat} (hi : slotT c x = some i) (e : Expr) (he : rawOk e = true) : PS X (.Assign [.Name x px] e pos) (tAsg (tE X.K (evE (n + 1) c e)) (gName i)) := by
  obtain ⟨h1, h2, h3⟩ := slotT_of M hi
  have gen : ∀ e, notComp e = true → PS X (.Assign [.Name x px] e pos) (tAsg (tE X.K (evE (n + 1) c e)) (gName i)) := fun e hn =>
    ps_set M.nd h1 h2 ((evE_good (n + 1)).pe M e) (sw_name hn) h3
  cases e with
  | SetComp => cases he
  | DictComp => cases he
  | ListComp elt gens scope p =>
    have hb : swapsWith (.ListComp elt gens scope p) (some (.Name x px)) pos.line X.env = pure (X.env.blockKind == .function && X.env.kindOf x == some .local && px.line == p.line && !(scope.names.any fun (n, k) => n == x && (k == .local || k == .cell))) := rfl
    cases hs : (X.env.blockKind == .function && X.env.kindOf x == some .local && px.line == p.line && !(scope.names.any fun (n, k) => n == x && (k == .local || k == .cell))) with
    | false =>
      rw [hs] at hb
      exact ps_set M.nd h1 h2 ((evE_good (n + 1)).pe M _) hb h3
    | true =>
      rw [hs] at hb
      rw [Bool.and_eq_true, Bool.and_eq_true, Bool.and_eq_true] at hs
      have hl : X.env.scope.names.lookup x = some .local := eq_of_beq hs.1.1.2
      obtain ⟨t, p1, p2, p3⟩ := evLc_both (evE_good n) M (elt := elt) (scope := scope) (gens := gens) (pos := p)
      exact weakS (p2 i x px pos h1 hl hb) fun D σ H h => p3 _ _ _ h
  | _ => exact gen _ rfl
theorem sw_attr {e o : Expr} {f : Str} {p : Pos} {l : Nat} {env : Env} (h : rawOk e = true) : swapsWith e (some (.Attribute o f p)) l env = pure false := by
  cases e <;> first | rfl | cases h
/-- self.f[i] = e -/
theorem fsub_ps {x f : Str} {i : Nat} {px p1 p2 pos : Pos} {e ei : Expr} {ti : TE} (M : Mat X k c) (hs : slot c x = some i) (hi : PE X ei ti) (hp : plainIx ei = true) {te : TE} (he : PE X e te) :
    PS X (.Assign [.Subscript (.Attribute (.Name x px) f p1) ei p2] e pos) (tAsg te (L2.gSub (tFld X.K (tVar i) f) ti rSetL)) := by
  obtain ⟨s1, s2, s3, s4⟩ := slot_of M hs
  exact ps_asg he (pg_sub (pe_fld (pe_var s1 s2 s3 s4) rfl) hi set_list (asg_sub hp)) sw_sub rfl rfl
theorem var_pe (M : Mat X k c) {x : Str} {i : Nat} {pos : Pos} (h : slot c x = some i) : PE X (.Name x pos) (tVar i) := by
  obtain ⟨s1, s2, s3, s4⟩ := slot_of M h
  exact pe_var s1 s2 s3 s4
theorem exch_code {n : Nat} (M : Mat X k c) (h0 : slot c "self" = some 0) (h1 : slot c "at" = some 1) (h2 : slot c "spot" = some 2) (h3 : slot c "lead" = some 3) (h4 : slot c "other" = some 4)
    (t3 : slotT c "lead" = some 3) (t4 : slotT c "other" = some 4) (t5 : slotT c "by" = some 5) (hr : isGl c "range" = true) {e1 a2 c3 e4 e5 e6 e7 : Expr} (r1 : rawOk e1 = true) (r4 : rawOk e4 = true) (r6 : rawOk e6 = true) (r7 : rawOk e7 = true) (n2 : nst a2 = true)
    {q1 q2 q3 q4 q5 q6 q7 q8 q9 q10 q11 q12 q13 q14 q15 q16 q17 q18 q19 q20 q21 q22 q23 q24 q25 q26 q27 q28 q29 q30 q31 : Pos} :
    PSs X [.Assign [.Name "lead" q1] e1 q2, .For (.Name "other" q3) (.Call (.Name "range" q4) [a2] [] q5) [.If c3 [.Assign [.Name "by" q6] e4 q7, .Assign [.Subscript (.Attribute (.Name "self" q8) "rows" q9) (.Name "other" q10) q11] e5 q12] [] q13] [] q14,
      .Assign [.Name "by" q15] e6 q16, .Assign [.Attribute (.Name "self" q17) "gain" q18] e7 q19, .Assign [.Subscript (.Attribute (.Name "self" q20) "rows" q21) (.Name "spot" q22) q23] (.Name "lead" q24) q25,
      .Assign [.Subscript (.Attribute (.Name "self" q26) "held" q27) (.Name "spot" q28) q29] (.Name "at" q30) q31]
      (tExch X.K (evE (n + 1) c e1) (evA (evE (n + 1) c) [a2]) (evE (n + 1) c c3) (evE (n + 1) c e4) (evE (n + 1) c e5) (evE (n + 1) c e6) (evE (n + 1) c e7)) := by
  have hF := (evE_good (k := k) (n + 1)).pe M
  have hT := (evE_good (k := k) (n + 1)).pt M
  have hp : PassesOwn (model X.prog X.w) X.A X.env X.xe := by rw [M.xe]; exact .never
  obtain ⟨o1, o2, o3⟩ := slotT_of M t4
  have gr := (gl_of M hr).1
  refine pss_cons (asg_raw M t3 e1 r1) (pss_cons (ps_for hp M.calm (pi_range1 gr ?_ (evA_ok hF ?_) ?_) (pg_name M.nd o1 o2 o3) (pss_cons (ps_if (hT c3) (pss_cons (asg_raw M t5 e4 r4) (pss_cons (fsub_ps M h0 (var_pe M h4) rfl (hF e5)) pss_nil)) pss_nil) pss_nil))
    (pss_cons (asg_raw M t5 e6 r6) (pss_cons (ps_fld (var_pe M h0) (hF e7) (sw_attr r7)) (pss_cons (fsub_ps M h0 (var_pe M h2) rfl (var_pe M h3)) (pss_cons (fsub_ps M h0 (var_pe M h2) rfl (var_pe M h1)) pss_nil)))))
  · exact M.blt "range" (by decide)
  · rw [List.all_cons, n2]; rfl
  · rw [starEach_ns n2]; rfl
end

open PySem PySem.Spec PyProof.Rows L2
open PySem.W (minD maxD)
/-! ### calls from a method that changes the object -/
section
variable {K : PySem.W.Frag} {C : Addr} {F0 H0 F H : Hp} {p r l : Addr} {m : D} {rows gain held : List D} {env : En} {σ : L2.St}
/-- a method that changes nothing -/
theorem Stt.use_m {nm : Str} {n : Nat} {sem : SemM} {t : TA} {us : List V} {ws : List W} {d : D} {Q : VK} (S : Stt K C F0 H0 F H p r l m rows gain held env σ) (TC : TCls K C) (hk : nm ∉ flKeys)
    (ha : ∀ Q : List V → Hp → Prop, Q us H → t (some (.ref p) :: σ) H Q) (aa : ArgAll K (frz F H p r l) none us ws) (hl : ws.length = n) (e : sem (flD m rows gain held) ws = some d) (hd : isFr d = true)
    (q : ∀ F' H' v, Stt K C F0 H0 F' H' p r l m rows gain held env σ → Dq K F' v d → Q v H') : tMeth C nm (spM K n sem) [] E0 (tVar 0) t (some (.ref p) :: σ) H Q := by
  obtain ⟨dx, fs, g, gv, mv, h1, h0, _⟩ := S.tab.hp
  refine ⟨.ref p, rfl, p, dx, fs, rfl, h1, h0.2 nm hk, ha _ ?_⟩
  refine ⟨frz F H p r l, p, us, _, ws, d, hl, S.tab.same2 S.same, by rw [List.append_nil], S.tab.ob S.same TC, aa, e, fun F' v H' P R => ?_⟩
  have A := S.mono P
  obtain ⟨k1, k2, k3⟩ := A.tab.kinds
  exact q _ _ _ A (dq_unf hd P.same k1 k2 k3 R)
abbrev RelX := D → List D → List D → List D → Nat → Nat → List D → List D → List D → Prop
/-- a method (at, spot) that changes the object -/
def spX (K : PySem.W.Frag) (C : Addr) (R : RelX) : Sp := fun vs H Q _ => ∃ (F : Hp) (p r l : Addr) (m : D) (rows gain held : List D) (at_ spot : Nat) (rows' gain' held' : List D), vs = [.ref p, .int at_, .int spot] ∧ Same F H ∧ TabAt K C F H p r l m rows gain held ∧
  R m rows gain held at_ spot rows' gain' held' ∧ ∀ F' H', Same F' H' → TabAt K C F' H' p r l m rows' gain' held' → Bas F H F' H' p r l → Q .non H'
theorem Bas.refl : Bas F H F H p r l := ⟨.refl _, fun _ _ h _ => h, fun _ h => .inl h⟩
theorem Bas.trans {F1 H1 F2 H2 : Hp} (a : Bas F H F1 H1 p r l) (b : Bas F1 H1 F2 H2 p r l) (f1 : F2 p = none) (f2 : F2 r = none) (f3 : F2 l = none) : Bas F H F2 H2 p r l := by
  refine ⟨a.ext.trans b.ext, fun c o h q => b.keep _ _ (a.keep _ _ h q) q, fun c h => ?_⟩
  rcases b.new c h with z | z
  · exact a.new c z
  · refine .inr ?_
    cases e : H c with
    | none => rfl
    | some o =>
      have q : ¬inT p r l c := fun q => by
        rcases q with rfl | rfl | rfl
        · exact h f1
        · exact h f2
        · exact h f3
      rw [a.keep c o e q] at z
      cases z
theorem Stt.use_x {nm : Str} {R : RelX} {t : TA} {at_ spot : Nat} {rows' gain' held' : List D} {Q : VK} (S : Stt K C F0 H0 F H p r l m rows gain held env σ) (hk : nm ∉ flKeys)
    (ha : ∀ Q : List V → Hp → Prop, Q [.int at_, .int spot] H → t (some (.ref p) :: σ) H Q) (e : R m rows gain held at_ spot rows' gain' held')
    (q : ∀ F' H', Stt K C F0 H0 F' H' p r l m rows' gain' held' env σ → Q .non H') : tMeth C nm (spX K C R) [] E0 (tVar 0) t (some (.ref p) :: σ) H Q := by
  obtain ⟨dx, fs, g, gv, mv, h1, h0, _⟩ := S.tab.hp
  refine ⟨.ref p, rfl, p, dx, fs, rfl, h1, h0.2 nm hk, ha _ ?_⟩
  refine ⟨F, p, r, l, m, rows, gain, held, at_, spot, rows', gain', held', rfl, S.same, S.tab, e, fun F' H' s T b => ?_⟩
  exact q F' H' ⟨s, T, S.loc.mono b.ext, S.bas.trans b T.np T.nr T.nl⟩
end
/-! ### exchange as a method -/
section
variable {P : Program} {w : World} {K : PySem.W.Frag} {mg : Str → Option Value} {base : Heap} {k : Nat}
theorem loc_start {F : Hp} : ∀ {us : List V} {ds : List D} {n : Nat}, DqAll K F us ds → LocOk K F (ds.map .d ++ List.replicate n .no) (us.map some ++ List.replicate n none)
  | _, _, n, .nil => ⟨by simp, fun i s h => by
      rw [show (List.map Sl.d ([] : List D) ++ List.replicate n Sl.no) = List.replicate n Sl.no from rfl, List.getElem?_replicate] at h
      split at h
      · cases h; exact .inl rfl
      · cases h⟩
  | _, _, n, .cons a b => by
    have ih := loc_start (n := n) b
    refine ⟨by simpa using ih.len, fun i s h => ?_⟩
    cases i with
    | zero => cases h; exact .inr ⟨_, _, rfl, rfl, a⟩
    | succ i => exact ih.at_ i s h
def NX : List Str := ["self", "at", "spot", "lead", "other", "by", "part", "one"]
theorem exch_meth {q : Str} {st : Stmt} {f : Addr} {fd : FuncData} {fns : List (Str × FnS)} {gl : List (Str × D)} {C : Addr} {e1 : EvF} {a2 : EvA} {c3 e4 e5 e6 e7 : EvF} (T : Tab P w K mg base k fns gl) (F : L2.Fun K "exchange" q st f fd)
    (S : FnScope NX ["self", "at", "spot"] (defScope st)) (TC : TCls K C)
    (code : ∀ {X : Cx}, Mat X k (ctOf NX (defScope st) fns gl) → PSs X (defBody st) (tExch X.K e1 a2 c3 e4 e5 e6 e7)) :
    FnOk P w K mg base CX0 (k + 1) f fd ["self", "at", "spot"] (spX K C (ExH e1 a2 c3 e4 e5 e6 e7)) := by
  refine F.ok S (fun vs H Q E ⟨_, _, _, _, _, _, _, _, _, _, _, _, _, h, _⟩ => by rw [h]; rfl) fun cdv A outer s H vs Q E hr ⟨F1, p, r, l, m, rows, gain, held, at_, spot, rows', gain', held', h1, h2, h3, h4, h5⟩ => ?_
  subst h1
  have M : Mat (cxOf CX0 P w K mg base NX q (defScope st) f cdv A outer s H E).nox k (ctOf NX (defScope st) fns gl) := ⟨rfl, S.nd, rfl, rfl, fun _ _ => rfl, rfl, hr, fun y s' e => ⟨(T.fns y s' e).ex⟩, T.gl, T.blt, fun _ _ e => (by cases e)⟩
  refine ⟨_, code M, ?_⟩
  refine exch_ok (F0 := F1) (H0 := H) (σ := [some (.int at_), some (.int spot), none, none, none, none, none]) TC ⟨h2, h3, loc_start (n := 5) (.cons (.int at_) (.cons (.int spot) .nil)), .refl⟩ h4 fun F' H' σ' env' S' => ?_
  exact h5 F' H' S'.same S'.tab S'.bas
end

open PySem PySem.Spec PyProof.Rows L2
open PySem.W (minD maxD)
/-! # Table.run -/
def tRun (K : PySem.W.Frag) (C : Addr) (com lea : SemM) (R : RelX) (c1 c2 en : EvF) : TS :=
  tSeq (tAsg (tMeth C "coming" (spM K 0 com) [] E0 (tVar 0) tNil) (gName 1))
  (tSeq (tWhile (tT K c1) (tSeq (tAsg (tMeth C "leaving" (spM K 1 lea) [] E0 (tVar 0) (tCons (tVar 1) tNil)) (gName 2)) (tSeq (tIfS (tT K c2) (tSeq (tRet (tVar 1)) tNext) tNext)
    (tSeq (tDrop (tMeth C "exchange" (spX K C R) [] E0 (tVar 0) (tCons (tVar 1) (tCons (tVar 2) tNil)))) (tSeq (tAsg (tMeth C "coming" (spM K 0 com) [] E0 (tVar 0) tNil) (gName 1)) tNext)))))
  (tSeq (tRet (tE K en)) tNext))
inductive RunD (com lea : SemM) (R : RelX) (m : D) : List D → List D → List D → Nat → D → List D → List D → List D → Prop
  | stop {rows gain held : List D} : com (flD m rows gain held) [] = some .none → RunD com lea R m rows gain held 0 .none rows gain held
  | grow {rows gain held : List D} {at_ : Nat} : com (flD m rows gain held) [] = some (.int at_) → lea (flD m rows gain held) [.d (.int at_)] = some .none → RunD com lea R m rows gain held 0 (.int at_) rows gain held
  | step {rows gain held r1 g1 h1 r2 g2 h2 : List D} {at_ spot n : Nat} {d : D} : com (flD m rows gain held) [] = some (.int at_) → lea (flD m rows gain held) [.d (.int at_)] = some (.int spot) → R m rows gain held at_ spot r1 g1 h1 →
      RunD com lea R m r1 g1 h1 n d r2 g2 h2 → RunD com lea R m rows gain held (n + 1) d r2 g2 h2
def fitV : D → Bool
  | .int _ => true
  | .none => true
  | _ => false
theorem RunD.com {com lea : SemM} {R : RelX} {m : D} {r g h : List D} {n : Nat} {d : D} {r' g' h' : List D} (k : RunD com lea R m r g h n d r' g' h') : ∃ x, com (flD m r g h) [] = some x ∧ isFr x = true := by
  cases k with
  | stop a => exact ⟨_, a, rfl⟩
  | grow a _ => exact ⟨_, a, rfl⟩
  | step a _ _ _ => exact ⟨_, a, rfl⟩
theorem run_fr {com lea : SemM} {R : RelX} {m : D} {r g h : List D} {n : Nat} {d : D} {r' g' h' : List D} (k : RunD com lea R m r g h n d r' g' h') : isFr d = true := by
  induction k with
  | stop a => rfl
  | grow a _ => rfl
  | step _ _ _ _ ih => exact ih
section
variable {K : PySem.W.Frag} {C : Addr} {F0 H0 F H : Hp} {p r l : Addr} {m : D} {rows gain held : List D} {env : En} {σ : L2.St}
theorem run_ok (TC : TCls K C) {com lea : SemM} {R : RelX} {c1 c2 en : EvF} {n : Nat} {d : D} {rows' gain' held' : List D} {D : Ends}
    (n1 : ∀ fl s, c1 (.ob fl :: [.d .none, s]) [] = some (.d (.bool false), [])) (i1 : ∀ fl s (i : Int), c1 (.ob fl :: [.d (.int i), s]) [] = some (.d (.bool true), []))
    (n2 : ∀ fl s, c2 (.ob fl :: [s, .d .none]) [] = some (.d (.bool true), [])) (i2 : ∀ fl s (i : Int), c2 (.ob fl :: [s, .d (.int i)]) [] = some (.d (.bool false), []))
    (n3 : ∀ fl s t, en (.ob fl :: [s, t]) [] = some (.d .none, []))
    (S : Stt K C F0 H0 F H p r l m rows gain held [.no, .no] σ) (E : RunD com lea R m rows gain held n d rows' gain' held')
    (q : ∀ F' H' v σ' env', Stt K C F0 H0 F' H' p r l m rows' gain' held' env' σ' → Dq K F' v d → D.rt v H') : tRun K C com lea R c1 c2 en D (some (.ref p) :: σ) H := by
  obtain ⟨x0, hx0, fx0⟩ := E.com
  refine S.use_m (us := []) TC (by decide) (fun Q q => q) .nil rfl hx0 fx0 fun F1 H1 v1 S1 d1 => ?_
  have S1 := S1.name (i := 0) d1
  refine ⟨fun mm σ H => ∃ F σ' rows gain held x, σ = some (.ref p) :: σ' ∧ Stt K C F0 H0 F H p r l m rows gain held [.d x, .no] σ' ∧ com (flD m rows gain held) [] = some x ∧ RunD com lea R m rows gain held mm d rows' gain' held', ⟨n, F1, _, _, _, _, x0, rfl, S1, hx0, E⟩, fun mm σ H ⟨F2, σ2, rows, gain, held, x, e2, S2, hx, E2⟩ => ?_⟩
  subst e2
  cases E2 with
  | stop a =>
    rw [hx] at a
    cases a
    refine S2.use_t TC (n1 _ _) fun F3 H3 S3 => ?_
    rw [if_neg (by decide)]
    refine S3.use_d TC (n3 _ _ _) rfl fun F4 H4 v4 S4 d4 => ?_
    exact q _ _ _ _ _ S4 d4
  | @grow _ _ _ at_ a b =>
    rw [hx] at a
    cases a
    refine S2.use_t TC (i1 _ _ _) fun F3 H3 S3 => ?_
    rw [if_pos rfl]
    refine ⟨fun _ _ => False, fun _ _ z => z.elim, ?_⟩
    refine S3.use_m (us := [.int at_]) TC (by decide) (fun Q q => ⟨_, S3.at_i (i := 0) rfl, q⟩) (.d (.int _) .nil) rfl b rfl fun F4 H4 v4 S4 d4 => ?_
    have S4 := S4.name (i := 1) d4
    refine S4.use_t TC (n2 _ _) fun F5 H5 S5 => ?_
    rw [if_pos rfl]
    exact ⟨_, S5.at_i (i := 0) rfl, q _ _ _ _ _ S5 (.int _)⟩
  | @step _ _ _ r1 g1 h1 _ _ _ at_ spot n' _ a b c e =>
    rw [hx] at a
    cases a
    refine S2.use_t TC (i1 _ _ _) fun F3 H3 S3 => ?_
    rw [if_pos rfl]
    refine ⟨fun σ H => ∃ F σ' rows gain held x, σ = some (.ref p) :: σ' ∧ Stt K C F0 H0 F H p r l m rows gain held [.d x, .no] σ' ∧ com (flD m rows gain held) [] = some x ∧ RunD com lea R m rows gain held n' d rows' gain' held', fun σ' H' w => ⟨n', Nat.lt_succ_self _, w⟩, ?_⟩
    refine S3.use_m (us := [.int at_]) TC (by decide) (fun Q q => ⟨_, S3.at_i (i := 0) rfl, q⟩) (.d (.int _) .nil) rfl b rfl fun F4 H4 v4 S4 d4 => ?_
    have S4 := S4.name (i := 1) d4
    refine S4.use_t TC (i2 _ _ _) fun F5 H5 S5 => ?_
    rw [if_neg (by decide)]
    refine S5.use_x (by decide) (fun Q q => ⟨_, S5.at_i (i := 0) rfl, _, S5.at_i (i := 1) rfl, q⟩) c fun F6 H6 S6 => ?_
    obtain ⟨y, hy, fy⟩ := e.com
    refine S6.use_m (us := []) TC (by decide) (fun Q q => q) .nil rfl hy fy fun F7 H7 v7 S7 d7 => ?_
    have S7 := (S7.name (i := 0) d7).drop (i := 1)
    exact ⟨F7, _, _, _, _, y, rfl, S7, hy, e⟩
end
abbrev RelR := D → List D → List D → List D → D → List D → List D → List D → Prop
def spRun (K : PySem.W.Frag) (C : Addr) (R : RelR) : Sp := fun vs H Q _ => ∃ (F : Hp) (p r l : Addr) (m : D) (rows gain held : List D) (d : D) (rows' gain' held' : List D), vs = [.ref p] ∧ Same F H ∧ TabAt K C F H p r l m rows gain held ∧
  R m rows gain held d rows' gain' held' ∧ ∀ F' H' v, Same F' H' → TabAt K C F' H' p r l m rows' gain' held' → Bas F H F' H' p r l → Dq K F' v d → Q v H'
section
variable {P : Program} {w : World} {K : PySem.W.Frag} {mg : Str → Option Value} {base : Heap} {k : Nat}
theorem run_code {X : Cx} {c : Ct} {C : Addr} {com lea : SemM} {R : RelX} {n : Nat} (M : Mat X k c) (cl : L2.Cls X.K C) (h0 : slot c "self" = some 0) (h1 : slot c "at" = some 1) (h2 : slot c "spot" = some 2) (t1 : slotT c "at" = some 1) (t2 : slotT c "spot" = some 2)
    (m1 : Mth X.prog X.w X.K X.mg X.base k C "coming" (spM X.K 0 com)) (m2 : Mth X.prog X.w X.K X.mg X.base k C "leaving" (spM X.K 1 lea)) (m3 : Mth X.prog X.w X.K X.mg X.base k C "exchange" (spX X.K C R)) {c1 c2 en : Expr}
    {q1 q2 q3 q4 q5 q6 q7 q8 q9 q10 q11 q12 q13 q14 q15 q16 q17 q18 q19 q20 q21 q22 q23 q24 q25 q26 q27 q28 q29 q30 q31 : Pos} (p1 : (q3.endLine == q4.line) = true) (p2 : (q8.endLine == q10.line) = true) (p3 : (q15.endLine == q18.line) = true) (p4 : (q22.endLine == q23.line) = true) :
    PSs X [.Assign [.Name "at" q1] (.Call (.Attribute (.Name "self" q2) "coming" q3) [] [] q4) q5,
      .While c1 [.Assign [.Name "spot" q6] (.Call (.Attribute (.Name "self" q7) "leaving" q8) [.Name "at" q9] [] q10) q11, .If c2 [.Return (some (.Name "at" q12)) q13] [] q25,
        .Expr (.Call (.Attribute (.Name "self" q14) "exchange" q15) [.Name "at" q16, .Name "spot" q17] [] q18) q19, .Assign [.Name "at" q20] (.Call (.Attribute (.Name "self" q21) "coming" q22) [] [] q23) q24] [] q26,
      .Return (some en) q27]
      (tRun X.K C com lea R (evE (n + 1) c c1) (evE (n + 1) c c2) (evE (n + 1) c en)) := by
  have hF := (evE_good (k := k) (n + 1)).pe M
  have hT := (evE_good (k := k) (n + 1)).pt M
  have hp : PassesOwn (model X.prog X.w) X.A X.env X.xe := by rw [M.xe]; exact .never
  obtain ⟨o1, o2, o3⟩ := slotT_of M t1
  obtain ⟨u1, u2, u3⟩ := slotT_of M t2
  refine pss_cons (ps_set M.nd o1 o2 (mth_pe0 m1 cl M.room (Nat.le_refl _) (var_pe M h0) (call_ht rfl rfl p1)) rfl o3) (pss_cons (ps_while hp (hT c1) (pss_cons (ps_set M.nd u1 u2 (mth_pe m2 cl M.room (Nat.le_refl _) (var_pe M h0) (pa_cons (var_pe M h1) pa_nil) rfl rfl (call_ht rfl rfl p2)) rfl u3)
    (pss_cons (ps_if (hT c2) (pss_cons (ps_ret (var_pe M h1)) pss_nil) pss_nil) (pss_cons (ps_expr (mth_pe m3 cl M.room (Nat.le_refl _) (var_pe M h0) (pa_cons (var_pe M h1) (pa_cons (var_pe M h2) pa_nil)) rfl rfl (call_ht rfl rfl p3)) rfl)
    (pss_cons (ps_set M.nd o1 o2 (mth_pe0 m1 cl M.room (Nat.le_refl _) (var_pe M h0) (call_ht rfl rfl p4)) rfl o3) pss_nil))))) (pss_cons (ps_ret (hF en)) pss_nil))
theorem run_meth {q : Str} {st : Stmt} {f : Addr} {fd : FuncData} {fns : List (Str × FnS)} {gl : List (Str × D)} {C : Addr} {com lea : SemM} {R : RelX} {c1 c2 en : EvF} (T : Tab P w K mg base k fns gl) (F : L2.Fun K "run" q st f fd)
    (S : FnScope ["self", "at", "spot"] ["self"] (defScope st)) (TC : TCls K C)
    (n1 : ∀ fl s, c1 (.ob fl :: [.d .none, s]) [] = some (.d (.bool false), [])) (i1 : ∀ fl s (i : Int), c1 (.ob fl :: [.d (.int i), s]) [] = some (.d (.bool true), []))
    (n2 : ∀ fl s, c2 (.ob fl :: [s, .d .none]) [] = some (.d (.bool true), [])) (i2 : ∀ fl s (i : Int), c2 (.ob fl :: [s, .d (.int i)]) [] = some (.d (.bool false), []))
    (n3 : ∀ fl s t, en (.ob fl :: [s, t]) [] = some (.d .none, []))
    (code : ∀ {X : Cx}, X.prog = P → X.w = w → X.K = K → X.mg = mg → X.base = base → Mat X k (ctOf ["self", "at", "spot"] (defScope st) fns gl) → PSs X (defBody st) (tRun X.K C com lea R c1 c2 en)) :
    FnOk P w K mg base CX0 (k + 1) f fd ["self"] (spRun K C fun m rows gain held d rows' gain' held' => ∃ n, RunD com lea R m rows gain held n d rows' gain' held') := by
  refine F.ok S (fun vs H Q E ⟨_, _, _, _, _, _, _, _, _, _, _, _, h, _⟩ => by rw [h]; rfl) fun cdv A outer s H vs Q E hr ⟨F1, p, r, l, m, rows, gain, held, d, rows', gain', held', h1, h2, h3, ⟨n, h4⟩, h5⟩ => ?_
  subst h1
  have M : Mat (cxOf CX0 P w K mg base ["self", "at", "spot"] q (defScope st) f cdv A outer s H E).nox k (ctOf ["self", "at", "spot"] (defScope st) fns gl) := ⟨rfl, S.nd, rfl, rfl, fun _ _ => rfl, rfl, hr, fun y s' e => ⟨(T.fns y s' e).ex⟩, T.gl, T.blt, fun _ _ e => (by cases e)⟩
  refine ⟨_, code rfl rfl rfl rfl rfl M, ?_⟩
  refine run_ok (F0 := F1) (H0 := H) (σ := [none, none]) TC n1 i1 n2 i2 n3 ⟨h2, h3, loc_start (us := []) (n := 2) .nil, .refl⟩ h4 fun F' H' v σ' env' S' d' => ?_
  exact h5 F' H' v S'.same S'.tab S'.bas d'
end

open PySem PySem.Spec PyProof.Rows L2
open PySem.W (minD maxD)
/-! # Table.__init__ -/
def NI : List Str := ["self", "rows", "bounds", "gains", "size", "at", "row", "slack", "spot"]
def TgI : Tg := .tu (.cn (.nm 5) (.cn (.nm 6) .nl))
def tInit (K : PySem.W.Frag) (em es el : EvF) (ei : EvI) (esl eap eg eh : EvF) : TS :=
  tSeq (L2.sFld K (tVar 0) (tE K em) "many")
  (tSeq (tAsg (tE K es) (gName 4))
  (tSeq (L2.sFld K (tVar 0) (tE K el) "rows")
  (tSeq (tFor (tI K ei) (tG K TgI) (tSeq (tAsg (tE K esl) (gName 7)) (tSeq (tDrop (tBM K "list" rAppend (tFld K (tVar 0) "rows") (tCons (tE K eap) tNil))) tNext)))
  (tSeq (L2.sFld K (tVar 0) (tE K eg) "gain")
  (tSeq (L2.sFld K (tVar 0) (tE K eh) "held") tNext)))))
def plE : En → Bool
  | [] => true
  | .no :: r => plE r
  | .d _ :: r => plE r
  | _ => false
theorem plE_at : ∀ {env : En}, plE env = true → ∀ (i : Nat) (s : Sl), env[i]? = some s → s = .no ∨ ∃ x, s = .d x
  | [], _, i, s, h => by simp at h
  | a :: r, hp, i, s, h => by
    cases i with
    | zero =>
      cases h
      cases a with
      | no => exact .inl rfl
      | d x => exact .inr ⟨x, rfl⟩
      | own _ => cases hp
      | tp => cases hp
      | ob _ => cases hp
    | succ i =>
      refine plE_at (env := r) ?_ i s h
      cases a with
      | no => exact hp
      | d x => exact hp
      | own _ => cases hp
      | tp => cases hp
      | ob _ => cases hp
section
variable {K : PySem.W.Frag} {C : Addr} {F0 H0 F H : Hp} {p dx : Addr} {fs : List (Str × V)} {rw_ : Option (Addr × List D)} {env : En} {σ : L2.St}
theorem LocOk.sok0 (L : LocOk K F env σ) (S : Same F H) : Sok K F H none env [] σ := by
  refine ⟨S, L.len, fun i s h => ?_, fun i j ds es h1 h2 hne => ?_, trivial⟩
  · rcases L.at_ i _ h with rfl | ⟨x, v, rfl, h1, h2⟩
    · trivial
    · exact ⟨v, h1, h2⟩
  · rcases L.at_ i _ h1 with q | ⟨x, v, q, _⟩ <;> cases q
theorem Sok.loc (S : Sok K F H none env [] σ) (hp : plE env = true) : LocOk K F env σ := ⟨S.len, fun i s h => by
  rcases plE_at hp i s h with rfl | ⟨x, rfl⟩
  · exact .inl rfl
  · obtain ⟨v, h1, h2⟩ := S.slot i _ h
    exact .inr ⟨x, v, rfl, h1, h2⟩⟩
/-- the state of the making of the object -/
structure Ini (K : PySem.W.Frag) (C : Addr) (F0 H0 F H : Hp) (p dx : Addr) (fs : List (Str × V)) (rw_ : Option (Addr × List D)) (env : En) (σ : L2.St) : Prop where
  same : Same F H
  loc : LocOk K F env σ
  hp : H p = some (.ins C dx fs)
  np : F p = none
  self : σ[0]? = some (some (.ref p))
  rws : ∀ a ds, rw_ = some (a, ds) → (∃ rv, H a = some (.lst rv) ∧ DqAll K F rv ds) ∧ F a = none ∧ H0 a = none
  ext : Same F0 F
  keep : ∀ b o, H0 b = some o → b ≠ p → H b = some o
  new : ∀ b, F b ≠ none → F0 b ≠ none ∨ H0 b = none
theorem Ini.step {F' H' : Hp} (I : Ini K C F0 H0 F H p dx fs rw_ env σ) (P : Post K none [] F H F' H') : Ini K C F0 H0 F' H' p dx fs rw_ env σ := by
  have k : ∀ b o, H b = some o → H' b = some o := fun b o h => P.keep b o h (by intro z; cases z)
  refine ⟨P.same, I.loc.mono P.ext, k _ _ I.hp, P.none_of I.np I.hp, I.self, fun a ds e => ?_, I.ext.trans P.ext, fun b o h q => k _ _ (I.keep b o h q), fun b h => ?_⟩
  · obtain ⟨⟨rv, h1, h2⟩, h3, h4⟩ := I.rws a ds e
    exact ⟨⟨rv, k _ _ h1, dqAll_mono P.ext h2⟩, P.none_of h3 h1, h4⟩
  · rcases P.new b h with z | z
    · exact I.new b z
    · refine .inr ?_
      cases e : H0 b with
      | none => rfl
      | some o =>
        by_cases q : b = p
        · subst q
          rw [I.hp] at z; cases z
        · rw [I.keep b o e q] at z; cases z
theorem Ini.use_d {f : EvF} {Q : VK} {d : D} (I : Ini K C F0 H0 F H p dx fs rw_ env σ) (e : f env [] = some (.d d, [])) (q : ∀ F' H' v, Ini K C F0 H0 F' H' p dx fs rw_ env σ → Same F F' → Dq K F' v d → Q v H') : tE K f σ H Q :=
  ⟨F, none, env, [], _, [], I.loc.sok0 I.same, e, fun F' v H' P R => q F' H' v (I.step P) P.ext R⟩
theorem Ini.fresh {F' H' : Hp} (I : Ini K C F0 H0 F H p dx fs rw_ env σ) {a : Addr} {vs : List V} (h1 : F a = none) (h2 : H a = some (.lst vs)) (hp : H0 a = none) (hr : ∀ ds, rw_ ≠ some (a, ds)) : Ini K C F0 H0 (upd F a (.lst vs)) H p dx fs rw_ env σ := by
  have s1 : Same F (upd F a (.lst vs)) := fun b o h => by
    rw [upd_ne (ne_of_none h h1)]
    exact h
  have hpn : p ≠ a := fun z => by subst z; rw [I.hp] at h2; cases h2
  refine ⟨fun b o h => ?_, I.loc.mono s1, I.hp, by rw [upd_ne hpn]; exact I.np, I.self, fun b ds e => ?_, I.ext.trans s1, I.keep, fun b h => ?_⟩
  · by_cases hb : b = a
    · subst hb
      rw [upd_same] at h
      rw [h2, ← h]
    · rw [upd_ne hb] at h
      exact I.same _ _ h
  · obtain ⟨⟨rv, g1, g2⟩, g3, g4⟩ := I.rws b ds e
    have hb : b ≠ a := fun z => by subst z; exact hr ds e
    exact ⟨⟨rv, g1, dqAll_mono s1 g2⟩, by rw [upd_ne hb]; exact g3, g4⟩
  · by_cases hb : b = a
    · subst hb
      exact .inr hp
    · rw [upd_ne hb] at h
      exact I.new b h
/-- a list just made, left alone -/
theorem Ini.use_free {f : EvF} {Q : VK} {ds : List D} (I : Ini K C F0 H0 F H p dx fs rw_ env σ) (e : f env [] = some (.new ds, [])) (q : ∀ F' H' a vs, Ini K C F0 H0 F' H' p dx fs rw_ env σ → Same F F' → F' a = none → H' a = some (.lst vs) → DqAll K F' vs ds → H0 a = none → (∀ ds, rw_ ≠ some (a, ds)) → Q (.ref a) H') : tE K f σ H Q := by
  refine ⟨F, none, env, [], _, [], I.loc.sok0 I.same, e, fun F1 v H1 P R => ?_⟩
  obtain ⟨a, vs, rfl, h1, _, h2, h3, h4⟩ := R
  refine q _ _ _ vs (I.step P) P.ext h1 h3 h4 ?_ fun ds z => ?_
  · cases e : H0 a with
    | none => rfl
    | some o =>
      by_cases q : a = p
      · subst q
        rw [I.hp] at h2; cases h2
      · rw [I.keep a o e q] at h2; cases h2
  · obtain ⟨⟨rv, g1, _⟩, _⟩ := I.rws a ds z
    rw [g1] at h2; cases h2
theorem Ini.use_new {f : EvF} {Q : VK} {ds : List D} (I : Ini K C F0 H0 F H p dx fs rw_ env σ) (e : f env [] = some (.new ds, [])) (q : ∀ F' H' a vs, Ini K C F0 H0 F' H' p dx fs rw_ env σ → Same F F' → F' a = some (.lst vs) → DqAll K F' vs ds → Q (.ref a) H') : tE K f σ H Q :=
  I.use_free e fun F1 H1 a vs I1 s0 h1 h2 h3 h4 h5 => by
    have s1 : Same F1 (upd F1 a (.lst vs)) := fun b o h => by
      rw [upd_ne (ne_of_none h h1)]
      exact h
    exact q _ _ a vs (I1.fresh (H' := H1) (F' := F1) h1 h2 h4 h5) (s0.trans s1) upd_same (dqAll_mono s1 h3)
theorem Ini.name {i : Nat} {v : V} {x : D} (I : Ini K C F0 H0 F H p dx fs rw_ env σ) (d : Dq K F v x) (hi : i ≠ 0) : Ini K C F0 H0 F H p dx fs rw_ (env.set i (.d x)) (σ.set i (some v)) :=
  ⟨I.same, I.loc.set d, I.hp, I.np, by rw [List.getElem?_set_ne hi]; exact I.self, I.rws, I.ext, I.keep, I.new⟩
theorem Ini.drop {i : Nat} (I : Ini K C F0 H0 F H p dx fs rw_ env σ) : Ini K C F0 H0 F H p dx fs rw_ (env.set i .no) σ := ⟨I.same, I.loc.drop, I.hp, I.np, I.self, I.rws, I.ext, I.keep, I.new⟩
/-- self.f = a value -/
theorem Ini.setf {f : Str} {v : V} (I : Ini K C F0 H0 F H p dx fs rw_ env σ) : Ini K C F0 H0 F (upd H p (.ins C dx (putF f v fs))) p dx (putF f v fs) rw_ env σ := by
  refine ⟨fun b o h => ?_, I.loc, upd_same, I.np, I.self, fun a ds e => ?_, I.ext, fun b o h q => ?_, I.new⟩
  · rw [upd_ne (ne_of_none h I.np)]; exact I.same _ _ h
  · obtain ⟨⟨rv, g1, g2⟩, g3, g4⟩ := I.rws a ds e
    have : a ≠ p := fun z => by subst z; rw [I.hp] at g1; cases g1
    exact ⟨⟨rv, by rw [upd_ne this]; exact g1, g2⟩, g3, g4⟩
  · rw [upd_ne q]; exact I.keep _ _ h q
theorem Ini.fld {f : Str} {v : V} {Q : L2.St → Hp → Prop} (I : Ini K C F0 H0 F H p dx fs rw_ env σ) (cl : L2.Cls K C) (na : L2.NoAttr K C f) (hl : fs.length < 1000)
    (q : Ini K C F0 H0 F (upd H p (.ins C dx (putF f v fs))) p dx (putF f v fs) rw_ env σ → Q σ (upd H p (.ins C dx (putF f v fs)))) :
    tVar 0 σ H fun x H2 => ∃ a C dx fs, x = .ref a ∧ H2 a = some (.ins C dx fs) ∧ L2.Cls K C ∧ L2.NoAttr K C f ∧ fs.length < 1000 ∧ Q σ (upd H2 a (.ins C dx (putF f v fs))) :=
  ⟨_, I.self, p, C, dx, fs, rfl, I.hp, cl, na, hl, q I.setf⟩
end

open PySem PySem.Spec PyProof.Rows L2
open PySem.W (minD maxD)
theorem putF_le {f : Str} {v : V} : ∀ (fs : List (Str × V)), (putF f v fs).length ≤ fs.length + 1
  | [] => by simp [putF]
  | (g, x) :: r => by
    unfold putF
    by_cases e : g = f
    · rw [if_pos e, List.length_cons, List.length_cons]; omega
    · rw [if_neg e, List.length_cons, List.length_cons]
      have := putF_le (f := f) (v := v) r
      omega
def enI (rows bounds gains : D) (size at_ row slack : Sl) : En := [.d rows, .d bounds, .d gains, size, at_, row, slack, .no]
/-- what the expressions of __init__ come to -/
structure InH (em es el : EvF) (ei : EvI) (esl eap eg eh : EvF) (rowsD boundsD gainsD : D) (many : Int) (rows gain held : List D) : Prop where
  ex : ∃ (size n : Nat) (rds its : List D) (rw_ : Nat → D) (sl mk : Nat → List D), rowsD = .list rds ∧
    em (.no :: enI rowsD boundsD gainsD .no .no .no .no) [] = some (.d (.int many), []) ∧
    es (.no :: enI rowsD boundsD gainsD .no .no .no .no) [] = some (.d (.int size), []) ∧
    el (.no :: enI rowsD boundsD gainsD (.d (.int size)) .no .no .no) [] = some (.new [], []) ∧
    ei (.no :: enI rowsD boundsD gainsD (.d (.int size)) .no .no .no) [] = some (its, [.d (.list rds)], []) ∧ its.length = n ∧ n < 1000000 ∧
    (∀ i, i < n → its[i]? = some (.tuple [.int i, rw_ i]) ∧ esl (.no :: enI rowsD boundsD gainsD (.d (.int size)) (.d (.int i)) (.d (rw_ i)) .no) [] = some (.new (sl i), []) ∧
      eap (.no :: enI rowsD boundsD gainsD (.d (.int size)) (.d (.int i)) (.d (rw_ i)) (.d (.list (sl i)))) [] = some (.new (mk i), [])) ∧
    rows = (List.range n).map (fun i => .list (mk i)) ∧
    eg (.no :: enI rowsD boundsD gainsD (.d (.int size)) .no .no .no) [] = some (.new gain, []) ∧
    eh (.ob [("many", .int many)] :: enI rowsD boundsD gainsD (.d (.int size)) .no .no .no) [] = some (.new held, []) ∧ ∀ d ∈ held, ∃ i : Int, d = .int i
theorem ints_any {K : PySem.W.Frag} {F F' : Hp} : ∀ {vs : List V} {ds : List D}, (∀ d ∈ ds, ∃ i : Int, d = .int i) → DqAll K F vs ds → DqAll K F' vs ds
  | _, _, _, .nil => .nil
  | _, _, h, .cons a b => by
    obtain ⟨i, rfl⟩ := h _ (List.mem_cons_self ..)
    cases a
    exact .cons (.int _) (ints_any (fun d hd => h d (List.mem_cons_of_mem _ hd)) b)
section
variable {K : PySem.W.Frag} {C : Addr} {F0 H0 F H : Hp} {p dx : Addr} {fs : List (Str × V)} {rw_ : Option (Addr × List D)} {env : En} {σ : L2.St}
theorem Ini.app {r a : Addr} {rv vs : List V} {ds m : List D} (I : Ini K C F0 H0 F H p dx fs (some (r, ds)) env σ) (h1 : H r = some (.lst rv)) (h2 : F a = some (.lst vs)) (h3 : DqAll K F vs m) :
    Ini K C F0 H0 F (upd H r (.lst (rv ++ [.ref a]))) p dx fs (some (r, ds ++ [.list m])) env σ := by
  obtain ⟨⟨rv', g1, g2⟩, g3, g4⟩ := I.rws r ds rfl
  rw [h1] at g1
  cases g1
  have pr : p ≠ r := fun z => by subst z; rw [I.hp] at h1; cases h1
  refine ⟨fun b o h => ?_, I.loc, by rw [upd_ne pr]; exact I.hp, I.np, I.self, fun a' ds' e => ?_, I.ext, fun b o h q => ?_, I.new⟩
  · rw [upd_ne (ne_of_none h g3)]; exact I.same _ _ h
  · cases e
    exact ⟨⟨_, upd_same, dqAll_snoc g2 (.lst h2 h3)⟩, g3, g4⟩
  · have : b ≠ r := fun z => by subst z; rw [g4] at h; cases h
    rw [upd_ne this]; exact I.keep _ _ h q
/-- the object's own field is read: [("many", ..)] -/
theorem Ini.use_fz {f : EvF} {Q : VK} {ds : List D} {many : Int} {env : En} {σ : L2.St} (I : Ini K C F0 H0 F H p dx fs rw_ (.no :: env) (some (.ref p) :: σ)) (cl : L2.Cls K C) (na : L2.NoAttr K C "many") (hm : fs.lookup ("many" : Str) = some (.int many))
    (e : f (.ob [("many", .int many)] :: env) [] = some (.new ds, [])) (hd : ∀ d ∈ ds, ∃ i : Int, d = .int i)
    (q : ∀ F' H' a vs, Ini K C F0 H0 F' H' p dx fs rw_ (.no :: env) (some (.ref p) :: σ) → Same F F' → F' a = none → H' a = some (.lst vs) → DqAll K F' vs ds → H0 a = none → (∀ ds, rw_ ≠ some (a, ds)) → Q (.ref a) H') : tE K f (some (.ref p) :: σ) H Q := by
  have s1 : Same F (upd F p (.ins C dx fs)) := fun b o h => by rw [upd_ne (ne_of_none h I.np)]; exact h
  have s2 : Same (upd F p (.ins C dx fs)) H := fun b o h => by
    by_cases hb : b = p
    · subst hb; rw [upd_same] at h; cases h; exact I.hp
    · rw [upd_ne hb] at h; exact I.same _ _ h
  have at_ : ∀ (i : Nat) (s : Sl), env[i]? = some s → s = .no ∨ ∃ x v, s = .d x ∧ σ[i]? = some (some v) ∧ Dq K F v x := fun i s h => I.loc.at_ (i + 1) s h
  have S : Sok K (upd F p (.ins C dx fs)) H none (.ob [("many", .int many)] :: env) [] (some (.ref p) :: σ) := by
    have no : ∀ {i : Nat} {ds : List D}, (Sl.ob [("many", .int many)] :: env)[i]? ≠ some (Sl.own ds) := fun {i ds} h => by
      cases i with
      | zero => cases h
      | succ i => rcases at_ i _ h with q | ⟨x, v, q, _⟩ <;> cases q
    refine ⟨s2, by have := I.loc.len; simpa using this, fun i s h => ?_, fun i j ds es h1 h2 hne => (no h1).elim, trivial⟩
    cases i with
    | zero =>
      cases h
      refine ⟨p, C, dx, fs, rfl, upd_same, ⟨cl, fun c e => (by cases e)⟩, fun g x hx => ?_⟩
      simp only [List.lookup_cons] at hx
      split at hx
      · rename_i w
        cases hx
        rw [eq_of_beq w]
        exact ⟨na, _, hm, .int _⟩
      · cases hx
    | succ i =>
      rcases at_ i _ h with rfl | ⟨x, v, rfl, h1, h2⟩
      · trivial
      · exact ⟨v, h1, dq_mono s1 h2⟩
  refine ⟨_, none, _, [], _, [], S, e, fun F1 v H1 P R => ?_⟩
  obtain ⟨a, vs, rfl, h1, _, h2, h3, h4⟩ := R
  have hap : a ≠ p := fun z => by subst z; rw [I.hp] at h2; cases h2
  have k : ∀ b o, H b = some o → H1 b = some o := fun b o h => P.keep b o h (by intro z; cases z)
  have s3 : Same F (fun b => if b = p then none else F1 b) := fun b o h => by
    show (if b = p then none else F1 b) = some o
    rw [if_neg (fun z => by subst z; rw [I.np] at h; cases h)]
    exact P.ext _ _ (s1 _ _ h)
  have s4 : Same (fun b => if b = p then none else F1 b) H1 := fun b o h => by
    have h : (if b = p then none else F1 b) = some o := h
    by_cases hb : b = p
    · rw [if_pos hb] at h; cases h
    · rw [if_neg hb] at h; exact P.same _ _ h
  have nn : ∀ b, F b = none → (∃ o, H b = some o) → b ≠ p → F1 b = none := fun b hb ⟨o, ho⟩ hp => P.none_of (by rw [upd_ne hp]; exact hb) ho
  refine q (fun b => if b = p then none else F1 b) H1 a vs ⟨s4, I.loc.mono s3, k _ _ I.hp, if_pos rfl, rfl, fun a' ds' e' => ?_, I.ext.trans s3, fun b o h q => k _ _ (I.keep b o h q), fun b h => ?_⟩ s3 (by show (if a = p then none else F1 a) = none; rw [if_neg hap]; exact h1) h3 (ints_any hd h4) ?_ fun ds z => ?_
  · obtain ⟨⟨rv, g1, g2⟩, g3, g4⟩ := I.rws a' ds' e'
    have hb : a' ≠ p := fun z => by subst z; rw [I.hp] at g1; cases g1
    exact ⟨⟨rv, k _ _ g1, dqAll_mono s3 g2⟩, by show (if a' = p then none else F1 a') = none; rw [if_neg hb]; exact nn _ g3 ⟨_, g1⟩ hb, g4⟩
  · have h : (if b = p then none else F1 b) ≠ none := h
    by_cases hb : b = p
    · rw [if_pos hb] at h; exact (h rfl).elim
    · rw [if_neg hb] at h
      rcases P.new b h with z | z
      · rw [upd_ne hb] at z; exact I.new b z
      · refine .inr ?_
        cases e : H0 b with
        | none => rfl
        | some o => rw [I.keep b o e hb] at z; cases z
  · cases e : H0 a with
    | none => rfl
    | some o => rw [I.keep a o e hap] at h2; cases h2
  · obtain ⟨⟨rv, g1, _⟩, _⟩ := I.rws a ds z
    rw [g1] at h2; cases h2
end

open PySem PySem.Spec PyProof.Rows L2
open PySem.W (minD maxD)
section
variable {K : PySem.W.Frag} {C : Addr} {F0 H0 F H : Hp} {p dx : Addr} {fs : List (Str × V)} {rw_ : Option (Addr × List D)} {env : En} {σ : L2.St}
theorem Ini.withr {r : Addr} {rv : List V} {ds : List D} (I : Ini K C F0 H0 F H p dx fs none env σ) (h1 : H r = some (.lst rv)) (h2 : DqAll K F rv ds) (h3 : F r = none) (h4 : H0 r = none) : Ini K C F0 H0 F H p dx fs (some (r, ds)) env σ :=
  ⟨I.same, I.loc, I.hp, I.np, I.self, fun a ds' e => by cases e; exact ⟨⟨rv, h1, h2⟩, h3, h4⟩, I.ext, I.keep, I.new⟩
theorem Ini.reenv (I : Ini K C F0 H0 F H p dx fs rw_ env σ) {σ' : L2.St} {env' : En} (S : Sok K F H none env' [] σ') (hp : plE env' = true) (h : σ'[0]? = σ[0]?) : Ini K C F0 H0 F H p dx fs rw_ env' σ' :=
  ⟨I.same, Sok.loc S hp, I.hp, I.np, by rw [h]; exact I.self, I.rws, I.ext, I.keep, I.new⟩
def fs1 (many : Int) : List (Str × V) := putF "many" (.int many) []
def fs2 (many : Int) (r : Addr) : List (Str × V) := putF "rows" (.ref r) (fs1 many)
def fs3 (many : Int) (r g : Addr) : List (Str × V) := putF "gain" (.ref g) (fs2 many r)
def fs4 (many : Int) (r g l : Addr) : List (Str × V) := putF "held" (.ref l) (fs3 many r g)
theorem len1 {many : Int} : (fs1 many).length < 1000 := by
  have := putF_le (f := "many") (v := .int many) []
  unfold fs1
  simp only [List.length_nil] at this
  omega
theorem len2 {many : Int} {r : Addr} : (fs2 many r).length < 900 := by
  have h1 := putF_le (f := "rows") (v := .ref r) (fs1 many)
  have h0 := putF_le (f := "many") (v := .int many) []
  simp only [List.length_nil] at h0
  unfold fs2
  unfold fs1 at h1 ⊢
  omega
theorem len3 {many : Int} {r g : Addr} : (fs3 many r g).length < 950 := by
  have h1 := putF_le (f := "gain") (v := .ref g) (fs2 many r)
  have h0 := len2 (many := many) (r := r)
  unfold fs3
  omega
theorem len4 {many : Int} {r g l : Addr} : (fs4 many r g l).length < 1000 := by
  have h1 := putF_le (f := "held") (v := .ref l) (fs3 many r g)
  have h0 := len3 (many := many) (r := r) (g := g)
  unfold fs4
  omega
theorem lk4 {many : Int} {r g l : Addr} (x : Str) : (fs4 many r g l).lookup x = if x = "held" then some (.ref l) else if x = "gain" then some (.ref g) else if x = "rows" then some (.ref r) else if x = "many" then some (.int many) else none := by
  unfold fs4 fs3 fs2 fs1
  rw [lookup_putF, lookup_putF, lookup_putF, lookup_putF]
  rfl
theorem lk3 {many : Int} {r g : Addr} (x : Str) : (fs3 many r g).lookup x = if x = "gain" then some (.ref g) else if x = "rows" then some (.ref r) else if x = "many" then some (.int many) else none := by
  unfold fs3 fs2 fs1
  rw [lookup_putF, lookup_putF, lookup_putF]
  rfl
theorem lk2 {many : Int} {r : Addr} (x : Str) : (fs2 many r).lookup x = if x = "rows" then some (.ref r) else if x = "many" then some (.int many) else none := by
  unfold fs2 fs1
  rw [lookup_putF, lookup_putF]
  rfl
theorem init_ok (TC : TCls K C) {em es el : EvF} {ei : EvI} {esl eap eg eh : EvF} {rowsD boundsD gainsD : D} {many : Int} {rows gain held : List D} {D : Ends}
    (I : Ini K C F0 H0 F H p dx [] none (.no :: enI rowsD boundsD gainsD .no .no .no .no) (some (.ref p) :: σ)) (E : InH em es el ei esl eap eg eh rowsD boundsD gainsD many rows gain held)
    (q : ∀ F' H' r l σ', Same F' H' → TabAt K C F' H' p r l (.int many) rows gain held → Same F0 F' → (∀ b o, H0 b = some o → b ≠ p → H' b = some o) → (∀ b, F' b ≠ none → F0 b ≠ none ∨ H0 b = none) → H0 r = none → H0 l = none → D.nx σ' H') :
    tInit K em es el ei esl eap eg eh D (some (.ref p) :: σ) H := by
  obtain ⟨size, n, rds, its, rw_, sl, mk, rfl, h1, h2, h3, h4, hn, hn6, hl, rfl, h5, h6, hi⟩ := E.ex
  refine I.use_d h1 fun F1 H1 v1 I1 _ d1 => ?_
  cases d1
  refine I1.fld TC.cl TC.nm (by decide) fun I2 => ?_
  refine I2.use_d h2 fun F3 H3 v3 I3 _ d3 => ?_
  have I3 := I3.name (i := 4) d3 (by decide)
  refine I3.use_free h3 fun F4 H4 r rv I4 _ a1 a2 a3 a4 _ => ?_
  have I4 := I4.withr a2 a3 a1 a4
  refine I4.fld TC.cl TC.nr len1 fun I5 => ?_
  -- the loop
  refine ⟨F4, none, _, [], its, _, [], I5.loc.sok0 I5.same, h4, fun F6 H6 J vs P6 R6 it => ?_⟩
  have I6 := I5.step P6
  have src : SrcAll K F6 F6 (.no :: enI (.list rds) boundsD gainsD (.d (.int size)) .no .no .no) [] vs [.d (.list rds)] := by
    cases R6 with
    | cons a b =>
      cases b
      refine .cons (fun b ds e => ?_) .nil
      cases e
      cases a with
      | lst g1 g2 => exact ⟨_, _, rfl, g2, g1⟩
  have IT := it F6 F6 (.refl _) src
  refine ⟨fun i m σ' H' => m = n - i ∧ i ≤ n ∧ ∃ F' σ1, σ' = some (.ref p) :: σ1 ∧ Same F6 F' ∧ Ini K C F0 H0 F' H' p dx (fs2 many r) (some (r, (List.range i).map fun i => .list (mk i))) (.no :: enI (.list rds) boundsD gainsD (.d (.int size)) .no .no .no) σ',
    ⟨n, by omega, Nat.zero_le _, F6, _, rfl, .refl _, I6⟩, ?_⟩
  rintro i m σ7 H7 ⟨rfl, hin, F7, σ1, e7, s7, I7⟩
  subst e7
  have s7H : Same F6 H7 := s7.trans I7.same
  by_cases hlt : i < n
  · obtain ⟨k1, k2, k3⟩ := hl i hlt
    refine .inr ⟨IT.go F7 H7 _ [] _ i s7 s7H (I7.loc.sok0 I7.same) (by rw [hn]; exact hlt), fun σ' H' => ∃ F' σ1, σ' = some (.ref p) :: σ1 ∧ Same F6 F' ∧ Ini K C F0 H0 F' H' p dx (fs2 many r) (some (r, (List.range (i + 1)).map fun i => .list (mk i))) (.no :: enI (.list rds) boundsD gainsD (.d (.int size)) .no .no .no) σ', fun σ' H' w => ⟨n - (i + 1), by omega, rfl, hlt, w⟩, fun x H8 y => ?_⟩
    obtain ⟨F8, P8, d8⟩ := IT.yld F7 H7 _ [] _ i _ s7 s7H (I7.loc.sok0 I7.same) k1 x H8 y
    have I8 := I7.step P8
    refine ⟨F8, none, _, [], _, .no :: enI (.list rds) boundsD gainsD (.d (.int size)) (.d (.int i)) (.d (rw_ i)) .no, I8.loc.sok0 I8.same, d8, rfl, fun σ9 S9 o9 oe9 => ?_⟩
    have self9 : σ9[0]? = some (some (.ref p)) := by rw [o9.at_ 0 (by decide)]; rfl
    obtain ⟨σ9t, rfl⟩ : ∃ t, σ9 = some (.ref p) :: t := by
      cases σ9 with
      | nil => cases self9
      | cons a t => cases self9; exact ⟨t, rfl⟩
    have I9 := I8.reenv S9 rfl (o9.at_ 0 (by decide))
    refine I9.use_new k2 fun F10 H10 a10 vs10 I10 s10 b1 b2 => ?_
    have I10 := I10.name (i := 7) (x := .list (sl i)) (.lst b1 b2) (by decide)
    obtain ⟨⟨rv10, g1, g2⟩, g3, g4⟩ := I10.rws _ _ rfl
    refine ⟨.ref p, rfl, p, C, dx, fs2 many r, .ref r, rfl, I10.hp, TC.cl, TC.nr, by rw [lk2]; rfl, .inl ⟨rfl, rv10, SqL.of g1⟩, ?_⟩
    refine I10.use_new k3 fun F11 H11 a11 vs11 I11 s11 c1 c2 => ?_
    obtain ⟨⟨rv11, g1, g2⟩, g3, g4⟩ := I11.rws _ _ rfl
    refine ⟨r, rv11, .ref a11, rfl, rfl, g1, ?_, F11, _, rfl, s7.trans (P8.ext.trans (s10.trans s11)), ?_⟩
    · have := dqAll_len g2
      rw [this, List.length_map, List.length_range]
      have := line_big
      omega
    · have I12 := ((I11.app g1 c1 c2).drop (i := 5)).drop (i := 6) |>.drop (i := 7)
      rw [show (List.range (i + 1)).map (fun i => PyData.list (mk i)) = (List.range i).map (fun i => .list (mk i)) ++ [.list (mk i)] by rw [List.range_succ, List.map_append]; rfl]
      exact I12
  · have e : i = n := by omega
    subst e
    refine .inl ⟨by have := IT.stop F7 H7 _ [] _ s7 s7H (I7.loc.sok0 I7.same); rw [hn] at this; exact this, ?_⟩
    refine I7.use_new h5 fun F8 H8 g gv I8 s8 b1 b2 => ?_
    refine I8.fld (f := "gain") (v := .ref g) TC.cl TC.ng (by have := len2 (many := many) (r := r); omega) fun I9 => ?_
    refine I9.use_fz TC.cl TC.nm (by show (fs3 many r g).lookup _ = _; rw [lk3]; rfl) h6 hi fun F10 H10 l lv I10 s10 c1 c2 c3 c4 c5 => ?_
    refine I10.fld (f := "held") (v := .ref l) TC.cl TC.nh (by have := len3 (many := many) (r := r) (g := g); show (fs3 many r g).length < 1000; omega) fun I11 => ?_
    obtain ⟨⟨rv11, g1, g2⟩, g3, g4⟩ := I11.rws _ _ rfl
    have hlp : l ≠ p := fun z => by subst z; rw [I10.hp] at c2; cases c2
    refine q F10 _ r l _ I11.same ⟨⟨dx, fs4 many r g l, g, gv, .int many, I11.hp, ⟨len4, fun x hx => ?_⟩, by rw [lk4]; rfl, .int _, by rw [lk4]; rfl, by rw [lk4]; rfl, s10 _ _ b1, dqAll_mono s10 b2, by rw [lk4]; rfl⟩, ⟨rv11, g1, g2⟩, ⟨lv, by rw [upd_ne hlp]; exact c2, c3⟩, I11.np, g3, c1, fun z => ?_⟩ I11.ext I11.keep I11.new g4 c4
    · rw [lk4]
      unfold flKeys at hx
      simp only [List.mem_cons, not_or] at hx
      rw [if_neg hx.2.2.2.1, if_neg hx.2.2.1, if_neg hx.2.1, if_neg hx.1]
    · subst z
      exact c5 _ rfl
end

open PySem PySem.Spec PyProof.Rows L2
open PySem.W (minD maxD)
section
variable {X : Cx} {k : Nat} {c : Ct}
theorem init_code {n : Nat} (M : Mat X k c) (h0 : slot c "self" = some 0) (t4 : slotT c "size" = some 4) (t7 : slotT c "slack" = some 7) {em es el tg it esl eap eg eh : Expr} (hT : evTg c 9 tg = some TgI) (hpl : plainSet it = true)
    (rm : rawOk em = true) (rs : rawOk es = true) (rl : rawOk el = true) (rsl : rawOk esl = true) (rg : rawOk eg = true) (rh : rawOk eh = true) (na : nst eap = true)
    {q1 q2 q3 q4 q5 q6 q7 q8 q9 q10 q11 q12 q13 q14 q15 q16 q17 q18 q19 q20 q21 q22 q23 : Pos} (hl : (q12.endLine == q13.line) = true) :
    PSs X [.Assign [.Attribute (.Name "self" q1) "many" q2] em q3, .Assign [.Name "size" q4] es q5, .Assign [.Attribute (.Name "self" q6) "rows" q7] el q8,
      .For tg it [.Assign [.Name "slack" q9] esl q10, .Expr (.Call (.Attribute (.Attribute (.Name "self" q11) "rows" q14) "append" q12) [eap] [] q13) q15] [] q16,
      .Assign [.Attribute (.Name "self" q17) "gain" q18] eg q19, .Assign [.Attribute (.Name "self" q20) "held" q21] eh q22]
      (tInit X.K (evE (n + 1) c em) (evE (n + 1) c es) (evE (n + 1) c el) (evI (evE (n + 1) c) c tg it) (evE (n + 1) c esl) (evE (n + 1) c eap) (evE (n + 1) c eg) (evE (n + 1) c eh)) := by
  have hF := (evE_good (k := k) (n + 1)).pe M
  have hp : PassesOwn (model X.prog X.w) X.A X.env X.xe := by rw [M.xe]; exact .never
  refine pss_cons (ps_fld (var_pe M h0) (hF em) (sw_attr rm)) (pss_cons (asg_raw M t4 es rs) (pss_cons (ps_fld (var_pe M h0) (hF el) (sw_attr rl))
    (pss_cons (ps_for hp M.calm (evI_ok M hF) (evTg_ok M hT) (pss_cons (asg_raw M t7 esl rsl) (pss_cons (ps_expr (pe_bm (T := "list") PySem.F.plainAttrs_list PySem.F.slot_list_append PySem.F.type_list_append mt_append (pe_fld (var_pe M h0) rfl) (pa_cons (hF eap) pa_nil (starEach_ns na)) rfl (few1 na) hl (starEach_ns na) (star_plain (es := []) rfl)) rfl) pss_nil)) (fun x => evI_fold (f := evE 0 c) (c := c) (tg := .Name "x" ⟨0, 0, 0, 0⟩) hpl))
    (pss_cons (ps_fld (var_pe M h0) (hF eg) (sw_attr rg)) (pss_cons (ps_fld (var_pe M h0) (hF eh) (sw_attr rh)) pss_nil)))))
end
abbrev RelI := D → D → D → Int → List D → List D → List D → Prop
def spI (K : PySem.W.Frag) (C : Addr) (R : RelI) : Sp := fun vs H Q _ => ∃ (F : Hp) (p dx : Addr) (v1 v2 v3 : V) (d1 d2 d3 : D) (many : Int) (rows gain held : List D), vs = [.ref p, v1, v2, v3] ∧ Same F H ∧ H p = some (.ins C dx []) ∧ F p = none ∧
  Dq K F v1 d1 ∧ Dq K F v2 d2 ∧ Dq K F v3 d3 ∧ R d1 d2 d3 many rows gain held ∧ ∀ F' H' r l, Same F' H' → TabAt K C F' H' p r l (.int many) rows gain held → Same F F' → (∀ b o, H b = some o → b ≠ p → H' b = some o) →
    (∀ b, F' b ≠ none → F b ≠ none ∨ H b = none) → H r = none → H l = none → Q .non H'
section
variable {P : Program} {w : World} {K : PySem.W.Frag} {mg : Str → Option Value} {base : Heap} {k : Nat}
theorem init_meth {q : Str} {st : Stmt} {f : Addr} {fd : FuncData} {fns : List (Str × FnS)} {gl : List (Str × D)} {C : Addr} {em es el : EvF} {ei : EvI} {esl eap eg eh : EvF} (T : Tab P w K mg base k fns gl) (F : L2.Fun K "__init__" q st f fd)
    (S : FnScope NI ["self", "rows", "bounds", "gains"] (defScope st)) (TC : TCls K C)
    (code : ∀ {X : Cx}, Mat X k (ctOf NI (defScope st) fns gl) → PSs X (defBody st) (tInit X.K em es el ei esl eap eg eh)) :
    FnOk P w K mg base CX0 (k + 1) f fd ["self", "rows", "bounds", "gains"] (spI K C (InH em es el ei esl eap eg eh)) := by
  refine F.ok S (fun vs H Q E ⟨_, _, _, _, _, _, _, _, _, _, _, _, _, h, _⟩ => by rw [h]; rfl) fun cdv A outer s H vs Q E hr ⟨F1, p, dx, v1, v2, v3, d1, d2, d3, many, rows, gain, held, h1, h2, h3, h4, x1, x2, x3, h5, h6⟩ => ?_
  subst h1
  have M : Mat (cxOf CX0 P w K mg base NI q (defScope st) f cdv A outer s H E).nox k (ctOf NI (defScope st) fns gl) := ⟨rfl, S.nd, rfl, rfl, fun _ _ => rfl, rfl, hr, fun y s' e => ⟨(T.fns y s' e).ex⟩, T.gl, T.blt, fun _ _ e => (by cases e)⟩
  refine ⟨_, code M, ?_⟩
  have L := loc_start (n := 5) (.cons x1 (.cons x2 (.cons x3 .nil)))
  have L2 : LocOk K F1 (.no :: enI d1 d2 d3 .no .no .no .no) (some (.ref p) :: ([v1, v2, v3].map some ++ List.replicate 5 none)) := ⟨congrArg (· + 1) L.len, fun i s h => by
    cases i with
    | zero => cases h; exact .inl rfl
    | succ i => exact L.at_ i s h⟩
  exact init_ok (F0 := F1) (H0 := H) TC ⟨h2, L2, h3, h4, rfl, fun a ds e => (by cases e), .refl _, fun b o h _ => h, fun b h => .inl h⟩ h5 fun F' H' r l σ' s T e kp nw hr hl => h6 F' H' r l s T e kp nw hr hl
end

open PySem PySem.Spec PyProof.Rows L2
open PySem.W (minD maxD)
/-! # an object in a def: made, run, and then left as it is -/
structure Tst (K : PySem.W.Frag) (C : Addr) (F0 H0 F H : Hp) (p r l : Addr) (m : D) (rows gain held : List D) (env : En) (σ : L2.St) : Prop where
  same : Same F H
  tab : TabAt K C F H p r l m rows gain held
  loc : LocOk K F env σ
  ext : Same F0 F
  keep : ∀ b o, H0 b = some o → H b = some o
  new : ∀ b, F b ≠ none → F0 b ≠ none ∨ H0 b = none
  p0 : H0 p = none
  r0 : H0 r = none
  l0 : H0 l = none
def flC (C : Addr) (m : D) (rows gain held : List D) : List (Str × D) := [("many", m), ("rows", .list rows), ("gain", .list gain), ("held", .list held), ("many", .int C)]
theorem flC_lk {C : Addr} {m : D} {rows gain held : List D} {f : Str} {x : D} (h : (flC C m rows gain held).lookup f = some x) : (flD m rows gain held).lookup f = some x := by
  unfold flC at h
  unfold flD
  simp only [List.lookup_cons] at h ⊢
  split
  · rename_i e; rw [e] at h; exact h
  · rename_i e
    rw [e] at h
    split
    · rename_i e2; rw [e2] at h; exact h
    · rename_i e2
      rw [e2] at h
      split
      · rename_i e3; rw [e3] at h; exact h
      · rename_i e3
        rw [e3] at h
        split
        · rename_i e4; rw [e4] at h; exact h
        · rename_i e4
          rw [e4] at h
          cases h
section
variable {K : PySem.W.Frag} {C : Addr} {F0 H0 F H : Hp} {p r l : Addr} {m : D} {rows gain held : List D} {env : En} {σ : L2.St}
theorem Tst.notT (S : Tst K C F0 H0 F H p r l m rows gain held env σ) {b : Addr} {o : HO} (h : H0 b = some o) : ¬inT p r l b := fun q => by
  rcases q with rfl | rfl | rfl
  · rw [S.p0] at h; cases h
  · rw [S.r0] at h; cases h
  · rw [S.l0] at h; cases h
theorem Tst.name {i : Nat} {v : V} {x : D} (S : Tst K C F0 H0 F H p r l m rows gain held env σ) (d : Dq K F v x) : Tst K C F0 H0 F H p r l m rows gain held (env.set i (.d x)) (σ.set i (some v)) :=
  ⟨S.same, S.tab, S.loc.set d, S.ext, S.keep, S.new, S.p0, S.r0, S.l0⟩
/-- table = .. -/
theorem Tst.put {i : Nat} {v : V} (S : Tst K C F0 H0 F H p r l m rows gain held env σ) : Tst K C F0 H0 F H p r l m rows gain held (env.set i .no) (σ.set i (some v)) := by
  refine ⟨S.same, S.tab, ⟨by simp [S.loc.len], fun j s h => ?_⟩, S.ext, S.keep, S.new, S.p0, S.r0, S.l0⟩
  by_cases e : i = j
  · subst e
    rw [List.getElem?_set] at h
    simp only [if_true] at h
    split at h
    · cases h; exact .inl rfl
    · cases h
  · rw [List.getElem?_set_ne e] at h
    rw [List.getElem?_set_ne e]
    exact S.loc.at_ j s h
theorem Tst.run {R : RelR} {i : Nat} {d : D} {rows' gain' held' : List D} {Q : VK} (S : Tst K C F0 H0 F H p r l m rows gain held env σ) (hi : σ[i]? = some (some (.ref p))) (e : R m rows gain held d rows' gain' held')
    (q : ∀ F' H' v, Tst K C F0 H0 F' H' p r l m rows' gain' held' env σ → Dq K F' v d → Q v H') : tMeth C "run" (spRun K C R) [] E0 (tVar i) tNil σ H Q := by
  obtain ⟨dx, fs, g, gv, mv, h1, h0, _⟩ := S.tab.hp
  refine ⟨.ref p, hi, p, dx, fs, rfl, h1, h0.2 "run" (by decide), ?_⟩
  refine ⟨F, p, r, l, m, rows, gain, held, d, rows', gain', held', rfl, S.same, S.tab, e, fun F' H' v s T b dv => ?_⟩
  refine q F' H' v ⟨s, T, S.loc.mono b.ext, S.ext.trans b.ext, fun c o h => b.keep c o (S.keep c o h) (S.notT h), fun c h => ?_, S.p0, S.r0, S.l0⟩ dv
  rcases b.new c h with z | z
  · exact S.new c z
  · refine .inr ?_
    cases e : H0 c with
    | none => rfl
    | some o => rw [S.keep c o e] at z; cases z
/-- from here on the object stays -/
theorem Tst.fz {i : Nat} (S : Tst K C F0 H0 F H p r l m rows gain held env σ) (TC : TCls K C) (hi : σ[i]? = some (some (.ref p))) : SI K F0 H0 (frz F H p r l) H none (env.set i (.ob (flC C m rows gain held))) [] σ := by
  have noown : ∀ {j : Nat} {ds : List D}, (env.set i (.ob (flC C m rows gain held)))[j]? ≠ some (Sl.own ds) := fun {j ds} h => by
    by_cases e : i = j
    · subst e
      rw [List.getElem?_set] at h
      simp only [if_true] at h
      split at h
      · cases h
      · cases h
    · rw [List.getElem?_set_ne e] at h
      rcases S.loc.at_ j _ h with q | ⟨_, _, q, _⟩ <;> cases q
  refine ⟨⟨S.tab.same2 S.same, by simp [S.loc.len], fun j s h => ?_, fun j k ds es h1 h2 hne => (noown h1).elim, trivial⟩, ⟨S.ext.trans S.tab.same1, S.tab.same2 S.same, fun b h => ?_, fun b o h _ => S.keep b o h, trivial⟩, fun j ds a h1 h2 => (noown h1).elim⟩
  · by_cases e : i = j
    · subst e
      rw [List.getElem?_set] at h
      simp only [if_true] at h
      split at h
      · cases h
        obtain ⟨C', dx, fs, h1, h2, h3⟩ := (S.tab.ob S.same TC).ex
        obtain ⟨dx', fs', g, gv, mv, k1, k0, _⟩ := S.tab.hp
        rw [frz_in (.inl rfl), k1] at h1
        cases h1
        refine ⟨p, C, _, _, hi, by rw [frz_in (.inl rfl)]; exact k1, ⟨TC.cl, fun c e => ?_⟩, fun f x e => h3 f x (flC_lk e)⟩
        cases e
        exact ⟨rfl, k0.2⟩
      · cases h
    · rw [List.getElem?_set_ne e] at h
      rcases S.loc.at_ j s h with rfl | ⟨x, v, rfl, h1, h2⟩
      · trivial
      · exact ⟨v, h1, dq_mono S.tab.same1 h2⟩
  · by_cases q : inT p r l b
    · refine .inr ?_
      rcases q with rfl | rfl | rfl
      · exact S.p0
      · exact S.r0
      · exact S.l0
    · rw [frz_out q] at h
      exact S.new b h
end
/-! ### the making -/
def plS : Sl → Sl
  | .d x => .d x
  | _ => .no
abbrev RelT := List D → Int → List D → List D → List D → Prop
def spT (K : PySem.W.Frag) (C : Addr) (n : Nat) (R : RelT) : Sp := fun vs H Q _ => ∃ (F : Hp) (ds : List D) (many : Int) (rows gain held : List D), ds.length = n ∧ Same F H ∧ DqAll K F vs ds ∧ R ds many rows gain held ∧ ∀ F' H' p r l, Same F' H' → TabAt K C F' H' p r l (.int many) rows gain held → Same F F' →
  (∀ b o, H b = some o → H' b = some o) → (∀ b, F' b ≠ none → F b ≠ none ∨ H b = none) → H p = none → H r = none → H l = none → Q (.ref p) H'
section
variable {K : PySem.W.Frag} {C : Addr} {F0 H0 F H : Hp} {env : En} {σ : L2.St}
theorem args_d {t : Option Addr} {F : Hp} {vs : List V} {ws : List W} (h : ArgAll K F t vs ws) : ∀ {ds : List D}, ws = ds.map .d → DqAll K F vs ds := by
  induction h with
  | nil =>
    intro ds e
    cases ds with
    | nil => exact .nil
    | cons _ _ => cases e
  | d a _ ih =>
    intro ds e
    cases ds with
    | nil => cases e
    | cons x r => cases e; exact .cons a (ih rfl)
  | tp _ _ _ =>
    intro ds e
    cases ds with
    | nil => cases e
    | cons x r => cases e
/-- after the arguments: everything that the slots own is left as it is -/
theorem arg_st {f : EvA} {ws us : List W} {ds : List D} {Q : List V → Hp → Prop} (I : SI K F0 H0 F H none env [] σ) (e : f env [] = some (ws, [])) (hs : seen env ws = some us) (hu : us = ds.map .d)
    (q : ∀ F1 H1 vs, Same F1 H1 → DqAll K F1 vs ds → LocOk K F1 (env.map plS) σ → Same F0 F1 → (∀ b o, H0 b = some o → H1 b = some o) → (∀ b, F1 b ≠ none → F0 b ≠ none ∨ H0 b = none) → Q vs H1) : tA K f σ H Q := by
  refine ⟨F, none, env, [], ws, [], I.ok, e, fun F1 vs H1 P1 r1 => ?_⟩
  have I1 := I.step P1
  have ha := args_d (seen_ok I1.ok r1 hs) hu
  refine q (withOwn env σ F1 H1) H1 vs (withOwn_same I1.ok) ha ⟨by rw [List.length_map]; exact I1.ok.len, fun i s h => ?_⟩ (I1.post.ext.trans (withOwn_ext I1.ok)) (fun b o h => I1.post.keep b o h (by intro z; cases z)) fun b h => ?_
  · rw [List.getElem?_map] at h
    cases he : env[i]? with
    | none => rw [he] at h; cases h
    | some s' =>
      rw [he] at h
      have so := I1.ok.slot i _ he
      cases s' with
      | d x =>
        cases h
        obtain ⟨v, h1, h2⟩ := so
        exact .inr ⟨x, v, rfl, h1, dq_mono (withOwn_ext I1.ok) h2⟩
      | no => cases h; exact .inl rfl
      | own _ => cases h; exact .inl rfl
      | tp => cases h; exact .inl rfl
      | ob _ => cases h; exact .inl rfl
  · by_cases ho : OwnAddr env σ b
    · obtain ⟨i, es, h1, h2⟩ := ho
      exact .inr (I1.own i es b h1 h2)
    · rw [withOwn_no ho] at h
      exact I1.post.new b h
theorem use_T {R : RelT} {f : EvA} {n : Nat} {ws us : List W} {ds : List D} {many : Int} {rows gain held : List D} {Q : VK} (I : SI K F0 H0 F H none env [] σ) (e : f env [] = some (ws, [])) (hs : seen env ws = some us) (hu : us = ds.map .d) (hn : ds.length = n) (hR : R ds many rows gain held)
    (q : ∀ F' H' p r l, Tst K C F0 H0 F' H' p r l (.int many) rows gain held (env.map plS) σ → Q (.ref p) H') : tCall (spT K C n R) [] E0 (tA K f) σ H Q := by
  refine arg_st I e hs hu fun F1 H1 vs s1 d1 l1 e1 k1 n1 => ?_
  have up : ∀ {b : Addr}, H1 b = none → H0 b = none := fun {b} h => by
    cases e : H0 b with
    | none => rfl
    | some o => rw [k1 b o e] at h; cases h
  refine ⟨F1, ds, many, rows, gain, held, hn, s1, by rw [List.append_nil]; exact d1, hR, fun F' H' p r l s T ext keep new hp hr hl => ?_⟩
  refine q F' H' p r l ⟨s, T, l1.mono ext, e1.trans ext, fun b o h => keep b o (k1 b o h), fun b h => ?_, up hp, up hr, up hl⟩
  rcases new b h with z | z
  · exact n1 b z
  · exact .inr (up z)
theorem use_mk {R : RelI} {f : EvA} {ws us : List W} {d1 d2 d3 : D} {many : Int} {rows gain held : List D} {Q : VK} (I : SI K F0 H0 F H none env [] σ) (e : f env [] = some (ws, [])) (hs : seen env ws = some us) (hu : us = [.d d1, .d d2, .d d3]) (hR : R d1 d2 d3 many rows gain held)
    (q : ∀ F' H' p r l, Tst K C F0 H0 F' H' p r l (.int many) rows gain held (env.map plS) σ → Q (.ref p) H') : tMake C (spI K C R) [] E0 (tA K f) σ H Q := by
  refine arg_st (ds := [d1, d2, d3]) I e hs hu fun F1 H1 vs s1 a1 l1 e1 k1 n1 => ?_
  have up : ∀ {b : Addr}, H1 b = none → H0 b = none := fun {b} h => by
    cases e : H0 b with
    | none => rfl
    | some o => rw [k1 b o e] at h; cases h
  intro x dx hx hdx hne
  cases a1 with
  | cons a a1 =>
    cases a1 with
    | cons b a1 =>
      cases a1 with
      | cons c a1 =>
        cases a1
        have up2 : ∀ {b : Addr}, (upd (upd H1 dx (.own x)) x (.ins C dx [])) b = none → H1 b = none := fun {b} h => by
          by_cases q1 : b = x
          · subst q1; exact hx
          · rw [upd_ne q1] at h
            by_cases q2 : b = dx
            · subst q2; exact hdx
            · rw [upd_ne q2] at h; exact h
        have Fx : F1 x = none := s1.free hx
        have Fdx : F1 dx = none := s1.free hdx
        refine ⟨F1, x, dx, _, _, _, d1, d2, d3, many, rows, gain, held, rfl, fun b o h => ?_, upd_same, Fx, a, b, c, hR, fun F' H' r l s T ext keep new hr hl => ⟨rfl, ?_⟩⟩
        · rw [upd_ne (ne_of_none h Fx), upd_ne (ne_of_none h Fdx)]
          exact s1 _ _ h
        · have kp : ∀ b o, H1 b = some o → H' b = some o := fun b o h => by
            have h1 : b ≠ x := fun z => by subst z; rw [hx] at h; cases h
            have h2 : b ≠ dx := fun z => by subst z; rw [hdx] at h; cases h
            exact keep b o (by rw [upd_ne h1, upd_ne h2]; exact h) h1
          refine q F' H' x r l ⟨s, T, l1.mono ext, e1.trans ext, fun b o h => kp b o (k1 b o h), fun b h => ?_, up hx, up (up2 hr), up (up2 hl)⟩
          rcases new b h with z | z
          · exact n1 b z
          · exact .inr (up (up2 z))
end

open PySem PySem.Spec PyProof.Rows L2
open PySem.W (minD maxD)
/-! # defs that make a table and run it -/
open Classical in
/-- a meaning told by a relation: any answer that it allows -/
noncomputable def relSem (R : List W → D → Prop) : Sem1 := fun ws τ => if h : ∃ d, R ws d then some (choose h, τ) else none
theorem relSem_of {R : List W → D → Prop} {ws : List W} {τ τ' : Tp} {d : D} (h : relSem R ws τ = some (d, τ')) : R ws d ∧ τ' = τ := by
  unfold relSem at h
  split at h
  · rename_i h'
    cases h
    exact ⟨Classical.choose_spec h', rfl⟩
  · cases h
theorem relSem_ex {R : List W → D → Prop} {ws : List W} {d : D} (τ : Tp) (h : R ws d) : ∃ d', R ws d' ∧ relSem R ws τ = some (d', τ) := by
  have h' : ∃ d, R ws d := ⟨d, h⟩
  refine ⟨Classical.choose h', Classical.choose_spec h', ?_⟩
  unfold relSem
  rw [dif_pos h']
def rNon : R2 := fun x y H Q => isP y = true ∧ Q (.bl (!decide (x = y))) H
def tSv1 (K : PySem.W.Frag) (C : Addr) (R : RelR) (mk : TE) (i : Nat) (en : EvF) (rest : EvS) : TS :=
  tSeq (tAsg mk (gName i)) (tSeq (tIfS (tTest (tOp rNon (tMeth C "run" (spRun K C R) [] E0 (tVar i) tNil) (tC .non))) (tSeq (tRet (tE K en)) tNext) tNext) (tS K rest))
def tSv2 (K : PySem.W.Frag) (C : Addr) (R : RelR) (mk : TE) (i j : Nat) (rest : EvS) : TS :=
  tSeq (tAsg mk (gName i)) (tSeq (tAsg (tMeth C "run" (spRun K C R) [] E0 (tVar i) tNil) (gName j)) (tS K rest))
section
variable {K : PySem.W.Frag} {C : Addr} {F0 H0 F H : Hp} {env : En} {σ : L2.St}
theorem Tst.post {p r l : Addr} {m : D} {rows gain held : List D} (S : Tst K C F0 H0 F H p r l m rows gain held env σ) : Post K none [] F0 H0 F H := ⟨S.ext, S.same, S.new, fun b o h _ => S.keep b o h, trivial⟩
def RunV (d : D) : Prop := d = .none ∨ ∃ i : Int, d = .int i
theorem sv1_ok (TC : TCls K C) {R : RelR} {mk : TE} {i : Nat} {en : EvF} {rest : EvS} {De : Ends} {many : Int} {rows gain held rows' gain' held' : List D} {dr d : Ev.D} {τ : Tp} (hi : i < env.length)
    (hmk : ∀ Q : VK, (∀ F' H' p r l, Tst K C F0 H0 F' H' p r l (.int many) rows gain held (env.map plS) σ → Q (.ref p) H') → mk σ H Q) (hl : σ.length = env.length)
    (hR : R (.int many) rows gain held dr rows' gain' held') (hen : en ((env.map plS).set i .no) [] = some (.d .none, []))
    (hd : ((∃ a : Int, dr = .int a) ∧ d = .none) ∨ (dr = .none ∧ rest ((env.map plS).set i (.ob (flC C (.int many) rows' gain' held'))) [] = some (.rt d τ)))
    (hD : ∀ τ F' v H', Post K none τ F0 H0 F' H' → Dq K F' v d → De.rt v H') : tSv1 K C R mk i en rest De σ H := by
  refine hmk _ fun F1 H1 p r l S1 => ?_
  have S2 := S1.put (i := i) (v := .ref p)
  have hp : (σ.set i (some (.ref p)))[i]? = some (some (.ref p)) := by
    rw [List.getElem?_set]
    simp only [if_true]
    rw [if_pos (by omega)]
  refine S2.run hp hR fun F3 H3 v S3 dv => ?_
  rcases hd with ⟨⟨a, rfl⟩, rfl⟩ | ⟨rfl, hr⟩
  · cases dv
    refine ⟨rfl, true, rfl, ?_⟩
    show (if true = true then _ else _)
    rw [if_pos rfl]
    exact ⟨F3, none, _, [], _, [], S3.loc.sok0 S3.same, hen, fun F4 v4 H4 P R => hD [] F4 v4 H4 (S3.post.trans P) R⟩
  · cases dv
    refine ⟨rfl, false, rfl, ?_⟩
    show (if false = true then _ else _)
    rw [if_neg (by decide)]
    have I := S3.fz TC hp
    rw [List.set_set] at I
    exact ⟨F0, H0, _, none, _, [], _, I, hr, fun F' H' v P R => hD τ F' v H' P R⟩
theorem sv2_ok (TC : TCls K C) {R : RelR} {mk : TE} {i j : Nat} {rest : EvS} {De : Ends} {many : Int} {rows gain held rows' gain' held' : List D} {dr d : Ev.D} {τ : Tp} (hi : i < env.length) (hij : j ≠ i)
    (hmk : ∀ Q : VK, (∀ F' H' p r l, Tst K C F0 H0 F' H' p r l (.int many) rows gain held (env.map plS) σ → Q (.ref p) H') → mk σ H Q) (hl : σ.length = env.length)
    (hR : R (.int many) rows gain held dr rows' gain' held')
    (hr : rest ((((env.map plS).set i .no).set j (.d dr)).set i (.ob (flC C (.int many) rows' gain' held'))) [] = some (.rt d τ))
    (hD : ∀ τ F' v H', Post K none τ F0 H0 F' H' → Dq K F' v d → De.rt v H') : tSv2 K C R mk i j rest De σ H := by
  refine hmk _ fun F1 H1 p r l S1 => ?_
  have S2 := S1.put (i := i) (v := .ref p)
  have hp : (σ.set i (some (.ref p)))[i]? = some (some (.ref p)) := by
    rw [List.getElem?_set]
    simp only [if_true]
    rw [if_pos (by omega)]
  refine S2.run hp hR fun F3 H3 v S3 dv => ?_
  have S4 := S3.name (i := j) dv
  have I := S4.fz TC (i := i) (by rw [List.getElem?_set_ne hij]; exact hp)
  exact ⟨F0, H0, _, none, _, [], _, I, hr, fun F' H' v P R => hD τ F' v H' P R⟩
end

open PySem PySem.Spec PyProof.Rows L2
open PySem.W (minD maxD)
/-! # the defs that make a table, as defs with a meaning -/
def ctM (N : List Str) (sc : Scope) (fns : List (Str × FnS)) (gl : List (Str × D)) (cls : Int) (mth : List (Str × MtS)) : Ct := ⟨N, sc, fun _ => true, fns, gl, cls, mth⟩
def MthAll (P : Program) (w : World) (K : PySem.W.Frag) (mg : Str → Option Value) (base : Heap) (k : Nat) (cls : Int) (mth : List (Str × MtS)) : Prop :=
  ∀ m s, mth.lookup m = some s → ∀ C : Addr, (C : Int) = cls → L2.Cls K C ∧ Mth P w K mg base k C m (spM K s.n s.sem)
/-- a def that gives a table just made -/
structure TFn (P : Program) (w : World) (K : PySem.W.Frag) (mg : Str → Option Value) (base : Heap) (k : Nat) (x : Str) (C : Addr) (n : Nat) (R : RelT) : Prop where
  ex : ∃ (f : Addr) (fd : FuncData) (ps : List Str), mg x = some (.ref f) ∧ PySem.W.keepIn K (.ref f) = true ∧ Binds K fd ps [] ∧ FnOk P w K mg base CX0 k f fd ps (spT K C n R)
/-- the class, called by its name -/
structure MkC (P : Program) (w : World) (K : PySem.W.Frag) (mg : Str → Option Value) (base : Heap) (k : Nat) (x : Str) (C : Addr) (R : RelI) : Prop where
  ex : ∃ (f : Addr) (fd : FuncData) (ps : List Str), Mk K C f ∧ FnOk P w K mg base CX0 k f fd ps (spI K C R) ∧ mg x = some (.ref C) ∧ Binds K fd ps []
section
variable {X : Cx} {k : Nat} {c : Ct}
theorem tfn_pe {n m : Nat} {x : Str} {C : Addr} {R : RelT} {e : Expr} {es : List Expr} {p pos : Pos} (F : TFn X.prog X.w X.K X.mg X.base k x C n R) (M : Mat X k c) (hg : isGl c x = true) (hs : (e :: es).all nst = true) :
    PE X (.Call (.Name x p) (e :: es) [] pos) (tCall (spT X.K C n R) [] E0 (tA X.K (evA (evE (m + 1) c) (e :: es)))) := by
  obtain ⟨f, fd, ps, h1, h2, h3, h5⟩ := F.ex
  obtain ⟨g1, g2, g3⟩ := gl_of M hg
  have hs' := hs
  rw [List.all_cons, Bool.and_eq_true] at hs'
  exact pe_call h5 M.room g1 h1 h2 h3 .nil pass0 (evA_ok ((evE_good (m + 1)).pe M) hs) g2 (starEach_ns hs'.1) (star_plain hs'.2)
theorem mkc_pe {j m : Nat} {x : Str} {C : Addr} {R : RelI} {e : Expr} {es : List Expr} {p pos : Pos} (F : MkC X.prog X.w X.K X.mg X.base j x C R) (M : Mat X k c) (hj : j + 1 ≤ k) (hg : isGl c x = true) (hs : (e :: es).all nst = true) :
    PE X (.Call (.Name x p) (e :: es) [] pos) (tMake C (spI X.K C R) [] E0 (tA X.K (evA (evE (m + 1) c) (e :: es)))) := by
  obtain ⟨f, fd, ps, h1, h2, h3, h5⟩ := F.ex
  obtain ⟨g1, g2, g3⟩ := gl_of M hg
  have hs' := hs
  rw [List.all_cons, Bool.and_eq_true] at hs'
  exact pe_make h1 h2 (M.room.mono hj) g1 h3 h5 .nil pass0 (evA_ok ((evE_good (m + 1)).pe M) hs) g2 (starEach_ns hs'.1) (star_plain hs'.2)
theorem sv1_code {n i : Nat} {own : Nat → Bool} {C : Addr} {R : RelR} (M : Mat X k c) (hk : c.sc.kind = .function) (cl : L2.Cls X.K C) (mr : Mth X.prog X.w X.K X.mg X.base k C "run" (spRun X.K C R)) {x : Str} (hi : slot c x = some i) (ti : slotT c x = some i) {me en : Expr} {mk : TE} (hm : PE X me mk) (hn : notComp me = true)
    {rest : List Stmt} {j : Nat} {q1 q2 q3 q4 q5 q6 q7 q8 q9 : Pos} (hl : (q4.endLine == q5.line) = true) :
    PSs X (.Assign [.Name x q1] me q2 :: .If (.Compare (.Call (.Attribute (.Name x q3) "run" q4) [] [] q5) [.IsNot] [.Constant .none j q6] q7) [.Return (some en) q8] [] q9 :: rest)
      (tSv1 X.K C R mk i (evE (n + 1) c en) (evB (evS own (evE (n + 1) c) c 40) rest)) := by
  obtain ⟨h1, h2, h3⟩ := slotT_of M ti
  exact pss_cons (ps_set M.nd h1 h2 hm (sw_name hn) h3) (pss_cons (ps_if (pt_cmpR op_isNotP (mth_pe0 mr cl M.room (Nat.le_refl _) (var_pe M hi) (call_ht rfl rfl hl)) pe_non rfl) (pss_cons (ps_ret ((evE_good (n + 1)).pe M en)) pss_nil) pss_nil) (evB_ok M hk rest))
theorem sv2_code {n i l : Nat} {own : Nat → Bool} {C : Addr} {R : RelR} (M : Mat X k c) (hk : c.sc.kind = .function) (cl : L2.Cls X.K C) (mr : Mth X.prog X.w X.K X.mg X.base k C "run" (spRun X.K C R)) {x y : Str} (hi : slot c x = some i) (ti : slotT c x = some i) (tl : slotT c y = some l) {me : Expr} {mk : TE} (hm : PE X me mk) (hn : notComp me = true)
    {rest : List Stmt} {q1 q2 q3 q4 q5 q6 q7 : Pos} (hl : (q4.endLine == q5.line) = true) :
    PSs X (.Assign [.Name x q1] me q2 :: .Assign [.Name y q6] (.Call (.Attribute (.Name x q3) "run" q4) [] [] q5) q7 :: rest)
      (tSv2 X.K C R mk i l (evB (evS own (evE (n + 1) c) c 40) rest)) := by
  obtain ⟨h1, h2, h3⟩ := slotT_of M ti
  obtain ⟨g1, g2, g3⟩ := slotT_of M tl
  exact pss_cons (ps_set M.nd h1 h2 hm (sw_name hn) h3) (pss_cons (ps_set M.nd g1 g2 (mth_pe0 mr cl M.room (Nat.le_refl _) (var_pe M hi) (call_ht rfl rfl hl)) rfl g3) (evB_ok M hk rest))
end
section
variable {P : Program} {w : World} {K : PySem.W.Frag} {mg : Str → Option Value} {base : Heap} {k : Nat}
/-- a def whose meaning is told by a relation -/
theorem fn_rel {x : Str} {st : Stmt} {f : Addr} {fd : FuncData} {N ps : List Str} {fns : List (Str × FnS)} {gl : List (Str × D)} {cls : Int} {mth : List (Str × MtS)} {R : List W → D → Prop} (T : Tab P w K mg base k fns gl) (MA : MthAll P w K mg base k cls mth) (F : L2.Fun K x x st f fd) (S : FnScope N ps (defScope st))
    (hR : ∀ ws d, R ws d → noTp ws = true)
    (body : ∀ {X : Cx}, X.prog = P → X.w = w → X.K = K → X.mg = mg → X.base = base → Mat X k (ctM N (defScope st) fns gl cls mth) → ∀ ws d, R ws d → ∃ t, PSs X (defBody st) t ∧ ∀ F H vs (De : Ends), SI K F H F H none (startE N ws) [] (L2.start N vs) → (∀ τ F' v H', Post K none τ F H F' H' → Dq K F' v d → De.rt v H') → t De (L2.start N vs) H) :
    FnOk P w K mg base CX0 (k + 1) f fd ps (spD K ps.length (relSem R)) := by
  refine F.ok S (fun vs H Q E h => spD_len h) fun cdv A outer s H vs Q E hr ⟨F1, t, ws, τ, d, τ', h1, h2, h3, h4, h5, h6⟩ => ?_
  obtain ⟨r, rfl⟩ := relSem_of h5
  have M : Mat (cxOf CX0 P w K mg base N x (defScope st) f cdv A outer s H E).nox k (ctM N (defScope st) fns gl cls mth) := ⟨rfl, S.nd, rfl, rfl, fun _ _ => rfl, rfl, hr, fun y s' e => ⟨(T.fns y s' e).ex⟩, T.gl, T.blt, MA⟩
  obtain ⟨tt, hc, hb⟩ := body rfl rfl rfl rfl rfl M ws d r
  refine ⟨tt, hc, ?_⟩
  have a0 := args_notp (t' := none) h4 (hR _ _ r)
  exact hb F1 H vs _ (start_si (τ := []) a0 h2 trivial) fun τ2 F' v H' P dv => h6 F' v H' (P.untaped (start_si (N := N) h4 h2 h3).ok) dv
/-- a def that only makes a table -/
theorem fn_tab {x : Str} {st : Stmt} {f : Addr} {fd : FuncData} {N ps : List Str} {fns : List (Str × FnS)} {gl : List (Str × D)} {C : Addr} {R : RelI} {a : EvA} (T : Tab P w K mg base k fns gl) (F : L2.Fun K x x st f fd) (S : FnScope N ps (defScope st))
    (code : ∀ {X : Cx}, X.prog = P → X.w = w → X.K = K → X.mg = mg → X.base = base → Mat X k (ctOf N (defScope st) fns gl) → PSs X (defBody st) (tSeq (tRet (tMake C (spI X.K C R) [] E0 (tA X.K a))) tNext)) :
    FnOk P w K mg base CX0 (k + 1) f fd ps (spT K C ps.length fun ds many rows gain held => ∃ ws us d1 d2 d3, a (startE N (ds.map .d)) [] = some (ws, []) ∧ seen (startE N (ds.map .d)) ws = some us ∧ us = [.d d1, .d d2, .d d3] ∧ R d1 d2 d3 many rows gain held) := by
  refine F.ok S (fun vs H Q E ⟨_, ds, _, _, _, _, h, _, h2, _⟩ => by rw [dqAll_len h2, h]) fun cdv A outer s H vs Q E hr ⟨F1, ds, many, rows, gain, held, h1, h2, h3, ⟨ws, us, d1, d2, d3, g1, g2, g3, g4⟩, h5⟩ => ?_
  have M : Mat (cxOf CX0 P w K mg base N x (defScope st) f cdv A outer s H E).nox k (ctOf N (defScope st) fns gl) := ⟨rfl, S.nd, rfl, rfl, fun _ _ => rfl, rfl, hr, fun y s' e => ⟨(T.fns y s' e).ex⟩, T.gl, T.blt, fun _ _ e => (by cases e)⟩
  refine ⟨_, code rfl rfl rfl rfl rfl M, ?_⟩
  have aa : ∀ {vs : List V} {ds : List D}, DqAll K F1 vs ds → ArgAll K F1 none vs (ds.map .d) := fun {vs ds} h => by
    induction ds generalizing vs with
    | nil => cases h; exact .nil
    | cons d r ih => cases h with | cons a b => exact .d a (ih b)
  refine use_mk (start_si (τ := []) (aa h3) h2 trivial) g1 g2 g3 g4 fun F' H' p r l S' => ?_
  exact h5 F' H' p r l S'.same S'.tab S'.ext S'.keep S'.new S'.p0 S'.r0 S'.l0
end

open PySem PySem.Spec PyProof.Rows L2
open PySem.W (minD maxD)
/-! # a list of lists just made, each of its own -/
inductive RwA (K : PySem.W.Frag) (F H : Hp) : List Addr → List (List D) → Prop
  | nil : RwA K F H [] []
  | cons {r : Addr} {rs : List Addr} {row : List D} {rows : List (List D)} {vs : List V} : F r = none → H r = some (.lst vs) → DqAll K F vs row → RwA K F H rs rows → RwA K F H (r :: rs) (row :: rows)
theorem RwA.len {K : PySem.W.Frag} {F H : Hp} {rs : List Addr} {rows : List (List D)} (h : RwA K F H rs rows) : rs.length = rows.length := by
  induction h with
  | nil => rfl
  | cons _ _ _ _ ih => rw [List.length_cons, List.length_cons, ih]
theorem RwA.mem {K : PySem.W.Frag} {F H : Hp} {rs : List Addr} {rows : List (List D)} (h : RwA K F H rs rows) : ∀ r ∈ rs, F r = none ∧ ∃ vs, H r = some (.lst vs) := by
  induction h with
  | nil => intro r hr; cases hr
  | cons a b c _ ih =>
    intro r hr
    rcases List.mem_cons.mp hr with rfl | hr
    · exact ⟨a, _, b⟩
    · exact ih r hr
theorem RwA.mono {K : PySem.W.Frag} {F H F' H' : Hp} {rs : List Addr} {rows : List (List D)} (h : RwA K F H rs rows) (e : Same F F') (k : ∀ r ∈ rs, ∀ o, H r = some o → F r = none → H' r = some o ∧ F' r = none) : RwA K F' H' rs rows := by
  induction h with
  | nil => exact .nil
  | cons a b c _ ih =>
    obtain ⟨k1, k2⟩ := k _ (List.mem_cons_self ..) _ b a
    exact .cons k2 k1 (dqAll_mono e c) (ih fun r hr => k r (List.mem_cons_of_mem _ hr))
theorem RwA.post {K : PySem.W.Frag} {F H F' H' : Hp} {τ : Tp} {rs : List Addr} {rows : List (List D)} (h : RwA K F H rs rows) (P : Post K none τ F H F' H') : RwA K F' H' rs rows :=
  h.mono P.ext fun r hr o ho hf => ⟨P.keep r o ho (by intro z; cases z), P.none_of hf ho⟩
theorem RwA.snoc {K : PySem.W.Frag} {F H : Hp} {rs : List Addr} {rows : List (List D)} {a : Addr} {vs : List V} {row : List D} (h : RwA K F H rs rows) (h1 : F a = none) (h2 : H a = some (.lst vs)) (h3 : DqAll K F vs row) : RwA K F H (rs ++ [a]) (rows ++ [row]) := by
  induction h with
  | nil => exact .cons h1 h2 h3 .nil
  | cons a b c _ ih => exact .cons a b c ih
theorem RwA.updNe {K : PySem.W.Frag} {F H : Hp} {rs : List Addr} {rows : List (List D)} {a : Addr} {o : HO} (h : RwA K F H rs rows) (ha : a ∉ rs) : RwA K F (upd H a o) rs rows :=
  h.mono (.refl _) fun r hr o' ho hf => ⟨by rw [upd_ne (fun z => ha (by rw [← z]; exact hr))]; exact ho, hf⟩
inductive LcM (tg : Tg) (tt te : EvF) (env : En) : List D → List (List D) → Prop
  | nil : LcM tg tt te env [] []
  | cons {d : D} {r : List D} {env1 : En} {row : List D} {l : List (List D)} : bindT tg d env = some env1 → tt env1 [] = some (.d (.bool true), []) → te env1 [] = some (.new row, []) → LcM tg tt te env r l → LcM tg tt te env (d :: r) (row :: l)
inductive Lc2M (tg : Tg) (tt : EvF) (fi1 : EvI) (tg1 : Tg) (tt1 te : EvF) (vs1 : List Nat) (env : En) : List D → List (List D) → Prop
  | nil : Lc2M tg tt fi1 tg1 tt1 te vs1 env [] []
  | cons {d : D} {r its : List D} {ws : List W} {env1 : En} {l l2 : List (List D)} : bindT tg d env = some env1 → tt env1 [] = some (.d (.bool true), []) → fi1 env1 [] = some (its, ws, []) → ws.all isDW = true → its.length ≤ 1000 →
      LcM tg1 tt1 te (wipeE env1 vs1) its l → Lc2M tg tt fi1 tg1 tt1 te vs1 env r l2 → Lc2M tg tt fi1 tg1 tt1 te vs1 env (d :: r) (l ++ l2)
section
variable {K : PySem.W.Frag}
/-- the rows so far, behind the heap F1 H1 -/
structure Mk1 (K : PySem.W.Frag) (F1 H1 F' H' : Hp) (D : Addr) (rs : List Addr) (rows : List (List Ev.D)) : Prop where
  post : Post K none [] F1 H1 F' H'
  hD : H' D = some (.lst (rs.map V.ref))
  fD : F' D = none
  rw_ : RwA K F' H' rs rows
  nd : rs.Nodup
  new : ∀ r ∈ rs, H1 r = none ∧ r ≠ D
theorem Mk1.step {F1 H1 F' H' F2 H2 : Hp} {D : Addr} {rs : List Addr} {rows : List (List Ev.D)} (m : Mk1 K F1 H1 F' H' D rs rows) (P : Post K none [] F' H' F2 H2) : Mk1 K F1 H1 F2 H2 D rs rows :=
  ⟨m.post.trans P, P.keep _ _ m.hD (by intro z; cases z), P.none_of m.fD m.hD, m.rw_.post P, m.nd, m.new⟩
theorem Mk1.app {F1 H1 F' H' F2 H2 : Hp} {D a : Addr} {vs : List V} {row : List Ev.D} {rs : List Addr} {rows : List (List Ev.D)} (m : Mk1 K F1 H1 F' H' D rs rows) (hD : H1 D = none) (P : Post K none [] F' H' F2 H2) (h1 : F2 a = none) (h2 : H' a = none) (h3 : H2 a = some (.lst vs)) (h4 : DqAll K F2 vs row) :
    H2 D = some (.lst (rs.map V.ref)) ∧ Mk1 K F1 H1 F2 (upd H2 D (.lst (rs.map V.ref ++ [V.ref a]))) D (rs ++ [a]) (rows ++ [row]) := by
  have m2 := m.step P
  have na : a ≠ D := fun z => by subst z; rw [m.hD] at h2; cases h2
  have nr : a ∉ rs := fun z => by
    obtain ⟨_, vs', e⟩ := m.rw_.mem a z
    rw [h2] at e; cases e
  refine ⟨m2.hD, m2.post.updNew hD m2.fD (by intro z; cases z), by rw [upd_same, List.map_append]; rfl, m2.fD, (m2.rw_.snoc h1 h3 h4).updNe fun z => ?_, ?_, fun r hr => ?_⟩
  · rcases List.mem_append.mp z with z | z
    · exact (m.new _ z).2 rfl
    · exact na (List.mem_singleton.mp z).symm
  · rw [List.nodup_append]
    refine ⟨m.nd, by simp, fun x hx y hy e => ?_⟩
    have hy : y = a := by simpa using hy
    subst hy; subst e
    exact nr hx
  · rcases List.mem_append.mp hr with hr | hr
    · exact m.new r hr
    · have hr : r = a := by simpa using hr
      subst hr
      exact ⟨m.post.bnone h2 (by intro z; cases z), na⟩
abbrev PostM (K : PySem.W.Frag) (F H : Hp) (rows : List (List D)) (Q : VK) : Prop := ∀ F' H' a rs, Post K none [] F H F' H' → H a = none → F' a = none → H' a = some (.lst (rs.map V.ref)) → RwA K F' H' rs rows → rs.Nodup → (∀ r ∈ rs, H r = none ∧ r ≠ a) → Q (.ref a) H'
theorem lcM_sem {fi : EvI} {tg : Tg} {tt te : EvF} {vs : List Nat} {tt' : TT} (ht : ∀ σ H Q, tT K tt σ H Q → tt' σ H Q) (hv : ∀ j ∈ tg.slots, j ∈ vs) {F H : Hp} {env : En} {σ : L2.St} {Q : VK} {its : List D} {ws : List W} {rows : List (List D)}
    (S : Sok K F H none env [] σ) (e1 : fi env [] = some (its, ws, [])) (hg : ws.all notTp = true) (hlen : its.length ≤ 1000000) (e2 : LcM tg tt te (wipeE env vs) its rows) (q : PostM K F H rows Q) :
    tLc (tI K fi) (tG K tg) tt' (tE K te) vs σ H Q := by
  refine ⟨F, none, env, [], its, ws, [], S, e1, fun F1 H1 J us P1 r1 it => ?_⟩
  intro D hD
  have S1 := S.post P1
  have IT := it F1 (offT none H1) (.refl _) (src_c S1 r1 hg)
  refine ⟨fun i m H' => m = its.length - i ∧ i ≤ its.length ∧ ∃ F' rs racc rest, Mk1 K F1 H1 F' H' D rs racc ∧ LcM tg tt te (wipeE env vs) (its.drop i) rest ∧ rows = racc ++ rest ∧ rs.length ≤ i,
    ⟨its.length, by simp, Nat.zero_le _, F1, [], [], rows, ⟨S1.laid hD, upd_same, S1.fnone hD, .nil, .nil, fun r hr => (by cases hr)⟩, by simpa using e2, rfl, Nat.le_refl _⟩, ?_⟩
  rintro i m H' ⟨rfl, hi, F', rs, racc, rest, m1, hgo, hl, hacc⟩
  have S2 := S1.post m1.post
  by_cases hlt : i < its.length
  · refine .inr ⟨IT.go F' H' env [] σ i m1.post.ext (same_offT m1.post) S2 hlt, fun H'' => ∃ F' rs racc rest, Mk1 K F1 H1 F' H'' D rs racc ∧ LcM tg tt te (wipeE env vs) (its.drop (i + 1)) rest ∧ rows = racc ++ rest ∧ rs.length ≤ i + 1,
      fun H'' n => ⟨its.length - (i + 1), by omega, rfl, hlt, n⟩, fun x H2 y => ?_⟩
    obtain ⟨F2, P2, dx⟩ := IT.yld F' H' env [] σ i its[i] m1.post.ext (same_offT m1.post) S2 (by simp [hlt]) x H2 y
    rw [List.drop_eq_getElem_cons hlt] at hgo
    cases hgo with
    | @cons _ _ env1 row l hb h3 h4 hr =>
      refine ⟨F2, none, wipeE env vs, [], its[i], env1, (S2.post P2).wipe vs, dx, hb, fun σ2 S3 o oe => ⟨wipe_off o hv, ?_⟩⟩
      refine ht _ _ _ ⟨F2, none, env1, [], true, [], S3, h3, fun F3 H3 P3 => ?_⟩
      show ite _ _ _
      rw [if_pos rfl]
      refine ⟨F3, none, env1, [], _, [], S3.post P3, h4, fun F4 v4 H4 P4 r4 => ?_⟩
      obtain ⟨a, vs4, rfl, g1, _, g2, g3, g4⟩ := r4
      obtain ⟨k1, k2⟩ := (m1.step (P2.trans P3)).app hD P4 g1 g2 g3 g4
      exact ⟨_, k1, by rw [List.length_map]; have := line_big; omega, F4, _, _, l, k2, hr, by rw [hl]; simp, by simp; omega⟩
  · have hi' : i = its.length := by omega
    subst hi'
    rw [List.drop_length] at hgo
    cases hgo
    rw [List.append_nil] at hl
    subst hl
    exact .inl ⟨IT.stop F' H' env _ σ m1.post.ext (same_offT m1.post) S2, q F' H' D rs (P1.trans m1.post) (P1.bnone hD (by intro z; cases z)) m1.fD m1.hD m1.rw_ m1.nd fun r hr => ⟨P1.bnone (m1.new r hr).1 (by intro z; cases z), (m1.new r hr).2⟩⟩
theorem lc2M_sem {fi : EvI} {tg : Tg} {tt : EvF} {fi1 : EvI} {tg1 : Tg} {tt1 te : EvF} {vs vs1 : List Nat} {tt' tt1' : TT} (ht : ∀ σ H Q, tT K tt σ H Q → tt' σ H Q) (ht1 : ∀ σ H Q, tT K tt1 σ H Q → tt1' σ H Q) (hv : ∀ j ∈ tg.slots, j ∈ vs) (hv1 : ∀ j ∈ tg1.slots, j ∈ vs1)
    {F H : Hp} {env : En} {σ : L2.St} {Q : VK} {its : List D} {ws : List W} {rows : List (List D)}
    (S : Sok K F H none env [] σ) (e1 : fi env [] = some (its, ws, [])) (hg : ws.all notTp = true) (hlen : its.length ≤ 1000) (e2 : Lc2M tg tt fi1 tg1 tt1 te vs1 (wipeE env vs) its rows) (q : PostM K F H rows Q) :
    tLc2 (tI K fi) (tG K tg) tt' (tI K fi1) (tG K tg1) tt1' (tE K te) vs vs1 σ H Q := by
  refine ⟨F, none, env, [], its, ws, [], S, e1, fun F1 H1 J us P1 r1 it => ?_⟩
  intro D hD
  have S1 := S.post P1
  have IT := it F1 (offT none H1) (.refl _) (src_c S1 r1 hg)
  refine ⟨fun i m H' => m = its.length - i ∧ i ≤ its.length ∧ ∃ F' rs racc rest, Mk1 K F1 H1 F' H' D rs racc ∧ Lc2M tg tt fi1 tg1 tt1 te vs1 (wipeE env vs) (its.drop i) rest ∧ rows = racc ++ rest ∧ rs.length ≤ i * 1000,
    ⟨its.length, by simp, Nat.zero_le _, F1, [], [], rows, ⟨S1.laid hD, upd_same, S1.fnone hD, .nil, .nil, fun r hr => (by cases hr)⟩, by simpa using e2, rfl, Nat.zero_le _⟩, ?_⟩
  rintro i m H' ⟨rfl, hi, F', rs, racc, rest, m1, hgo, hl, hacc⟩
  have S2 := S1.post m1.post
  by_cases hlt : i < its.length
  · refine .inr ⟨IT.go F' H' env [] σ i m1.post.ext (same_offT m1.post) S2 hlt, fun H'' => ∃ F' rs racc rest, Mk1 K F1 H1 F' H'' D rs racc ∧ Lc2M tg tt fi1 tg1 tt1 te vs1 (wipeE env vs) (its.drop (i + 1)) rest ∧ rows = racc ++ rest ∧ rs.length ≤ (i + 1) * 1000,
      fun H'' n => ⟨its.length - (i + 1), by omega, rfl, hlt, n⟩, fun x H2 y => ?_⟩
    obtain ⟨F2, P2, dx⟩ := IT.yld F' H' env [] σ i its[i] m1.post.ext (same_offT m1.post) S2 (by simp [hlt]) x H2 y
    rw [List.drop_eq_getElem_cons hlt] at hgo
    cases hgo with
    | @cons _ _ its1 ws1 env1 l1 l2 hb h3 h4 hg1 hlen1 h5 h6 =>
      refine ⟨F2, none, wipeE env vs, [], its[i], env1, (S2.post P2).wipe vs, dx, hb, fun σ2 S3 o oe => ⟨wipe_off o hv, ?_⟩⟩
      refine ht _ _ _ ⟨F2, none, env1, [], true, [], S3, h3, fun F3 H3 P3 => ?_⟩
      show ite _ _ _
      rw [if_pos rfl]
      refine ⟨F3, none, env1, [], its1, ws1, [], S3.post P3, h4, fun F4 H4 J1 us1 P4 r4 it1 => ?_⟩
      have S4 := (S3.post P3).post P4
      have IT1 := it1 F4 F4 (.refl _) (src_f r4 hg1)
      have m4 := m1.step (P2.trans (P3.trans P4))
      refine ⟨fun j k H6 => k = its1.length - j ∧ j ≤ its1.length ∧ ∃ F' rs2 racc2 rest, Mk1 K F1 H1 F' H6 D rs2 racc2 ∧ Same F4 F' ∧ LcM tg1 tt1 te (wipeE env1 vs1) (its1.drop j) rest ∧ racc ++ l1 = racc2 ++ rest ∧ rs2.length ≤ i * 1000 + j,
        ⟨its1.length, by simp, Nat.zero_le _, F4, rs, racc, l1, m4, .refl _, by simpa using h5, rfl, by omega⟩, ?_⟩
      rintro j k H6 ⟨rfl, hj, F6, rs6, racc6, rest6, m6, sF6, hgo6, hl6, hacc6⟩
      have S6 : Sok K F6 H6 none env1 [] σ2 := S4.rebase (S1.post m6.post) sF6 o oe
      have sH6 : Same F4 H6 := sF6.trans S6.same
      by_cases hlt6 : j < its1.length
      · refine .inr ⟨IT1.go F6 H6 env1 [] σ2 j sF6 sH6 S6 hlt6, fun H7 => ∃ F' rs2 racc2 rest, Mk1 K F1 H1 F' H7 D rs2 racc2 ∧ Same F4 F' ∧ LcM tg1 tt1 te (wipeE env1 vs1) (its1.drop (j + 1)) rest ∧ racc ++ l1 = racc2 ++ rest ∧ rs2.length ≤ i * 1000 + (j + 1),
          fun H7 n => ⟨its1.length - (j + 1), by omega, rfl, hlt6, n⟩, fun x1 H7 y1 => ?_⟩
        obtain ⟨F7, P7, dx7⟩ := IT1.yld F6 H6 env1 [] σ2 j its1[j] sF6 sH6 S6 (by simp [hlt6]) x1 H7 y1
        rw [List.drop_eq_getElem_cons hlt6] at hgo6
        cases hgo6 with
        | @cons _ _ env7 row7 l7 hb7 h8 h9 hr7 =>
          refine ⟨F7, none, wipeE env1 vs1, [], its1[j], env7, (S6.post P7).wipe vs1, dx7, hb7, fun σ7 S7 o7 oe7 => ⟨wipe_off o7 hv1, ?_⟩⟩
          refine ht1 _ _ _ ⟨F7, none, env7, [], true, [], S7, h8, fun F8 H8 P8 => ?_⟩
          show ite _ _ _
          rw [if_pos rfl]
          refine ⟨F8, none, env7, [], _, [], S7.post P8, h9, fun F9 v9 H9 P9 r9 => ?_⟩
          obtain ⟨a, vs9, rfl, g1, _, g2, g3, g4⟩ := r9
          obtain ⟨k1, k2⟩ := (m6.step (P7.trans P8)).app hD P9 g1 g2 g3 g4
          exact ⟨_, k1, by rw [List.length_map]; have := line_big2; omega, F9, _, _, l7, k2, sF6.trans (P7.trans (P8.trans P9)).ext, hr7, by rw [hl6]; simp, by simp; omega⟩
      · have hj' : j = its1.length := by omega
        subst hj'
        rw [List.drop_length] at hgo6
        cases hgo6
        rw [List.append_nil] at hl6
        refine .inl ⟨IT1.stop F6 H6 env1 _ σ2 sF6 sH6 S6, F6, rs6, racc6, l2, m6, h6, ?_, by omega⟩
        rw [hl, ← List.append_assoc, hl6]
  · have hi' : i = its.length := by omega
    subst hi'
    rw [List.drop_length] at hgo
    cases hgo
    rw [List.append_nil] at hl
    subst hl
    exact .inl ⟨IT.stop F' H' env _ σ m1.post.ext (same_offT m1.post) S2, q F' H' D rs (P1.trans m1.post) (P1.bnone hD (by intro z; cases z)) m1.fD m1.hD m1.rw_ m1.nd fun r hr => ⟨P1.bnone (m1.new r hr).1 (by intro z; cases z), (m1.new r hr).2⟩⟩
end

open PySem PySem.Spec PyProof.Rows L2
open PySem.W (minD maxD)
/-! # a def that changes a list of lists -/
def inM (a : Addr) (rs : List Addr) (b : Addr) : Prop := b = a ∨ b ∈ rs
instance {a : Addr} {rs : List Addr} {b : Addr} : Decidable (inM a rs b) := by unfold inM; exact inferInstance
def frzM (F H : Hp) (a : Addr) (rs : List Addr) : Hp := fun b => if inM a rs b then H b else F b
def unfM (F : Hp) (a : Addr) (rs : List Addr) : Hp := fun b => if inM a rs b then none else F b
theorem frzM_in {F H : Hp} {a : Addr} {rs : List Addr} {b : Addr} (h : inM a rs b) : frzM F H a rs b = H b := if_pos h
theorem frzM_out {F H : Hp} {a : Addr} {rs : List Addr} {b : Addr} (h : ¬inM a rs b) : frzM F H a rs b = F b := if_neg h
theorem unfM_in {F : Hp} {a : Addr} {rs : List Addr} {b : Addr} (h : inM a rs b) : unfM F a rs b = none := if_pos h
theorem unfM_out {F : Hp} {a : Addr} {rs : List Addr} {b : Addr} (h : ¬inM a rs b) : unfM F a rs b = F b := if_neg h
section
variable {K : PySem.W.Frag} {F0 H0 F H : Hp} {a : Addr} {rs : List Addr} {rows : List (List D)} {env : En} {σ : L2.St}
structure Mst (K : PySem.W.Frag) (F0 H0 F H : Hp) (a : Addr) (rs : List Addr) (rows : List (List D)) (env : En) (σ : L2.St) : Prop where
  same : Same F H
  loc : LocOk K F env σ
  ha : H a = some (.lst (rs.map V.ref))
  fa : F a = none
  rw_ : RwA K F H rs rows
  nd : rs.Nodup
  na : ∀ r ∈ rs, r ≠ a
  ext : Same F0 F
  keep : ∀ b o, H0 b = some o → H b = some o
  new : ∀ b, F b ≠ none → F0 b ≠ none ∨ H0 b = none
  a0 : H0 a = none
  r0 : ∀ r ∈ rs, H0 r = none
def mD (rows : List (List D)) : D := .list (rows.map PyData.list)
theorem Mst.lst (M : Mst K F0 H0 F H a rs rows env σ) : ∀ b, inM a rs b → F b = none ∧ (∃ vs, H b = some (.lst vs)) ∧ H0 b = none := fun b h => by
  rcases h with rfl | h
  · exact ⟨M.fa, ⟨_, M.ha⟩, M.a0⟩
  · exact ⟨(M.rw_.mem b h).1, (M.rw_.mem b h).2, M.r0 b h⟩
theorem Mst.off (M : Mst K F0 H0 F H a rs rows env σ) {b : Addr} {o : HO} (h : F b = some o) : ¬inM a rs b := fun q => by
  rw [(M.lst b q).1] at h; cases h
theorem Mst.same1 (M : Mst K F0 H0 F H a rs rows env σ) : Same F (frzM F H a rs) := fun b o h => by rw [frzM_out (M.off h)]; exact h
theorem Mst.same2 (M : Mst K F0 H0 F H a rs rows env σ) : Same (frzM F H a rs) H := fun b o h => by
  by_cases q : inM a rs b
  · rw [frzM_in q] at h; exact h
  · rw [frzM_out q] at h; exact M.same _ _ h
theorem RwA.data {F1 : Hp} (h : RwA K F H rs rows) (e : Same F F1) (k : ∀ r ∈ rs, F1 r = H r) : DqAll K F1 (rs.map V.ref) (rows.map PyData.list) := by
  induction h with
  | nil => exact .nil
  | cons a b c _ ih => exact .cons (.lst (by rw [k _ (List.mem_cons_self ..)]; exact b) (dqAll_mono e c)) (ih fun r hr => k r (List.mem_cons_of_mem _ hr))
theorem Mst.data (M : Mst K F0 H0 F H a rs rows env σ) : Dq K (frzM F H a rs) (.ref a) (mD rows) :=
  .lst (by rw [frzM_in (.inl rfl)]; exact M.ha) (M.rw_.data M.same1 fun r hr => frzM_in (.inr hr))
theorem Mst.sok {i : Nat} (M : Mst K F0 H0 F H a rs rows env σ) (hi : σ[i]? = some (some (.ref a))) : Sok K (frzM F H a rs) H none (env.set i (.d (mD rows))) [] σ := by
  have no : ∀ {j : Nat} {ds : List D}, (env.set i (.d (mD rows)))[j]? ≠ some (Sl.own ds) := fun {j ds} h => by
    by_cases e : i = j
    · subst e
      rw [List.getElem?_set] at h
      simp only [if_true] at h
      split at h <;> cases h
    · rw [List.getElem?_set_ne e] at h
      rcases M.loc.at_ j _ h with q | ⟨_, _, q, _⟩ <;> cases q
  refine ⟨M.same2, by simp [M.loc.len], fun j s h => ?_, fun j k ds es h1 h2 hne => (no h1).elim, trivial⟩
  by_cases e : i = j
  · subst e
    rw [List.getElem?_set] at h
    simp only [if_true] at h
    split at h
    · cases h; exact ⟨_, hi, M.data⟩
    · cases h
  · rw [List.getElem?_set_ne e] at h
    rcases M.loc.at_ j s h with rfl | ⟨x, v, rfl, h1, h2⟩
    · trivial
    · exact ⟨v, h1, dq_mono M.same1 h2⟩
theorem Mst.mono {F' H' : Hp} (M : Mst K F0 H0 F H a rs rows env σ) (P : Post K none [] (frzM F H a rs) H F' H') : Mst K F0 H0 (unfM F' a rs) H' a rs rows env σ ∧ Same F (unfM F' a rs) := by
  have k : ∀ b o, H b = some o → H' b = some o := fun b o h => P.keep b o h (by intro z; cases z)
  have e : Same F (unfM F' a rs) := fun b o h => by
    rw [unfM_out (M.off h)]
    exact P.ext _ _ (M.same1 _ _ h)
  refine ⟨⟨fun b o h => ?_, M.loc.mono e, k _ _ M.ha, unfM_in (.inl rfl), M.rw_.mono e fun r hr o ho hf => ⟨k _ _ ho, unfM_in (.inr hr)⟩, M.nd, M.na, M.ext.trans e, fun b o h => k _ _ (M.keep b o h), fun b h => ?_, M.a0, M.r0⟩, e⟩
  · by_cases q : inM a rs b
    · rw [unfM_in q] at h; cases h
    · rw [unfM_out q] at h; exact P.same _ _ h
  · by_cases q : inM a rs b
    · rw [unfM_in q] at h; exact (h rfl).elim
    · rw [unfM_out q] at h
      rcases P.new b h with z | z
      · rw [frzM_out q] at z; exact M.new b z
      · refine .inr ?_
        cases e : H0 b with
        | none => rfl
        | some o => rw [M.keep b o e] at z; cases z
theorem dq_unfM {F1 H1 : Hp} {v : V} {d : D} (hd : isFr d = true) (S : Same F1 H1) (hl : ∀ b, inM a rs b → ∃ vs, H1 b = some (.lst vs)) (h : Dq K F1 v d) : Dq K (unfM F1 a rs) v d := by
  cases h with
  | non => exact .non
  | int i => exact .int i
  | @tup c xs ds s a2 =>
    have no : ∀ o, F1 c = some o → (o = .tup xs ∨ ∃ a, o = .frz a (.tup xs)) → unfM F1 a rs c = some o := fun o e ho => by
      rw [unfM_out fun q => ?_]
      · exact e
      · have e2 := S _ _ e
        obtain ⟨vs, hv⟩ := hl c q
        rw [hv] at e2
        cases e2
        rcases ho with z | ⟨_, z⟩ <;> cases z
    have sq : SqT K (unfM F1 a rs) c xs := by
      rcases s with s | s
      · refine .inl ?_
        rcases s with h | ⟨o, h⟩
        · exact .inl (no _ h (.inl rfl))
        · exact .inr ⟨o, no _ h (.inr ⟨_, rfl⟩)⟩
      · exact .inr s
    match ds, hd, a2 with
    | [.int i, .int j], _, a2 =>
      refine .tup sq ?_
      cases a2 with
      | cons x y =>
        cases y with
        | cons y z =>
          cases z
          cases x
          cases y
          exact .cons (.int _) (.cons (.int _) .nil)
  | bl b => cases hd
  | str s => cases hd
  | lst s a => cases hd
theorem Mst.use_d {i : Nat} {f : EvF} {Q : VK} {d : D} (M : Mst K F0 H0 F H a rs rows env σ) (hi : σ[i]? = some (some (.ref a))) (e : f (env.set i (.d (mD rows))) [] = some (.d d, [])) (hd : isFr d = true)
    (q : ∀ F' H' v, Mst K F0 H0 F' H' a rs rows env σ → Same F F' → Dq K F' v d → Q v H') : tE K f σ H Q := by
  refine ⟨frzM F H a rs, none, _, [], .d d, [], M.sok hi, e, fun F1 v H1 P R => ?_⟩
  obtain ⟨m, s⟩ := M.mono P
  exact q _ _ _ m s (dq_unfM hd P.same (fun b hb => (m.lst b hb).2.1) R)
theorem Mst.name {j : Nat} {v : V} {x : D} (M : Mst K F0 H0 F H a rs rows env σ) (d : Dq K F v x) : Mst K F0 H0 F H a rs rows (env.set j (.d x)) (σ.set j (some v)) := ⟨M.same, M.loc.set d, M.ha, M.fa, M.rw_, M.nd, M.na, M.ext, M.keep, M.new, M.a0, M.r0⟩
theorem LocOk.wipe (L : LocOk K F env σ) : ∀ vs : List Nat, LocOk K F (wipeE env vs) σ
  | [] => L
  | v :: vs => (LocOk.wipe L vs).drop
theorem Mst.wipe (M : Mst K F0 H0 F H a rs rows env σ) (vs : List Nat) : Mst K F0 H0 F H a rs rows (wipeE env vs) σ := ⟨M.same, M.loc.wipe vs, M.ha, M.fa, M.rw_, M.nd, M.na, M.ext, M.keep, M.new, M.a0, M.r0⟩
theorem RwA.at_ (h : RwA K F H rs rows) {k : Nat} {row : List D} (hk : rows[k]? = some row) : ∃ r vs, rs[k]? = some r ∧ H r = some (.lst vs) ∧ DqAll K F vs row := by
  induction h generalizing k with
  | nil => cases hk
  | @cons r rs row' rows vs a b c _ ih =>
    cases k with
    | zero => cases hk; exact ⟨r, vs, rfl, b, c⟩
    | succ k => exact ih hk
theorem RwA.set (h : RwA K F H rs rows) (nd : rs.Nodup) {k l : Nat} {r : Addr} {vs : List V} {row : List D} {x : V} {d : D} (h1 : rs[k]? = some r) (h2 : rows[k]? = some row) (h3 : H r = some (.lst vs)) (h4 : DqAll K F vs row) (h5 : Dq K F x d) : RwA K F (upd H r (.lst (vs.set l x))) rs (rows.set k (row.set l d)) := by
  induction h generalizing k with
  | nil => cases h1
  | @cons r' rs row' rows vs' a b c t ih =>
    rw [List.nodup_cons] at nd
    cases k with
    | zero =>
      cases h1
      cases h2
      exact .cons a upd_same (dqAll_set l h4 h5) (t.updNe nd.1)
    | succ k =>
      have ne : r' ≠ r := fun z => nd.1 (by subst z; exact List.mem_of_getElem? h1)
      exact .cons a (by rw [upd_ne ne]; exact b) c (ih nd.2 h1 h2)
/-- rows[k][l] = a value -/
theorem Mst.store {i : Nat} {x : V} {d : D} {e1 e2 : EvF} {k l : Nat} {row : List D} {Q : L2.St → Hp → Prop} (M : Mst K F0 H0 F H a rs rows env σ) (hi : σ[i]? = some (some (.ref a))) (hx : Dq K F x d)
    (h1 : e1 (env.set i (.d (mD rows))) [] = some (.d (.int k), [])) (h2 : e2 (env.set i (.d (mD rows))) [] = some (.d (.int l), [])) (hr : rows[k]? = some row) (hl : l < row.length)
    (q : ∀ F' H', Mst K F0 H0 F' H' a rs (rows.set k (row.set l d)) env σ → Same F F' → Q σ H') : L2.gSub (tOp (rIxL K) (tVar i) (tE K e1)) (tE K e2) rSetL x σ H Q := by
  refine ⟨_, hi, M.use_d hi h1 rfl fun F1 H1 v1 M1 s1 d1 => ?_⟩
  cases d1
  obtain ⟨r, vs, g1, g2, g3⟩ := M1.rw_.at_ hr
  have hk : k < rs.length := (List.getElem?_eq_some_iff.mp g1).1
  refine ⟨a, rs.map V.ref, k, .ref r, rfl, rfl, SqL.of M1.ha, ?_, ?_⟩
  · unfold atI
    rw [List.length_map, ixN_nat hk]
    show (rs.map V.ref)[k]? = _
    rw [List.getElem?_map, g1]
    rfl
  refine M1.use_d hi h2 rfl fun F2 H2 v2 M2 s2 d2 => ?_
  cases d2
  obtain ⟨r', vs', g1', g2, g3⟩ := M2.rw_.at_ hr
  rw [g1] at g1'
  cases g1'
  have hrm : r ∈ rs := List.mem_of_getElem? g1
  refine ⟨r, vs', l, l, rfl, rfl, g2, ixN_nat (by rw [dqAll_len g3]; exact hl), ?_⟩
  have ne : a ≠ r := (M2.na r hrm).symm
  refine q F2 _ ⟨fun b o h => ?_, M2.loc, by rw [upd_ne ne]; exact M2.ha, M2.fa, M2.rw_.set M2.nd g1 hr g2 g3 (dq_mono (s1.trans s2) hx), M2.nd, M2.na, M2.ext, fun b o h => ?_, M2.new, M2.a0, M2.r0⟩ (s1.trans s2)
  · have : b ≠ r := fun z => by subst z; exact M2.off h (.inr hrm)
    rw [upd_ne this]; exact M2.same _ _ h
  · have : b ≠ r := fun z => by subst z; rw [M2.r0 b hrm] at h; cases h
    rw [upd_ne this]; exact M2.keep _ _ h
/-- one store as the evaluator reads it -/
structure StR (i : Nat) (e e1 e2 : EvF) (env : En) (rows rows' : List (List D)) : Prop where
  ex : ∃ x k l row, e (env.set i (.d (mD rows))) [] = some (.d x, []) ∧ isFr x = true ∧ e1 (env.set i (.d (mD rows))) [] = some (.d (.int (k : Nat)), []) ∧ e2 (env.set i (.d (mD rows))) [] = some (.d (.int (l : Nat)), []) ∧
    rows[k]? = some row ∧ l < row.length ∧ rows' = rows.set k (row.set l x)
theorem Mst.st {i : Nat} {e e1 e2 : EvF} {rows' : List (List D)} {De : Ends} (M : Mst K F0 H0 F H a rs rows env σ) (hi : σ[i]? = some (some (.ref a))) (R : StR i e e1 e2 env rows rows')
    (q : ∀ F' H', Mst K F0 H0 F' H' a rs rows' env σ → Same F F' → De.nx σ H') : tAsg (tE K e) (L2.gSub (tOp (rIxL K) (tVar i) (tE K e1)) (tE K e2) rSetL) De σ H := by
  obtain ⟨x, k, l, row, h1, h2, h3, h4, h5, h6, rfl⟩ := R.ex
  exact M.use_d hi h1 h2 fun F1 H1 v M1 s1 d1 => M1.store hi d1 h3 h4 h5 h6 fun F2 H2 M2 s2 => q F2 H2 M2 (s1.trans s2)
/-- the list of lists, read from here on -/
theorem Mst.fz {i : Nat} (M : Mst K F0 H0 F H a rs rows env σ) (hi : σ[i]? = some (some (.ref a))) : SI K F0 H0 (frzM F H a rs) H none (env.set i (.d (mD rows))) [] σ := by
  refine ⟨M.sok hi, ⟨M.ext.trans M.same1, M.same2, fun b h => ?_, fun b o h _ => M.keep b o h, trivial⟩, fun j ds c h1 h2 => ?_⟩
  · by_cases q : inM a rs b
    · exact .inr (M.lst b q).2.2
    · rw [frzM_out q] at h; exact M.new b h
  · by_cases e : i = j
    · subst e
      rw [List.getElem?_set] at h1
      simp only [if_true] at h1
      split at h1 <;> cases h1
    · rw [List.getElem?_set_ne e] at h1
      rcases M.loc.at_ j _ h1 with q | ⟨_, _, q, _⟩ <;> cases q
theorem Mst.step {F' H' : Hp} (M : Mst K F0 H0 F H a rs rows env σ) (P : Post K none [] F H F' H') : Mst K F0 H0 F' H' a rs rows env σ := by
  have k : ∀ b o, H b = some o → H' b = some o := fun b o h => P.keep b o h (by intro z; cases z)
  refine ⟨P.same, M.loc.mono P.ext, k _ _ M.ha, P.none_of M.fa M.ha, M.rw_.post P, M.nd, M.na, M.ext.trans P.ext, fun b o h => k _ _ (M.keep b o h), fun b h => ?_, M.a0, M.r0⟩
  rcases P.new b h with z | z
  · exact M.new b z
  · refine .inr ?_
    cases e : H0 b with
    | none => rfl
    | some o => rw [M.keep b o e] at z; cases z
theorem Mst.reenv {σ' : L2.St} {env' : En} (M : Mst K F0 H0 F H a rs rows env σ) (S : Sok K F H none env' [] σ') (hp : plE env' = true) : Mst K F0 H0 F H a rs rows env' σ' :=
  ⟨M.same, Sok.loc S hp, M.ha, M.fa, M.rw_, M.nd, M.na, M.ext, M.keep, M.new, M.a0, M.r0⟩
/-- a loop over things that stay -/
theorem Mst.loop {i : Nat} {fi : EvI} {tg : Tg} {tb : TS} {its : List D} {ws : List W} {De : Ends} {R : Nat → List (List D)} (M : Mst K F0 H0 F H a rs (R 0) env σ) (hi : σ[i]? = some (some (.ref a))) (hin : i ∉ tg.slots)
    (e1 : fi env [] = some (its, ws, [])) (hw : ws.all isDW = true)
    (hE : ∀ j (hj : j < its.length), ∃ env1, bindT tg its[j] env = some env1 ∧ plE env1 = true ∧ ∀ F H σ (De : Ends), Mst K F0 H0 F H a rs (R j) env1 σ → σ[i]? = some (some (.ref a)) →
      (∀ F' H' σ', Mst K F0 H0 F' H' a rs (R (j + 1)) env σ' → Same F F' → σ'[i]? = some (some (.ref a)) → De.nx σ' H') → tb De σ H)
    (q : ∀ F' H' σ', Mst K F0 H0 F' H' a rs (R its.length) env σ' → Same F F' → σ'[i]? = some (some (.ref a)) → De.nx σ' H') : tFor (tI K fi) (tG K tg) tb De σ H := by
  refine ⟨F, none, _, [], its, _, [], M.loc.sok0 M.same, e1, fun F6 H6 J vs P6 R6 it => ?_⟩
  have M6 := M.step P6
  have IT := it F6 F6 (.refl _) (src_f R6 hw)
  refine ⟨fun j m σ' H' => m = its.length - j ∧ j ≤ its.length ∧ ∃ F', Same F6 F' ∧ Mst K F0 H0 F' H' a rs (R j) env σ' ∧ σ'[i]? = some (some (.ref a)), ⟨its.length, by omega, Nat.zero_le _, F6, .refl _, M6, hi⟩, ?_⟩
  rintro j m σ7 H7 ⟨rfl, hj, F7, s7, M7, hi7⟩
  have s7H : Same F6 H7 := s7.trans M7.same
  by_cases hlt : j < its.length
  · obtain ⟨env1, hb, hp, hbody⟩ := hE j hlt
    refine .inr ⟨IT.go F7 H7 _ [] _ j s7 s7H (M7.loc.sok0 M7.same) hlt, fun σ' H' => ∃ F', Same F6 F' ∧ Mst K F0 H0 F' H' a rs (R (j + 1)) env σ' ∧ σ'[i]? = some (some (.ref a)), fun σ' H' w => ⟨its.length - (j + 1), by omega, rfl, hlt, w⟩, fun x H8 y => ?_⟩
    obtain ⟨F8, P8, d8⟩ := IT.yld F7 H7 _ [] _ j its[j] s7 s7H (M7.loc.sok0 M7.same) (by simp [hlt]) x H8 y
    have M8 := M7.step P8
    refine ⟨F8, none, _, [], _, env1, M8.loc.sok0 M8.same, d8, hb, fun σ9 S9 o9 oe9 => ?_⟩
    refine hbody F8 H8 σ9 _ (M8.reenv S9 hp) (by rw [o9.at_ i hin]; exact hi7) fun F' H' σ' M' s' h' => ⟨F', s7.trans (P8.ext.trans s'), M', h'⟩
  · have e : j = its.length := by omega
    subst e
    exact .inl ⟨IT.stop F7 H7 _ [] _ s7 s7H (M7.loc.sok0 M7.same), q F7 H7 σ7 M7 (P6.ext.trans s7) hi7⟩
end

open PySem PySem.Spec PyProof.Rows L2
open PySem.W (minD maxD)
/-! # defs that change a list of lists: the code -/
section
variable {X : Cx} {k : Nat} {c : Ct}
theorem mstore_ps {n : Nat} (M : Mat X k c) {x : Str} {i : Nat} {p1 p2 p3 pos : Pos} {e e1 e2 : Expr} (hs : slot c x = some i) (h1 : plainIx e1 = true) (h2 : plainIx e2 = true) :
    PS X (.Assign [.Subscript (.Subscript (.Name x p1) e1 p2) e2 p3] e pos) (tAsg (tE X.K (evE (n + 1) c e)) (L2.gSub (tOp (rIxL X.K) (tVar i) (tE X.K (evE (n + 1) c e1))) (tE X.K (evE (n + 1) c e2)) rSetL)) := by
  have hF := (evE_good (k := k) (n + 1)).pe M
  exact ps_asg (hF e) (pg_sub (pe_ix ix_list (var_pe M hs) (hF e1) (plainIx_ok h1)) (hF e2) set_list (asg_sub h2)) sw_sub rfl rfl
theorem sw_lc {elt : Expr} {gens : List Comprehension} {scope : Scope} {p py : Pos} {y : Str} {l : Nat} {env : Env} : swapsWith (.ListComp elt gens scope p) (some (.Name y py)) l env = pure (env.blockKind == .function && env.kindOf y == some .local && py.line == p.line && !(scope.names.any fun (n, k) => n == y && (k == .local || k == .cell))) := rfl
/-- name = a comprehension with two clauses -/
theorem asg_lc2 {n : Nat} (M : Mat X k c) {y : Str} {py pos spos : Pos} {i : Nat} (ti : slotT c y = some i) {elt tg it tg1 it1 : Expr} {scope : Scope} {T T1 : Tg} (hb : blkB c scope = true) (hT : evTg (c.blk scope) 9 tg = some T) (hT1 : evTg (c.blk scope) 9 tg1 = some T1)
    (hv : (inAll T.slots ((ownOf c.N scope.names).map (·.2)) && inAll T1.slots ((ownOf c.N scope.names).map (·.2)) && plainSet it1 && plainSet it) = true) :
    PS X (.Assign [.Name y py] (.ListComp elt [⟨tg, it, [], 0⟩, ⟨tg1, it1, [], 0⟩] scope pos) spos) (tAsg (tLc2 (tI X.K (evI (evE (n + 1) c) c tg it)) (tG X.K T) tYes (tI X.K (evI (evE (n + 1) (c.blk scope)) (c.blk scope) tg1 it1)) (tG X.K T1) tYes (tE X.K (evE (n + 1) (c.blk scope) elt)) ((ownOf c.N scope.names).map (·.2)) T1.slots) (gName i)) := by
  have G := evE_good (k := k) (n + 1)
  obtain ⟨h1, h2, h3⟩ := slotT_of M ti
  rw [Bool.and_eq_true, Bool.and_eq_true, Bool.and_eq_true] at hv
  obtain ⟨⟨⟨hv, hv1⟩, hp⟩, hp0⟩ := hv
  have a1 := evI_ok (tg := tg) (e := it) M (G.pe M)
  have a2 := fun s H C cl fp => evTg_ok (M.blk s H scope cl C fp) hT
  have a3 := fun s H C cl fp => pts_nil (X := X.blk s H scope (compEnvC scope cl C X.env) fp)
  have a4 := fun s H C cl fp => G.pe (M.blk s H scope cl C fp) elt
  have b1 := fun s H C cl fp => evI_ok (tg := tg1) (e := it1) (M.blk s H scope cl C fp) (G.pe (M.blk s H scope cl C fp))
  have b2 := fun s H C cl fp => evTg_ok (M.blk s H scope cl C fp) hT1
  have f0 : ∀ x, foldedSetIterable it X.env x = pure x := fun x => evI_fold (f := evE (n + 1) c) (c := c) (tg := tg) hp0
  have f1 : ∀ env x, foldedSetIterable it1 env x = pure x := fun env x => evI_fold (f := evE (n + 1) c) (c := c) (tg := tg) hp
  have hb' : swapsWith (.ListComp elt [⟨tg, it, [], 0⟩, ⟨tg1, it1, [], 0⟩] scope pos) (some (.Name y py)) spos.line X.env = pure (X.env.blockKind == .function && X.env.kindOf y == some .local && py.line == pos.line && !(scope.names.any fun (n, k) => n == y && (k == .local || k == .cell))) := sw_lc
  cases hs : (X.env.blockKind == .function && X.env.kindOf y == some .local && py.line == pos.line && !(scope.names.any fun (n, k) => n == y && (k == .local || k == .cell))) with
  | false =>
    rw [hs] at hb'
    exact ps_set M.nd h1 h2 (pe_lc2 (own := ownOf c.N scope.names) (vs1 := T1.slots) M.calm M.nd a1 (blk_ok M hb) (inAll_ok hv1) a2 a3 b1 b2 a3 a4 f0 f1) hb' h3
  | true =>
    rw [hs] at hb'
    rw [Bool.and_eq_true, Bool.and_eq_true, Bool.and_eq_true] at hs
    have hl : X.env.scope.names.lookup y = some .local := eq_of_beq hs.1.1.2
    exact ps_setLc2 (own := ownOf c.N scope.names) (vs1 := T1.slots) M.calm M.nd h1 hl hb' a1 (blk_ok M hb) (inAll_ok hv1) a2 a3 b1 b2 a3 a4 f0 f1
/-- name = a comprehension with one clause -/
theorem asg_lc1 {n : Nat} (M : Mat X k c) {y : Str} {py pos spos : Pos} {i : Nat} (ti : slotT c y = some i) {elt tg it : Expr} {scope : Scope} {T : Tg} (hb : blkB c scope = true) (hT : evTg (c.blk scope) 9 tg = some T)
    (hv : (inAll T.slots ((ownOf c.N scope.names).map (·.2)) && plainSet it) = true) :
    PS X (.Assign [.Name y py] (.ListComp elt [⟨tg, it, [], 0⟩] scope pos) spos) (tAsg (tLc (tI X.K (evI (evE (n + 1) c) c tg it)) (tG X.K T) tYes (tE X.K (evE (n + 1) (c.blk scope) elt)) ((ownOf c.N scope.names).map (·.2))) (gName i)) := by
  have G := evE_good (k := k) (n + 1)
  obtain ⟨h1, h2, h3⟩ := slotT_of M ti
  rw [Bool.and_eq_true] at hv
  have a1 := evI_ok (tg := tg) (e := it) M (G.pe M)
  have a2 := fun s H C cl fp => evTg_ok (M.blk s H scope cl C fp) hT
  have a3 := fun s H C cl fp => pts_nil (X := X.blk s H scope (compEnvC scope cl C X.env) fp)
  have a4 := fun s H C cl fp => G.pe (M.blk s H scope cl C fp) elt
  have f0 : ∀ x, foldedSetIterable it X.env x = pure x := fun x => evI_fold (f := evE (n + 1) c) (c := c) (tg := tg) hv.2
  have hb' : swapsWith (.ListComp elt [⟨tg, it, [], 0⟩] scope pos) (some (.Name y py)) spos.line X.env = pure (X.env.blockKind == .function && X.env.kindOf y == some .local && py.line == pos.line && !(scope.names.any fun (n, k) => n == y && (k == .local || k == .cell))) := sw_lc
  cases hs : (X.env.blockKind == .function && X.env.kindOf y == some .local && py.line == pos.line && !(scope.names.any fun (n, k) => n == y && (k == .local || k == .cell))) with
  | false =>
    rw [hs] at hb'
    exact ps_set M.nd h1 h2 (pe_lc (own := ownOf c.N scope.names) M.calm M.nd a1 (blk_ok M hb) a2 a3 a4 f0) hb' h3
  | true =>
    rw [hs] at hb'
    rw [Bool.and_eq_true, Bool.and_eq_true, Bool.and_eq_true] at hs
    have hl : X.env.scope.names.lookup y = some .local := eq_of_beq hs.1.1.2
    exact ps_setLc (own := ownOf c.N scope.names) M.calm M.nd h1 hl hb' a1 (blk_ok M hb) a2 a3 a4 f0
end
theorem tyes {K : PySem.W.Frag} : ∀ σ H Q, tT K tYesF σ H Q → tYes σ H Q := by
  intro σ H Q ⟨F, t, env, τ, b, τ', S, e, q⟩
  cases e
  exact q F H (.refl S)
/-! ### shares -/
def stM (K : PySem.W.Frag) (i : Nat) (s : EvF × EvF × EvF) : TS := tAsg (tE K s.1) (L2.gSub (tOp (rIxL K) (tVar i) (tE K s.2.1)) (tE K s.2.2) rSetL)
def tShares (K : PySem.W.Frag) (mk : TE) (i : Nat) (fi : EvI) (tg : Tg) (s1 s2 s3 s4 : EvF × EvF × EvF) (rest : EvS) : TS :=
  tSeq (tAsg mk (gName i)) (tSeq (tFor (tI K fi) (tG K tg) (tSeq (stM K i s1) (tSeq (stM K i s2) (tSeq (stM K i s3) (tSeq (stM K i s4) tNext))))) (tS K rest))
section
variable {K : PySem.W.Frag} {F H : Hp} {env : En} {σ : L2.St}
/-- what the expressions of shares come to -/
structure ShH (i : Nat) (fi : EvI) (tg : Tg) (s1 s2 s3 s4 : EvF × EvF × EvF) (env : En) (rows0 rows : List (List D)) : Prop where
  ex : ∃ (its : List D) (ws : List W) (R : Nat → List (List D)), R 0 = rows0 ∧ R its.length = rows ∧ fi env [] = some (its, ws, []) ∧ ws.all isDW = true ∧
    ∀ j (hj : j < its.length), ∃ env1 r1 r2 r3, bindT tg its[j] env = some env1 ∧ plE env1 = true ∧ wipeE env1 tg.slots = env ∧
      StR i s1.1 s1.2.1 s1.2.2 env1 (R j) r1 ∧ StR i s2.1 s2.2.1 s2.2.2 env1 r1 r2 ∧ StR i s3.1 s3.2.1 s3.2.2 env1 r2 r3 ∧ StR i s4.1 s4.2.1 s4.2.2 env1 r3 (R (j + 1))
theorem shares_ok {mk : TE} {i : Nat} {fi : EvI} {tg : Tg} {s1 s2 s3 s4 : EvF × EvF × EvF} {rest : EvS} {De : Ends} {rows0 rows : List (List D)} {d : Ev.D} {τ : Tp} (hin : i ∉ tg.slots) (hil : i < σ.length) (hpl : plE env = true)
    (I : SI K F H F H none env [] σ) (hmk : ∀ Q : VK, PostM K F H rows0 Q → mk σ H Q) (hno : env[i]? = some .no) (E : ShH i fi tg s1 s2 s3 s4 env rows0 rows)
    (hr : rest (env.set i (.d (mD rows))) [] = some (.rt d τ))
    (hD : ∀ τ F' v H', Post K none τ F H F' H' → Dq K F' v d → De.rt v H') : tShares K mk i fi tg s1 s2 s3 s4 rest De σ H := by
  obtain ⟨its, ws, R, rfl, rfl, e1, hw, hE⟩ := E.ex
  have L : LocOk K F env σ := Sok.loc I.ok hpl
  refine hmk _ fun F1 H1 a rs P1 ha fa hA rw_ nd nr => ?_
  have M : Mst K F H F1 H1 a rs (R 0) env (σ.set i (some (.ref a))) := by
    refine ⟨P1.same, ⟨by rw [List.length_set]; exact L.len, fun j s h => ?_⟩, hA, fa, rw_, nd, fun r hr => (nr r hr).2, P1.ext, fun b o h => P1.keep b o h (by intro z; cases z), P1.new, ha, fun r hr => (nr r hr).1⟩
    by_cases e : i = j
    · subst e
      rw [hno] at h
      cases h
      exact .inl rfl
    · rw [List.getElem?_set_ne e]
      rcases L.at_ j s h with q | ⟨x, v, q, h1, h2⟩
      · exact .inl q
      · exact .inr ⟨x, v, q, h1, dq_mono P1.ext h2⟩
  have hi : (σ.set i (some (V.ref a)))[i]? = some (some (.ref a)) := by
    rw [List.getElem?_set]
    simp only [if_true]
    rw [if_pos hil]
  refine M.loop hi hin e1 hw (fun j hj => ?_) fun F2 H2 σ2 M2 s2 hi2 => ?_
  · obtain ⟨env1, r1, r2, r3, hb, hp, hwp, t1, t2, t3, t4⟩ := hE j hj
    refine ⟨env1, hb, hp, fun F H σ De M hi q => ?_⟩
    refine M.st hi t1 fun F1 H1 M1 x1 => ?_
    refine M1.st hi t2 fun F2 H2 M2 x2 => ?_
    refine M2.st hi t3 fun F3 H3 M3 x3 => ?_
    refine M3.st hi t4 fun F4 H4 M4 x4 => ?_
    have M5 := M4.wipe tg.slots
    rw [hwp] at M5
    exact q _ _ _ M5 (x1.trans (x2.trans (x3.trans x4))) hi
  · have I2 := M2.fz hi2
    exact ⟨F, H, _, none, _, [], _, I2, hr, fun F' H' v P R => hD τ F' v H' P R⟩
end

open PySem PySem.Spec PyProof.Rows L2
open PySem.W (minD maxD)
/-! # the class as the top has written it -/
def MAt (K : PySem.W.Frag) (C : Addr) (m q : Str) (st : Stmt) : Prop := ∃ f fd, L2.Meth K C m f ∧ L2.Fun K m q st f fd
def IAt (K : PySem.W.Frag) (C : Addr) (q : Str) (st : Stmt) : Prop := ∃ f fd, L2.Mk K C f ∧ L2.Fun K "__init__" q st f fd
section
variable {P : Program} {w : World} {K : PySem.W.Frag} {mg : Str → Option Value} {base : Heap} {k : Nat} {h : Heap} {C : Addr}
theorem have_meth {R : Prop} {m q : Str} {st : Stmt} {f : Addr} {oc : Value} {od an : Option Addr} {sl : Array (Option Value)} {kV dc pm cd ct : Value} (_ : TCls K C)
    (a : PySem.W.findIn K (.ref C) m = some (some (.ref f))) (i : PySem.W.isFn K (.ref f) = true) (l : K.lookup f = some ⟨oc, od, .func (PySem.W.fnOf m q (defArgs st) (defBody st) (defScope st) .none kV dc pm an cd ct), sl⟩) (c : PySem.W.codeIn K cd q = true) (k : PySem.W.keepIn K (.ref f) = true) (r : MAt K C m q st → R) : R :=
  r ⟨f, _, ⟨a, i, k⟩, fun_mk l c k⟩
theorem have_init {R : Prop} {q : Str} {st : Stmt} {f : Addr} {oc : Value} {od an : Option Addr} {sl : Array (Option Value)} {kV dc pm cd ct : Value} (_ : TCls K C)
    (mk : PySem.W.makesIn K C = true) (kc : PySem.W.keepIn K (.ref C) = true) (a : PySem.W.findIn K (.ref C) "__init__" = some (some (.ref f))) (i : PySem.W.isFn K (.ref f) = true) (l : K.lookup f = some ⟨oc, od, .func (PySem.W.fnOf "__init__" q (defArgs st) (defBody st) (defScope st) .none kV dc pm an cd ct), sl⟩) (c : PySem.W.codeIn K cd q = true) (k : PySem.W.keepIn K (.ref f) = true) (r : IAt K C q st → R) : R :=
  r ⟨f, _, ⟨mk, a, i, kc⟩, fun_mk l c k⟩
theorem have_cls {R : Prop} {x : Str} {mg : Str → Option Value} (X : K.In h) (G : h.Ns mainGlobals mg) (aC : PySem.W.nsIn K mainGlobals x = some (some (.ref C)))
    (pg : PySem.W.plainGet K C Str.empty = true) (hd : PySem.W.hasDictIn K C = true) (po : PySem.W.plainOver K C = true) (sa : PySem.W.findIn K (.ref C) "__setattr__" = some (some (.builtin "object.__setattr__")))
    (nm : PySem.W.findIn K (.ref C) "many" = some none) (nr : PySem.W.findIn K (.ref C) "rows" = some none) (ng : PySem.W.findIn K (.ref C) "gain" = some none) (nh : PySem.W.findIn K (.ref C) "held" = some none) (r : mg x = some (.ref C) → TCls K C → R) : R :=
  r (PySem.W.mg_of X G aC) ⟨⟨pg, hd, po, sa⟩, nm, nr, ng, nh⟩
theorem mth_ro {m q : Str} {st : Stmt} {N ps : List Str} {fns : List (Str × FnS)} {gl : List (Str × D)} {n : Nat} {sem : SemM} (own : Nat → Bool) (T : Tab P w K mg base k fns gl) (A : MAt K C m q st) (S : FnScope N ps (defScope st)) (hn : ps.length = n + 1)
    (hb : ∀ f fd, L2.Fun K m q st f fd → Binds K fd ps []) (hs : semM own N fns gl st = sem) : Mth P w K mg base (k + 1) C m (spM K n sem) := by
  obtain ⟨f, fd, me, F⟩ := A
  subst hs
  exact ⟨f, fd, ps, me, meth_ev own T F S hn, hb f fd F⟩
theorem mth_exch {q : Str} {st : Stmt} {fns : List (Str × FnS)} {gl : List (Str × D)} {e1 : EvF} {a2 : EvA} {c3 e4 e5 e6 e7 : EvF} (T : Tab P w K mg base k fns gl) (A : MAt K C "exchange" q st) (S : FnScope NX ["self", "at", "spot"] (defScope st)) (TC : TCls K C)
    (hb : ∀ f fd, L2.Fun K "exchange" q st f fd → Binds K fd ["self", "at", "spot"] []) (code : ∀ {X : Cx}, Mat X k (ctOf NX (defScope st) fns gl) → PSs X (defBody st) (tExch X.K e1 a2 c3 e4 e5 e6 e7)) : Mth P w K mg base (k + 1) C "exchange" (spX K C (ExH e1 a2 c3 e4 e5 e6 e7)) := by
  obtain ⟨f, fd, me, F⟩ := A
  exact ⟨f, fd, _, me, exch_meth T F S TC code, hb f fd F⟩
theorem mth_run {q : Str} {st : Stmt} {fns : List (Str × FnS)} {gl : List (Str × D)} {com lea : SemM} {R : RelX} {c1 c2 en : EvF} (T : Tab P w K mg base k fns gl) (A : MAt K C "run" q st) (S : FnScope ["self", "at", "spot"] ["self"] (defScope st)) (TC : TCls K C)
    (hb : ∀ f fd, L2.Fun K "run" q st f fd → Binds K fd ["self"] [])
    (n1 : ∀ fl s, c1 (.ob fl :: [.d .none, s]) [] = some (.d (.bool false), [])) (i1 : ∀ fl s (i : Int), c1 (.ob fl :: [.d (.int i), s]) [] = some (.d (.bool true), []))
    (n2 : ∀ fl s, c2 (.ob fl :: [s, .d .none]) [] = some (.d (.bool true), [])) (i2 : ∀ fl s (i : Int), c2 (.ob fl :: [s, .d (.int i)]) [] = some (.d (.bool false), []))
    (n3 : ∀ fl s t, en (.ob fl :: [s, t]) [] = some (.d .none, []))
    (code : ∀ {X : Cx}, X.prog = P → X.w = w → X.K = K → X.mg = mg → X.base = base → Mat X k (ctOf ["self", "at", "spot"] (defScope st) fns gl) → PSs X (defBody st) (tRun X.K C com lea R c1 c2 en)) :
    Mth P w K mg base (k + 1) C "run" (spRun K C fun m rows gain held d rows' gain' held' => ∃ n, RunD com lea R m rows gain held n d rows' gain' held') := by
  obtain ⟨f, fd, me, F⟩ := A
  exact ⟨f, fd, _, me, run_meth T F S TC n1 i1 n2 i2 n3 code, hb f fd F⟩
theorem mk_cls {q x : Str} {st : Stmt} {fns : List (Str × FnS)} {gl : List (Str × D)} {em es el : EvF} {ei : EvI} {esl eap eg eh : EvF} (T : Tab P w K mg base k fns gl) (A : IAt K C q st) (S : FnScope NI ["self", "rows", "bounds", "gains"] (defScope st)) (TC : TCls K C) (hm : mg x = some (.ref C))
    (hb : ∀ f fd, L2.Fun K "__init__" q st f fd → Binds K fd ["self", "rows", "bounds", "gains"] []) (code : ∀ {X : Cx}, Mat X k (ctOf NI (defScope st) fns gl) → PSs X (defBody st) (tInit X.K em es el ei esl eap eg eh)) :
    MkC P w K mg base (k + 1) x C (InH em es el ei esl eap eg eh) := by
  obtain ⟨f, fd, mk, F⟩ := A
  exact ⟨f, fd, _, mk, init_meth T F S TC code, hm, hb f fd F⟩
theorem tab_fn {x : Str} {st : Stmt} {N ps : List Str} {fns : List (Str × FnS)} {gl : List (Str × D)} {R : RelI} {a : EvA} (T : Tab P w K mg base k fns gl) (D : DefAt K mg x st) (S : FnScope N ps (defScope st)) (hb : ∀ f fd, L2.Fun K x x st f fd → Binds K fd ps [])
    (code : ∀ {X : Cx}, X.prog = P → X.w = w → X.K = K → X.mg = mg → X.base = base → Mat X k (ctOf N (defScope st) fns gl) → PSs X (defBody st) (tSeq (tRet (tMake C (spI X.K C R) [] E0 (tA X.K a))) tNext)) :
    TFn P w K mg base (k + 1) x C ps.length fun ds many rows gain held => ∃ ws us d1 d2 d3, a (startE N (ds.map .d)) [] = some (ws, []) ∧ seen (startE N (ds.map .d)) ws = some us ∧ us = [.d d1, .d d2, .d d3] ∧ R d1 d2 d3 many rows gain held := by
  obtain ⟨f, fd, h1, h2, F⟩ := D.ex
  exact ⟨f, fd, ps, h1, h2, hb f fd F, fn_tab T F S code⟩
theorem fnB_rel {x : Str} {st : Stmt} {N ps : List Str} {fns : List (Str × FnS)} {gl : List (Str × D)} {cls : Int} {mth : List (Str × MtS)} {R : List W → D → Prop} {n : Nat} (T : Tab P w K mg base k fns gl) (MA : MthAll P w K mg base k cls mth) (D : DefAt K mg x st) (S : FnScope N ps (defScope st))
    (hb : ∀ f fd, L2.Fun K x x st f fd → Binds K fd ps []) (hn : ps.length = n) (hR : ∀ ws d, R ws d → noTp ws = true)
    (body : ∀ {X : Cx}, X.prog = P → X.w = w → X.K = K → X.mg = mg → X.base = base → Mat X k (ctM N (defScope st) fns gl cls mth) → ∀ ws d, R ws d → ∃ t, PSs X (defBody st) t ∧ ∀ F H vs (De : Ends), SI K F H F H none (startE N ws) [] (L2.start N vs) → (∀ τ F' v H', Post K none τ F H F' H' → Dq K F' v d → De.rt v H') → t De (L2.start N vs) H) :
    FnB P w K mg base (k + 1) x n (relSem R) := by
  obtain ⟨f, fd, h1, h2, F⟩ := D.ex
  subst hn
  exact ⟨f, fd, ps, h1, h2, hb f fd F, rfl, fn_rel T MA F S hR body⟩
theorem mthAll_nil {cls : Int} : MthAll P w K mg base k cls [] := fun m s e => by cases e
theorem mthAll_cons {m : Str} {s : MtS} {r : List (Str × MtS)} (TC : TCls K C) (h : Mth P w K mg base k C m (spM K s.n s.sem)) (hr : MthAll P w K mg base k (C : Int) r) : MthAll P w K mg base k (C : Int) ((m, s) :: r) := fun x t e C' hC => by
  rw [List.lookup_cons] at e
  split at e
  · rename_i q
    cases e
    rw [eq_of_beq q]
    have : C' = C := Int.ofNat_inj.mp hC
    subst this
    exact ⟨TC.cl, h⟩
  · exact hr x t e C' hC
theorem Mth.mono {j : Nat} {m : Str} {sp : Sp} (h : Mth P w K mg base j C m sp) (hj : j ≤ k) : Mth P w K mg base k C m sp := by
  obtain ⟨f, fd, ps, h1, h2, h3⟩ := h.ex
  exact ⟨f, fd, ps, h1, h2.mono hj, h3⟩
theorem TFn.mono {j : Nat} {x : Str} {n : Nat} {R : RelT} (h : TFn P w K mg base j x C n R) (hj : j ≤ k) : TFn P w K mg base k x C n R := by
  obtain ⟨f, fd, ps, h1, h2, h3, h4⟩ := h.ex
  exact ⟨f, fd, ps, h1, h2, h3, h4.mono hj⟩
theorem MkC.mono {j : Nat} {x : Str} {R : RelI} (h : MkC P w K mg base j x C R) (hj : j ≤ k) : MkC P w K mg base k x C R := by
  obtain ⟨f, fd, ps, h1, h2, h3⟩ := h.ex
  exact ⟨f, fd, ps, h1, h2.mono hj, h3⟩
end
/-! ### the code of shares and of table_of -/
section
variable {X : Cx} {k : Nat} {c : Ct}
theorem shares_code {n : Nat} {own : Nat → Bool} (M : Mat X k c) (hk : c.sc.kind = .function) (h1 : slot c "rows" = some 1) (t1 : slotT c "rows" = some 1) {elt tg0 it0 tg1 it1 : Expr} {scope : Scope} {T T1 T2 : Tg} (hb : blkB c scope = true) (hT : evTg (c.blk scope) 9 tg0 = some T) (hT1 : evTg (c.blk scope) 9 tg1 = some T1)
    (hv : (inAll T.slots ((ownOf c.N scope.names).map (·.2)) && inAll T1.slots ((ownOf c.N scope.names).map (·.2)) && plainSet it1 && plainSet it0) = true)
    {tg it a1 a2 a3 b1 b2 b3 d1 d2 d3 f1 f2 f3 r : Expr} (hT2 : evTg c 9 tg = some T2) (hp : plainSet it = true)
    (pa2 : plainIx a2 = true) (pa3 : plainIx a3 = true) (pb2 : plainIx b2 = true) (pb3 : plainIx b3 = true) (pd2 : plainIx d2 = true) (pd3 : plainIx d3 = true) (pf2 : plainIx f2 = true) (pf3 : plainIx f3 = true)
    {q1 q2 q3 q4 q5 q6 q7 q8 q9 q10 q11 q12 q13 q14 q15 q16 q17 q18 q19 q20 q21 q22 : Pos} :
    PSs X [.Assign [.Name "rows" q1] (.ListComp elt [⟨tg0, it0, [], 0⟩, ⟨tg1, it1, [], 0⟩] scope q2) q3,
      .For tg it [.Assign [.Subscript (.Subscript (.Name "rows" q4) a2 q5) a3 q6] a1 q7, .Assign [.Subscript (.Subscript (.Name "rows" q8) b2 q9) b3 q10] b1 q11, .Assign [.Subscript (.Subscript (.Name "rows" q12) d2 q13) d3 q14] d1 q15, .Assign [.Subscript (.Subscript (.Name "rows" q16) f2 q17) f3 q18] f1 q19] [] q20,
      .Return (some r) q21]
      (tShares X.K (tLc2 (tI X.K (evI (evE (n + 1) c) c tg0 it0)) (tG X.K T) tYes (tI X.K (evI (evE (n + 1) (c.blk scope)) (c.blk scope) tg1 it1)) (tG X.K T1) tYes (tE X.K (evE (n + 1) (c.blk scope) elt)) ((ownOf c.N scope.names).map (·.2)) T1.slots) 1 (evI (evE (n + 1) c) c tg it) T2
        (evE (n + 1) c a1, evE (n + 1) c a2, evE (n + 1) c a3) (evE (n + 1) c b1, evE (n + 1) c b2, evE (n + 1) c b3) (evE (n + 1) c d1, evE (n + 1) c d2, evE (n + 1) c d3) (evE (n + 1) c f1, evE (n + 1) c f2, evE (n + 1) c f3)
        (evB (evS own (evE (n + 1) c) c 40) [.Return (some r) q21])) := by
  have hF := (evE_good (k := k) (n + 1)).pe M
  have hpo : PassesOwn (model X.prog X.w) X.A X.env X.xe := by rw [M.xe]; exact .never
  unfold tShares
  exact pss_cons (asg_lc2 M t1 hb hT hT1 hv) (pss_cons (ps_for hpo M.calm (evI_ok M hF) (evTg_ok M hT2) (pss_cons (mstore_ps M h1 pa2 pa3) (pss_cons (mstore_ps M h1 pb2 pb3) (pss_cons (mstore_ps M h1 pd2 pd3) (pss_cons (mstore_ps M h1 pf2 pf3) pss_nil)))) (fun x => evI_fold (f := evE 0 c) (c := c) (tg := .Name "x" ⟨0, 0, 0, 0⟩) hp)) (evB_ok M hk _))
theorem mk_code {j n : Nat} {C : Addr} {R : RelI} {x : Str} {e : Expr} {es : List Expr} (F : MkC X.prog X.w X.K X.mg X.base j x C R) (M : Mat X k c) (hj : j + 1 ≤ k) (hg : isGl c x = true) (hs : (e :: es).all nst = true) {p q r : Pos} :
    PSs X [.Return (some (.Call (.Name x p) (e :: es) [] q)) r] (tSeq (tRet (tMake C (spI X.K C R) [] E0 (tA X.K (evA (evE (n + 1) c) (e :: es))))) tNext) :=
  pss_cons (ps_ret (mkc_pe F M hj hg hs)) pss_nil
end

open PySem PySem.Spec PyProof.Rows L2
open PySem.W (minD maxD)
/-! # the plain side: what the meanings come to -/
abbrev gGt : G2 := gI fun i j => some (.bool (decide (j < i)))
abbrev gGe : G2 := gI fun i j => some (.bool (decide (j ≤ i)))
def ownL (l : List Nat) : Nat → Bool := fun i => l.contains i
@[irreducible] def wpO {α : Type} (o : Option α) (Q : α → Prop) : Prop := match o with
  | some a => Q a
  | none => False
theorem wpO_some {α : Type} {a : α} {Q : α → Prop} : wpO (some a) Q = Q a := by unfold wpO; rfl
theorem wpO_none {α : Type} {Q : α → Prop} : wpO none Q = False := by unfold wpO; rfl
theorem wpO_eq {α : Type} {o : Option α} {a : α} (h : wpO o fun x => x = a) : o = some a := by
  unfold wpO at h
  cases o with
  | none => cases h
  | some b => exact congrArg some h
theorem wpO_of {α : Type} {o : Option α} {Q : α → Prop} {a : α} (e : o = some a) (h : Q a) : wpO o Q := by rw [e, wpO_some]; exact h
theorem wpO_mono {α : Type} {o : Option α} {Q Q' : α → Prop} (h : wpO o Q) (w : ∀ a, Q a → Q' a) : wpO o Q' := by
  unfold wpO at h ⊢
  cases o with
  | none => exact h
  | some a => exact w a h
theorem wpO_ex {α : Type} {o : Option α} {Q : α → Prop} (h : wpO o Q) : ∃ a, o = some a ∧ Q a := by
  unfold wpO at h
  cases o with
  | none => cases h
  | some a => exact ⟨a, rfl, h⟩
@[irreducible] def wpE (f : EvF) (env : En) (τ : Tp) (Q : W → Tp → Prop) : Prop := wpO (f env τ) fun p => Q p.1 p.2
@[irreducible] def wpA (f : EvA) (env : En) (τ : Tp) (Q : List W → Tp → Prop) : Prop := wpO (f env τ) fun p => Q p.1 p.2
@[irreducible] def wpI (f : EvI) (env : En) (τ : Tp) (Q : List D → List W → Tp → Prop) : Prop := wpO (f env τ) fun p => Q p.1 p.2.1 p.2.2
@[irreducible] def wpS (f : EvS) (env : En) (τ : Tp) (Q : Out → Prop) : Prop := wpO (f env τ) Q
@[irreducible] def wpC (s : Sem1) (ws : List W) (τ : Tp) (Q : D → Tp → Prop) : Prop := wpO (s ws τ) fun p => Q p.1 p.2
def wpB (w : W) (Q : Bool → Prop) : Prop := match w with
  | .d (.bool b) => Q b
  | _ => False
theorem wpB_d {b : Bool} {Q : Bool → Prop} : wpB (.d (.bool b)) Q = Q b := rfl
theorem wpC_eq {s : Sem1} {ws : List W} {τ τ' : Tp} {d : D} (h : wpC s ws τ fun x t => x = d ∧ t = τ') : s ws τ = some (d, τ') := wpO_eq (wpO_mono (by unfold wpC at h; exact h) fun a h => by
  obtain ⟨a1, a2⟩ := a
  obtain ⟨h1, h2⟩ := h
  simp only at h1 h2
  rw [h1, h2])
theorem wpC_of {s : Sem1} {ws : List W} {τ τ' : Tp} {d : D} {Q : D → Tp → Prop} (e : s ws τ = some (d, τ')) (h : Q d τ') : wpC s ws τ Q := by
  unfold wpC
  exact wpO_of e h
section
variable {env : En} {τ : Tp} {Q : W → Tp → Prop}
theorem w_con {d : D} : wpE (eCon d) env τ Q = Q (.d d) τ := by
  unfold wpE wpO
  rfl
theorem w_var {i : Nat} : wpE (eVar i) env τ Q = match env[i]? with
  | some (.d x) => Q (.d x) τ
  | some (.own _) => Q (.loc i) τ
  | some .tp => Q .tp τ
  | _ => False := by
  unfold wpE eVar
  unfold wpO
  cases env[i]? with
  | none => rfl
  | some s => cases s <;> rfl
theorem w_f1 {g : G1} {a : EvF} : wpE (f1 g a) env τ Q = wpE a env τ fun x τ1 => wpO (g env τ1 x) fun w => Q w τ1 := by
  unfold wpE f1
  unfold wpO
  cases a env τ with
  | none => rfl
  | some p =>
    obtain ⟨x, t⟩ := p
    dsimp only
    cases g env t x <;> rfl
theorem w_f2 {g : G2} {a b : EvF} : wpE (f2 g a b) env τ Q = wpE a env τ fun x τ1 => wpE b env τ1 fun y τ2 => wpO (g env τ2 x y) fun w => Q w τ2 := by
  unfold wpE f2
  unfold wpO
  cases a env τ with
  | none => rfl
  | some p =>
    obtain ⟨x, t⟩ := p
    dsimp only
    cases b env t with
    | none => rfl
    | some p =>
      obtain ⟨y, t⟩ := p
      dsimp only
      cases g env t x y <;> rfl
theorem w_and {a b : EvF} : wpE (eAnd a b) env τ Q = wpE a env τ fun x τ1 => wpB x fun k => if k = true then wpE b env τ1 Q else Q (.d (.bool false)) τ1 := by
  unfold wpE eAnd
  unfold wpO
  cases a env τ with
  | none => rfl
  | some p =>
    obtain ⟨x, t⟩ := p
    dsimp only
    cases x with
    | d x =>
      cases x with
      | bool k => cases k <;> rfl
      | _ => rfl
    | _ => rfl
theorem w_or {a b : EvF} : wpE (eOr a b) env τ Q = wpE a env τ fun x τ1 => wpB x fun k => if k = true then Q (.d (.bool true)) τ1 else wpE b env τ1 Q := by
  unfold wpE eOr
  unfold wpO
  cases a env τ with
  | none => rfl
  | some p =>
    obtain ⟨x, t⟩ := p
    dsimp only
    cases x with
    | d x =>
      cases x with
      | bool k => cases k <;> rfl
      | _ => rfl
    | _ => rfl
theorem w_if {c a b : EvF} : wpE (eIf c a b) env τ Q = wpE c env τ fun x τ1 => wpB x fun k => if k = true then wpE a env τ1 Q else wpE b env τ1 Q := by
  unfold wpE eIf
  unfold wpO
  cases c env τ with
  | none => rfl
  | some p =>
    obtain ⟨x, t⟩ := p
    dsimp only
    cases x with
    | d x =>
      cases x with
      | bool k => cases k <;> rfl
      | _ => rfl
    | _ => rfl
theorem w_chn {g g' : G2} {a b c : EvF} : wpE (eChn g g' a b c) env τ Q = wpE a env τ fun x τ1 => wpE b env τ1 fun y τ2 => wpO (g env τ2 x y) fun w => wpB w fun k => if k = true then wpE c env τ2 fun z τ3 => wpO (g' env τ3 y z) fun w => Q w τ3 else Q (.d (.bool false)) τ2 := by
  unfold wpE eChn
  unfold wpO
  cases a env τ with
  | none => rfl
  | some p =>
    obtain ⟨x, t⟩ := p
    dsimp only
    cases b env t with
    | none => rfl
    | some p =>
      obtain ⟨y, t⟩ := p
      dsimp only
      cases g env t x y with
      | none => rfl
      | some w =>
        cases w with
        | d w =>
          cases w with
          | bool k =>
            cases k with
            | true =>
              dsimp only [wpB]
              rw [if_pos rfl]
              cases c env t with
              | none => rfl
              | some p =>
                obtain ⟨z, t⟩ := p
                dsimp only
                cases g' env t y z <;> rfl
            | false => rfl
          | _ => rfl
        | _ => rfl
theorem w_anil {Q : List W → Tp → Prop} : wpA aNil env τ Q = Q [] τ := by
  unfold wpA wpO
  rfl
theorem w_acons {a : EvF} {r : EvA} {Q : List W → Tp → Prop} : wpA (aCons a r) env τ Q = wpE a env τ fun x τ1 => wpA r env τ1 fun xs τ2 => Q (nf x :: xs) τ2 := by
  unfold wpA wpE aCons
  unfold wpO
  cases a env τ with
  | none => rfl
  | some p =>
    obtain ⟨x, t⟩ := p
    dsimp only
    cases r env t <;> rfl
theorem w_dcons {a : EvF} {r : EvA} {Q : List W → Tp → Prop} : wpA (dCons a r) env τ Q = wpE a env τ fun x τ1 => wpA r env τ1 fun xs τ2 => Q (x :: xs) τ2 := by
  unfold wpA wpE dCons
  unfold wpO
  cases a env τ with
  | none => rfl
  | some p =>
    obtain ⟨x, t⟩ := p
    dsimp only
    cases r env t <;> rfl
theorem w_tup {f : EvA} : wpE (eTup f) env τ Q = wpA f env τ fun ws τ1 => wpO (dsOf ws) fun ds => ds.length ≤ sizeLine ∧ Q (.d (.tuple ds)) τ1 := by
  unfold wpE wpA eTup
  unfold wpO
  cases f env τ with
  | none => rfl
  | some p =>
    obtain ⟨ws, t⟩ := p
    dsimp only
    cases dsOf ws with
    | none => rfl
    | some ds =>
      dsimp only
      by_cases h : ds.length ≤ sizeLine
      · rw [if_pos h]; simp [h]
      · rw [if_neg h]; simp [h]
theorem w_lst {f : EvA} : wpE (eLst f) env τ Q = wpA f env τ fun ws τ1 => wpO (dsOf ws) fun ds => ds.length ≤ sizeLine ∧ Q (.new ds) τ1 := by
  unfold wpE wpA eLst
  unfold wpO
  cases f env τ with
  | none => rfl
  | some p =>
    obtain ⟨ws, t⟩ := p
    dsimp only
    cases dsOf ws with
    | none => rfl
    | some ds =>
      dsimp only
      by_cases h : ds.length ≤ sizeLine
      · rw [if_pos h]; simp [h]
      · rw [if_neg h]; simp [h]
/-- how a call goes by its arguments -/
def callW (sem : Sem1) (env : En) (ws : List W) (τ1 : Tp) (Q : W → Tp → Prop) : Prop :=
  if noLoc ws = true then (if noTp ws = true then wpC sem ws [] (fun d _ => Q (.d d) τ1) else wpC sem ws τ1 fun d t => Q (.d d) t)
  else wpO (seen env ws) fun us => wpC sem us [] fun d _ => noLst d = true ∧ Q (.d d) τ1
theorem w_call {sem : Sem1} {f : EvA} : wpE (eCall sem f) env τ Q = wpA f env τ fun ws τ1 => callW sem env ws τ1 Q := by
  unfold wpE wpA eCall
  unfold wpO
  cases f env τ with
  | none => rfl
  | some p =>
    obtain ⟨ws, t⟩ := p
    dsimp only
    unfold callW wpC
    unfold wpO
    by_cases h1 : noLoc ws = true
    · rw [if_pos h1, if_pos h1]
      by_cases h2 : noTp ws = true
      · rw [if_pos h2, if_pos h2]
        cases sem ws [] with
        | none => rfl
        | some p => rfl
      · rw [if_neg h2, if_neg h2]
        cases sem ws t with
        | none => rfl
        | some p => rfl
    · rw [if_neg h1, if_neg h1]
      cases seen env ws with
      | none => rfl
      | some us =>
        dsimp only
        cases sem us [] with
        | none => rfl
        | some p =>
          obtain ⟨d, t'⟩ := p
          dsimp only
          by_cases h : noLst d = true
          · rw [if_pos h]; simp [h]
          · rw [if_neg h]; simp [h]
theorem call_d {sem : Sem1} {ws : List W} (h1 : noLoc ws = true) (h2 : noTp ws = true) : callW sem env ws τ Q = wpC sem ws [] fun d _ => Q (.d d) τ := by
  unfold callW
  rw [if_pos h1, if_pos h2]
theorem call_t {sem : Sem1} {ws : List W} (h1 : noLoc ws = true) (h2 : noTp ws = false) : callW sem env ws τ Q = wpC sem ws τ fun d t => Q (.d d) t := by
  unfold callW
  rw [if_pos h1, if_neg (by rw [h2]; exact Bool.false_ne_true)]
theorem w_sl {a : EvF} {lo hi : EvO} : wpE (eSl a lo hi) env τ Q = wpE a env τ fun w τ1 => wpO (lo env τ1) fun l => wpO (hi env l.2) fun h => wpO (gSl env h.2 w l.1 h.1) fun r => Q r h.2 := by
  unfold wpE eSl
  unfold wpO
  cases a env τ with
  | none => rfl
  | some p =>
    obtain ⟨x, t⟩ := p
    dsimp only
    cases lo env t with
    | none => rfl
    | some p =>
      obtain ⟨l, t⟩ := p
      dsimp only
      cases hi env t with
      | none => rfl
      | some p =>
        obtain ⟨h, t⟩ := p
        dsimp only
        cases gSl env t x l h <;> rfl
theorem o_none : oNone env τ = some (none, τ) := rfl
theorem w_osome {a : EvF} {Q : Option Int × Tp → Prop} : wpO (oSome a env τ) Q = wpE a env τ fun w τ1 => match w with
  | .d (.int i) => Q (some i, τ1)
  | _ => False := by
  unfold wpE oSome
  unfold wpO
  cases a env τ with
  | none => rfl
  | some p =>
    obtain ⟨x, t⟩ := p
    dsimp only
    cases x with
    | d x => cases x <;> rfl
    | _ => rfl
theorem w_lc {fi : EvI} {tg : Tg} {tt te : EvF} {vs : List Nat} : wpE (eLc fi tg tt te vs) env τ Q = wpI fi env τ fun its ws τ1 => (ws.all notTp = true ∧ its.length ≤ 1000000) ∧ wpO (lcGo tg tt te (wipeE env vs) its τ1) fun p => Q (.new p.1) p.2 := by
  unfold wpE wpI eLc
  unfold wpO
  cases fi env τ with
  | none => rfl
  | some p =>
    obtain ⟨its, ws, t⟩ := p
    dsimp only
    by_cases h : (ws.all notTp && decide (its.length ≤ 1000000)) = true
    · rw [if_pos h]
      rw [Bool.and_eq_true, decide_eq_true_iff] at h
      simp only [h, true_and, and_self]
      cases lcGo tg tt te (wipeE env vs) its t <;> rfl
    · rw [if_neg h]
      rw [Bool.and_eq_true, decide_eq_true_iff] at h
      simp only [h, false_and]
theorem w_iseq {a : EvF} {Q : List D → List W → Tp → Prop} : wpI (iSeq a) env τ Q = wpE a env τ fun w τ1 => wpO (seqOf env τ1 w) fun p => Q p.2 [w] τ1 := by
  unfold wpE wpI iSeq
  unfold wpO
  cases a env τ with
  | none => rfl
  | some p =>
    obtain ⟨w, t⟩ := p
    dsimp only
    cases seqOf env t w <;> rfl
theorem w_irng {f : EvA} {Q : List D → List W → Tp → Prop} : wpI (iRng f) env τ Q = wpA f env τ fun ws τ1 => match ws with
  | [.d (.int j)] => inR j = true ∧ Q (rangeD 0 j.toNat) [] τ1
  | [.d (.int i), .d (.int j)] => (inR i && inR j) = true ∧ Q (rangeD i (j - i).toNat) [] τ1
  | _ => False := by
  unfold wpA wpI iRng
  unfold wpO
  cases f env τ with
  | none => rfl
  | some p =>
    obtain ⟨ws, t⟩ := p
    dsimp only
    split
    · rename_i h
      split at h
      · rename_i j _ e
        cases e
        split at h
        · rename_i hj
          cases h
          simp [hj]
        · cases h
      · rename_i i j _ e
        cases e
        split at h
        · rename_i hj
          cases h
          simp [hj]
        · cases h
      · cases h
    · rename_i h
      split at h
      · rename_i j _ e
        cases e
        split at h
        · cases h
        · rename_i hj
          simp [hj]
      · rename_i i j _ e
        cases e
        split at h
        · cases h
        · rename_i hj
          simp [hj]
      · rename_i n1 n2
        split
        · rename_i j; exact absurd rfl (n1 j t)
        · rename_i i j; exact absurd rfl (n2 i j t)
        · rfl
end
section
variable {env : En} {τ : Tp} {Q : Out → Prop}
theorem s_next : wpS sNext env τ Q = Q (.nx env τ) := by
  unfold wpS wpO
  rfl
theorem s_seq {f g : EvS} : wpS (sSeq f g) env τ Q = wpS f env τ fun o => match o with
  | .nx e t => wpS g e t Q
  | .bk e t => Q (.bk e t)
  | .ct e t => Q (.ct e t)
  | .rt d t => Q (.rt d t) := by
  unfold wpS sSeq
  unfold wpO
  cases f env τ with
  | none => rfl
  | some o => cases o <;> rfl
theorem s_set {own : Bool} {i : Nat} {f : EvF} : wpS (sSet own i f) env τ Q = wpE f env τ fun w τ1 => wpO (setW own i w env) fun e => Q (.nx e τ1) := by
  unfold wpS wpE sSet
  unfold wpO
  cases f env τ with
  | none => rfl
  | some p =>
    obtain ⟨w, t⟩ := p
    dsimp only
    cases setW own i w env <;> rfl
theorem s_ret {f : EvF} : wpS (sRet f) env τ Q = wpE f env τ fun w τ1 => wpO (retD env w) fun d => Q (.rt d τ1) := by
  unfold wpS wpE sRet
  unfold wpO
  cases f env τ with
  | none => rfl
  | some p =>
    obtain ⟨w, t⟩ := p
    dsimp only
    cases retD env w <;> rfl
theorem s_if {c : EvF} {f g : EvS} : wpS (sIf c f g) env τ Q = wpE c env τ fun w τ1 => wpB w fun k => if k = true then wpS f env τ1 Q else wpS g env τ1 Q := by
  unfold wpS wpE sIf
  unfold wpO
  cases c env τ with
  | none => rfl
  | some p =>
    obtain ⟨x, t⟩ := p
    dsimp only
    cases x with
    | d x =>
      cases x with
      | bool k => cases k <;> rfl
      | _ => rfl
    | _ => rfl
theorem s_par {own : Nat → Bool} {is : List Nat} {f : EvA} : wpS (sPar own is f) env τ Q = wpA f env τ fun ws τ1 => wpO (setWs own is ws env) fun e => Q (.nx e τ1) := by
  unfold wpS wpA sPar
  unfold wpO
  cases f env τ with
  | none => rfl
  | some p =>
    obtain ⟨w, t⟩ := p
    dsimp only
    cases setWs own is w env <;> rfl
theorem s_tg {tg : Tg} {f : EvF} : wpS (sTg tg f) env τ Q = wpE f env τ fun w τ1 => wpO (toD w) fun d => wpO (bindT tg d env) fun e => Q (.nx e τ1) := by
  unfold wpS wpE sTg
  unfold wpO
  cases f env τ with
  | none => rfl
  | some p =>
    obtain ⟨w, t⟩ := p
    dsimp only
    cases toD w with
    | none => rfl
    | some d =>
      dsimp only
      cases bindT tg d env <;> rfl
theorem s_sub {i : Nat} {fi f : EvF} : wpS (sSub i fi f) env τ Q = wpE f env τ fun w τ1 => wpO (toD w) fun d => wpE fi env τ1 fun x τ2 => match x with
  | .d (.int k) => wpO (setSub i d k env τ2) Q
  | _ => False := by
  unfold wpS wpE sSub
  unfold wpO
  cases f env τ with
  | none => rfl
  | some p =>
    obtain ⟨w, t⟩ := p
    dsimp only
    cases toD w with
    | none => rfl
    | some d =>
      dsimp only
      cases fi env t with
      | none => rfl
      | some p =>
        obtain ⟨x, t⟩ := p
        cases x with
        | d x => cases x <;> rfl
        | _ => rfl
theorem s_for {fi : EvI} {tg : Tg} {body : EvS} : wpS (sFor fi tg body) env τ Q = wpI fi env τ fun its ws τ1 => ws.all notTp = true ∧ wpO (forGo tg body its (freezeS env ws) τ1) Q := by
  unfold wpS wpI sFor
  unfold wpO
  cases fi env τ with
  | none => rfl
  | some p =>
    obtain ⟨its, ws, t⟩ := p
    dsimp only
    by_cases h : ws.all notTp = true
    · rw [if_pos h]; simp [h]
    · rw [if_neg h]; simp [h]
theorem c_run {f : EvS} {N : List Str} {ws : List W} {Q : D → Tp → Prop} : wpC (runB f N) ws τ Q = wpS f (startE N ws) τ fun o => match o with
  | .rt d t => Q d t
  | .nx _ t => Q .none t
  | _ => False := by
  unfold wpC wpS runB
  unfold wpO
  cases f (startE N ws) τ with
  | none => rfl
  | some o => cases o <;> rfl
end

open PySem PySem.Spec PyProof.Rows L2
open PySem.W (minD maxD)
abbrev g_NOUGHT : D := .tuple [.int 0, .int 1]
abbrev g_ONE : D := .tuple [.int 1, .int 1]
abbrev g_HALF : D := .tuple [.int 1, .int 2]
abbrev g_MOST_STICKS : D := .int 5
abbrev g_FAR : D := .int 12
section
variable {env : En} {τ : Tp}
/-! ### more rules -/
theorem w_lc2 {fi : EvI} {tg : Tg} {tt : EvF} {fi1 : EvI} {tg1 : Tg} {tt1 te : EvF} {vs vs1 : List Nat} {Q : W → Tp → Prop} : wpE (eLc2 fi tg tt fi1 tg1 tt1 te vs vs1) env τ Q = wpI fi env τ fun its ws τ1 => (ws.all notTp = true ∧ its.length ≤ 1000) ∧ wpO (lc2Go tg tt fi1 tg1 tt1 te vs1 (wipeE env vs) its τ1) fun p => Q (.new p.1) p.2 := by
  unfold wpE wpI eLc2
  unfold wpO
  cases fi env τ with
  | none => rfl
  | some p =>
    obtain ⟨its, ws, t⟩ := p
    dsimp only
    by_cases h : (ws.all notTp && decide (its.length ≤ 1000)) = true
    · rw [if_pos h]
      rw [Bool.and_eq_true, decide_eq_true_iff] at h
      simp only [h, true_and, and_self]
      cases lc2Go tg tt fi1 tg1 tt1 te vs1 (wipeE env vs) its t <;> rfl
    · rw [if_neg h]
      rw [Bool.and_eq_true, decide_eq_true_iff] at h
      simp only [h, false_and]
theorem w_ienum {f : EvA} {Q : List D → List W → Tp → Prop} : wpI (iEnum f) env τ Q = wpA f env τ fun ws τ1 => match ws with
  | [w] => wpO (seqOf env τ1 w) fun p => Q (enumFrom 0 p.2) [w] τ1
  | _ => False := by
  unfold wpA wpI iEnum
  unfold wpO
  cases f env τ with
  | none => rfl
  | some p =>
    obtain ⟨ws, t⟩ := p
    match ws with
    | [] => rfl
    | [w] =>
      dsimp only
      cases seqOf env t w <;> rfl
    | _ :: _ :: _ => rfl
theorem w_izip {f : EvA} {Q : List D → List W → Tp → Prop} : wpI (iZip f) env τ Q = wpA f env τ fun ws τ1 => match ws with
  | [w, u] => wpO (seqOf env τ1 w) fun p => wpO (seqOf env τ1 u) fun r => Q (zipD p.2 r.2) [w, u] τ1
  | _ => False := by
  unfold wpA wpI iZip
  unfold wpO
  cases f env τ with
  | none => rfl
  | some p =>
    obtain ⟨ws, t⟩ := p
    match ws with
    | [] => rfl
    | [w] => rfl
    | [w, u] =>
      dsimp only
      cases seqOf env t w with
      | none => rfl
      | some p =>
        dsimp only
        cases seqOf env t u <;> rfl
    | _ :: _ :: _ :: _ => rfl
theorem s_app {i : Nat} {f : EvA} {Q : Out → Prop} : wpS (sApp i f) env τ Q = match env[i]? with
  | some (.own ds) => wpA f env τ fun ws τ1 => (match ws with
    | [.d d] => ds.length < 1000000 ∧ Q (.nx (env.set i (.own (ds ++ [d]))) τ1)
    | _ => False)
  | _ => False := by
  unfold wpS wpA sApp
  unfold wpO
  cases env[i]? with
  | none => rfl
  | some s =>
    cases s with
    | own ds =>
      dsimp only
      cases f env τ with
      | none => rfl
      | some p =>
        obtain ⟨ws, t⟩ := p
        match ws with
        | [] => rfl
        | [w] =>
          cases w with
          | d d =>
            dsimp only
            by_cases h : ds.length < 1000000
            · rw [if_pos h]; simp [h]
            · rw [if_neg h]; simp [h]
          | _ => rfl
        | w :: _ :: _ => cases w <;> rfl
    | _ => rfl
theorem s_drop {f : EvF} {Q : Out → Prop} : wpS (sDrop f) env τ Q = wpE f env τ fun _ τ1 => Q (.nx env τ1) := by
  unfold wpS wpE sDrop
  unfold wpO
  cases f env τ with
  | none => rfl
  | some p => rfl
/-! ### the operations at known shapes -/
theorem wpO_map {α β : Type} {f : α → β} {o : Option α} {Q : β → Prop} : wpO (o.map f) Q = wpO o fun a => Q (f a) := by with_unfolding_all cases o <;> rfl
theorem wpO_ite {α : Type} {c : Prop} [Decidable c] {a : α} {Q : α → Prop} : wpO (if c then some a else none) Q = (c ∧ Q a) := by
  by_cases h : c
  · rw [if_pos h]; simp [h, wpO]
  · rw [if_neg h]; simp [h, wpO]
theorem sq_t {ds : List D} : seqOf env τ (.d (.tuple ds)) = some (false, ds) := rfl
theorem sq_l {ds : List D} : seqOf env τ (.d (.list ds)) = some (true, ds) := rfl
theorem sq_n {ds : List D} : seqOf env τ (.new ds) = some (true, ds) := rfl
theorem sq_p : seqOf env τ .tp = some (true, τ) := rfl
theorem sq_o {i : Nat} : seqOf env τ (.loc i) = match env[i]? with | some (.own ds) => some (true, ds) | _ => none := rfl
theorem g_ix {w : W} {k : Int} : gIx env τ w (.d (.int k)) = (match seqOf env τ w with | some p => (atI p.2 k).map .d | none => none) := by
  unfold gIx
  cases seqOf env τ w <;> rfl
theorem g_add {i j : Int} : gAdd env τ (.d (.int i)) (.d (.int j)) = some (.d (.int (i + j))) := rfl
theorem g_sub {i j : Int} : gSub env τ (.d (.int i)) (.d (.int j)) = some (.d (.int (i - j))) := rfl
theorem g_lt {i j : Int} : gLt env τ (.d (.int i)) (.d (.int j)) = some (.d (.bool (decide (i < j)))) := rfl
theorem g_le {i j : Int} : gLe env τ (.d (.int i)) (.d (.int j)) = some (.d (.bool (decide (i ≤ j)))) := rfl
theorem g_gi {g : Int → Int → Option D} {i j : Int} : gI g env τ (.d (.int i)) (.d (.int j)) = (g i j).map .d := rfl
theorem g_mul {i j : Int} {Q : W → Prop} : wpO (gMul env τ (.d (.int i)) (.d (.int j))) Q = (i.natAbs.log2 + j.natAbs.log2 < 1000000 ∧ Q (.d (.int (i * j)))) := by
  unfold gMul
  rw [g_gi]
  unfold dMul
  by_cases h : i.natAbs.log2 + j.natAbs.log2 < 1000000
  · rw [if_pos h]; simp [h, wpO]
  · rw [if_neg h]; simp [h, wpO, gRep, gRepT, seqOf]
theorem eqv_int {i j : Int} : PyData.eqv (.int i) (.int j) = (i == j) := by unfold PyData.eqv; rfl
theorem eqv_str {i j : Str} : PyData.eqv (.str i) (.str j) = (i == j) := by unfold PyData.eqv; rfl
theorem g_eq_i {i j : Int} {n : Bool} : gEqD n env τ (.d (.int i)) (.d (.int j)) = some (.d (.bool (if n = true then !(i == j) else i == j))) := by
  have h : gEqD n env τ (.d (.int i)) (.d (.int j)) = some (.d (.bool (if n = true then !PyData.eqv (.int i) (.int j) else PyData.eqv (.int i) (.int j)))) := rfl
  rw [h, eqv_int]
theorem g_eq_s {i j : Str} {n : Bool} (h1 : SeqAt.shaped (.str i) = true) (h2 : SeqAt.shaped (.str j) = true) : gEqD n env τ (.d (.str i)) (.d (.str j)) = some (.d (.bool (if n = true then !(i == j) else i == j))) := by
  have h : gEqD n env τ (.d (.str i)) (.d (.str j)) = (if SeqAt.shaped (.str i) = true ∧ SeqAt.shaped (.str j) = true then some (.d (.bool (if n = true then !PyData.eqv (.str i) (.str j) else PyData.eqv (.str i) (.str j)))) else none) := rfl
  rw [h, eqv_str, if_pos ⟨h1, h2⟩]
theorem g_not {b : Bool} : gNot env τ (.d (.bool b)) = some (.d (.bool (!b))) := rfl
theorem g_neg {i : Int} : gNeg env τ (.d (.int i)) = some (.d (.int (-i))) := rfl
theorem g_abs {i : Int} : gAbs env τ (.d (.int i)) = some (.d (.int (if i < 0 then -i else i))) := rfl
theorem g_len {w : W} {ds : List D} {b : Bool} (h : seqOf env τ w = some (b, ds)) : gLen env τ w = some (.d (.int ds.length)) := by
  cases w with
  | d x => cases x <;> first | (cases h; rfl) | cases h
  | new ds => cases h; rfl
  | loc i =>
    show (match seqOf env τ (.loc i) with | some (_, ds) => some (W.d (.int ds.length)) | none => none) = _
    rw [h]
  | tp => cases h; rfl
theorem g_len_t {ds : List D} : gLen env τ (.d (.tuple ds)) = some (.d (.int ds.length)) := rfl
theorem g_len_l {ds : List D} : gLen env τ (.d (.list ds)) = some (.d (.int ds.length)) := rfl
theorem g_len_n {ds : List D} : gLen env τ (.new ds) = some (.d (.int ds.length)) := rfl
theorem g_len_p : gLen env τ .tp = some (.d (.int τ.length)) := rfl
theorem g_is_none {x : D} {n : Bool} : gIs n env τ (.d x) (.d .none) = some (.d (.bool (if n = true then !(match x with | .none => true | _ => false) else (match x with | .none => true | _ => false)))) := by
  cases x <;> rfl
theorem g_tuple {w : W} : gTuple env τ w = (match seqOf env τ w with | some p => some (.d (.tuple p.2)) | none => none) := by
  unfold gTuple
  cases seqOf env τ w <;> rfl
theorem g_list {w : W} : gList env τ w = (match seqOf env τ w with | some p => some (.new p.2) | none => none) := by
  unfold gList
  cases seqOf env τ w <;> rfl
theorem g_rev_t {ds : List D} : gRev env τ (.d (.tuple ds)) = some (.d (.tuple ds.reverse)) := rfl
theorem at_nat {α : Type} {l : List α} {k : Nat} (h : k < l.length) : atI l (k : Int) = l[k]? := by
  unfold atI ixN
  rw [if_pos (by omega), if_pos (by omega)]
  rfl
theorem at_0 {α : Type} {x : α} {r : List α} : atI (x :: r) 0 = some x := at_nat (k := 0) (by simp)
theorem at_1 {α : Type} {x y : α} {r : List α} : atI (x :: y :: r) 1 = some y := at_nat (k := 1) (by simp)
theorem at_2 {α : Type} {x y z : α} {r : List α} : atI (x :: y :: z :: r) 2 = some z := at_nat (k := 2) (by simp)
theorem at_3 {α : Type} {x y z u : α} {r : List α} : atI (x :: y :: z :: u :: r) 3 = some u := at_nat (k := 3) (by simp)
end
/-! ### step by step -/
section
variable {env : En} {τ : Tp} {Q : W → Tp → Prop} {R : Out → Prop}
def slV (i : Nat) : Sl → Option W
  | .d x => some (.d x)
  | .own _ => some (.loc i)
  | .tp => some .tp
  | _ => none
theorem k_var {i : Nat} {w : W} (e : (env[i]?).bind (slV i) = some w) (h : Q w τ) : wpE (eVar i) env τ Q := by
  rw [w_var]
  cases hs : env[i]? with
  | none => rw [hs] at e; cases e
  | some s =>
    rw [hs] at e
    cases s <;> first | (cases e; exact h) | cases e
theorem k_fld {i : Nat} {f : Str} {fl : List (Str × D)} {d : D} (hg : env[i]? = some (.ob fl)) (hl : fl.lookup f = some d) (h : Q (.d d) τ) : wpE (eFld i f) env τ Q := by
  unfold wpE eFld
  rw [hg]
  dsimp only
  rw [hl]
  exact wpO_of rfl h
theorem len_ok {ds : List D} (h : Nat.ble ds.length 60 = true) : ds.length ≤ sizeLine := Nat.le_trans (Nat.le_of_ble_eq_true h) (by decide)
theorem k_con {d : D} (h : Q (.d d) τ) : wpE (eCon d) env τ Q := by with_unfolding_all exact h
def seqK (g : EvS) (R : Out → Prop) : Out → Prop
  | .nx e t => wpS g e t R
  | .bk e t => R (.bk e t)
  | .ct e t => R (.ct e t)
  | .rt d t => R (.rt d t)
theorem k_seq {f g : EvS} (h : wpS f env τ (seqK g R)) : wpS (sSeq f g) env τ R := by with_unfolding_all
  rw [s_seq]
  exact wpO_mono h fun o q => by cases o <;> exact q
theorem k_nx {g : EvS} {e : En} {t : Tp} (h : wpS g e t R) : seqK g R (.nx e t) := h
theorem k_rt {g : EvS} {d : D} {t : Tp} (h : R (.rt d t)) : seqK g R (.rt d t) := h
theorem k_bk {g : EvS} {e : En} {t : Tp} (h : R (.bk e t)) : seqK g R (.bk e t) := h
theorem k_ct {g : EvS} {e : En} {t : Tp} (h : R (.ct e t)) : seqK g R (.ct e t) := h
def runK (Q : D → Tp → Prop) : Out → Prop
  | .rt d t => Q d t
  | .nx _ t => Q .none t
  | _ => False
theorem k_run {f : EvS} {N : List Str} {ws : List W} {Q : D → Tp → Prop} (h : wpS f (startE N ws) τ (runK Q)) : wpC (runB f N) ws τ Q := by with_unfolding_all
  rw [c_run]
  exact wpO_mono h fun o q => by cases o <;> exact q
theorem k_rrt {Q : D → Tp → Prop} {d : D} {t : Tp} (h : Q d t) : runK Q (.rt d t) := h
theorem k_rnx {Q : D → Tp → Prop} {e : En} {t : Tp} (h : Q .none t) : runK Q (.nx e t) := h
theorem k_bool {b : Bool} {Q : Bool → Prop} (h : Q b) : wpB (.d (.bool b)) Q := h
theorem k_some {α : Type} {o : Option α} {a : α} {Q : α → Prop} (e : o = some a) (h : Q a) : wpO o Q := wpO_of e h
theorem k_t {b : Bool} {A B : Prop} (e : b = true) (h : A) : (if b = true then A else B) := by rw [if_pos e]; exact h
theorem k_f {b : Bool} {A B : Prop} (e : b = false) (h : B) : (if b = true then A else B) := by rw [if_neg (by rw [e]; exact Bool.false_ne_true)]; exact h
theorem k_d {P : Prop} [Decidable P] {A B : Prop} (h1 : P → A) (h2 : ¬ P → B) : (if decide P = true then A else B) := by
  by_cases h : P
  · rw [if_pos (decide_eq_true h)]; exact h1 h
  · rw [if_neg (fun z => h (of_decide_eq_true z))]; exact h2 h
theorem k_nd {P : Prop} [Decidable P] {A B : Prop} (h1 : ¬ P → A) (h2 : P → B) : (if (!decide P) = true then A else B) := by
  by_cases h : P
  · rw [if_neg (by simp [h])]; exact h2 h
  · rw [if_pos (by simp [h])]; exact h1 h
theorem k_eq {α : Type} [BEq α] [LawfulBEq α] {a b : α} {A B : Prop} (h1 : a = b → A) (h2 : a ≠ b → B) : (if (a == b) = true then A else B) := by
  by_cases h : a = b
  · rw [if_pos (by simp [h])]; exact h1 h
  · rw [if_neg (by simp [h])]; exact h2 h
theorem k_neq {α : Type} [BEq α] [LawfulBEq α] {a b : α} {A B : Prop} (h1 : a ≠ b → A) (h2 : a = b → B) : (if (!(a == b)) = true then A else B) := by
  by_cases h : a = b
  · rw [if_neg (by simp [h])]; exact h2 h
  · rw [if_pos (by simp [h])]; exact h1 h
theorem k_mul {i j : Int} {Q : W → Prop} (h : i.natAbs.log2 + j.natAbs.log2 < 1000000) (q : Q (.d (.int (i * j)))) : wpO (gMul env τ (.d (.int i)) (.d (.int j))) Q := by
  rw [g_mul]
  exact ⟨h, q⟩
theorem k_mod {i j : Int} {Q : W → Prop} (h : 0 < j) (q : Q (.d (.int (i % j)))) : wpO (gI dMod env τ (.d (.int i)) (.d (.int j))) Q := by with_unfolding_all
  rw [g_gi]
  unfold dMod
  rw [if_pos h]
  exact q
theorem k_div {i j : Int} {Q : W → Prop} (h : 0 < j) (h2 : j.natAbs.log2 < 9000) (q : Q (.d (.int (i / j)))) : wpO (gI dDiv env τ (.d (.int i)) (.d (.int j))) Q := by with_unfolding_all
  rw [g_gi]
  unfold dDiv
  rw [if_pos ⟨h, h2⟩]
  exact q
theorem k_eqi {i j : Int} {Q : W → Prop} (q : Q (.d (.bool (i == j)))) : wpO (gEqD false env τ (.d (.int i)) (.d (.int j))) Q := by with_unfolding_all
  rw [g_eq_i]
  exact q
theorem k_nei {i j : Int} {Q : W → Prop} (q : Q (.d (.bool (!(i == j))))) : wpO (gEqD true env τ (.d (.int i)) (.d (.int j))) Q := by with_unfolding_all
  rw [g_eq_i]
  exact q
theorem k_calld {sem : Sem1} {ws : List W} (h1 : noLoc ws = true) (h2 : noTp ws = true) (q : wpC sem ws [] fun d _ => Q (.d d) τ) : callW sem env ws τ Q := by
  rw [call_d h1 h2]
  exact q
theorem k_callt {sem : Sem1} {ws : List W} (h1 : noLoc ws = true) (h2 : noTp ws = false) (q : wpC sem ws τ fun d t => Q (.d d) t) : callW sem env ws τ Q := by
  rw [call_t h1 h2]
  exact q
end
/-! iterators, comprehensions and loops by hand -/
section
variable {env : En} {τ : Tp}
def seqI (env : En) (τ : Tp) (w : W) (Q : List D → List W → Tp → Prop) : Prop := wpO (seqOf env τ w) fun p => Q p.2 [w] τ
theorem k_iseq {a : EvF} {Q : List D → List W → Tp → Prop} (h : wpE a env τ fun w τ1 => seqI env τ1 w Q) : wpI (iSeq a) env τ Q := by
  rw [w_iseq]
  exact h
theorem k_seqI {w : W} {b : Bool} {ds : List D} {Q : List D → List W → Tp → Prop} (e : seqOf env τ w = some (b, ds)) (h : Q ds [w] τ) : seqI env τ w Q := by with_unfolding_all
  unfold seqI
  rw [e]
  exact h
def enumI (env : En) (τ : Tp) (Q : List D → List W → Tp → Prop) : List W → Prop
  | [w] => wpO (seqOf env τ w) fun p => Q (enumFrom 0 p.2) [w] τ
  | _ => False
theorem k_ienum {f : EvA} {Q : List D → List W → Tp → Prop} (h : wpA f env τ fun ws τ1 => enumI env τ1 Q ws) : wpI (iEnum f) env τ Q := by with_unfolding_all
  rw [w_ienum]
  exact wpO_mono h fun p q => by
    obtain ⟨ws, t⟩ := p
    match ws, q with
    | [w], q => exact q
theorem k_enumI {w : W} {b : Bool} {ds : List D} {Q : List D → List W → Tp → Prop} (e : seqOf env τ w = some (b, ds)) (h : Q (enumFrom 0 ds) [w] τ) : enumI env τ Q [w] := by with_unfolding_all
  show wpO (seqOf env τ w) _
  rw [e]
  exact h
def zipI (env : En) (τ : Tp) (Q : List D → List W → Tp → Prop) : List W → Prop
  | [w, u] => wpO (seqOf env τ w) fun p => wpO (seqOf env τ u) fun r => Q (zipD p.2 r.2) [w, u] τ
  | _ => False
theorem k_izip {f : EvA} {Q : List D → List W → Tp → Prop} (h : wpA f env τ fun ws τ1 => zipI env τ1 Q ws) : wpI (iZip f) env τ Q := by with_unfolding_all
  rw [w_izip]
  exact wpO_mono h fun p q => by
    obtain ⟨ws, t⟩ := p
    match ws, q with
    | [w, u], q => exact q
theorem k_zipI {w u : W} {b c : Bool} {ds es : List D} {Q : List D → List W → Tp → Prop} (e : seqOf env τ w = some (b, ds)) (e2 : seqOf env τ u = some (c, es)) (h : Q (zipD ds es) [w, u] τ) : zipI env τ Q [w, u] := by with_unfolding_all
  show wpO (seqOf env τ w) _
  rw [e]
  show wpO (seqOf env τ u) _
  rw [e2]
  exact h
def rngI (Q : List D → List W → Tp → Prop) (τ1 : Tp) : List W → Prop
  | [.d (.int j)] => inR j = true ∧ Q (rangeD 0 j.toNat) [] τ1
  | [.d (.int i), .d (.int j)] => (inR i && inR j) = true ∧ Q (rangeD i (j - i).toNat) [] τ1
  | _ => False
theorem k_irng {f : EvA} {Q : List D → List W → Tp → Prop} (h : wpA f env τ fun ws τ1 => rngI Q τ1 ws) : wpI (iRng f) env τ Q := by with_unfolding_all
  rw [w_irng]
  exact wpO_mono h fun p q => by
    obtain ⟨ws, t⟩ := p
    dsimp only at q ⊢
    unfold rngI at q
    split at q
    · exact q
    · exact q
    · exact q.elim
theorem k_rng1 {j : Int} {Q : List D → List W → Tp → Prop} (h1 : -(2 ^ 62) ≤ j) (h2 : j < 2 ^ 62) (h : Q (rangeD 0 j.toNat) [] τ) : rngI Q τ [.d (.int j)] := ⟨by unfold inR; simp only [Bool.and_eq_true, decide_eq_true_eq]; exact ⟨h1, h2⟩, h⟩
theorem k_rng2 {i j : Int} {Q : List D → List W → Tp → Prop} (h1 : -(2 ^ 62) ≤ i) (h2 : i < 2 ^ 62) (h3 : -(2 ^ 62) ≤ j) (h4 : j < 2 ^ 62) (h : Q (rangeD i (j - i).toNat) [] τ) : rngI Q τ [.d (.int i), .d (.int j)] := ⟨by unfold inR; simp only [Bool.and_eq_true, decide_eq_true_eq]; exact ⟨⟨h1, h2⟩, h3, h4⟩, h⟩
theorem k_lc {fi : EvI} {tg : Tg} {tt te : EvF} {vs : List Nat} {Q : W → Tp → Prop} (h : wpI fi env τ fun its ws τ1 => ws.all notTp = true ∧ its.length ≤ 1000000 ∧ wpO (lcGo tg tt te (wipeE env vs) its τ1) fun p => Q (.new p.1) p.2) : wpE (eLc fi tg tt te vs) env τ Q := by with_unfolding_all
  rw [w_lc]
  exact wpO_mono h fun p q => ⟨⟨q.1, q.2.1⟩, q.2.2⟩
theorem k_lc2 {fi : EvI} {tg : Tg} {tt : EvF} {fi1 : EvI} {tg1 : Tg} {tt1 te : EvF} {vs vs1 : List Nat} {Q : W → Tp → Prop} (h : wpI fi env τ fun its ws τ1 => ws.all notTp = true ∧ its.length ≤ 1000 ∧ wpO (lc2Go tg tt fi1 tg1 tt1 te vs1 (wipeE env vs) its τ1) fun p => Q (.new p.1) p.2) : wpE (eLc2 fi tg tt fi1 tg1 tt1 te vs vs1) env τ Q := by with_unfolding_all
  rw [w_lc2]
  exact wpO_mono h fun p q => ⟨⟨q.1, q.2.1⟩, q.2.2⟩
theorem k_notTp {ws : List W} {n : Nat} {its : List D} {P : Prop} (h1 : ws.all notTp = true) (h2 : Nat.ble its.length 60 = true) (hn : Nat.ble 60 n = true) (h : P) : ws.all notTp = true ∧ its.length ≤ n ∧ P := ⟨h1, Nat.le_trans (Nat.le_of_ble_eq_true h2) (Nat.le_of_ble_eq_true hn), h⟩
theorem lc_nil {tg : Tg} {tt te : EvF} {Q : List D × Tp → Prop} (h : Q ([], τ)) : wpO (lcGo tg tt te env [] τ) Q := by with_unfolding_all exact h
theorem lc_cons {tg : Tg} {tt te : EvF} {d : D} {r : List D} {Q : List D × Tp → Prop} (h : wpO (bindT tg d env) fun e => wpE tt e τ fun w τ1 => wpB w fun b => if b = true then wpE te e τ1 fun w τ2 => wpO (toD w) fun x => wpO (lcGo tg tt te env r τ2) fun p => Q (x :: p.1, p.2) else wpO (lcGo tg tt te env r τ1) Q) :
    wpO (lcGo tg tt te env (d :: r) τ) Q := by with_unfolding_all
  obtain ⟨e, b1, q⟩ := wpO_ex h
  obtain ⟨⟨w, τ1⟩, b2, q⟩ := wpO_ex q
  unfold lcGo
  rw [b1]
  dsimp only at q ⊢
  rw [b2]
  cases w with
  | d x =>
    cases x with
    | bool b =>
      change (if b = true then _ else _) at q
      cases b with
      | true =>
        rw [if_pos rfl] at q
        obtain ⟨⟨w, τ2⟩, b3, q⟩ := wpO_ex q
        dsimp only at q ⊢
        rw [b3]
        obtain ⟨x, b4, q⟩ := wpO_ex q
        dsimp only
        rw [b4]
        obtain ⟨⟨l, τ3⟩, b5, q⟩ := wpO_ex q
        dsimp only at q ⊢
        rw [b5]
        exact q
      | false =>
        rw [if_neg Bool.false_ne_true] at q
        exact q
    | _ => exact q.elim
  | _ => exact q.elim
theorem k_yes {Q : W → Tp → Prop} (h : Q (.d (.bool true)) τ) : wpE tYesF env τ Q := by with_unfolding_all exact h
def forK (tg : Tg) (body : EvS) (r : List D) (R : Out → Prop) : Out → Prop
  | .nx e t => wpO (forGo tg body r e t) R
  | .ct e t => wpO (forGo tg body r e t) R
  | .bk e t => R (.nx e t)
  | .rt d t => R (.rt d t)
theorem for_nil {tg : Tg} {body : EvS} {R : Out → Prop} (h : R (.nx env τ)) : wpO (forGo tg body [] env τ) R := by with_unfolding_all exact h
theorem for_cons {tg : Tg} {body : EvS} {d : D} {r : List D} {R : Out → Prop} (h : wpO (bindT tg d env) fun e => wpS body e τ (forK tg body r R)) : wpO (forGo tg body (d :: r) env τ) R := by with_unfolding_all
  obtain ⟨e, b1, q⟩ := wpO_ex h
  obtain ⟨o, b2, q⟩ := wpO_ex q
  unfold forGo
  rw [b1]
  dsimp only
  rw [b2]
  cases o <;> exact q
theorem k_fnx {tg : Tg} {body : EvS} {r : List D} {R : Out → Prop} {e : En} {t : Tp} (h : wpO (forGo tg body r e t) R) : forK tg body r R (.nx e t) := h
theorem k_frt {tg : Tg} {body : EvS} {r : List D} {R : Out → Prop} {d : D} {t : Tp} (h : R (.rt d t)) : forK tg body r R (.rt d t) := h
def whK (I : En → Tp → Prop) (R : Out → Prop) : Out → Prop
  | .nx e t => I e t
  | .ct e t => I e t
  | .bk e t => R (.nx e t)
  | .rt d t => R (.rt d t)
theorem k_wnx {I : En → Tp → Prop} {R : Out → Prop} {e : En} {t : Tp} (h : I e t) : whK I R (.nx e t) := h
theorem k_wrt {I : En → Tp → Prop} {R : Out → Prop} {d : D} {t : Tp} (h : R (.rt d t)) : whK I R (.rt d t) := h
theorem k_in2 {x y z : Int} {Q : W → Prop} (q : Q (.d (.bool (y == x || z == x)))) : wpO (gIn false env τ (.d (.int x)) (.d (.tuple [.int y, .int z]))) Q := by with_unfolding_all
  have h : gIn false env τ (.d (.int x)) (.d (.tuple [.int y, .int z])) = some (.d (.bool (PyData.eqv (.int y) (.int x) || (PyData.eqv (.int z) (.int x) || false)))) := rfl
  rw [h, eqv_int, eqv_int, Bool.or_false]
  exact q
theorem k_eqs {x y : Str} {Q : W → Prop} (h1 : SeqAt.shaped (.str x) = true) (h2 : SeqAt.shaped (.str y) = true) (q : Q (.d (.bool (x == y)))) : wpO (gEqD false env τ (.d (.str x)) (.d (.str y))) Q := by with_unfolding_all
  rw [g_eq_s h1 h2]
  exact q
theorem k_or {a b : Bool} {A B : Prop} (h1 : a = true ∨ b = true → A) (h2 : a = false → b = false → B) : (if (a || b) = true then A else B) := by
  cases a <;> cases b
  · rw [if_neg (by simp)]; exact h2 rfl rfl
  · rw [if_pos (by simp)]; exact h1 (.inr rfl)
  · rw [if_pos (by simp)]; exact h1 (.inl rfl)
  · rw [if_pos (by simp)]; exact h1 (.inl rfl)
end
/-! the same by form alone -/
section
variable {env env' : En} {τ : Tp} {Q : W → Tp → Prop} {R : Out → Prop}
inductive GetAt : Nat → En → Sl → Prop
  | zero {s : Sl} {r : En} : GetAt 0 (s :: r) s
  | succ {i : Nat} {a s : Sl} {r : En} : GetAt i r s → GetAt (i + 1) (a :: r) s
inductive SetAt (s : Sl) : Nat → En → En → Prop
  | zero {a : Sl} {r : En} : SetAt s 0 (a :: r) (s :: r)
  | succ {i : Nat} {a : Sl} {r r' : En} : SetAt s i r r' → SetAt s (i + 1) (a :: r) (a :: r')
theorem GetAt.eq {i : Nat} {s : Sl} (h : GetAt i env s) : env[i]? = some s := by
  induction h with
  | zero => rfl
  | succ _ ih => simpa using ih
theorem SetAt.eq {i : Nat} {s : Sl} (h : SetAt s i env env') : env' = env.set i s ∧ i < env.length := by
  induction h with
  | zero => exact ⟨rfl, by simp⟩
  | succ _ ih => exact ⟨by rw [ih.1]; rfl, by simp; exact ih.2⟩
theorem k_vd {i : Nat} {x : D} (h : GetAt i env (.d x)) (q : Q (.d x) τ) : wpE (eVar i) env τ Q := k_var (w := .d x) (by rw [h.eq]; rfl) q
theorem k_vo {i : Nat} {x : List D} (h : GetAt i env (.own x)) (q : Q (.loc i) τ) : wpE (eVar i) env τ Q := k_var (w := .loc i) (by rw [h.eq]; rfl) q
theorem k_vt {i : Nat} (h : GetAt i env .tp) (q : Q .tp τ) : wpE (eVar i) env τ Q := k_var (w := .tp) (by rw [h.eq]; rfl) q
theorem k_f2 {g : G2} {a b : EvF} (h : wpE a env τ fun x τ1 => wpE b env τ1 fun y τ2 => wpO (g env τ2 x y) fun w => Q w τ2) : wpE (f2 g a b) env τ Q := by rw [w_f2]; exact h
theorem k_f1 {g : G1} {a : EvF} (h : wpE a env τ fun x τ1 => wpO (g env τ1 x) fun w => Q w τ1) : wpE (f1 g a) env τ Q := by rw [w_f1]; exact h
theorem k_and {a b : EvF} (h : wpE a env τ fun x τ1 => wpB x fun k => if k = true then wpE b env τ1 Q else Q (.d (.bool false)) τ1) : wpE (eAnd a b) env τ Q := by rw [w_and]; exact h
theorem k_or' {a b : EvF} (h : wpE a env τ fun x τ1 => wpB x fun k => if k = true then Q (.d (.bool true)) τ1 else wpE b env τ1 Q) : wpE (eOr a b) env τ Q := by rw [w_or]; exact h
theorem k_ife {c a b : EvF} (h : wpE c env τ fun x τ1 => wpB x fun k => if k = true then wpE a env τ1 Q else wpE b env τ1 Q) : wpE (eIf c a b) env τ Q := by rw [w_if]; exact h
theorem k_chn {g g' : G2} {a b c : EvF} (h : wpE a env τ fun x τ1 => wpE b env τ1 fun y τ2 => wpO (g env τ2 x y) fun w => wpB w fun k => if k = true then wpE c env τ2 fun z τ3 => wpO (g' env τ3 y z) fun w => Q w τ3 else Q (.d (.bool false)) τ2) : wpE (eChn g g' a b c) env τ Q := by rw [w_chn]; exact h
def consK (r : EvA) (env : En) (Q : List W → Tp → Prop) (w : W) (τ1 : Tp) : Prop := wpA r env τ1 fun xs τ2 => Q (nf w :: xs) τ2
theorem k_acons {a : EvF} {r : EvA} {Q : List W → Tp → Prop} (h : wpE a env τ (consK r env Q)) : wpA (aCons a r) env τ Q := by rw [w_acons]; exact h
theorem k_ckd {r : EvA} {Q : List W → Tp → Prop} {x : D} (h : wpA r env τ fun xs τ2 => Q (.d x :: xs) τ2) : consK r env Q (.d x) τ := h
theorem k_ckn {r : EvA} {Q : List W → Tp → Prop} {x : List D} (h : wpA r env τ fun xs τ2 => Q (.d (.list x) :: xs) τ2) : consK r env Q (.new x) τ := h
theorem k_ckt {r : EvA} {Q : List W → Tp → Prop} (h : wpA r env τ fun xs τ2 => Q (.tp :: xs) τ2) : consK r env Q .tp τ := h
theorem k_cko {r : EvA} {Q : List W → Tp → Prop} {i : Nat} (h : wpA r env τ fun xs τ2 => Q (.loc i :: xs) τ2) : consK r env Q (.loc i) τ := h
theorem k_anil {Q : List W → Tp → Prop} (h : Q [] τ) : wpA aNil env τ Q := by with_unfolding_all exact h
theorem k_dcons {a : EvF} {r : EvA} {Q : List W → Tp → Prop} (h : wpE a env τ fun x τ1 => wpA r env τ1 fun xs τ2 => Q (x :: xs) τ2) : wpA (dCons a r) env τ Q := by rw [w_dcons]; exact h
def tupK (Q : W → Tp → Prop) (ws : List W) (τ : Tp) : Prop := wpO (dsOf ws) fun ds => ds.length ≤ sizeLine ∧ Q (.d (.tuple ds)) τ
def lstK (Q : W → Tp → Prop) (ws : List W) (τ : Tp) : Prop := wpO (dsOf ws) fun ds => ds.length ≤ sizeLine ∧ Q (.new ds) τ
theorem k_tup {f : EvA} (h : wpA f env τ (tupK Q)) : wpE (eTup f) env τ Q := by rw [w_tup]; exact h
theorem k_lst {f : EvA} (h : wpA f env τ (lstK Q)) : wpE (eLst f) env τ Q := by rw [w_lst]; exact h
theorem k_tup0 (h : Q (.d (.tuple [])) τ) : tupK Q [] τ := by with_unfolding_all exact ⟨by decide, h⟩
theorem k_tup1 {a : D} (h : Q (.d (.tuple [a])) τ) : tupK Q [.d a] τ := by with_unfolding_all exact ⟨len_ok rfl, h⟩
theorem k_tup2 {a b : D} (h : Q (.d (.tuple [a, b])) τ) : tupK Q [.d a, .d b] τ := by with_unfolding_all exact ⟨len_ok rfl, h⟩
theorem k_tup3 {a b c : D} (h : Q (.d (.tuple [a, b, c])) τ) : tupK Q [.d a, .d b, .d c] τ := by with_unfolding_all exact ⟨len_ok rfl, h⟩
theorem k_tup4 {a b c d : D} (h : Q (.d (.tuple [a, b, c, d])) τ) : tupK Q [.d a, .d b, .d c, .d d] τ := by with_unfolding_all exact ⟨len_ok rfl, h⟩
theorem k_lst0 (h : Q (.new []) τ) : lstK Q [] τ := by with_unfolding_all exact ⟨by decide, h⟩
theorem k_lst1 {a : D} (h : Q (.new [a]) τ) : lstK Q [.d a] τ := by with_unfolding_all exact ⟨len_ok rfl, h⟩
theorem k_lst2 {a b : D} (h : Q (.new [a, b]) τ) : lstK Q [.d a, .d b] τ := by with_unfolding_all exact ⟨len_ok rfl, h⟩
theorem k_lst3 {a b c : D} (h : Q (.new [a, b, c]) τ) : lstK Q [.d a, .d b, .d c] τ := by with_unfolding_all exact ⟨len_ok rfl, h⟩
theorem k_lst4 {a b c d : D} (h : Q (.new [a, b, c, d]) τ) : lstK Q [.d a, .d b, .d c, .d d] τ := by with_unfolding_all exact ⟨len_ok rfl, h⟩
theorem k_tupn {ws : List W} {ds : List D} (e : dsOf ws = some ds) (h1 : ds.length ≤ sizeLine) (h : Q (.d (.tuple ds)) τ) : tupK Q ws τ := wpO_of e ⟨h1, h⟩
theorem k_lstn {ws : List W} {ds : List D} (e : dsOf ws = some ds) (h1 : ds.length ≤ sizeLine) (h : Q (.new ds) τ) : lstK Q ws τ := wpO_of e ⟨h1, h⟩
theorem k_call {sem : Sem1} {f : EvA} (h : wpA f env τ fun ws τ1 => callW sem env ws τ1 Q) : wpE (eCall sem f) env τ Q := by rw [w_call]; exact h
theorem k_set {own : Bool} {i : Nat} {f : EvF} (h : wpE f env τ fun w τ1 => wpO (setW own i w env) fun e => R (.nx e τ1)) : wpS (sSet own i f) env τ R := by rw [s_set]; exact h
theorem setW_d {own : Bool} {i : Nat} {x : D} (h : SetAt (.d x) i env env') : setW own i (.d x) env = some env' := by
  rw [h.eq.1]
  unfold setW
  exact if_pos h.eq.2
theorem setW_n {own : Bool} {i : Nat} {x : List D} (ho : own = true) (h : SetAt (.own x) i env env') : setW own i (.new x) env = some env' := by
  rw [h.eq.1, ho]
  unfold setW
  exact if_pos h.eq.2
theorem setW_f {own : Bool} {i : Nat} {x : List D} (ho : own = false) (h : SetAt (.d (.list x)) i env env') : setW own i (.new x) env = some env' := by
  rw [h.eq.1, ho]
  unfold setW
  exact if_pos h.eq.2
theorem k_setd {own : Bool} {i : Nat} {x : D} {Q : En → Prop} (h : SetAt (.d x) i env env') (q : Q env') : wpO (setW own i (.d x) env) Q := wpO_of (setW_d h) q
theorem k_setn {i : Nat} {x : List D} {Q : En → Prop} (h : SetAt (.own x) i env env') (q : Q env') : wpO (setW true i (.new x) env) Q := wpO_of (setW_n rfl h) q
theorem k_setf {i : Nat} {x : List D} {Q : En → Prop} (h : SetAt (.d (.list x)) i env env') (q : Q env') : wpO (setW false i (.new x) env) Q := wpO_of (setW_f rfl h) q
theorem k_ret {f : EvF} (h : wpE f env τ fun w τ1 => wpO (retD env w) fun d => R (.rt d τ1)) : wpS (sRet f) env τ R := by rw [s_ret]; exact h
theorem k_retd {x : D} {Q : D → Prop} (q : Q x) : wpO (retD env (.d x)) Q := by with_unfolding_all exact q
theorem k_retn {x : List D} {Q : D → Prop} (q : Q (.list x)) : wpO (retD env (.new x)) Q := by with_unfolding_all exact q
theorem k_reto {i : Nat} {x : List D} {Q : D → Prop} (h : GetAt i env (.own x)) (q : Q (.list x)) : wpO (retD env (.loc i)) Q := by with_unfolding_all
  show wpO (match env[i]? with | some (.own ds) => some (PyData.list ds) | _ => none) Q
  rw [h.eq]
  exact q
theorem k_sif {c : EvF} {f g : EvS} (h : wpE c env τ fun w τ1 => wpB w fun k => if k = true then wpS f env τ1 R else wpS g env τ1 R) : wpS (sIf c f g) env τ R := by rw [s_if]; exact h
theorem k_par {own : Nat → Bool} {is : List Nat} {f : EvA} (h : wpA f env τ fun ws τ1 => wpO (setWs own is ws env) fun e => R (.nx e τ1)) : wpS (sPar own is f) env τ R := by rw [s_par]; exact h
theorem k_ws0 {own : Nat → Bool} {Q : En → Prop} (q : Q env) : wpO (setWs own [] [] env) Q := by with_unfolding_all exact q
theorem wsc {own : Nat → Bool} {i : Nat} {is : List Nat} {w : W} {ws : List W} {Q : En → Prop} (e : setW (own i) i w env = some env') (q : wpO (setWs own is ws env') Q) : wpO (setWs own (i :: is) (w :: ws) env) Q := by
  unfold setWs
  rw [e]
  exact q
theorem k_wsd {own : Nat → Bool} {i : Nat} {is : List Nat} {x : D} {ws : List W} {Q : En → Prop} (h : SetAt (.d x) i env env') (q : wpO (setWs own is ws env') Q) : wpO (setWs own (i :: is) (.d x :: ws) env) Q := wsc (setW_d h) q
theorem k_wsn {own : Nat → Bool} {i : Nat} {is : List Nat} {x : List D} {ws : List W} {Q : En → Prop} (ho : own i = true) (h : SetAt (.own x) i env env') (q : wpO (setWs own is ws env') Q) : wpO (setWs own (i :: is) (.new x :: ws) env) Q := wsc (setW_n ho h) q
theorem k_wsf {own : Nat → Bool} {i : Nat} {is : List Nat} {x : List D} {ws : List W} {Q : En → Prop} (ho : own i = false) (h : SetAt (.d (.list x)) i env env') (q : wpO (setWs own is ws env') Q) : wpO (setWs own (i :: is) (.new x :: ws) env) Q := wsc (setW_f ho h) q
theorem k_tg {tg : Tg} {f : EvF} (h : wpE f env τ fun w τ1 => wpO (toD w) fun d => wpO (bindT tg d env) fun e => R (.nx e τ1)) : wpS (sTg tg f) env τ R := by rw [s_tg]; exact h
theorem k_tod {x : D} {Q : D → Prop} (q : Q x) : wpO (toD (.d x)) Q := by with_unfolding_all exact q
theorem k_ton {x : List D} {Q : D → Prop} (q : Q (.list x)) : wpO (toD (.new x)) Q := by with_unfolding_all exact q
theorem k_bnm {i : Nat} {d : D} {Q : En → Prop} (h : SetAt (.d d) i env env') (q : Q env') : wpO (bindT (.nm i) d env) Q := by
  refine wpO_of (a := env') ?_ q
  rw [h.eq.1]
  unfold bindT
  exact if_pos h.eq.2
theorem k_btu {l : Tg} {ds : List D} {Q : En → Prop} (q : wpO (bindTs l ds env) Q) : wpO (bindT (.tu l) (.tuple ds) env) Q := by unfold bindT; exact q
theorem k_btl {l : Tg} {ds : List D} {Q : En → Prop} (q : wpO (bindTs l ds env) Q) : wpO (bindT (.tu l) (.list ds) env) Q := by unfold bindT; exact q
theorem k_bnl {Q : En → Prop} (q : Q env) : wpO (bindTs .nl [] env) Q := by with_unfolding_all unfold bindTs; exact q
theorem k_bcn {a b : Tg} {d : D} {ds : List D} {Q : En → Prop} (q : wpO (bindT a d env) fun e => wpO (bindTs b ds e) Q) : wpO (bindTs (.cn a b) (d :: ds) env) Q := by with_unfolding_all
  unfold bindTs
  cases h : bindT a d env with
  | none => rw [h] at q; exact q.elim
  | some e => rw [h] at q; exact q
theorem k_ix0 {x : D} {r : List D} {Q : W → Prop} (q : Q (.d x)) : wpO (gIx env τ (.d (.tuple (x :: r))) (.d (.int 0))) Q := by with_unfolding_all
  rw [g_ix, sq_t]
  show wpO ((atI (x :: r) 0).map W.d) Q
  rw [at_0]
  exact q
theorem k_ix1 {x y : D} {r : List D} {Q : W → Prop} (q : Q (.d y)) : wpO (gIx env τ (.d (.tuple (x :: y :: r))) (.d (.int 1))) Q := by with_unfolding_all
  rw [g_ix, sq_t]
  show wpO ((atI (x :: y :: r) 1).map W.d) Q
  rw [at_1]
  exact q
theorem k_add {i j : Int} {Q : W → Prop} (q : Q (.d (.int (i + j)))) : wpO (gAdd env τ (.d (.int i)) (.d (.int j))) Q := by with_unfolding_all exact q
theorem k_sub {i j : Int} {Q : W → Prop} (q : Q (.d (.int (i - j)))) : wpO (gSub env τ (.d (.int i)) (.d (.int j))) Q := by with_unfolding_all exact q
theorem k_lt {i j : Int} {Q : W → Prop} (q : Q (.d (.bool (decide (i < j))))) : wpO (gLt env τ (.d (.int i)) (.d (.int j))) Q := by with_unfolding_all exact q
theorem k_le {i j : Int} {Q : W → Prop} (q : Q (.d (.bool (decide (i ≤ j))))) : wpO (gLe env τ (.d (.int i)) (.d (.int j))) Q := by with_unfolding_all exact q
theorem k_gt {i j : Int} {Q : W → Prop} (q : Q (.d (.bool (decide (j < i))))) : wpO (gGt env τ (.d (.int i)) (.d (.int j))) Q := by with_unfolding_all exact q
theorem k_ge {i j : Int} {Q : W → Prop} (q : Q (.d (.bool (decide (j ≤ i))))) : wpO (gGe env τ (.d (.int i)) (.d (.int j))) Q := by with_unfolding_all exact q
theorem k_not {b : Bool} {Q : W → Prop} (q : Q (.d (.bool (!b)))) : wpO (gNot env τ (.d (.bool b))) Q := by with_unfolding_all exact q
theorem k_neg {i : Int} {Q : W → Prop} (q : Q (.d (.int (-i)))) : wpO (gNeg env τ (.d (.int i))) Q := by with_unfolding_all exact q
theorem k_abs {i : Int} {Q : W → Prop} (q : Q (.d (.int i.natAbs))) : wpO (gAbs env τ (.d (.int i))) Q := by with_unfolding_all
  have e : (if i < 0 then -i else i) = (i.natAbs : Int) := by split <;> omega
  rw [g_abs, e]
  exact q
theorem k_lent {ds : List D} {Q : W → Prop} (q : Q (.d (.int ds.length))) : wpO (gLen env τ (.d (.tuple ds))) Q := by with_unfolding_all exact q
theorem k_lenl {ds : List D} {Q : W → Prop} (q : Q (.d (.int ds.length))) : wpO (gLen env τ (.d (.list ds))) Q := by with_unfolding_all exact q
theorem k_sfor {fi : EvI} {tg : Tg} {body : EvS} (h : wpI fi env τ fun its ws τ1 => ws.all notTp = true ∧ wpO (forGo tg body its (freezeS env ws) τ1) R) : wpS (sFor fi tg body) env τ R := by rw [s_for]; exact h
theorem k_for0 {its : List D} {tg : Tg} {body : EvS} (h : wpO (forGo tg body its env τ) R) : [].all notTp = true ∧ wpO (forGo tg body its (freezeS env []) τ) R := ⟨rfl, h⟩
theorem k_for1 {its : List D} {tg : Tg} {body : EvS} {x : D} (h : wpO (forGo tg body its env τ) R) : [W.d x].all notTp = true ∧ wpO (forGo tg body its (freezeS env [W.d x]) τ) R := ⟨rfl, h⟩
theorem k_forn {its : List D} {tg : Tg} {body : EvS} {x : List D} (h : wpO (forGo tg body its env τ) R) : [W.new x].all notTp = true ∧ wpO (forGo tg body its (freezeS env [W.new x]) τ) R := ⟨rfl, h⟩
theorem k_foro {its : List D} {tg : Tg} {body : EvS} {i : Nat} {x : List D} (hg : GetAt i env (.own x)) (hs : SetAt (.d (.list x)) i env env') (h : wpO (forGo tg body its env' τ) R) : [W.loc i].all notTp = true ∧ wpO (forGo tg body its (freezeS env [W.loc i]) τ) R := by
  refine ⟨rfl, ?_⟩
  have e : freezeS env [W.loc i] = env' := by
    show (match env[i]? with | some (.own ds) => freezeS (env.set i (.d (.list ds))) [] | _ => freezeS env []) = _
    rw [hg.eq, hs.eq.1]
    rfl
  rw [e]
  exact h
def appK (i : Nat) (ds : List D) (env : En) (R : Out → Prop) : List W → Tp → Prop
  | [.d d], τ1 => ds.length < 1000000 ∧ R (.nx (env.set i (.own (ds ++ [d]))) τ1)
  | _, _ => False
theorem k_app {i : Nat} {f : EvA} {ds : List D} (hg : GetAt i env (.own ds)) (h : wpA f env τ (appK i ds env R)) : wpS (sApp i f) env τ R := by with_unfolding_all
  rw [s_app, hg.eq]
  exact wpO_mono h fun p q => by
    obtain ⟨ws, t⟩ := p
    match ws, q with
    | [.d d], q => exact q
theorem k_appd {i : Nat} {ds : List D} {d : D} (hl : ds.length < 1000000) (h : SetAt (.own (ds ++ [d])) i env env') (q : R (.nx env' τ)) : appK i ds env R [.d d] τ := by
  refine ⟨hl, ?_⟩
  rw [← h.eq.1]
  exact q
inductive StE : List Str → List W → En → Prop
  | nil : StE [] [] []
  | no {x : Str} {N : List Str} {env : En} : StE N [] env → StE (x :: N) [] (.no :: env)
  | d {x : Str} {N : List Str} {v : D} {ws : List W} {env : En} : StE N ws env → StE (x :: N) (.d v :: ws) (.d v :: env)
  | tp {x : Str} {N : List Str} {ws : List W} {env : En} : StE N ws env → StE (x :: N) (.tp :: ws) (.tp :: env)
theorem StE.eq {N : List Str} {ws : List W} {env : En} (h : StE N ws env) : startE N ws = env := by
  induction h with
  | nil => rfl
  | no _ ih =>
    unfold startE at ih ⊢
    simp [List.replicate_succ] at ih ⊢
    exact ih
  | d _ ih =>
    unfold startE at ih ⊢
    simp [toSl] at ih ⊢
    exact ih
  | tp _ ih =>
    unfold startE at ih ⊢
    simp [toSl] at ih ⊢
    exact ih
theorem k_run' {f : EvS} {N : List Str} {ws : List W} {Q : D → Tp → Prop} (e : StE N ws env) (h : wpS f env τ (runK Q)) : wpC (runB f N) ws τ Q := k_run (by rw [e.eq]; exact h)
inductive WpE (env : En) : List Nat → En → Prop
  | nil : WpE env [] env
  | cons {v : Nat} {vs : List Nat} {e e' : En} : WpE env vs e → SetAt .no v e e' → WpE env (v :: vs) e'
theorem WpE.eq {vs : List Nat} (h : WpE env vs env') : wipeE env vs = env' := by
  induction h with
  | nil => rfl
  | cons _ s ih =>
    unfold wipeE
    rw [ih, s.eq.1]
def lcW (tg : Tg) (tt te : EvF) (env : En) (its : List D) (τ : Tp) (Q : List D → Tp → Prop) : Prop := wpO (lcGo tg tt te env its τ) fun p => Q p.1 p.2
def lcK (tg : Tg) (tt te : EvF) (env : En) (Q : W → Tp → Prop) (its : List D) (ws : List W) (τ1 : Tp) : Prop := ws.all notTp = true ∧ its.length ≤ 1000000 ∧ lcW tg tt te env its τ1 fun l t => Q (.new l) t
theorem k_lc' {fi : EvI} {tg : Tg} {tt te : EvF} {vs : List Nat} (hw : WpE env vs env') (h : wpI fi env τ (lcK tg tt te env' Q)) : wpE (eLc fi tg tt te vs) env τ Q := by
  refine k_lc ?_
  rw [hw.eq]
  exact h
theorem k_lcK {tg : Tg} {tt te : EvF} {its : List D} {ws : List W} (h1 : ws.all notTp = true) (h2 : its.length ≤ 1000000) (h : lcW tg tt te env its τ fun l t => Q (.new l) t) : lcK tg tt te env Q its ws τ := ⟨h1, h2, h⟩
theorem lcw_nil {tg : Tg} {tt te : EvF} {Q : List D → Tp → Prop} (h : Q [] τ) : lcW tg tt te env [] τ Q := by with_unfolding_all exact h
theorem lcw_cons {tg : Tg} {tt te : EvF} {d : D} {r : List D} {Q : List D → Tp → Prop} (h : wpO (bindT tg d env) fun e => wpE tt e τ fun w τ1 => wpB w fun b => if b = true then wpE te e τ1 fun w τ2 => wpO (toD w) fun x => lcW tg tt te env r τ2 fun l t => Q (x :: l) t else lcW tg tt te env r τ1 Q) :
    lcW tg tt te env (d :: r) τ Q := lc_cons h
theorem len60 {its : List D} (h : Nat.ble its.length 60 = true) : its.length ≤ 1000000 := Nat.le_trans (Nat.le_of_ble_eq_true h) (by decide)
/-- the names that come from a pure list -/
theorem lcw_of {tg : Tg} {tt te : EvF} {its l : List D} {Q : List D → Tp → Prop} (e : lcGo tg tt te env its τ = some (l, τ)) (h : Q l τ) : lcW tg tt te env its τ Q := wpO_of e h
end
/-- where a name's slot stands -/
local macro_rules | `(tactic| wtm_at "ev_ga") => `(tactic| with_reducible repeat (first | exact GetAt.zero | exact SetAt.zero | apply GetAt.succ | apply SetAt.succ))
local macro_rules | `(tactic| wtm_at "ev_gw") => `(tactic| with_reducible (repeat (first | exact WpE.nil | apply WpE.cons | exact SetAt.zero | apply SetAt.succ)))
local macro_rules | `(tactic| wtm_at "ev_gs") => `(tactic| with_reducible repeat (first | exact StE.nil | apply StE.d | apply StE.tp | apply StE.no))
local macro_rules | `(tactic| wtm_at "ev_stE") => `(tactic| ((with_reducible show wpE _ _ _ _); first
  | (with_reducible refine k_con ?_)
  | (with_reducible refine k_f2 ?_)
  | ((with_reducible apply k_vd); (focus (wtm_at "ev_ga"; done)))
  | (with_reducible refine k_f1 ?_)
  | (with_reducible refine k_call ?_)
  | (with_reducible refine k_tup ?_)
  | (with_reducible refine k_and ?_)
  | (with_reducible refine k_or' ?_)
  | (with_reducible refine k_ife ?_)
  | (with_reducible refine k_chn ?_)
  | (with_reducible refine k_lst ?_)
  | (with_reducible refine k_yes ?_)
  | ((with_reducible apply k_lc'); (focus (wtm_at "ev_gw"; done)))
  | ((with_reducible apply k_vo); (focus (wtm_at "ev_ga"; done)))
  | ((with_reducible apply k_vt); (focus (wtm_at "ev_ga"; done)))
  | (with_reducible refine Eq.mpr w_sl ?_)))
local macro_rules | `(tactic| wtm_at "ev_stS") => `(tactic| ((with_reducible show wpS _ _ _ _); first
  | (with_reducible refine k_seq ?_)
  | (with_reducible refine k_set ?_)
  | (with_reducible refine k_ret ?_)
  | (with_reducible refine k_sif ?_)
  | (with_reducible refine Eq.mpr s_next ?_)
  | (with_reducible refine k_par ?_)
  | (with_reducible refine k_tg ?_)
  | (with_reducible refine Eq.mpr s_sub ?_)
  | (with_reducible refine k_sfor ?_)
  | ((with_reducible apply k_app); (focus (wtm_at "ev_ga"; done)))
  | (with_reducible refine Eq.mpr s_drop ?_)))
local macro_rules | `(tactic| wtm_at "ev_stO") => `(tactic| ((with_reducible show wpO _ _); first
  | (with_reducible refine k_ix0 ?_)
  | (with_reducible refine k_ix1 ?_)
  | (with_reducible refine k_add ?_)
  | (with_reducible refine k_sub ?_)
  | ((with_reducible refine k_mul ?_ ?_); assumption)
  | (with_reducible refine k_lt ?_)
  | (with_reducible refine k_le ?_)
  | (with_reducible refine k_eqi ?_)
  | (with_reducible refine k_nei ?_)
  | (with_reducible refine k_not ?_)
  | (with_reducible refine k_neg ?_)
  | (with_reducible refine k_abs ?_)
  | (with_reducible refine k_gt ?_)
  | (with_reducible refine k_ge ?_)
  | (with_reducible refine k_in2 ?_)
  | (with_reducible refine k_lent ?_)
  | (with_reducible refine k_lenl ?_)
  | ((with_reducible apply k_setd); (focus (wtm_at "ev_ga"; done)))
  | ((with_reducible apply k_setn); (focus (wtm_at "ev_ga"; done)))
  | ((with_reducible apply k_setf); (focus (wtm_at "ev_ga"; done)))
  | (with_reducible refine k_retd ?_)
  | (with_reducible refine k_retn ?_)
  | ((with_reducible apply k_reto); (focus (wtm_at "ev_ga"; done)))
  | (with_reducible refine k_ws0 ?_)
  | ((with_reducible apply k_wsd); (focus (wtm_at "ev_ga"; done)))
  | ((with_reducible apply k_wsn); (focus exact rfl); (focus (wtm_at "ev_ga"; done)))
  | ((with_reducible apply k_wsf); (focus exact rfl); (focus (wtm_at "ev_ga"; done)))
  | (with_reducible refine k_tod ?_)
  | (with_reducible refine k_ton ?_)
  | ((with_reducible apply k_bnm); (focus (wtm_at "ev_ga"; done)))
  | (with_reducible refine k_btu ?_)
  | (with_reducible refine k_btl ?_)
  | (with_reducible refine k_bnl ?_)
  | (with_reducible refine k_bcn ?_)
  | (with_reducible refine for_nil ?_)
  | (with_reducible refine for_cons ?_)
  | ((with_reducible refine k_eqs ?_ ?_ ?_); exact rfl; exact rfl)
  | (fail_if_success (with_reducible show wpO (gMul _ _ _ _) _)
     fail_if_success (with_reducible show wpO (gI _ _ _ _ _) _)
     fail_if_success (with_reducible show wpO (forGo _ _ _ _ _) _)
     fail_if_success (with_reducible show wpO (lcGo _ _ _ _ _ _) _)
     (with_reducible apply k_some); (focus exact rfl))))
local macro_rules | `(tactic| wtm_at "ev_stK") => `(tactic| first
  | (with_reducible refine k_nx ?_)
  | (with_reducible refine k_acons ?_)
  | (with_reducible refine k_ckd ?_)
  | (with_reducible refine k_anil ?_)
  | (with_reducible refine k_tup2 ?_)
  | (with_reducible refine k_rt ?_)
  | (with_reducible refine k_rrt ?_)
  | (with_reducible refine k_bool ?_)
  | ((with_reducible refine k_calld ?_ ?_ ?_); exact rfl; exact rfl)
  | ((with_reducible refine k_callt ?_ ?_ ?_); exact rfl; exact rfl)
  | (with_reducible refine k_rnx ?_)
  | (with_reducible refine k_ckt ?_)
  | (with_reducible refine k_ckn ?_)
  | (with_reducible refine k_cko ?_)
  | (with_reducible refine k_dcons ?_)
  | (with_reducible refine k_tup3 ?_)
  | (with_reducible refine k_tup0 ?_)
  | (with_reducible refine k_tup1 ?_)
  | (with_reducible refine k_tup4 ?_)
  | (with_reducible refine k_lst0 ?_)
  | (with_reducible refine k_lst1 ?_)
  | (with_reducible refine k_lst2 ?_)
  | (with_reducible refine k_lst3 ?_)
  | (with_reducible refine k_lst4 ?_)
  | (with_reducible refine k_bk ?_)
  | (with_reducible refine k_ct ?_)
  | (with_reducible refine k_iseq ?_)
  | ((with_reducible apply k_seqI); (focus exact rfl))
  | (with_reducible refine k_irng ?_)
  | ((with_reducible refine k_rng1 ?_ ?_ ?_); omega; omega)
  | ((with_reducible refine k_rng2 ?_ ?_ ?_ ?_ ?_); omega; omega; omega; omega)
  | (with_reducible refine k_for0 ?_)
  | (with_reducible refine k_for1 ?_)
  | (with_reducible refine k_forn ?_)
  | ((with_reducible apply k_foro); (focus (wtm_at "ev_ga"; done)); (focus (wtm_at "ev_ga"; done)))
  | (with_reducible refine k_fnx ?_)
  | (with_reducible refine k_frt ?_)
  | (with_reducible refine k_wnx ?_)
  | (with_reducible refine k_wrt ?_)
  | (with_reducible refine k_ienum ?_)
  | (with_reducible refine k_izip ?_)
  | ((with_reducible apply k_enumI); (focus exact rfl))
  | ((with_reducible apply k_zipI); (focus exact rfl); (focus exact rfl))
  | ((with_reducible refine k_lcK ?_ ?_ ?_); exact rfl; exact len60 rfl)
  | (with_reducible refine lcw_nil ?_)
  | (with_reducible refine lcw_cons ?_)
  | ((with_reducible apply k_run'); (focus (wtm_at "ev_gs"; done)))
  | ((with_reducible refine k_t ?_ ?_); exact rfl)
  | ((with_reducible refine k_f ?_ ?_); exact rfl))
theorem nd_t {P : Prop} [Decidable P] (h : ¬ P) : (!decide P) = true := by simp [h]
theorem nd_f {P : Prop} [Decidable P] (h : P) : (!decide P) = false := by simp [h]
theorem bq_t {a b : Int} (h : a = b) : (a == b) = true := by simp [h]
theorem bq_f {a b : Int} (h : a ≠ b) : (a == b) = false := by simp [h]
theorem nb_t {a b : Int} (h : a ≠ b) : (!(a == b)) = true := by simp [h]
theorem nb_f {a b : Int} (h : a = b) : (!(a == b)) = false := by simp [h]
theorem ob_f {a b c : Int} (h1 : a ≠ c) (h2 : b ≠ c) : (a == c || b == c) = false := by simp [h1, h2]
theorem ob_t {a b c : Int} (h1 : a = c ∨ b = c) : (a == c || b == c) = true := by simpa using h1
local macro_rules | `(tactic| wtm_at "ev_sd") => `(tactic| with_reducible first
  | refine k_t (decide_eq_true (by omega)) ?_
  | refine k_f (decide_eq_false (by omega)) ?_
  | refine k_t (nd_t (by omega)) ?_
  | refine k_f (nd_f (by omega)) ?_
  | refine k_t (bq_t (by omega)) ?_
  | refine k_f (bq_f (by omega)) ?_
  | refine k_t (nb_t (by omega)) ?_
  | refine k_f (nb_f (by omega)) ?_
  | refine k_f (ob_f (by omega) (by omega)) ?_
  | refine k_t (ob_t (by omega)) ?_)
local macro_rules | `(tactic| wtm_at "ev_st") => `(tactic| repeat (first | wtm_at "ev_stE" | wtm_at "ev_stO" | wtm_at "ev_stS" | wtm_at "ev_stK"))
local macro_rules | `(tactic| wtm_at "ev_sto") => `(tactic| repeat (first | wtm_at "ev_stE" | wtm_at "ev_stO" | wtm_at "ev_stS" | wtm_at "ev_stK" | wtm_at "ev_sd"))

open PySem PySem.Spec PyProof.Rows L2
open PySem.W (minD maxD)
noncomputable def S_divisor : Sem1 := runB (sSeq (sWhile (f2 (gEqD true) (eVar 1) (eCon (.int (0)))) (sSeq (sPar (ownL []) [0, 1] (dCons (eVar 1) (dCons (f2 (gI dMod) (eVar 0) (eVar 1)) aNil)))
    sNext))
    (sSeq (sRet (eVar 0))
    sNext)) ["one", "other"]
noncomputable def S_fraction : Sem1 := runB (sSeq (sSet false 2 (eCall S_divisor (aCons (f1 gAbs (eVar 0)) (aCons (f1 gAbs (eVar 1)) aNil))))
    (sSeq (sSet false 2 (eIf (f2 gGt (eVar 1) (eCon (.int (0)))) (eVar 2) (f1 gNeg (eVar 2))))
    (sSeq (sRet (eTup (aCons (f2 (gI dDiv) (eVar 0) (eVar 2)) (aCons (f2 (gI dDiv) (eVar 1) (eVar 2)) aNil))))
    sNext))) ["top", "bottom", "by"]
noncomputable def S_way : Sem1 := runB (sSeq (sRet (eTup (aCons (f2 gSub (f2 gIx (eVar 1) (eCon (.int (0)))) (f2 gIx (eVar 0) (eCon (.int (0))))) (aCons (f2 gSub (f2 gIx (eVar 1) (eCon (.int (1)))) (f2 gIx (eVar 0) (eCon (.int (1))))) aNil))))
    sNext) ["one", "other"]
noncomputable def S_turn : Sem1 := runB (sSeq (sRet (f2 gSub (f2 gMul (f2 gIx (eVar 0) (eCon (.int (0)))) (f2 gIx (eVar 1) (eCon (.int (1))))) (f2 gMul (f2 gIx (eVar 0) (eCon (.int (1)))) (f2 gIx (eVar 1) (eCon (.int (0)))))))
    sNext) ["one", "other"]
noncomputable def S_meeting : Sem1 := runB (sSeq (sPar (ownL []) [2, 3, 4] (dCons (eCall S_way (aCons (f2 gIx (eVar 0) (eCon (.int (0)))) (aCons (f2 gIx (eVar 0) (eCon (.int (1)))) aNil))) (dCons (eCall S_way (aCons (f2 gIx (eVar 1) (eCon (.int (0)))) (aCons (f2 gIx (eVar 1) (eCon (.int (1)))) aNil))) (dCons (eCall S_way (aCons (f2 gIx (eVar 0) (eCon (.int (0)))) (aCons (f2 gIx (eVar 1) (eCon (.int (0)))) aNil))) aNil))))
    (sSeq (sSet false 5 (eCall S_turn (aCons (eVar 2) (aCons (eVar 3) aNil))))
    (sSeq (sSet false 6 (eIf (f2 gLt (eVar 5) (eCon (.int (0)))) (f1 gNeg (eCon (.int (1)))) (eCon (.int (1)))))
    (sSeq (sRet (eTup (aCons (f2 gMul (eVar 6) (eVar 5)) (aCons (f2 gMul (eVar 6) (eCall S_turn (aCons (eVar 4) (aCons (eVar 3) aNil)))) (aCons (f2 gMul (eVar 6) (eCall S_turn (aCons (eVar 4) (aCons (eVar 2) aNil)))) aNil)))))
    sNext)))) ["stick", "other", "first", "second", "apart", "bottom", "sign"]
noncomputable def S_on_one_line : Sem1 := runB (sSeq (sIf (f2 (gEqD true) (eCall S_turn (aCons (eCall S_way (aCons (f2 gIx (eVar 0) (eCon (.int (0)))) (aCons (f2 gIx (eVar 0) (eCon (.int (1)))) aNil))) (aCons (eCall S_way (aCons (f2 gIx (eVar 0) (eCon (.int (0)))) (aCons (f2 gIx (eVar 1) (eCon (.int (0)))) aNil))) aNil))) (eCon (.int (0)))) (sSeq (sRet (eCon (.bool false)))
    sNext) sNext)
    (sSeq (sRet (f2 gLe (f2 (gMM2 maxD) (f1 gMin (eVar 0)) (f1 gMin (eVar 1))) (f2 (gMM2 minD) (f1 gMax (eVar 0)) (f1 gMax (eVar 1)))))
    sNext)) ["stick", "other"]
noncomputable def S_crossing : Sem1 := runB (sSeq (sTg (.tu (.cn (.nm 2) (.cn (.nm 3) (.cn (.nm 4) .nl)))) (eCall S_meeting (aCons (eVar 0) (aCons (eVar 1) aNil))))
    (sSeq (sIf (f2 (gEqD false) (eVar 2) (eCon (.int (0)))) (sSeq (sRet (eIf (eCall S_on_one_line (aCons (eVar 0) (aCons (eVar 1) aNil))) (eCon (.bool false)) (eCon .none)))
    sNext) sNext)
    (sSeq (sIf (eOr (f1 gNot (eChn gLe gLe (eCon (.int (0))) (eVar 3) (eVar 2))) (f1 gNot (eChn gLe gLe (eCon (.int (0))) (eVar 4) (eVar 2)))) (sSeq (sRet (eCon .none))
    sNext) sNext)
    (sSeq (sIf (eOr (f2 (gIn false) (eVar 3) (eTup (aCons (eCon (.int (0))) (aCons (eVar 2) aNil)))) (f2 (gIn false) (eVar 4) (eTup (aCons (eCon (.int (0))) (aCons (eVar 2) aNil))))) (sSeq (sRet (eCon (.bool false)))
    sNext) sNext)
    (sSeq (sRet (eTup (aCons (eCall S_fraction (aCons (eVar 3) (aCons (eVar 2) aNil))) (aCons (eCall S_fraction (aCons (eVar 4) (aCons (eVar 2) aNil))) aNil))))
    sNext))))) ["stick", "other", "bottom", "top", "far"]
noncomputable def S_crossings : Sem1 := runB (sSeq (sTg (.tu (.cn (.nm 1) (.cn (.nm 2) .nl))) (eVar 0))
    (sSeq (sRet (eLc (iSeq (eVar 2)) (.tu (.cn (.nm 3) (.cn (.nm 4) .nl))) tYesF (f2 gAdd (eTup (aCons (eVar 3) (aCons (eVar 4) aNil))) (eCall S_crossing (aCons (f2 gIx (eVar 1) (eVar 3)) (aCons (f2 gIx (eVar 1) (eVar 4)) aNil)))) [3, 4]))
    sNext)) ["pile", "sticks", "overs", "upper", "lower"]
noncomputable def S__law_draw : Sem1 := runB (sSeq (sSet false 2 (eCon (.int (2305843009213693951))))
    (sSeq (sIf (f2 gLt (f2 gIx (eVar 0) (eCon (.int (2)))) (eVar 1)) (sSeq (sSet false 3 (eCon (.int (0))))
    (sSeq (sIf (f2 gGt (f1 gLen (f2 gIx (eVar 0) (eCon (.int (0))))) (eCon (.int (0)))) (sSeq (sSet false 3 (f2 gIx (f2 gIx (eVar 0) (eCon (.int (0)))) (f2 (gI dMod) (f2 gIx (eVar 0) (eCon (.int (1)))) (f1 gLen (f2 gIx (eVar 0) (eCon (.int (0))))))))
    sNext) sNext)
    (sSeq (sIf (eOr (f2 gGe (f2 gIx (eVar 0) (eCon (.int (1)))) (f1 gLen (f2 gIx (eVar 0) (eCon (.int (0)))))) (f2 gLt (eVar 3) (f2 (gI dPow) (eCon (.int (10))) (eCon (.int (18)))))) (sSeq (sSet false 3 (f2 (gI dMod) (f2 gAdd (eVar 3) (f2 gMul (eCon (.int (1000003))) (f2 gIx (eVar 0) (eCon (.int (1)))))) (eVar 2)))
    (sSeq (sSet false 3 (f2 (gI dMod) (f2 gAdd (f2 gAdd (f2 gMul (eVar 3) (eVar 3)) (f2 gMul (eCon (.int (1181783497276652981))) (eVar 3))) (eCon (.int (2049848353892358983)))) (eVar 2)))
    (sSeq (sSet false 3 (f2 (gI dMod) (f2 gAdd (f2 gMul (eVar 3) (eVar 3)) (eCon (.int (1442695040888963407)))) (eVar 2)))
    sNext))) sNext)
    (sSeq (sSub 0 (eCon (.int (1))) (f2 gAdd (f2 gIx (eVar 0) (eCon (.int (1)))) (eCon (.int (1)))))
    (sSeq (sSub 0 (eCon (.int (2))) (eVar 3))
    sNext))))) sNext)
    (sSeq (sSet false 4 (f2 (gI dMod) (f2 gIx (eVar 0) (eCon (.int (2)))) (eVar 1)))
    (sSeq (sSub 0 (eCon (.int (2))) (f2 (gI dDiv) (f2 gIx (eVar 0) (eCon (.int (2)))) (eVar 1)))
    (sSeq (sRet (eVar 4))
    sNext))))) ["tape", "many", "prime", "cell", "found"]
noncomputable def S__law_like : Nat → Sem1
  | 0 => fun _ _ => none
  | n + 1 => runB (sSeq (sIf (f1 (gIsi2 .list .tuple) (eVar 0)) (sSeq (sIf (eOr (f2 (gEqD true) (f1 (gIsi .list) (eVar 0)) (f1 (gIsi .list) (eVar 1))) (f2 (gEqD true) (f1 (gIsi .tuple) (eVar 0)) (f1 (gIsi .tuple) (eVar 1)))) (sSeq (sRet (eCon (.bool false)))
    sNext) sNext)
    (sSeq (sIf (f2 (gEqD true) (f1 gLen (eVar 0)) (f1 gLen (eVar 1))) (sSeq (sRet (eCon (.bool false)))
    sNext) sNext)
    (sSeq (sRet (f2 (gEqD false) (eLc (iRng (aCons (f1 gLen (eVar 0)) aNil)) (.nm 2) (f1 gNot (eCall (S__law_like n) (aCons (f2 gIx (eVar 0) (eVar 2)) (aCons (f2 gIx (eVar 1) (eVar 2)) aNil)))) (eVar 2) [2]) (eLst aNil)))
    sNext))) sNext)
    (sSeq (sIf (f1 (gIsi2 .list .tuple) (eVar 1)) (sSeq (sRet (eCon (.bool false)))
    sNext) sNext)
    (sSeq (sRet (eAnd (f2 (gEqD false) (f1 (gIsi .bool) (eVar 0)) (f1 (gIsi .bool) (eVar 1))) (f2 (gEqD false) (eVar 0) (eVar 1))))
    sNext))) ["one", "two", "k"]
noncomputable def S__law_any_order : Sem1 := runB (sSeq (sSet true 2 (eLst aNil))
    (sSeq (sFor (iRng (aCons (eVar 1) aNil)) (.nm 3) (sSeq (sIns 2 (aCons (eCall S__law_draw (aCons (eVar 0) (aCons (f2 gAdd (eVar 3) (eCon (.int (1)))) aNil))) (aCons (eVar 3) aNil)))
    sNext))
    (sSeq (sRet (f1 gTuple (eVar 2)))
    sNext))) ["tape", "many", "found", "k"]
noncomputable def S__law_common : Sem1 := runB (sSeq (sWhile (f2 (gEqD true) (eVar 0) (eCon (.int (0)))) (sSeq (sPar (ownL []) [0, 1] (dCons (f2 (gI dMod) (eVar 1) (eVar 0)) (dCons (eVar 0) aNil)))
    sNext))
    (sSeq (sRet (eVar 1))
    sNext)) ["one", "other"]
noncomputable def S__law_frac : Sem1 := runB (sSeq (sSet false 2 (eCall S__law_common (aCons (f1 gAbs (eVar 0)) (aCons (eVar 1) aNil))))
    (sSeq (sRet (eTup (aCons (f2 (gI dDiv) (eVar 0) (eVar 2)) (aCons (f2 (gI dDiv) (eVar 1) (eVar 2)) aNil))))
    sNext)) ["top", "bottom", "share"]
noncomputable def S__law_sum : Sem1 := runB (sSeq (sRet (eCall S__law_frac (aCons (f2 gAdd (f2 gMul (f2 gIx (eVar 0) (eCon (.int (0)))) (f2 gIx (eVar 1) (eCon (.int (1))))) (f2 gMul (f2 gIx (eVar 1) (eCon (.int (0)))) (f2 gIx (eVar 0) (eCon (.int (1)))))) (aCons (f2 gMul (f2 gIx (eVar 0) (eCon (.int (1)))) (f2 gIx (eVar 1) (eCon (.int (1))))) aNil))))
    sNext) ["one", "other"]
noncomputable def S__law_less : Sem1 := runB (sSeq (sRet (eCall S__law_frac (aCons (f2 gSub (f2 gMul (f2 gIx (eVar 0) (eCon (.int (0)))) (f2 gIx (eVar 1) (eCon (.int (1))))) (f2 gMul (f2 gIx (eVar 1) (eCon (.int (0)))) (f2 gIx (eVar 0) (eCon (.int (1)))))) (aCons (f2 gMul (f2 gIx (eVar 0) (eCon (.int (1)))) (f2 gIx (eVar 1) (eCon (.int (1))))) aNil))))
    sNext) ["one", "other"]
noncomputable def S__law_part : Sem1 := runB (sSeq (sRet (eCall S__law_frac (aCons (f2 gMul (f2 gIx (eVar 0) (eCon (.int (0)))) (f2 gIx (eVar 1) (eCon (.int (0))))) (aCons (f2 gMul (f2 gIx (eVar 0) (eCon (.int (1)))) (f2 gIx (eVar 1) (eCon (.int (1))))) aNil))))
    sNext) ["one", "other"]
noncomputable def S__law_side : Sem1 := runB (sSeq (sSet false 3 (f2 gMul (f2 gSub (f2 gIx (eVar 1) (eCon (.int (0)))) (f2 gIx (eVar 0) (eCon (.int (0))))) (f2 gSub (f2 gIx (eVar 2) (eCon (.int (1)))) (f2 gIx (eVar 0) (eCon (.int (1)))))))
    (sSeq (sRet (f2 gSub (eVar 3) (f2 gMul (f2 gSub (f2 gIx (eVar 1) (eCon (.int (1)))) (f2 gIx (eVar 0) (eCon (.int (1))))) (f2 gSub (f2 gIx (eVar 2) (eCon (.int (0)))) (f2 gIx (eVar 0) (eCon (.int (0))))))))
    sNext)) ["one", "other", "point", "first"]
noncomputable def S__law_sides : Sem1 := runB (sSeq (sSet false 2 (eLc (iSeq (eVar 1)) (.nm 3) tYesF (eCall S__law_side (aCons (f2 gIx (eVar 0) (eCon (.int (0)))) (aCons (f2 gIx (eVar 0) (eCon (.int (1)))) (aCons (eVar 3) aNil)))) [3]))
    (sSeq (sRet (f2 gAdd (eVar 2) (eLc (iSeq (eVar 0)) (.nm 3) tYesF (eCall S__law_side (aCons (f2 gIx (eVar 1) (eCon (.int (0)))) (aCons (f2 gIx (eVar 1) (eCon (.int (1)))) (aCons (eVar 3) aNil)))) [3])))
    sNext)) ["stick", "other", "found", "point"]
noncomputable def S__law_meet : Sem1 := runB (sSeq (sTg (.tu (.cn (.nm 2) (.cn (.nm 3) (.cn (.nm 4) (.cn (.nm 5) .nl))))) (eCall S__law_sides (aCons (eVar 0) (aCons (eVar 1) aNil))))
    (sSeq (sIf (eAnd (f2 gLt (f2 gMul (eVar 2) (eVar 3)) (eCon (.int (0)))) (f2 gLt (f2 gMul (eVar 4) (eVar 5)) (eCon (.int (0))))) (sSeq (sRet (eCon (.str (PySem.Str.ofString "cross"))))
    sNext) sNext)
    (sSeq (sSet false 6 (eLst (aCons (eTup (aCons (eVar 2) (aCons (f2 gIx (eVar 1) (eCon (.int (0)))) (aCons (eVar 0) aNil)))) (aCons (eTup (aCons (eVar 3) (aCons (f2 gIx (eVar 1) (eCon (.int (1)))) (aCons (eVar 0) aNil)))) (aCons (eTup (aCons (eVar 4) (aCons (f2 gIx (eVar 0) (eCon (.int (0)))) (aCons (eVar 1) aNil)))) (aCons (eTup (aCons (eVar 5) (aCons (f2 gIx (eVar 0) (eCon (.int (1)))) (aCons (eVar 1) aNil)))) aNil))))))
    (sSeq (sFor (iSeq (eVar 6)) (.tu (.cn (.nm 7) (.cn (.nm 8) (.cn (.nm 9) .nl)))) (sSeq (sIf (eAnd (f2 (gEqD false) (eVar 7) (eCon (.int (0)))) (eChn gLe gLe (f2 (gMM2 minD) (f2 gIx (f2 gIx (eVar 9) (eCon (.int (0)))) (eCon (.int (0)))) (f2 gIx (f2 gIx (eVar 9) (eCon (.int (1)))) (eCon (.int (0))))) (f2 gIx (eVar 8) (eCon (.int (0)))) (f2 (gMM2 maxD) (f2 gIx (f2 gIx (eVar 9) (eCon (.int (0)))) (eCon (.int (0)))) (f2 gIx (f2 gIx (eVar 9) (eCon (.int (1)))) (eCon (.int (0))))))) (sSeq (sIf (eChn gLe gLe (f2 (gMM2 minD) (f2 gIx (f2 gIx (eVar 9) (eCon (.int (0)))) (eCon (.int (1)))) (f2 gIx (f2 gIx (eVar 9) (eCon (.int (1)))) (eCon (.int (1))))) (f2 gIx (eVar 8) (eCon (.int (1)))) (f2 (gMM2 maxD) (f2 gIx (f2 gIx (eVar 9) (eCon (.int (0)))) (eCon (.int (1)))) (f2 gIx (f2 gIx (eVar 9) (eCon (.int (1)))) (eCon (.int (1)))))) (sSeq (sRet (eCon (.str (PySem.Str.ofString "touch"))))
    sNext) sNext)
    sNext) sNext)
    sNext))
    (sSeq (sRet (eCon (.str (PySem.Str.ofString "apart"))))
    sNext))))) ["stick", "other", "a", "b", "c", "d", "rows", "side", "point", "line"]
noncomputable def S__law_place : Sem1 := runB (sSeq (sTg (.tu (.cn (.nm 2) (.cn (.nm 3) (.cn (.nm 4) (.cn (.nm 5) .nl))))) (eCall S__law_sides (aCons (eVar 0) (aCons (eVar 1) aNil))))
    (sSeq (sRet (eCall S__law_frac (aCons (f1 gAbs (eVar 4)) (aCons (f2 gAdd (f1 gAbs (eVar 4)) (f1 gAbs (eVar 5))) aNil))))
    sNext)) ["stick", "other", "a", "b", "c", "d"]
noncomputable def S__law_fan : Sem1 := runB (sSeq (sPar (ownL [2]) [2, 3, 4] (dCons (eLst aNil) (dCons (eCall S__law_draw (aCons (eVar 0) (aCons (eCon (.int (3))) aNil))) (dCons (f2 gSub (eCon (.int (12))) (eCall S__law_draw (aCons (eVar 0) (aCons (eCon (.int (3))) aNil)))) aNil))))
    (sSeq (sFor (iRng (aCons (eVar 1) aNil)) (.nm 5) (sSeq (sSet false 6 (eTup (aCons (eTup (aCons (eCall S__law_draw (aCons (eVar 0) (aCons (eCon (.int (3))) aNil))) (aCons (eVar 3) aNil))) (aCons (eTup (aCons (f2 gSub (eCon (.int (12))) (eCall S__law_draw (aCons (eVar 0) (aCons (eCon (.int (3))) aNil)))) (aCons (eVar 4) aNil))) aNil))))
    (sSeq (sIf (f2 (gEqD false) (eLc (iSeq (eVar 2)) (.nm 7) (f2 (gEqD false) (eCall S__law_meet (aCons (eVar 6) (aCons (eVar 7) aNil))) (eCon (.str (PySem.Str.ofString "touch")))) (eCon (.int (1))) [7]) (eLst aNil)) (sSeq (sApp 2 (aCons (f2 gIx (eLst (aCons (eVar 6) (aCons (f1 gRev (eVar 6)) aNil))) (eCall S__law_draw (aCons (eVar 0) (aCons (eCon (.int (2))) aNil)))) aNil))
    sNext) sNext)
    (sSeq (sPar (ownL [2]) [3, 4] (dCons (f2 gAdd (f2 gAdd (eVar 3) (eCon (.int (1)))) (eCall S__law_draw (aCons (eVar 0) (aCons (eCon (.int (2))) aNil)))) (dCons (f2 gSub (f2 gSub (eVar 4) (eCon (.int (1)))) (eCall S__law_draw (aCons (eVar 0) (aCons (eCon (.int (2))) aNil)))) aNil)))
    sNext))))
    (sSeq (sRet (f1 gTuple (eVar 2)))
    sNext))) ["tape", "many", "found", "one", "other", "k", "stick", "row"]
noncomputable def S__law_sticks : Sem1 := runB (sSeq (sPar (ownL [4]) [4, 5, 6] (dCons (eLst aNil) (dCons (f2 gSub (eVar 1) (f2 gMul (eCall S__law_draw (aCons (eVar 0) (aCons (eCon (.int (2))) aNil))) (eCall S__law_draw (aCons (eVar 0) (aCons (eVar 1) aNil))))) (dCons (f2 gSub (eVar 3) (eVar 2)) aNil))))
    (sSeq (sFor (iRng (aCons (f2 gMul (eCon (.int (4))) (eVar 1)) aNil)) (.nm 7) (sSeq (sIf (f2 gLt (f1 gLen (eVar 4)) (eVar 5)) (sSeq (sSet false 8 (eTup (aCons (f2 gAdd (eVar 2) (eCall S__law_draw (aCons (eVar 0) (aCons (f2 gAdd (eCon (.int (1))) (f2 (gI dDiv) (eVar 6) (eCon (.int (3))))) aNil)))) (aCons (eCall S__law_draw (aCons (eVar 0) (aCons (eCon (.int (13))) aNil))) aNil))))
    (sSeq (sSet false 9 (eTup (aCons (f2 gSub (eVar 3) (eCall S__law_draw (aCons (eVar 0) (aCons (f2 gAdd (eCon (.int (1))) (f2 (gI dDiv) (eVar 6) (eCon (.int (3))))) aNil)))) (aCons (eCall S__law_draw (aCons (eVar 0) (aCons (eCon (.int (13))) aNil))) aNil))))
    (sSeq (sIf (f2 (gEqD false) (eCall S__law_draw (aCons (eVar 0) (aCons (eCon (.int (3))) aNil))) (eCon (.int (0)))) (sSeq (sSet false 8 (eTup (aCons (f2 gAdd (eVar 2) (eCall S__law_draw (aCons (eVar 0) (aCons (f2 gAdd (eVar 6) (eCon (.int (1)))) aNil)))) (aCons (eCall S__law_draw (aCons (eVar 0) (aCons (eCon (.int (4))) aNil))) aNil))))
    (sSeq (sSet false 9 (eTup (aCons (f2 gAdd (eVar 2) (eCall S__law_draw (aCons (eVar 0) (aCons (f2 gAdd (eVar 6) (eCon (.int (1)))) aNil)))) (aCons (f2 gAdd (eCon (.int (9))) (eCall S__law_draw (aCons (eVar 0) (aCons (eCon (.int (4))) aNil)))) aNil))))
    sNext)) sNext)
    (sSeq (sSet false 10 (f2 gIx (eLst (aCons (eTup (aCons (eVar 8) (aCons (eVar 9) aNil))) (aCons (eTup (aCons (eVar 9) (aCons (eVar 8) aNil))) aNil))) (eCall S__law_draw (aCons (eVar 0) (aCons (eCon (.int (2))) aNil)))))
    (sSeq (sIf (eAnd (f2 (gEqD true) (eVar 8) (eVar 9)) (f2 (gEqD false) (eLc (iSeq (eVar 4)) (.nm 11) (f2 (gEqD false) (eCall S__law_meet (aCons (eVar 10) (aCons (eVar 11) aNil))) (eCon (.str (PySem.Str.ofString "touch")))) (eCon (.int (1))) [11]) (eLst aNil))) (sSeq (sApp 4 (aCons (eVar 10) aNil))
    sNext) sNext)
    sNext))))) sNext)
    sNext))
    (sSeq (sRet (f1 gTuple (eVar 4)))
    sNext))) ["tape", "most", "low", "high", "found", "many", "wide", "k", "one", "two", "stick", "other"]
noncomputable def S__law_pairs_of : Sem1 := runB (sSeq (sSet false 1 (eLst aNil))
    (sSeq (sFor (iRng (aCons (f1 gLen (eVar 0)) aNil)) (.nm 2) (sSeq (sSet false 1 (f2 gAdd (eVar 1) (eLc (iRng (aCons (eVar 2) aNil)) (.nm 3) (f2 (gEqD false) (eCall S__law_meet (aCons (f2 gIx (eVar 0) (eVar 3)) (aCons (f2 gIx (eVar 0) (eVar 2)) aNil))) (eCon (.str (PySem.Str.ofString "cross")))) (eTup (aCons (eVar 3) (aCons (eVar 2) aNil))) [3])))
    sNext))
    (sSeq (sRet (f1 gSorted (eVar 1)))
    sNext))) ["sticks", "found", "two", "one"]
noncomputable def S__law_over : Sem1 := runB (sSeq (sPar (ownL [4]) [2, 3] (dCons (eCall S__law_any_order (aCons (eVar 0) (aCons (f1 gLen (eVar 1)) aNil))) (dCons (eCall S__law_draw (aCons (eVar 0) (aCons (eCon (.int (3))) aNil))) aNil)))
    (sSeq (sSet true 4 (eLst aNil))
    (sSeq (sFor (iSeq (eCall S__law_pairs_of (aCons (eVar 1) aNil))) (.tu (.cn (.nm 5) (.cn (.nm 6) .nl))) (sSeq (sSet false 7 (eCall S__law_draw (aCons (eVar 0) (aCons (eCon (.int (6))) aNil))))
    (sSeq (sSet false 8 (f2 gLt (eVar 7) (eCon (.int (3)))))
    (sSeq (sIf (eOr (f2 (gEqD false) (eVar 3) (eCon (.int (0)))) (eAnd (f2 (gEqD false) (eVar 3) (eCon (.int (1)))) (f2 gGt (eVar 7) (eCon (.int (1)))))) (sSeq (sSet false 8 (f2 gLt (f2 gIx (eVar 2) (eVar 5)) (f2 gIx (eVar 2) (eVar 6))))
    sNext) sNext)
    (sSeq (sApp 4 (aCons (eIf (eVar 8) (eTup (aCons (eVar 6) (aCons (eVar 5) aNil))) (eTup (aCons (eVar 5) (aCons (eVar 6) aNil)))) aNil))
    sNext)))))
    (sSeq (sRet (f1 gTuple (f1 gSorted (eVar 4))))
    sNext)))) ["tape", "sticks", "rank", "my_way", "found", "one", "two", "chance", "my_turned"]
noncomputable def S__law_pile : Sem1 := runB (sSeq (sSet false 2 (eIf (f2 (gEqD false) (eCall S__law_draw (aCons (eVar 0) (aCons (eCon (.int (2))) aNil))) (eCon (.int (0)))) (eCall S__law_sticks (aCons (eVar 0) (aCons (eVar 1) (aCons (eCon (.int (0))) (aCons (eCon (.int (12))) aNil))))) (eCall S__law_fan (aCons (eVar 0) (aCons (eVar 1) aNil)))))
    (sSeq (sRet (eTup (aCons (eVar 2) (aCons (eCall S__law_over (aCons (eVar 0) (aCons (eVar 2) aNil))) aNil))))
    sNext)) ["tape", "most", "sticks"]
noncomputable def S__law_crossings : Sem1 := runB (sSeq (sTg (.tu (.cn (.nm 1) (.cn (.nm 2) .nl))) (eVar 0))
    (sSeq (sSet true 3 (eLst aNil))
    (sSeq (sFor (iSeq (eVar 2)) (.tu (.cn (.nm 4) (.cn (.nm 5) .nl))) (sSeq (sPar (ownL [3]) [6, 7] (dCons (f2 gIx (eVar 1) (eVar 4)) (dCons (f2 gIx (eVar 1) (eVar 5)) aNil)))
    (sSeq (sApp 3 (aCons (eTup (aCons (eVar 4) (aCons (eVar 5) (aCons (eCall S__law_place (aCons (eVar 6) (aCons (eVar 7) aNil))) (aCons (eCall S__law_place (aCons (eVar 7) (aCons (eVar 6) aNil))) aNil))))) aNil))
    sNext)))
    (sSeq (sRet (eVar 3))
    sNext)))) ["pile", "sticks", "overs", "found", "upper", "lower", "one", "two"]
noncomputable def S__law_height : Sem1 := runB (sSeq (sRet (eCall S__law_sum (aCons (f2 gIx (eVar 0) (eCon (.int (0)))) (aCons (eCall S__law_part (aCons (eVar 1) (aCons (eCall S__law_less (aCons (f2 gIx (eVar 0) (eCon (.int (1)))) (aCons (f2 gIx (eVar 0) (eCon (.int (0)))) aNil))) aNil))) aNil))))
    sNext) ["pair", "place"]

open PySem PySem.Spec PyProof.Rows L2
open PySem.W (minD maxD)
/-! ### loops -/
theorem k_while {c : EvF} {body : EvS} {R : Out → Prop} (I : Nat → En → Tp → Prop) (h : ∀ m env τ, I m env τ → wpE c env τ fun w τ1 => wpB w fun b => if b = true then wpS body env τ1 (whK (fun e t => ∃ n, n < m ∧ I n e t) R) else R (.nx env τ1)) {m : Nat} {env : En} {τ : Tp} (h0 : I m env τ) : wpS (sWhile c body) env τ R := by with_unfolding_all
  have main : ∀ m env τ, I m env τ → ∃ k o, whM c body k env τ = some o ∧ R o := by
    intro m
    induction m using Nat.strongRecOn with
    | _ m ih =>
      intro env τ hI
      have q := h m env τ hI
      obtain ⟨⟨w, τ1⟩, e1, q⟩ := wpO_ex q
      dsimp only at q
      cases w with
      | d x =>
        cases x with
        | bool b =>
          change (if b = true then _ else _) at q
          cases b with
          | true =>
            rw [if_pos rfl] at q
            obtain ⟨o, e2, q⟩ := wpO_ex q
            cases o with
            | nx e t =>
              obtain ⟨n, hn, q⟩ := q
              obtain ⟨k, o, e3, q3⟩ := ih n hn e t q
              exact ⟨k + 1, o, by unfold whM; rw [e1]; dsimp only; rw [e2]; exact e3, q3⟩
            | ct e t =>
              obtain ⟨n, hn, q⟩ := q
              obtain ⟨k, o, e3, q3⟩ := ih n hn e t q
              exact ⟨k + 1, o, by unfold whM; rw [e1]; dsimp only; rw [e2]; exact e3, q3⟩
            | bk e t => exact ⟨1, .nx e t, by unfold whM; rw [e1]; dsimp only; rw [e2], q⟩
            | rt d t => exact ⟨1, .rt d t, by unfold whM; rw [e1]; dsimp only; rw [e2], q⟩
          | false =>
            rw [if_neg Bool.false_ne_true] at q
            exact ⟨1, .nx env τ1, by unfold whM; rw [e1], q⟩
        | _ => exact q.elim
      | _ => exact q.elim
  obtain ⟨k, o, e, q⟩ := main m env τ h0
  exact wpO_of (sWhile_eq e) q
theorem wpE_unq {f : EvF} {env : En} {τ : Tp} {Q : W → Tp → Prop} : wpE f env τ Q = wpO (f env τ) fun p => Q p.1 p.2 := by with_unfolding_all exact rfl
theorem wpS_unq {f : EvS} {env : En} {τ : Tp} {R : Out → Prop} : wpS f env τ R = wpO (f env τ) R := by with_unfolding_all exact rfl
theorem k_for {tg : Tg} {body : EvS} {R : Out → Prop} (I : List D → En → Tp → Prop) (hs : ∀ d r env τ, I (d :: r) env τ → wpO (bindT tg d env) fun e => wpS body e τ (whK (I r) R)) (hd : ∀ env τ, I [] env τ → R (.nx env τ)) :
    ∀ {its : List D} {env : En} {τ : Tp}, I its env τ → wpO (forGo tg body its env τ) R
  | [], env, τ, h => by with_unfolding_all exact hd env τ h
  | d :: r, env, τ, h => by
    obtain ⟨e1, b1, q⟩ := wpO_ex (hs d r env τ h)
    rw [wpS_unq] at q
    obtain ⟨o, b2, q⟩ := wpO_ex q
    unfold forGo
    rw [b1]
    dsimp only
    rw [b2]
    cases o with
    | nx e t => exact k_for I hs hd (its := r) q
    | ct e t => exact k_for I hs hd (its := r) q
    | bk e t => with_unfolding_all exact q
    | rt d t => with_unfolding_all exact q
/-- a comprehension that leaves the tape: a map of those that pass -/
theorem lc_map {α : Type} {tg : Tg} {tt te : EvF} {env : En} {τ : Tp} {f g : α → D} {p : α → Bool} : ∀ {xs : List α}, (∀ x ∈ xs, wpO (bindT tg (f x) env) fun e => wpE tt e τ fun w t => w = .d (.bool (p x)) ∧ t = τ ∧ (p x = true → wpE te e τ fun w t => toD w = some (g x) ∧ t = τ)) →
    lcGo tg tt te env (xs.map f) τ = some ((xs.filter p).map g, τ)
  | [], _ => rfl
  | x :: xs, h => by
    have ih := lc_map (xs := xs) fun y hy => h y (List.mem_cons_of_mem _ hy)
    obtain ⟨e, b1, q⟩ := wpO_ex (h x List.mem_cons_self)
    rw [wpE_unq] at q
    obtain ⟨⟨w, t⟩, b2, q1, q2, q3⟩ := wpO_ex q
    dsimp only at q1 q2 q3
    subst q1 q2
    rw [List.map_cons]
    unfold lcGo
    rw [b1]
    dsimp only
    rw [b2]
    cases hp : p x with
    | true =>
      obtain ⟨⟨w, t⟩, b3, q4, q5⟩ := wpO_ex (wpE_unq ▸ q3 hp)
      dsimp only at q4 q5
      subst q5
      dsimp only
      rw [b3]
      dsimp only
      rw [q4]
      dsimp only
      rw [ih, List.filter_cons, hp]
      rfl
    | false =>
      dsimp only
      rw [ih, List.filter_cons, hp]
      rfl
/-! ### sizes -/
theorem log_lt {x n : Nat} (h : x < 2 ^ n) (hn : 0 < n) : x.log2 < n := by
  by_cases h0 : x = 0
  · subst h0
    simpa using hn
  · exact (Nat.log2_lt h0).mpr h
theorem mul_ok {i j : Int} {m n : Nat} (hi : i.natAbs < 2 ^ m) (hj : j.natAbs < 2 ^ n) (hm : 0 < m) (hn : 0 < n) (h : m + n ≤ 1000000) : i.natAbs.log2 + j.natAbs.log2 < 1000000 := by
  have := log_lt hi hm
  have := log_lt hj hn
  omega
theorem mul_sm {i j : Int} (hi : i.natAbs < 1000000000) (hj : j.natAbs < 1000000000) : i.natAbs.log2 + j.natAbs.log2 < 1000000 :=
  mul_ok (m := 30) (n := 30) (Nat.lt_of_lt_of_le hi (by decide)) (Nat.lt_of_lt_of_le hj (by decide)) (by decide) (by decide) (by decide)
section
variable {env env' : En} {τ : Tp} {R : Out → Prop}
def subK (i : Nat) (d : D) (env : En) (R : Out → Prop) : W → Tp → Prop
  | .d (.int k), τ2 => wpO (setSub i d k env τ2) R
  | _, _ => False
theorem k_ssub {i : Nat} {fi f : EvF} {R : Out → Prop} (h : wpE f env τ fun w τ1 => wpO (toD w) fun d => wpE fi env τ1 (subK i d env R)) : wpS (sSub i fi f) env τ R := by with_unfolding_all
  rw [s_sub]
  refine wpO_mono h fun p q => wpO_mono q fun d q => wpO_mono q fun r q => ?_
  obtain ⟨x, t⟩ := r
  cases x with
  | d y => cases y <;> exact q
  | _ => exact q
theorem k_sbi {i : Nat} {d : D} {k : Int} {R : Out → Prop} (h : wpO (setSub i d k env τ) R) : subK i d env R (.d (.int k)) τ := h
def insK (i : Nat) (ds : List D) (env : En) (R : Out → Prop) : List W → Tp → Prop
  | [.d (.int k), .d d], τ1 => (ds.length < 1000000 ∧ 0 ≤ k ∧ k < 1000000) ∧ R (.nx (env.set i (.own (ds.take k.toNat ++ [d] ++ ds.drop k.toNat))) τ1)
  | _, _ => False
theorem k_ins {i : Nat} {f : EvA} {ds : List D} (hg : GetAt i env (.own ds)) (h : wpA f env τ (insK i ds env R)) : wpS (sIns i f) env τ R := by with_unfolding_all
  unfold wpS sIns
  rw [hg.eq]
  dsimp only
  obtain ⟨⟨ws, t⟩, e, q⟩ := wpO_ex h
  rw [e]
  match ws, q with
  | [.d (.int k), .d d], q =>
    dsimp only
    rw [if_pos q.1]
    exact q.2
theorem k_insd {i : Nat} {ds : List D} {k : Int} {d : D} (hl : ds.length < 1000000) (h0 : 0 ≤ k) (h1 : k < 1000000) (h : SetAt (.own (ds.take k.toNat ++ [d] ++ ds.drop k.toNat)) i env env') (q : R (.nx env' τ)) : insK i ds env R [.d (.int k), .d d] τ := by
  refine ⟨⟨hl, h0, h1⟩, ?_⟩
  rw [← h.eq.1]
  exact q
end
theorem k_forI {tg : Tg} {body : EvS} {R : Out → Prop} {its : List D} (I : Nat → En → Tp → Prop) (hs : ∀ i d env τ, its[i]? = some d → I i env τ → wpO (bindT tg d env) fun e => wpS body e τ (whK (I (i + 1)) R)) (hd : ∀ env τ, I its.length env τ → R (.nx env τ))
    {env : En} {τ : Tp} (h0 : I 0 env τ) : wpO (forGo tg body its env τ) R := by with_unfolding_all
  refine k_for (fun rest e t => ∃ i, i ≤ its.length ∧ rest = its.drop i ∧ I i e t) ?_ ?_ ⟨0, Nat.zero_le _, rfl, h0⟩
  · rintro d r e t ⟨i, hi, h1, h2⟩
    have hlt : i < its.length := by
      rcases Nat.lt_or_ge i its.length with h | h
      · exact h
      · rw [List.drop_eq_nil_of_le h] at h1; cases h1
    rw [List.drop_eq_getElem_cons hlt] at h1
    cases h1
    refine wpO_mono (hs i _ e t (by simp [hlt]) h2) fun e q => wpO_mono q fun o q => ?_
    cases o with
    | nx a b => exact ⟨i + 1, hlt, rfl, q⟩
    | ct a b => exact ⟨i + 1, hlt, rfl, q⟩
    | bk a b => exact q
    | rt a b => exact q
  · rintro e t ⟨i, hi, h1, h2⟩
    have : i = its.length := by
      rcases Nat.lt_or_ge i its.length with h | h
      · rw [List.drop_eq_getElem_cons h] at h1; cases h1
      · omega
    subst this
    exact hd e t h2
theorem wpE_un {f : EvF} {env : En} {τ : Tp} {Q : W → Tp → Prop} : wpE f env τ Q = wpO (f env τ) fun p => Q p.1 p.2 := by with_unfolding_all exact rfl
theorem wpS_un {f : EvS} {env : En} {τ : Tp} {R : Out → Prop} : wpS f env τ R = wpO (f env τ) R := by with_unfolding_all exact rfl

/-! ### greatest common divisors -/
theorem divisor_w (a b : Nat) (τ : Tp) : S_divisor [.d (.int a), .d (.int b)] τ = some (.int (Nat.gcd a b), τ) := by
  refine wpC_eq ?_
  unfold S_divisor
  wtm_at "ev_st"
  refine k_while (fun m env t => t = τ ∧ ∃ x y : Nat, env = [.d (.int x), .d (.int y)] ∧ m = y ∧ Nat.gcd x y = Nat.gcd a b) ?_ (m := b) ⟨rfl, a, b, rfl, rfl, rfl⟩
  rintro m env t ⟨rfl, x, y, rfl, rfl, hg⟩
  wtm_at "ev_st"
  refine k_neq (fun h => ?_) (fun h => ?_)
  · have hy : 0 < m := by omega
    wtm_at "ev_st"
    refine k_mod (by omega) ?_
    wtm_at "ev_st"
    refine ⟨x % m, Nat.mod_lt _ hy, rfl, m, x % m, rfl, rfl, ?_⟩
    rw [← hg, Nat.gcd_comm x m, Nat.gcd_rec m x, Nat.gcd_comm]
  · have hy : m = 0 := by omega
    subst hy
    wtm_at "ev_st"
    refine ⟨?_, rfl⟩
    rw [← hg]
    simp
theorem common_w (a b : Nat) (τ : Tp) : S__law_common [.d (.int a), .d (.int b)] τ = some (.int (Nat.gcd a b), τ) := by
  refine wpC_eq ?_
  unfold S__law_common
  wtm_at "ev_st"
  refine k_while (fun m env t => t = τ ∧ ∃ x y : Nat, env = [.d (.int x), .d (.int y)] ∧ m = x ∧ Nat.gcd x y = Nat.gcd a b) ?_ (m := a) ⟨rfl, a, b, rfl, rfl, rfl⟩
  rintro m env t ⟨rfl, x, y, rfl, rfl, hg⟩
  wtm_at "ev_st"
  refine k_neq (fun h => ?_) (fun h => ?_)
  · have hy : 0 < m := by omega
    wtm_at "ev_st"
    refine k_mod (by omega) ?_
    wtm_at "ev_st"
    refine ⟨y % m, Nat.mod_lt _ hy, rfl, y % m, m, rfl, rfl, ?_⟩
    rw [← hg, Nat.gcd_rec m y]
  · have hy : m = 0 := by omega
    subst hy
    wtm_at "ev_st"
    refine ⟨?_, rfl⟩
    rw [← hg]
    simp

open PySem PySem.Spec PyProof.Rows L2
open PySem.W (minD maxD)
/-! ### fractions -/
abbrev frD (q : Rat) : D := .tuple [.int q.num, .int q.den]
theorem frac_rat {a b : Int} (hb : 0 < b) : (a / (Nat.gcd a.natAbs b.natAbs : Nat) : Int) = ((a : Rat) / b).num ∧ (b / (Nat.gcd a.natAbs b.natAbs : Nat) : Int) = (((a : Rat) / b).den : Int) := by
  obtain ⟨n, rfl⟩ : ∃ n : Nat, b = n := ⟨b.toNat, by omega⟩
  have hn : n ≠ 0 := by omega
  have e : ((a : Rat) / ((n : Int) : Rat)) = Rat.normalize a n hn := by
    rw [Rat.normalize_eq_mkRat, ← Rat.divInt_eq_div, Rat.divInt_ofNat]
  rw [e, Rat.num_normalize, Rat.den_normalize]
  simp
theorem abs_nat (a : Int) : (if a < 0 then -a else a) = (a.natAbs : Int) := by
  split <;> omega
theorem gcd_log {a b : Int} (hb : 0 < b) {n : Nat} (h : b.natAbs < 2 ^ n) (hn : 0 < n) : ((Nat.gcd a.natAbs b.natAbs : Nat) : Int).natAbs.log2 < n := by
  refine log_lt ?_ hn
  have : Nat.gcd a.natAbs b.natAbs ≤ b.natAbs := Nat.le_of_dvd (by omega) (Nat.gcd_dvd_right _ _)
  simp
  omega
theorem sm9 {n : Nat} (h : n ≤ 1000000) : n < 2 ^ 9000 := Nat.lt_of_lt_of_le (show n < 2 ^ 20 by omega) (Nat.pow_le_pow_right (by decide) (by decide))
theorem fraction_w {a b : Int} (hb : 0 < b) (hz : b.natAbs < 2 ^ 9000) (τ : Tp) : S_fraction [.d (.int a), .d (.int b)] τ = some (frD ((a : Rat) / b), τ) := by
  refine wpC_eq ?_
  unfold S_fraction
  wtm_at "ev_st"
  refine wpC_of (divisor_w _ _ _) ?_
  have hg : 0 < ((Nat.gcd a.natAbs b.natAbs : Nat) : Int) := by
    have := Nat.gcd_pos_of_pos_right a.natAbs (show 0 < b.natAbs by omega)
    omega
  have hl := gcd_log (a := a) hb hz (by decide)
  wtm_at "ev_st"
  refine k_d (fun _ => ?_) (fun h => absurd hb h)
  wtm_at "ev_st"
  refine k_div hg hl ?_
  wtm_at "ev_st"
  refine k_div hg hl ?_
  wtm_at "ev_st"
  obtain ⟨e1, e2⟩ := frac_rat (a := a) hb
  rw [e1, e2]
  exact ⟨rfl, rfl⟩
theorem lfrac_w {a b : Int} (hb : 0 < b) (hz : b.natAbs < 2 ^ 9000) (τ : Tp) : S__law_frac [.d (.int a), .d (.int b)] τ = some (frD ((a : Rat) / b), τ) := by
  refine wpC_eq ?_
  unfold S__law_frac
  wtm_at "ev_st"
  have hb' : b = (b.natAbs : Int) := by omega
  rw [hb']
  refine wpC_of (common_w _ _ _) ?_
  rw [← hb']
  have hg : 0 < ((Nat.gcd a.natAbs b.natAbs : Nat) : Int) := by
    have := Nat.gcd_pos_of_pos_right a.natAbs (show 0 < b.natAbs by omega)
    omega
  have hl := gcd_log (a := a) hb hz (by decide)
  wtm_at "ev_st"
  refine k_div hg hl ?_
  wtm_at "ev_st"
  refine k_div hg hl ?_
  wtm_at "ev_st"
  obtain ⟨e1, e2⟩ := frac_rat (a := a) hb
  rw [e1, e2]
  exact ⟨rfl, rfl⟩
/-- a fraction whose parts have at most n bits -/
structure Sz (n : Nat) (q : Rat) : Prop where
  num : q.num.natAbs < 2 ^ n
  den : q.den < 2 ^ n
theorem rat_parts (q : Rat) : q = (q.num : Rat) / ((q.den : Int) : Rat) := by
  have := Rat.num_divInt_den q
  rw [Rat.divInt_eq_div] at this
  exact this.symm
theorem den_pos (q : Rat) : 0 < (q.den : Int) := by have := q.den_nz; omega
theorem den_ne (q : Rat) : ((q.den : Int) : Rat) ≠ 0 := by
  have := q.den_nz
  intro h
  rw [Rat.intCast_eq_zero_iff] at h
  omega

open PySem PySem.Spec PyProof.Rows L2
open PySem.W (minD maxD)
/-! ### points, sticks -/
abbrev Pt := Int × Int
abbrev Stk := Pt × Pt
abbrev ptD (p : Pt) : D := .tuple [.int p.1, .int p.2]
abbrev stD (s : Stk) : D := .tuple [ptD s.1, ptD s.2]
structure InP (p : Pt) : Prop where
  x0 : 0 ≤ p.1
  x1 : p.1 ≤ 12
  y0 : 0 ≤ p.2
  y1 : p.2 ≤ 12
structure InS (s : Stk) : Prop where
  a : InP s.1
  b : InP s.2
def side (p q r : Pt) : Int := (q.1 - p.1) * (r.2 - p.2) - (q.2 - p.2) * (r.1 - p.1)
theorem mul_b {i j : Int} {m n : Nat} (hi : i.natAbs ≤ m) (hj : j.natAbs ≤ n) : (i * j).natAbs ≤ m * n := by
  rw [Int.natAbs_mul]
  exact Nat.mul_le_mul hi hj
theorem side_b {p q r : Pt} (hp : InP p) (hq : InP q) (hr : InP r) : (side p q r).natAbs ≤ 288 := by
  obtain ⟨p1, p2, p3, p4⟩ := hp
  obtain ⟨q1, q2, q3, q4⟩ := hq
  obtain ⟨r1, r2, r3, r4⟩ := hr
  have h1 := mul_b (i := q.1 - p.1) (j := r.2 - p.2) (m := 12) (n := 12) (by omega) (by omega)
  have h2 := mul_b (i := q.2 - p.2) (j := r.1 - p.1) (m := 12) (n := 12) (by omega) (by omega)
  unfold side
  omega
theorem way_w (p q : Pt) (τ : Tp) : S_way [.d (ptD p), .d (ptD q)] τ = some (ptD (q.1 - p.1, q.2 - p.2), τ) := by
  refine wpC_eq ?_
  unfold S_way
  wtm_at "ev_st"
  exact ⟨rfl, rfl⟩
theorem turn_w {u v : Pt} (h1 : u.1.natAbs ≤ 1000) (h2 : u.2.natAbs ≤ 1000) (h3 : v.1.natAbs ≤ 1000) (h4 : v.2.natAbs ≤ 1000) (τ : Tp) : S_turn [.d (ptD u), .d (ptD v)] τ = some (.int (u.1 * v.2 - u.2 * v.1), τ) := by
  refine wpC_eq ?_
  unfold S_turn
  have m1 : u.1.natAbs.log2 + v.2.natAbs.log2 < 1000000 := mul_sm (by omega) (by omega)
  have m2 : u.2.natAbs.log2 + v.1.natAbs.log2 < 1000000 := mul_sm (by omega) (by omega)
  wtm_at "ev_st"
  exact ⟨rfl, rfl⟩
theorem lside_w {p q r : Pt} (hp : InP p) (hq : InP q) (hr : InP r) (τ : Tp) : S__law_side [.d (ptD p), .d (ptD q), .d (ptD r)] τ = some (.int (side p q r), τ) := by
  obtain ⟨p1, p2, p3, p4⟩ := hp
  obtain ⟨q1, q2, q3, q4⟩ := hq
  obtain ⟨r1, r2, r3, r4⟩ := hr
  refine wpC_eq ?_
  unfold S__law_side
  have m1 : (q.1 - p.1).natAbs.log2 + (r.2 - p.2).natAbs.log2 < 1000000 := mul_sm (by omega) (by omega)
  have m2 : (q.2 - p.2).natAbs.log2 + (r.1 - p.1).natAbs.log2 < 1000000 := mul_sm (by omega) (by omega)
  wtm_at "ev_st"
  exact ⟨rfl, rfl⟩
theorem lsides_w {s o : Stk} (hs : InS s) (ho : InS o) (τ : Tp) : S__law_sides [.d (stD s), .d (stD o)] τ = some (.list [.int (side s.1 s.2 o.1), .int (side s.1 s.2 o.2), .int (side o.1 o.2 s.1), .int (side o.1 o.2 s.2)], τ) := by
  refine wpC_eq ?_
  unfold S__law_sides
  wtm_at "ev_st"
  refine wpC_of (lside_w hs.a hs.b ho.a _) ?_
  wtm_at "ev_st"
  refine wpC_of (lside_w hs.a hs.b ho.b _) ?_
  wtm_at "ev_st"
  refine wpC_of (lside_w ho.a ho.b hs.a _) ?_
  wtm_at "ev_st"
  refine wpC_of (lside_w ho.a ho.b hs.b _) ?_
  wtm_at "ev_st"
  exact ⟨rfl, rfl⟩
def sg (x : Int) : Int := if x < 0 then -1 else 1
/-- how the sides stand to the meeting of the lines -/
def btm (s o : Stk) : Int := side s.1 s.2 o.2 - side s.1 s.2 o.1
theorem btm_eq (s o : Stk) : btm s o = (s.2.1 - s.1.1) * (o.2.2 - o.1.2) - (s.2.2 - s.1.2) * (o.2.1 - o.1.1) := by
  unfold btm side
  grind
theorem btm_eq2 (s o : Stk) : btm s o = side o.1 o.2 s.1 - side o.1 o.2 s.2 := by
  unfold btm side
  grind
theorem top_eq (s o : Stk) : (o.1.1 - s.1.1) * (o.2.2 - o.1.2) - (o.1.2 - s.1.2) * (o.2.1 - o.1.1) = side o.1 o.2 s.1 := by
  unfold side
  grind
theorem far_eq (s o : Stk) : (o.1.1 - s.1.1) * (s.2.2 - s.1.2) - (o.1.2 - s.1.2) * (s.2.1 - s.1.1) = - side s.1 s.2 o.1 := by
  unfold side
  grind
theorem btm_b {s o : Stk} (hs : InS s) (ho : InS o) : (btm s o).natAbs ≤ 576 := by
  have h1 := side_b hs.a hs.b ho.b
  have h2 := side_b hs.a hs.b ho.a
  unfold btm
  omega
theorem meeting_w {s o : Stk} (hs : InS s) (ho : InS o) (τ : Tp) : S_meeting [.d (stD s), .d (stD o)] τ = some (.tuple [.int (sg (btm s o) * btm s o), .int (sg (btm s o) * side o.1 o.2 s.1), .int (sg (btm s o) * -side s.1 s.2 o.1)], τ) := by
  refine wpC_eq ?_
  unfold S_meeting
  have b0 := btm_b hs ho
  have b1 := side_b ho.a ho.b hs.a
  have b2 := side_b hs.a hs.b ho.a
  have tw : ∀ (u v : Pt) (x : Int), u.1.natAbs ≤ 1000 → u.2.natAbs ≤ 1000 → v.1.natAbs ≤ 1000 → v.2.natAbs ≤ 1000 → u.1 * v.2 - u.2 * v.1 = x → ∀ τ, S_turn [.d (ptD u), .d (ptD v)] τ = some (.int x, τ) := fun u v x h1 h2 h3 h4 e τ => by rw [turn_w h1 h2 h3 h4, e]
  obtain ⟨⟨p1, p2, p3, p4⟩, ⟨q1, q2, q3, q4⟩⟩ := hs
  obtain ⟨⟨r1, r2, r3, r4⟩, ⟨u1, u2, u3, u4⟩⟩ := ho
  have t1 := tw (s.2.1 - s.1.1, s.2.2 - s.1.2) (o.2.1 - o.1.1, o.2.2 - o.1.2) (btm s o) (by simp; omega) (by simp; omega) (by simp; omega) (by simp; omega) (btm_eq s o).symm
  have t2 := tw (o.1.1 - s.1.1, o.1.2 - s.1.2) (o.2.1 - o.1.1, o.2.2 - o.1.2) (side o.1 o.2 s.1) (by simp; omega) (by simp; omega) (by simp; omega) (by simp; omega) (top_eq s o)
  have t3 := tw (o.1.1 - s.1.1, o.1.2 - s.1.2) (s.2.1 - s.1.1, s.2.2 - s.1.2) (- side s.1 s.2 o.1) (by simp; omega) (by simp; omega) (by simp; omega) (by simp; omega) (far_eq s o)
  generalize btm s o = b at *
  generalize side o.1 o.2 s.1 = c at *
  generalize side s.1 s.2 o.1 = a at *
  have m : ∀ x y : Int, x.natAbs ≤ 1 → y.natAbs ≤ 1000 → x.natAbs.log2 + y.natAbs.log2 < 1000000 := fun x y h1 h2 => mul_sm (by omega) (by omega)
  wtm_at "ev_st"
  refine wpC_of (way_w _ _ _) ?_
  wtm_at "ev_st"
  refine wpC_of (way_w _ _ _) ?_
  wtm_at "ev_st"
  refine wpC_of (way_w _ _ _) ?_
  wtm_at "ev_st"
  refine wpC_of (t1 _) ?_
  wtm_at "ev_st"
  refine k_d (fun h => ?_) (fun h => ?_)
  · have e : sg b = -1 := by unfold sg; rw [if_pos h]
    rw [e]
    wtm_at "ev_st"
    refine k_mul (m _ _ (by decide) (by omega)) ?_
    wtm_at "ev_st"
    refine wpC_of (t2 _) ?_
    wtm_at "ev_st"
    refine k_mul (m _ _ (by decide) (by omega)) ?_
    wtm_at "ev_st"
    refine wpC_of (t3 _) ?_
    wtm_at "ev_st"
    refine k_mul (m _ _ (by decide) (by omega)) ?_
    wtm_at "ev_st"
    exact ⟨rfl, rfl⟩
  · have e : sg b = 1 := by unfold sg; rw [if_neg h]
    rw [e]
    wtm_at "ev_st"
    refine k_mul (m _ _ (by decide) (by omega)) ?_
    wtm_at "ev_st"
    refine wpC_of (t2 _) ?_
    wtm_at "ev_st"
    refine k_mul (m _ _ (by decide) (by omega)) ?_
    wtm_at "ev_st"
    refine wpC_of (t3 _) ?_
    wtm_at "ev_st"
    refine k_mul (m _ _ (by decide) (by omega)) ?_
    wtm_at "ev_st"
    exact ⟨rfl, rfl⟩

open PySem PySem.Spec PyProof.Rows L2
open PySem.W (minD maxD)
/-! ### how two sticks lie: crossing -/
def mTouch (s o : Stk) : Bool :=
  (side s.1 s.2 o.1 == 0 && decide (min s.1.1 s.2.1 ≤ o.1.1) && decide (o.1.1 ≤ max s.1.1 s.2.1) && decide (min s.1.2 s.2.2 ≤ o.1.2) && decide (o.1.2 ≤ max s.1.2 s.2.2)) ||
  (side s.1 s.2 o.2 == 0 && decide (min s.1.1 s.2.1 ≤ o.2.1) && decide (o.2.1 ≤ max s.1.1 s.2.1) && decide (min s.1.2 s.2.2 ≤ o.2.2) && decide (o.2.2 ≤ max s.1.2 s.2.2)) ||
  (side o.1 o.2 s.1 == 0 && decide (min o.1.1 o.2.1 ≤ s.1.1) && decide (s.1.1 ≤ max o.1.1 o.2.1) && decide (min o.1.2 o.2.2 ≤ s.1.2) && decide (s.1.2 ≤ max o.1.2 o.2.2)) ||
  (side o.1 o.2 s.2 == 0 && decide (min o.1.1 o.2.1 ≤ s.2.1) && decide (s.2.1 ≤ max o.1.1 o.2.1) && decide (min o.1.2 o.2.2 ≤ s.2.2) && decide (s.2.2 ≤ max o.1.2 o.2.2))
def mCross (s o : Stk) : Bool := decide (side s.1 s.2 o.1 * side s.1 s.2 o.2 < 0) && decide (side o.1 o.2 s.1 * side o.1 o.2 s.2 < 0)
/-- where s meets o, as a part of s -/
def place (s o : Stk) : Rat := ((side o.1 o.2 s.1).natAbs : Int) / (((side o.1 o.2 s.1).natAbs : Int) + ((side o.1 o.2 s.2).natAbs : Int) : Int)
theorem cross_parts {s o : Stk} (h : mCross s o = true) : side s.1 s.2 o.1 * side s.1 s.2 o.2 < 0 ∧ side o.1 o.2 s.1 * side o.1 o.2 s.2 < 0 := by
  unfold mCross at h
  simpa using h
theorem neg_mul_cases {a b : Int} (h : a * b < 0) : (0 < a ∧ b < 0) ∨ (a < 0 ∧ 0 < b) := by
  by_cases ha : 0 < a
  · by_cases hb : b < 0
    · exact .inl ⟨ha, hb⟩
    · have := Int.mul_nonneg (Int.le_of_lt ha) (show 0 ≤ b by omega)
      omega
  · by_cases ha' : a < 0
    · by_cases hb : 0 < b
      · exact .inr ⟨ha', hb⟩
      · have := Int.mul_nonneg_of_nonpos_of_nonpos (Int.le_of_lt ha') (show b ≤ 0 by omega)
        omega
    · have : a = 0 := by omega
      subst this
      simp at h
theorem crossing_cross {s o : Stk} (hs : InS s) (ho : InS o) (h : mCross s o = true) (τ : Tp) : S_crossing [.d (stD s), .d (stD o)] τ = some (.tuple [frD (place s o), frD (place o s)], τ) := by
  obtain ⟨h1, h2⟩ := cross_parts h
  have e1 : btm s o = side s.1 s.2 o.2 - side s.1 s.2 o.1 := rfl
  have e2 := btm_eq2 s o
  have b1 := side_b ho.a ho.b hs.a
  have b2 := side_b hs.a hs.b ho.a
  have b3 := side_b ho.a ho.b hs.b
  have b4 := side_b hs.a hs.b ho.b
  refine wpC_eq ?_
  unfold S_crossing place
  wtm_at "ev_st"
  refine wpC_of (meeting_w hs ho _) ?_
  generalize btm s o = b at *
  generalize side o.1 o.2 s.1 = c at *
  generalize side s.1 s.2 o.1 = a at *
  generalize side o.1 o.2 s.2 = d at *
  generalize side s.1 s.2 o.2 = a' at *
  have hb : 0 < sg b * b ∧ sg b * c = c.natAbs ∧ sg b * b = c.natAbs + d.natAbs ∧ sg b * -a = a.natAbs ∧ sg b * b = a.natAbs + a'.natAbs ∧ (0 : Int) < c.natAbs ∧ (0 : Int) < d.natAbs ∧ (0 : Int) < a.natAbs ∧ (0 : Int) < a'.natAbs ∧ sg b * b ≤ 1000 := by
    rcases neg_mul_cases h1 with ⟨x1, x2⟩ | ⟨x1, x2⟩ <;> rcases neg_mul_cases h2 with ⟨y1, y2⟩ | ⟨y1, y2⟩ <;> unfold sg <;> split <;> omega
  obtain ⟨g1, g2, g3, g4, g5, g6, g7, g8, g9, g0⟩ := hb
  rw [g2, g4]
  generalize sg b * b = m at *
  generalize (c.natAbs : Int) = C at *
  generalize (a.natAbs : Int) = A at *
  wtm_at "ev_sto"
  refine wpC_of (fraction_w g1 (sm9 (by omega)) _) ?_
  wtm_at "ev_sto"
  refine wpC_of (fraction_w g1 (sm9 (by omega)) _) ?_
  wtm_at "ev_sto"
  rw [← g3, ← g5]
  exact ⟨rfl, rfl⟩
theorem lplace_w {s o : Stk} (hs : InS s) (ho : InS o) (h : mCross s o = true) (τ : Tp) : S__law_place [.d (stD s), .d (stD o)] τ = some (frD (place s o), τ) := by
  obtain ⟨h1, h2⟩ := cross_parts h
  have b1 := side_b ho.a ho.b hs.a
  have b3 := side_b ho.a ho.b hs.b
  refine wpC_eq ?_
  unfold S__law_place place
  wtm_at "ev_st"
  refine wpC_of (lsides_w hs ho _) ?_
  generalize side o.1 o.2 s.1 = c at *
  generalize side o.1 o.2 s.2 = d at *
  have hc : c ≠ 0 := fun z => by subst z; simp at h2
  wtm_at "ev_sto"
  refine wpC_of (lfrac_w (by omega) (sm9 (by omega)) _) ?_
  wtm_at "ev_sto"
  exact ⟨rfl, rfl⟩

open PySem PySem.Spec PyProof.Rows L2
open PySem.W (minD maxD dataLt alike dataLt_int)
theorem alike2 (i j : Int) : alikeB [.int i, .int j] = true := by
  unfold alikeB
  simp [alike, isNone]
theorem k_min2 {env : En} {τ : Tp} {i j : Int} {Q : W → Prop} (q : Q (.d (.int (min i j)))) : wpO (gMM2 minD env τ (.d (.int i)) (.d (.int j))) Q := by
  have e : gMM2 minD env τ (.d (.int i)) (.d (.int j)) = some (.d (minD (.int i) [.int j])) := by
    unfold gMM2
    exact if_pos ⟨alike2 i j, by simp [PyData.depthAll, PyData.depth]⟩
  have e2 : minD (.int i) [.int j] = .int (min i j) := by
    show (if dataLt (.int j) (.int i) = true then PyData.int j else PyData.int i) = _
    rw [dataLt_int]
    by_cases h : j < i
    · rw [if_pos (by simpa using h)]; congr 1; omega
    · rw [if_neg (by simpa using h)]; congr 1; omega
  rw [e, e2]
  exact wpO_of rfl q
theorem k_max2 {env : En} {τ : Tp} {i j : Int} {Q : W → Prop} (q : Q (.d (.int (max i j)))) : wpO (gMM2 maxD env τ (.d (.int i)) (.d (.int j))) Q := by
  have e : gMM2 maxD env τ (.d (.int i)) (.d (.int j)) = some (.d (maxD (.int i) [.int j])) := by
    unfold gMM2
    exact if_pos ⟨alike2 i j, by simp [PyData.depthAll, PyData.depth]⟩
  have e2 : maxD (.int i) [.int j] = .int (max i j) := by
    show (if dataLt (.int i) (.int j) = true then PyData.int j else PyData.int i) = _
    rw [dataLt_int]
    by_cases h : i < j
    · rw [if_pos (by simpa using h)]; congr 1; omega
    · rw [if_neg (by simpa using h)]; congr 1; omega
  rw [e, e2]
  exact wpO_of rfl q
local macro_rules | `(tactic| wtm_at "ev_stO") => `(tactic| with_reducible first | refine k_min2 ?_ | refine k_max2 ?_)
abbrev cr : Str := PySem.Str.ofString "cross"
abbrev tc : Str := PySem.Str.ofString "touch"
abbrev ap : Str := PySem.Str.ofString "apart"
/-- a row of _law_meet: a point on a stick -/
structure MRow where
  k : Int
  p : Pt
  l : Stk
abbrev MRow.D (r : MRow) : D := .tuple [.int r.k, ptD r.p, stD r.l]
def MRow.t (r : MRow) : Bool := r.k == 0 && decide (min r.l.1.1 r.l.2.1 ≤ r.p.1) && decide (r.p.1 ≤ max r.l.1.1 r.l.2.1) && decide (min r.l.1.2 r.l.2.2 ≤ r.p.2) && decide (r.p.2 ≤ max r.l.1.2 r.l.2.2)
def mRows (s o : Stk) : List MRow := [⟨side s.1 s.2 o.1, o.1, s⟩, ⟨side s.1 s.2 o.2, o.2, s⟩, ⟨side o.1 o.2 s.1, s.1, o⟩, ⟨side o.1 o.2 s.2, s.2, o⟩]
def mT (s o : Stk) : Bool := (mRows s o).any MRow.t
def meetS (s o : Stk) : Str := if mCross s o = true then cr else if mT s o = true then tc else ap
theorem lmeet_w {s o : Stk} (hs : InS s) (ho : InS o) (τ : Tp) : S__law_meet [.d (stD s), .d (stD o)] τ = some (.str (meetS s o), τ) := by
  have b1 := side_b ho.a ho.b hs.a
  have b2 := side_b hs.a hs.b ho.a
  have b3 := side_b ho.a ho.b hs.b
  have b4 := side_b hs.a hs.b ho.b
  refine wpC_eq ?_
  unfold S__law_meet
  generalize hL : sFor (iSeq (eVar 6)) _ _ = L
  wtm_at "ev_st"
  refine wpC_of (lsides_w hs ho _) ?_
  have m1 : (side s.1 s.2 o.1).natAbs.log2 + (side s.1 s.2 o.2).natAbs.log2 < 1000000 := mul_sm (by omega) (by omega)
  have m2 : (side o.1 o.2 s.1).natAbs.log2 + (side o.1 o.2 s.2).natAbs.log2 < 1000000 := mul_sm (by omega) (by omega)
  wtm_at "ev_st"
  have rest : ∀ (τ : Tp) (R : D → Tp → Prop), mCross s o = false → R (.str (meetS s o)) τ → wpS L [.d (stD s), .d (stD o), .d (.int (side s.1 s.2 o.1)), .d (.int (side s.1 s.2 o.2)), .d (.int (side o.1 o.2 s.1)), .d (.int (side o.1 o.2 s.2)), .d (.list ((mRows s o).map MRow.D)), .no, .no, .no] τ (seqK (sSeq (sRet (eCon (.str (PySem.Str.ofString "apart")))) sNext) (runK R)) := by
    intro τ R hx hR
    rw [← hL]
    refine k_sfor (k_iseq ?_)
    wtm_at "ev_stE"
    refine k_seqI (b := true) (ds := (mRows s o).map MRow.D) rfl (k_for1 ?_)
    refine k_for (fun rest e t => t = τ ∧ ∃ rs : List MRow, rest = rs.map MRow.D ∧ mT s o = rs.any MRow.t ∧ ∃ x y z, e = [.d (stD s), .d (stD o), .d (.int (side s.1 s.2 o.1)), .d (.int (side s.1 s.2 o.2)), .d (.int (side o.1 o.2 s.1)), .d (.int (side o.1 o.2 s.2)), .d (.list ((mRows s o).map MRow.D)), x, y, z]) ?_ ?_ ⟨rfl, mRows s o, rfl, rfl, _, _, _, rfl⟩
    · rintro d r e t ⟨rfl, rs, h1, h2, x, y, z, rfl⟩
      cases rs with
      | nil => cases h1
      | cons q rs =>
        cases h1
        have no : q.t = false → mT s o = rs.any MRow.t := fun h => by rw [h2, List.any_cons, h, Bool.false_or]
        have yes : q.t = true → mT s o = true := fun h => by rw [h2, List.any_cons, h, Bool.true_or]
        wtm_at "ev_st"
        refine k_eq (fun c0 => ?_) (fun c0 => ?_)
        · wtm_at "ev_st"
          refine k_d (fun c1 => ?_) (fun c1 => ?_)
          · wtm_at "ev_st"
            refine k_d (fun c2 => ?_) (fun c2 => ?_)
            · wtm_at "ev_st"
              refine k_d (fun c3 => ?_) (fun c3 => ?_)
              · wtm_at "ev_st"
                refine k_d (fun c4 => ?_) (fun c4 => ?_)
                · wtm_at "ev_st"
                  have : meetS s o = tc := by
                    unfold meetS
                    rw [hx, yes (by unfold MRow.t; simp [c0, c1, c2, c3, c4])]
                    rfl
                  rw [this] at hR
                  exact hR
                · wtm_at "ev_st"
                  exact ⟨rfl, rs, rfl, no (by unfold MRow.t; simp [c4]), _, _, _, rfl⟩
              · wtm_at "ev_st"
                exact ⟨rfl, rs, rfl, no (by unfold MRow.t; simp [c3]), _, _, _, rfl⟩
            · wtm_at "ev_st"
              exact ⟨rfl, rs, rfl, no (by unfold MRow.t; simp [c2]), _, _, _, rfl⟩
          · wtm_at "ev_st"
            exact ⟨rfl, rs, rfl, no (by unfold MRow.t; simp [c1]), _, _, _, rfl⟩
        · wtm_at "ev_st"
          exact ⟨rfl, rs, rfl, no (by unfold MRow.t; simp [c0]), _, _, _, rfl⟩
    · rintro e t ⟨rfl, rs, h1, h2, x, y, z, rfl⟩
      cases rs with
      | cons q rs => cases h1
      | nil =>
        wtm_at "ev_st"
        have : meetS s o = ap := by unfold meetS; rw [hx, h2]; rfl
        rw [this] at hR
        exact hR
  refine k_d (fun c1 => ?_) (fun c1 => ?_)
  · wtm_at "ev_st"
    refine k_d (fun c2 => ?_) (fun c2 => ?_)
    · wtm_at "ev_st"
      have : meetS s o = cr := by unfold meetS mCross; simp [c1, c2]
      rw [this]
      exact ⟨rfl, rfl⟩
    · wtm_at "ev_st"
      exact rest τ (fun x t => x = .str (meetS s o) ∧ t = τ) (by unfold mCross; simp [c2]) ⟨rfl, rfl⟩
  · wtm_at "ev_st"
    exact rest τ (fun x t => x = .str (meetS s o) ∧ t = τ) (by unfold mCross; simp [c1]) ⟨rfl, rfl⟩

open PySem PySem.Spec PyProof.Rows L2
open PySem.W (minD maxD)
/-! ### the tape -/
abbrev tpD (cells : List Int) (i v : Int) : Tp := [.list (cells.map PyData.int), .int i, .int v]
/-- b more draws are within bounds -/
def TpOk (b : Nat) (τ : Tp) : Prop := ∃ cells i v, τ = tpD cells i v ∧ cells.length ≤ 63 ∧ 0 ≤ i ∧ i + b ≤ 1000000000000
theorem TpOk.mono {a b : Nat} {τ : Tp} (h : TpOk a τ) (hb : b ≤ a) : TpOk b τ := by
  obtain ⟨c, i, v, h1, h2, h3, h4⟩ := h
  exact ⟨c, i, v, h1, h2, h3, by omega⟩
section
variable {env : En} {τ : Tp}
theorem k_pow {Q : W → Prop} (q : Q (.d (.int 1000000000000000000))) : wpO (gI dPow env τ (.d (.int 10)) (.d (.int 18))) Q := by
  have e : dPow 10 18 = some (.int 1000000000000000000) := by
    unfold dPow
    rw [if_pos (by decide)]
    rfl
  rw [g_gi, e]
  exact wpO_of rfl q
theorem k_ixl {ds : List D} {k : Int} {x : D} {Q : W → Prop} (h0 : 0 ≤ k) (h : ds[k.toNat]? = some x) (q : Q (.d x)) : wpO (gIx env τ (.d (.list ds)) (.d (.int k))) Q := by
  rw [g_ix, sq_l]
  obtain ⟨m, rfl⟩ : ∃ m : Nat, k = m := ⟨k.toNat, by omega⟩
  have hl : m < ds.length := (List.getElem?_eq_some_iff.mp h).1
  show wpO ((atI ds (m : Int)).map W.d) Q
  rw [at_nat hl]
  have h : ds[m]? = some x := h
  rw [h]
  exact wpO_of rfl q
theorem k_ixt {ds : List D} {k : Int} {x : D} {Q : W → Prop} (h0 : 0 ≤ k) (h : ds[k.toNat]? = some x) (q : Q (.d x)) : wpO (gIx env τ (.d (.tuple ds)) (.d (.int k))) Q := by
  rw [g_ix, sq_t]
  obtain ⟨m, rfl⟩ : ∃ m : Nat, k = m := ⟨k.toNat, by omega⟩
  have hl : m < ds.length := (List.getElem?_eq_some_iff.mp h).1
  show wpO ((atI ds (m : Int)).map W.d) Q
  rw [at_nat hl]
  have h : ds[m]? = some x := h
  rw [h]
  exact wpO_of rfl q
theorem k_sb1 {i : Nat} {a b c d : D} {R : Out → Prop} (h : GetAt i env .tp) (q : R (.nx env [a, d, c])) : wpO (setSub i d 1 env [a, b, c]) R := by
  unfold setSub
  rw [h.eq]
  exact wpO_of rfl q
theorem k_sb2 {i : Nat} {a b c d : D} {R : Out → Prop} (h : GetAt i env .tp) (q : R (.nx env [a, b, d])) : wpO (setSub i d 2 env [a, b, c]) R := by
  unfold setSub
  rw [h.eq]
  exact wpO_of rfl q
theorem k_ixp0 {a b c : D} {Q : W → Prop} (q : Q (.d a)) : wpO (gIx env [a, b, c] .tp (.d (.int 0))) Q := wpO_of rfl q
theorem k_ixp1 {a b c : D} {Q : W → Prop} (q : Q (.d b)) : wpO (gIx env [a, b, c] .tp (.d (.int 1))) Q := wpO_of rfl q
theorem k_ixp2 {a b c : D} {Q : W → Prop} (q : Q (.d c)) : wpO (gIx env [a, b, c] .tp (.d (.int 2))) Q := wpO_of rfl q
end
local macro_rules | `(tactic| wtm_at "ev_stO") => `(tactic| with_reducible first | refine k_ixp0 ?_ | refine k_ixp1 ?_ | refine k_ixp2 ?_ | refine k_pow ?_ | (apply k_sb1; focus (wtm_at "ev_ga"; done)) | (apply k_sb2; focus (wtm_at "ev_ga"; done)))
local macro_rules | `(tactic| wtm_at "ev_stS") => `(tactic| with_reducible refine k_ssub ?_)
local macro_rules | `(tactic| wtm_at "ev_stK") => `(tactic| with_reducible refine k_sbi ?_)
/-- the end of a draw -/
theorem draw_end {n : Int} {b : Nat} (hn : 0 < n) (hz : n.natAbs.log2 < 9000) {cells : List Int} {i v : Int} {x y : Sl} (h1 : cells.length ≤ 63) (h2 : 0 ≤ i) (h3 : i + b ≤ 1000000000000) {Q : D → Tp → Prop} (q : ∀ r τ', 0 ≤ r → r < n → TpOk b τ' → Q (.int r) τ') :
    wpS (sSeq (sSet false 4 (f2 (gI dMod) (f2 gIx (eVar 0) (eCon (.int (2)))) (eVar 1)))
    (sSeq (sSub 0 (eCon (.int (2))) (f2 (gI dDiv) (f2 gIx (eVar 0) (eCon (.int (2)))) (eVar 1)))
    (sSeq (sRet (eVar 4))
    sNext))) [.tp, .d (.int n), x, y, .no] (tpD cells i v) (runK Q) := by
  wtm_at "ev_st"
  refine k_mod hn ?_
  wtm_at "ev_st"
  refine k_div hn hz ?_
  wtm_at "ev_st"
  exact q _ _ (Int.emod_nonneg _ (by omega)) (Int.emod_lt_of_pos _ hn) ⟨cells, i, _, rfl, h1, h2, h3⟩
theorem pow_num : (2 : Nat) ^ 64 = 18446744073709551616 := by decide
theorem mul_o {i j : Int} (hi : i.natAbs < 18446744073709551616) (hj : j.natAbs < 18446744073709551616) : i.natAbs.log2 + j.natAbs.log2 < 1000000 :=
  mul_ok (m := 64) (n := 64) (by rw [pow_num]; exact hi) (by rw [pow_num]; exact hj) (by decide) (by decide) (by decide)
theorem draw_w {n : Int} {b : Nat} {τ : Tp} (hT : TpOk (b + 1) τ) (hn : 0 < n) (hz : n.natAbs.log2 < 9000) {Q : D → Tp → Prop} (q : ∀ r τ', 0 ≤ r → r < n → TpOk b τ' → Q (.int r) τ') : wpC S__law_draw [.tp, .d (.int n)] τ Q := by
  obtain ⟨cells, i, v, rfl, h1, h2, h3⟩ := hT
  unfold S__law_draw
  generalize hE : sSeq (sSet false 4 _) _ = L
  have fin : ∀ (i v : Int) (x y : Sl), 0 ≤ i → i + b ≤ 1000000000000 → wpS L [.tp, .d (.int n), x, y, .no] (tpD cells i v) (runK Q) := fun i v x y g1 g2 => by
    rw [← hE]
    exact draw_end hn hz h1 g1 g2 q
  generalize hM : sSeq (sSet false 3 (f2 (gI dMod) (f2 gAdd (eVar 3) (f2 gMul _ _)) (eVar 2))) _ = M
  wtm_at "ev_st"
  refine k_d (fun c1 => ?_) (fun c1 => ?_)
  · -- the cell
    have mix : ∀ (cell : Int) (R : Out → Prop), (∀ c', R (.nx [.tp, .d (.int n), .d (.int 2305843009213693951), .d (.int c'), .no] (tpD cells i v))) →
        wpS (sSeq (sSet false 3 (f2 (gI dMod) (f2 gAdd (eVar 3) (f2 gMul (eCon (.int (1000003))) (f2 gIx (eVar 0) (eCon (.int (1)))))) (eVar 2)))
    (sSeq (sSet false 3 (f2 (gI dMod) (f2 gAdd (f2 gAdd (f2 gMul (eVar 3) (eVar 3)) (f2 gMul (eCon (.int (1181783497276652981))) (eVar 3))) (eCon (.int (2049848353892358983)))) (eVar 2)))
    (sSeq (sSet false 3 (f2 (gI dMod) (f2 gAdd (f2 gMul (eVar 3) (eVar 3)) (eCon (.int (1442695040888963407)))) (eVar 2)))
    sNext))) [.tp, .d (.int n), .d (.int 2305843009213693951), .d (.int cell), .no] (tpD cells i v) R := fun cell R hR => by
      wtm_at "ev_st"
      refine k_mul (mul_o (by decide) (by omega)) ?_
      wtm_at "ev_st"
      refine k_mod (by decide) ?_
      have r1 := Int.emod_nonneg (cell + 1000003 * i) (show (2305843009213693951 : Int) ≠ 0 by decide)
      have r2 := Int.emod_lt_of_pos (cell + 1000003 * i) (show (0 : Int) < 2305843009213693951 by decide)
      generalize (cell + 1000003 * i) % 2305843009213693951 = u at *
      wtm_at "ev_st"
      refine k_mul (mul_o (by omega) (by omega)) ?_
      wtm_at "ev_st"
      refine k_mul (mul_o (by decide) (by omega)) ?_
      wtm_at "ev_st"
      refine k_mod (by decide) ?_
      have r3 := Int.emod_nonneg (u * u + 1181783497276652981 * u + 2049848353892358983) (show (2305843009213693951 : Int) ≠ 0 by decide)
      have r4 := Int.emod_lt_of_pos (u * u + 1181783497276652981 * u + 2049848353892358983) (show (0 : Int) < 2305843009213693951 by decide)
      generalize (u * u + 1181783497276652981 * u + 2049848353892358983) % 2305843009213693951 = w at *
      wtm_at "ev_st"
      refine k_mul (mul_o (by omega) (by omega)) ?_
      wtm_at "ev_st"
      refine k_mod (by decide) ?_
      wtm_at "ev_st"
      exact hR _
    have tail : ∀ (cell : Int), wpS (sSeq (sIf (eOr (f2 gGe (f2 gIx (eVar 0) (eCon (.int (1)))) (f1 gLen (f2 gIx (eVar 0) (eCon (.int (0)))))) (f2 gLt (eVar 3) (f2 (gI dPow) (eCon (.int (10))) (eCon (.int (18)))))) M sNext)
    (sSeq (sSub 0 (eCon (.int (1))) (f2 gAdd (f2 gIx (eVar 0) (eCon (.int (1)))) (eCon (.int (1)))))
    (sSeq (sSub 0 (eCon (.int (2))) (eVar 3))
    sNext))) [.tp, .d (.int n), .d (.int 2305843009213693951), .d (.int cell), .no] (tpD cells i v) (seqK L (runK Q)) := fun cell => by
      have go : ∀ c' : Int, wpS (sSeq (sSub 0 (eCon (.int (1))) (f2 gAdd (f2 gIx (eVar 0) (eCon (.int (1)))) (eCon (.int (1)))))
          (sSeq (sSub 0 (eCon (.int (2))) (eVar 3)) sNext)) [.tp, .d (.int n), .d (.int 2305843009213693951), .d (.int c'), .no] (tpD cells i v) (seqK L (runK Q)) := fun c' => by
        wtm_at "ev_st"
        exact fin (i + 1) c' _ _ (by omega) (by omega)
      have mx : wpS M [.tp, .d (.int n), .d (.int 2305843009213693951), .d (.int cell), .no] (tpD cells i v) (seqK (sSeq (sSub 0 (eCon (.int (1))) (f2 gAdd (f2 gIx (eVar 0) (eCon (.int (1)))) (eCon (.int (1)))))
          (sSeq (sSub 0 (eCon (.int (2))) (eVar 3)) sNext)) (seqK L (runK Q))) := by
        rw [← hM]
        exact mix cell _ fun c' => k_nx (go c')
      refine k_seq (k_sif ?_)
      wtm_at "ev_st"
      refine k_d (fun c2 => ?_) (fun c2 => ?_)
      · wtm_at "ev_st"
        exact mx
      · wtm_at "ev_st"
        refine k_d (fun c3 => ?_) (fun c3 => ?_)
        · exact mx
        · wtm_at "ev_st"
          exact fin (i + 1) cell _ _ (by omega) (by omega)
    generalize hT : sSeq (sIf (eOr (f2 gGe _ _) _) M sNext) _ = T at tail ⊢
    wtm_at "ev_st"
    refine k_d (fun c2 => ?_) (fun c2 => ?_)
    · have hl : 0 < cells.length := by simpa using c2
      have hm : (cells.map PyData.int).length = cells.length := List.length_map ..
      wtm_at "ev_st"
      refine k_mod (by omega) ?_
      have r1 := Int.emod_nonneg i (show ((cells.map PyData.int).length : Int) ≠ 0 by omega)
      have r2 := Int.emod_lt_of_pos i (show (0 : Int) < ((cells.map PyData.int).length : Int) by omega)
      generalize i % ((cells.map PyData.int).length : Int) = u at *
      have hu : u.toNat < cells.length := by omega
      refine k_ixl (x := .int cells[u.toNat]) r1 (by simp [hu]) ?_
      wtm_at "ev_st"
      exact tail _
    · wtm_at "ev_st"
      exact tail _
  · wtm_at "ev_st"
    exact fin i v _ _ h2 (by omega)

open PySem PySem.Spec PyProof.Rows L2
open PySem.W (minD maxD dataLt dataLe dataLt_ii alike)
/-! ### sorted pairs -/
abbrev Pr := Int × Int
abbrev prD (p : Pr) : D := .tuple [.int p.1, .int p.2]
def prLt (p q : Pr) : Prop := p.1 < q.1 ∨ (p.1 = q.1 ∧ p.2 < q.2)
def prLe (p q : Pr) : Bool := !(decide (q.1 < p.1 ∨ (q.1 = p.1 ∧ q.2 < p.2)))
theorem dataLe_pr (p q : Pr) : dataLe false (fun x => x) (prD p) (prD q) = prLe p q := by
  have e : dataLe false (fun x => x) (prD p) (prD q) = !dataLt (prD q) (prD p) := rfl
  rw [e, dataLt_ii]
  rfl
theorem alike_pr (p q : Pr) : alike (prD p) (prD q) = true := by
  simp [alike, PySem.W.alikeAll]
def srt (l : List Pr) : List Pr := l.mergeSort prLe
theorem prLe_trans (a b c : Pr) (h1 : prLe a b = true) (h2 : prLe b c = true) : prLe a c = true := by
  unfold prLe at *
  simp at *
  omega
theorem prLe_total (a b : Pr) : (prLe a b || prLe b a) = true := by
  unfold prLe
  simp
  omega
theorem srt_perm (l : List Pr) : (srt l).Perm l := List.mergeSort_perm ..
theorem srt_mem {l : List Pr} {x : Pr} : x ∈ srt l ↔ x ∈ l := (srt_perm l).mem_iff
theorem srt_le (l : List Pr) : (srt l).Pairwise fun a b => prLe a b = true := List.pairwise_mergeSort prLe_trans prLe_total l
theorem srt_lt {l : List Pr} (h : l.Nodup) : (srt l).Pairwise prLt := by
  have h1 := srt_le l
  have h2 : (srt l).Nodup := (srt_perm l).nodup_iff.mpr h
  refine (h1.and h2).imp fun {a b} ⟨h, hne⟩ => ?_
  unfold prLe at h
  unfold prLt
  obtain ⟨a1, a2⟩ := a
  obtain ⟨b1, b2⟩ := b
  simp at h hne
  simp
  omega
theorem k_sort {env : En} {τ : Tp} {w : W} {l : List Pr} {Q : W → Prop} (e : seqOf env τ w = some (true, l.map prD)) (q : Q (.new ((srt l).map prD))) : wpO (gSorted env τ w) Q := by
  have h : (l.map prD).mergeSort (dataLe false fun x => x) = (srt l).map prD := by
    unfold srt
    rw [List.map_mergeSort (s := dataLe false fun x => x)]
    intro a _ b _
    exact (dataLe_pr a b).symm
  have c1 : allAlikeB (l.map prD) = true := by
    unfold allAlikeB
    simp [List.all_eq_true, alike_pr]
  have c2 : sortableB (l.map prD) = true := by
    unfold sortableB
    simp [List.all_eq_true, tupNe]
  have c3 : ((l.map prD).all fun d => decide (d.depth ≤ 60)) = true := by
    simp [List.all_eq_true, PyData.depth, PyData.depthAll]
  unfold gSorted
  rw [e]
  dsimp only
  rw [if_pos ⟨c1, c2, c3⟩, h]
  exact wpO_of rfl q
/-! ### piles -/
structure SticksOk (ss : List Stk) : Prop where
  ins : ∀ s ∈ ss, InS s
  ne : ∀ s ∈ ss, s.1 ≠ s.2
  tch : ss.Pairwise fun a b => meetS b a ≠ tc
/-- a law's list of sticks that touch the new one is empty -/
theorem k_lc1 {env env' : En} {τ : Tp} {own : Nat} : True := trivial

open PySem PySem.Spec PyProof.Rows L2
open PySem.W (minD maxD)
/-! ### loops by place -/
theorem rangeD_len (lo : Int) (n : Nat) : (rangeD lo n).length = n := by simp [rangeD]
theorem rangeD_at {lo : Int} {n i : Nat} {d : D} (h : (rangeD lo n)[i]? = some d) : i < n ∧ d = .int (lo + (i : Nat)) := by
  unfold rangeD at h
  rw [List.getElem?_map] at h
  cases hr : (List.range n)[i]? with
  | none => rw [hr] at h; cases h
  | some k =>
    rw [hr] at h
    cases h
    have := List.getElem?_eq_some_iff.mp hr
    obtain ⟨h1, h2⟩ := this
    simp at h1 h2
    subst h2
    exact ⟨h1, rfl⟩
theorem k_forR {tg : Tg} {body : EvS} {R : Out → Prop} {lo : Int} {n : Nat} (I : Nat → En → Tp → Prop) (hs : ∀ i env τ, i < n → I i env τ → wpO (bindT tg (.int (lo + (i : Nat))) env) fun e => wpS body e τ (whK (I (i + 1)) R)) (hd : ∀ env τ, I n env τ → R (.nx env τ))
    {env : En} {τ : Tp} (h0 : I 0 env τ) : wpO (forGo tg body (rangeD lo n) env τ) R := by
  refine k_forI I (fun i d e t h hI => ?_) (fun e t h => hd e t (by rw [rangeD_len] at h; exact h)) h0
  obtain ⟨h1, rfl⟩ := rangeD_at h
  exact hs i e t h1 hI
section
variable {env env' : En} {τ : Tp} {R : Out → Prop}
theorem shaped_ints : ∀ l : List Int, SeqAt.shaped (.list (l.map PyData.int)) = true := fun l => by
  have h1 : ∀ l : List Int, PyData.canLayAll0 (l.map PyData.int) = true := fun l => by
    induction l with
    | nil => rfl
    | cons a r ih => simp [PyData.canLayAll0, PyData.canLay0, ih]
  have h2 : ∀ l : List Int, PyData.depthAll (l.map PyData.int) = 0 := fun l => by
    induction l with
    | nil => rfl
    | cons a r ih => simp [PyData.depthAll, PyData.depth, ih]
  unfold SeqAt.shaped
  simp [PyData.canLay0, h1, PyData.depth, h2]
theorem k_eqnil {α : Type} {l : List α} {Q : W → Prop} (q : Q (.d (.bool l.isEmpty))) : wpO (gEqD false env τ (.new (l.map fun _ => PyData.int 1)) (.new [])) Q := by
  have e : gEqD false env τ (.new (l.map fun _ => PyData.int 1)) (.new []) = some (.d (.bool l.isEmpty)) := by
    have s1 := shaped_ints (l.map fun _ => 1)
    rw [List.map_map] at s1
    show (if SeqAt.shaped (.list (l.map fun _ => PyData.int 1)) = true ∧ SeqAt.shaped (.list []) = true then some (W.d (.bool (PyData.eqv (.list (l.map fun _ => PyData.int 1)) (.list [])))) else none) = _
    rw [if_pos ⟨s1, rfl⟩]
    cases l with
    | nil => simp [PyData.eqv, PyData.eqvAll]
    | cons a r => simp [PyData.eqv, PyData.eqvAll]
  rw [e]
  exact wpO_of rfl q
end
local macro_rules | `(tactic| wtm_at "ev_stS") => `(tactic| with_reducible (apply k_ins; focus (wtm_at "ev_ga"; done)))
/-- draws follow one another -/
theorem dr {n : Int} {a b : Nat} {τ : Tp} (hT : TpOk a τ) (hab : b + 1 ≤ a) (hn : 0 < n) (hz : n ≤ 1000000000000) {Q : D → Tp → Prop} (q : ∀ r τ', 0 ≤ r → r < n → TpOk b τ' → Q (.int r) τ') : wpC S__law_draw [.tp, .d (.int n)] τ Q :=
  draw_w (hT.mono hab) hn (by
    have h : n.natAbs < 2 ^ 41 := by
      have e : (2 : Nat) ^ 41 = 2199023255552 := by rfl
      rw [e]
      omega
    have := log_lt h (by decide)
    omega) q
theorem anyOrder_w {m : Nat} {b : Nat} {τ : Tp} (hT : TpOk (b + m) τ) (hm : m ≤ 1000) {Q : D → Tp → Prop} (q : ∀ (ns : List Int) τ', ns.length = m → TpOk b τ' → Q (.tuple (ns.map PyData.int)) τ') : wpC S__law_any_order [.tp, .d (.int m)] τ Q := by
  unfold S__law_any_order
  generalize hB : sSeq (sIns 2 _) sNext = B
  wtm_at "ev_st"
  refine k_forR (fun i e t => TpOk (b + m - i) t ∧ ∃ ns : List Int, ns.length = i ∧ ∃ x, e = [.tp, .d (.int m), .own (ns.map PyData.int), x]) ?_ ?_ ⟨hT, [], rfl, _, rfl⟩
  · rintro i e t hi ⟨ht, ns, hl, x, rfl⟩
    have hi : i < m := by simpa using hi
    rw [← hB]
    wtm_at "ev_st"
    refine dr ht (b := b + m - (i + 1)) (by omega) (by omega) (by omega) fun r τ' h0 h1 hT' => ?_
    wtm_at "ev_st"
    refine k_insd (by simp; omega) h0 (by omega) (by wtm_at "ev_ga") ?_
    wtm_at "ev_st"
    refine ⟨hT', ns.take r.toNat ++ [0 + (i : Int)] ++ ns.drop r.toNat, ?_, .d (.int (0 + (i : Int))), ?_⟩
    · simp
      omega
    · simp [List.map_take, List.map_drop]
  · rintro e t ⟨ht, ns, hl, x, rfl⟩
    have hl : ns.length = m := by simpa using hl
    wtm_at "ev_st"
    exact q ns t hl (ht.mono (by simp))

open PySem PySem.Spec PyProof.Rows L2
open PySem.W (minD maxD)
/-! ### sticks that are drawn -/
theorem shaped_meet (s o : Stk) : SeqAt.shaped (.str (meetS s o)) = true := by
  unfold meetS
  split
  · decide +kernel
  · split <;> decide +kernel
theorem sh_tc : SeqAt.shaped (.str tc) = true := by decide +kernel
theorem sh_cr : SeqAt.shaped (.str cr) = true := by decide +kernel
def rv (s : Stk) : Stk := (s.2, s.1)
theorem side_rv (p q r : Pt) : side q p r = - side p q r := by
  unfold side
  grind
theorem side_sw (p q r : Pt) : side p q r = side q r p := by
  unfold side
  grind
theorem cross_rv (s o : Stk) : mCross (rv s) o = mCross s o := by
  unfold mCross rv
  simp only [side_rv s.1 s.2]
  rw [Int.neg_mul_neg, Int.mul_comm (side o.1 o.2 s.2)]
theorem row_rv (k : Int) (p : Pt) (l : Stk) : MRow.t ⟨-k, p, (l.2, l.1)⟩ = MRow.t ⟨k, p, l⟩ := by
  have h : ((-k : Int) == 0) = (k == 0) := by
    have e : (-k = 0) = (k = 0) := propext ⟨fun h => by omega, fun h => by omega⟩
    rw [Bool.eq_iff_iff, beq_iff_eq, beq_iff_eq, e]
  show ((-k == 0) && decide (min l.2.1 l.1.1 ≤ p.1) && decide (p.1 ≤ max l.2.1 l.1.1) && decide (min l.2.2 l.1.2 ≤ p.2) && decide (p.2 ≤ max l.2.2 l.1.2)) = _
  rw [h, Int.min_comm l.2.1 l.1.1, Int.max_comm l.2.1 l.1.1, Int.min_comm l.2.2 l.1.2, Int.max_comm l.2.2 l.1.2]
  rfl
theorem row_neg (k : Int) (p : Pt) (l : Stk) : MRow.t ⟨-k, p, l⟩ = MRow.t ⟨k, p, l⟩ := by
  have h : ((-k : Int) == 0) = (k == 0) := by
    have e : (-k = 0) = (k = 0) := propext ⟨fun h => by omega, fun h => by omega⟩
    rw [Bool.eq_iff_iff, beq_iff_eq, beq_iff_eq, e]
  unfold MRow.t
  rw [h]
theorem touch_rv (s o : Stk) : mT (rv s) o = mT s o := by
  have e : mRows (rv s) o = [⟨- side s.1 s.2 o.1, o.1, (s.2, s.1)⟩, ⟨- side s.1 s.2 o.2, o.2, (s.2, s.1)⟩, ⟨side o.1 o.2 s.2, s.2, o⟩, ⟨side o.1 o.2 s.1, s.1, o⟩] := by
    unfold mRows rv
    simp only [side_rv s.1 s.2]
  unfold mT
  rw [e]
  unfold mRows
  simp only [List.any_cons, List.any_nil, row_rv]
  cases MRow.t ⟨side s.1 s.2 o.1, o.1, s⟩ <;> cases MRow.t ⟨side s.1 s.2 o.2, o.2, s⟩ <;> cases MRow.t ⟨side o.1 o.2 s.1, s.1, o⟩ <;> cases MRow.t ⟨side o.1 o.2 s.2, s.2, o⟩ <;> rfl
theorem meet_rv (s o : Stk) : meetS (rv s) o = meetS s o := by
  unfold meetS
  rw [cross_rv, touch_rv]
section
variable {env : En} {τ : Tp}
theorem k_rev2 {a b : D} {Q : W → Prop} (q : Q (.d (.tuple [b, a]))) : wpO (gRev env τ (.d (.tuple [a, b]))) Q := wpO_of rfl q
theorem k_ixn {ds : List D} {k : Int} {x : D} {Q : W → Prop} (h0 : 0 ≤ k) (h : ds[k.toNat]? = some x) (q : Q (.d x)) : wpO (gIx env τ (.new ds) (.d (.int k))) Q := by
  rw [g_ix, sq_n]
  obtain ⟨m, rfl⟩ : ∃ m : Nat, k = m := ⟨k.toNat, by omega⟩
  have hl : m < ds.length := (List.getElem?_eq_some_iff.mp h).1
  show wpO ((atI ds (m : Int)).map W.d) Q
  rw [at_nat hl]
  have h : ds[m]? = some x := h
  rw [h]
  exact wpO_of rfl q
end
theorem k_pick2 {env : En} {τ : Tp} {a b : D} {k : Int} {Q : W → Prop} (h0 : 0 ≤ k) (h1 : k < 2) (qa : Q (.d a)) (qb : Q (.d b)) : wpO (gIx env τ (.new [a, b]) (.d (.int k))) Q := by
  rcases (show k = 0 ∨ k = 1 by omega) with h | h
  · subst h; exact k_ixn (by decide) rfl qa
  · subst h; exact k_ixn (by decide) rfl qb
local macro_rules | `(tactic| wtm_at "ev_stO") => `(tactic| with_reducible refine k_rev2 ?_)
/-- the sticks that touch a new one -/
theorem touching_w {env : En} {τ : Tp} {i j : Nat} {s : Stk} {fs : List Stk} (hs : InS s) (hf : ∀ x ∈ fs, InS x) (hg : ∀ x : Stk, ∃ e, SetAt (.d (stD x)) j env e ∧ GetAt i e (.d (stD s)) ∧ GetAt j e (.d (stD x))) :
    lcGo (.nm j) (f2 (gEqD false) (eCall S__law_meet (aCons (eVar i) (aCons (eVar j) aNil))) (eCon (.str (PySem.Str.ofString "touch")))) (eCon (.int 1)) env (fs.map stD) τ = some ((fs.filter fun x => meetS s x == tc).map fun _ => .int 1, τ) := by
  refine lc_map fun x hx => ?_
  obtain ⟨e, h1, h2, h3⟩ := hg x
  refine k_bnm h1 ?_
  refine k_f2 (k_call (k_acons (k_vd h2 (k_ckd (k_acons (k_vd h3 (k_ckd (k_anil ?_))))))))
  wtm_at "ev_st"
  refine wpC_of (lmeet_w hs (hf x hx) _) ?_
  wtm_at "ev_st"
  refine k_eqs (shaped_meet _ _) sh_tc ?_
  refine ⟨rfl, rfl, fun _ => ?_⟩
  wtm_at "ev_st"
  exact ⟨rfl, rfl⟩

open PySem PySem.Spec PyProof.Rows L2
open PySem.W (minD maxD)
theorem SticksOk.nil : SticksOk [] := ⟨fun _ h => (by cases h), fun _ h => (by cases h), List.Pairwise.nil⟩
theorem SticksOk.snoc {fs : List Stk} {s : Stk} (h : SticksOk fs) (hi : InS s) (hn : s.1 ≠ s.2) (ht : (fs.filter fun x => meetS s x == tc) = []) : SticksOk (fs ++ [s]) := by
  refine ⟨fun x hx => ?_, fun x hx => ?_, ?_⟩
  · rcases List.mem_append.mp hx with q | q
    · exact h.ins x q
    · rw [List.mem_singleton.mp q]; exact hi
  · rcases List.mem_append.mp hx with q | q
    · exact h.ne x q
    · rw [List.mem_singleton.mp q]; exact hn
  · rw [List.pairwise_append]
    refine ⟨h.tch, List.pairwise_singleton _ _, fun a ha b hb => ?_⟩
    rw [List.mem_singleton.mp hb]
    intro e
    have : a ∈ fs.filter fun x => meetS s x == tc := List.mem_filter.mpr ⟨ha, by rw [e]; exact beq_self_eq_true _⟩
    rw [ht] at this
    cases this
theorem SticksOk.snoc_rv {fs : List Stk} {s : Stk} (h : SticksOk fs) (hi : InS s) (hn : s.1 ≠ s.2) (ht : (fs.filter fun x => meetS s x == tc) = []) : SticksOk (fs ++ [rv s]) :=
  h.snoc ⟨hi.b, hi.a⟩ (Ne.symm hn) (by simpa only [meet_rv] using ht)
theorem fan_w {m : Nat} {b : Nat} {τ : Tp} (hT : TpOk (b + 5 * m + 2) τ) (hm : m ≤ 5) (h1 : 1 ≤ m) {Q : D → Tp → Prop} (q : ∀ (ss : List Stk) τ', SticksOk ss → ss ≠ [] → ss.length ≤ m → TpOk b τ' → Q (.tuple (ss.map stD)) τ') : wpC S__law_fan [.tp, .d (.int (m : Int))] τ Q := by
  unfold S__law_fan
  generalize hB : sSeq (sSet false 6 _) _ = B
  wtm_at "ev_st"
  refine dr hT (b := b + 5 * m + 1) (by omega) (by omega) (by omega) fun y1 τ1 a0 a1 T1 => ?_
  wtm_at "ev_st"
  refine dr T1 (b := b + 5 * m) (by omega) (by omega) (by omega) fun y2 τ2 b0 b1 T2 => ?_
  wtm_at "ev_st"
  refine k_forR (fun i e t => ∃ fs : List Stk, ∃ u v : Int, TpOk (b + 5 * (m - i)) t ∧ SticksOk fs ∧ fs.length ≤ i ∧ (1 ≤ i → fs ≠ []) ∧ 0 ≤ u ∧ u ≤ 2 + 2 * i ∧ 10 - 2 * (i : Int) ≤ v ∧ v ≤ 12 ∧ ∃ x y z, e = [.tp, .d (.int (m : Int)), .own (fs.map stD), .d (.int u), .d (.int v), x, y, z]) ?_ ?_
    ⟨[], y1, 12 - y2, by simpa using T2, .nil, by simp, fun h => by omega, a0, by omega, by omega, by omega, _, _, _, rfl⟩
  · rintro i e t hi ⟨fs, u, v, T3, ok, hl, hne, u0, u1, v0, v1, x, y, z, rfl⟩
    have hi : i < m := by simpa using hi
    rw [← hB]
    generalize hC : sSeq (sPar (ownL [2]) [3, 4] _) _ = C
    -- the row's end
    have fin : ∀ (fs' : List Stk) (t : Tp) (x y z : Sl), TpOk (b + 5 * (m - (i + 1)) + 2) t → SticksOk fs' → fs'.length ≤ i + 1 → fs' ≠ [] → ∀ R,
        wpS C [.tp, .d (.int (m : Int)), .own (fs'.map stD), .d (.int u), .d (.int v), x, y, z] t (whK (fun e t => ∃ fs : List Stk, ∃ u v : Int, TpOk (b + 5 * (m - (i + 1))) t ∧ SticksOk fs ∧ fs.length ≤ i + 1 ∧ (1 ≤ i + 1 → fs ≠ []) ∧ 0 ≤ u ∧ u ≤ 2 + 2 * (i + 1 : Nat) ∧ 10 - 2 * ((i + 1 : Nat) : Int) ≤ v ∧ v ≤ 12 ∧ ∃ x y z, e = [.tp, .d (.int (m : Int)), .own (fs.map stD), .d (.int u), .d (.int v), x, y, z]) R) := by
      intro fs' t x y z T4 ok' hl' hne' R
      rw [← hC]
      wtm_at "ev_st"
      refine dr T4 (b := b + 5 * (m - (i + 1)) + 1) (by omega) (by omega) (by omega) fun r1 t1 c0 c1 T5 => ?_
      wtm_at "ev_st"
      refine dr T5 (b := b + 5 * (m - (i + 1))) (by omega) (by omega) (by omega) fun r2 t2 d0 d1 T6 => ?_
      wtm_at "ev_st"
      exact ⟨fs', _, _, T6, ok', hl', fun _ => hne', by omega, by omega, by omega, by omega, _, _, _, rfl⟩
    wtm_at "ev_st"
    refine dr T3 (b := b + 5 * (m - (i + 1)) + 4) (by omega) (by omega) (by omega) fun r1 t1 c0 c1 T5 => ?_
    wtm_at "ev_st"
    refine dr T5 (b := b + 5 * (m - (i + 1)) + 3) (by omega) (by omega) (by omega) fun r2 t2 d0 d1 T6 => ?_
    wtm_at "ev_st"
    have hs : InS ((r1, u), (12 - r2, v)) := ⟨⟨by simpa using c0, by simp; omega, by simpa using u0, by simp; omega⟩, ⟨by simp; omega, by simp; omega, by simp; omega, by simp; omega⟩⟩
    have hn : (((r1, u), (12 - r2, v)) : Stk).1 ≠ (((r1, u), (12 - r2, v)) : Stk).2 := by
      simp
      intro h
      omega
    refine k_lcK rfl (by simp; omega) (lcw_of (touching_w (s := ((r1, u), (12 - r2, v))) hs ok.ins (fun x => ⟨_, by wtm_at "ev_ga", by wtm_at "ev_ga", by wtm_at "ev_ga"⟩)) ?_)
    wtm_at "ev_st"
    refine k_eqnil ?_
    wtm_at "ev_st"
    cases he : (fs.filter fun x => meetS ((r1, u), (12 - r2, v)) x == tc) with
    | nil =>
      refine k_t rfl ?_
      wtm_at "ev_st"
      refine dr T6 (b := b + 5 * (m - (i + 1)) + 2) (by omega) (by omega) (by omega) fun r3 t3 e0 e1 T7 => ?_
      wtm_at "ev_st"
      refine k_pick2 e0 e1 ?_ ?_
      · wtm_at "ev_st"
        refine k_appd (by simp; omega) (by wtm_at "ev_ga") ?_
        wtm_at "ev_st"
        have := fin (fs ++ [((r1, u), (12 - r2, v))]) t3 (.d (.int (0 + (i : Int)))) (.d (stD ((r1, u), (12 - r2, v)))) z T7 (ok.snoc hs hn he) (by simp; omega) (by simp)
        simp only [List.map_append, List.map_cons, List.map_nil] at this
        exact this _
      · wtm_at "ev_st"
        refine k_appd (by simp; omega) (by wtm_at "ev_ga") ?_
        wtm_at "ev_st"
        have := fin (fs ++ [rv ((r1, u), (12 - r2, v))]) t3 (.d (.int (0 + (i : Int)))) (.d (stD ((r1, u), (12 - r2, v)))) z T7 (ok.snoc_rv hs hn he) (by simp; omega) (by simp)
        simp only [List.map_append, List.map_cons, List.map_nil] at this
        exact this _
    | cons a r =>
      refine k_f rfl ?_
      wtm_at "ev_st"
      exact fin fs t2 _ _ _ (T6.mono (by omega)) ok (by omega) (fun h => by rw [h] at he; cases he) _
  · rintro e t ⟨fs, u, v, T3, ok, hl, hne, u0, u1, v0, v1, x, y, z, rfl⟩
    have hm' : (m : Int).toNat = m := by simp
    wtm_at "ev_st"
    exact q fs t ok (hne (by omega)) (by omega) (T3.mono (by omega))

open PySem PySem.Spec PyProof.Rows L2
open PySem.W (minD maxD)
theorem eqv_pt (p q : Pt) : PyData.eqv (ptD p) (ptD q) = (p.1 == q.1 && p.2 == q.2) := by
  simp [PyData.eqv, PyData.eqvAll]
theorem shaped_pt (p : Pt) : SeqAt.shaped (ptD p) = true := rfl
theorem eqv_ne {p q : Pt} (h : p ≠ q) : PyData.eqv (ptD p) (ptD q) = false := by
  rw [eqv_pt]
  obtain ⟨a, b⟩ := p
  obtain ⟨c, d⟩ := q
  by_cases h1 : a = c
  · subst h1
    have : b ≠ d := fun z => h (by rw [z])
    simp [this]
  · simp [h1]
theorem sticks_w {m : Nat} {lo hi : Int} {b : Nat} {τ : Tp} (hT : TpOk (b + 40 * m + 2) τ) (hm : m ≤ 5) (h1 : 1 ≤ m) (l0 : 0 ≤ lo) (l1 : lo < hi) (l2 : hi ≤ 12) {Q : D → Tp → Prop} (q : ∀ (ss : List Stk) τ', SticksOk ss → ss ≠ [] → ss.length ≤ m → TpOk b τ' → Q (.tuple (ss.map stD)) τ') : wpC S__law_sticks [.tp, .d (.int (m : Int)), .d (.int lo), .d (.int hi)] τ Q := by
  unfold S__law_sticks
  generalize hB : sSeq (sIf (f2 gLt (f1 gLen (eVar 4)) (eVar 5)) _ _) _ = B
  wtm_at "ev_st"
  refine dr hT (b := b + 40 * m + 1) (by omega) (by omega) (by omega) fun y1 τ1 a0 a1 T1 => ?_
  wtm_at "ev_st"
  refine dr T1 (b := b + 40 * m) (by omega) (by omega) (by omega) fun y2 τ2 b0 b1 T2 => ?_
  have hy : 0 ≤ y1 * y2 ∧ y1 * y2 ≤ m - 1 := by
    rcases (show y1 = 0 ∨ y1 = 1 by omega) with h | h <;> subst h <;> simp <;> omega
  generalize hq : y1 * y2 = p at hy
  wtm_at "ev_st"
  refine k_mul (mul_sm (by omega) (by omega)) ?_
  rw [hq]
  wtm_at "ev_st"
  refine k_mul (mul_sm (by decide) (by omega)) ?_
  wtm_at "ev_st"
  refine k_forR (fun i e t => ∃ fs : List Stk, TpOk (b + 10 * (4 * m - i)) t ∧ SticksOk fs ∧ fs.length ≤ m ∧ (1 ≤ i → fs ≠ []) ∧ ∃ x y z u v, e = [.tp, .d (.int (m : Int)), .d (.int lo), .d (.int hi), .own (fs.map stD), .d (.int (m - p)), .d (.int (hi - lo)), x, y, z, u, v]) ?_ ?_
    ⟨[], T2.mono (by omega), .nil, by simp, fun h => by omega, _, _, _, _, _, rfl⟩
  · rintro i e t hi' ⟨fs, T3, ok, hl, hne, x, y, z, u, v, rfl⟩
    have hi' : i < 4 * m := by
      have : ((4 : Int) * (m : Int)).toNat = 4 * m := by omega
      omega
    rw [← hB]
    generalize hC : sSeq (sSet false 10 _) _ = C
    -- the stick is known
    have fin : ∀ (s : Stk) (t : Tp) (x v w : Sl) (R : Out → Prop), InS s → s.1 ≠ s.2 → TpOk (b + 10 * (4 * m - (i + 1)) + 1) t → fs.length < m →
        wpS C [.tp, .d (.int (m : Int)), .d (.int lo), .d (.int hi), .own (fs.map stD), .d (.int (m - p)), .d (.int (hi - lo)), x, .d (ptD s.1), .d (ptD s.2), v, w] t (seqK sNext (whK (fun e t => ∃ fs : List Stk, TpOk (b + 10 * (4 * m - (i + 1))) t ∧ SticksOk fs ∧ fs.length ≤ m ∧ (1 ≤ i + 1 → fs ≠ []) ∧ ∃ x y z u v, e = [.tp, .d (.int (m : Int)), .d (.int lo), .d (.int hi), .own (fs.map stD), .d (.int (m - p)), .d (.int (hi - lo)), x, y, z, u, v]) R)) := by
      intro s t x v w R hs hn T4 hlt
      generalize hA : sSeq (sIf (eAnd (f2 (gEqD true) _ _) _) _ _) sNext = A at hC
      -- a stick or its turned one
      have app : ∀ (s' : Stk) (t : Tp), InS s' → s'.1 ≠ s'.2 → TpOk (b + 10 * (4 * m - (i + 1))) t → wpS A [.tp, .d (.int (m : Int)), .d (.int lo), .d (.int hi), .own (fs.map stD), .d (.int (m - p)), .d (.int (hi - lo)), x, .d (ptD s.1), .d (ptD s.2), .d (stD s'), w] t (seqK sNext (whK (fun e t => ∃ fs : List Stk, TpOk (b + 10 * (4 * m - (i + 1))) t ∧ SticksOk fs ∧ fs.length ≤ m ∧ (1 ≤ i + 1 → fs ≠ []) ∧ ∃ x y z u v, e = [.tp, .d (.int (m : Int)), .d (.int lo), .d (.int hi), .own (fs.map stD), .d (.int (m - p)), .d (.int (hi - lo)), x, y, z, u, v]) R)) := by
        intro s' t hs' hn' T5
        rw [← hA]
        wtm_at "ev_st"
        refine k_t (show (!PyData.eqv (ptD s.1) (ptD s.2)) = true by rw [eqv_ne hn]; rfl) ?_
        wtm_at "ev_st"
        refine k_lcK rfl (by simp; omega) (lcw_of (touching_w (s := s') hs' ok.ins (fun x => ⟨_, by wtm_at "ev_ga", by wtm_at "ev_ga", by wtm_at "ev_ga"⟩)) ?_)
        wtm_at "ev_st"
        refine k_eqnil ?_
        wtm_at "ev_st"
        cases he : (fs.filter fun x => meetS s' x == tc) with
        | nil =>
          refine k_t rfl ?_
          wtm_at "ev_st"
          refine k_appd (by simp; omega) (by wtm_at "ev_ga") ?_
          wtm_at "ev_st"
          refine ⟨fs ++ [s'], T5, ok.snoc hs' hn' he, by simp; omega, by simp, x, .d (ptD s.1), .d (ptD s.2), .d (stD s'), w, ?_⟩
          simp only [List.map_append, List.map_cons, List.map_nil]
        | cons a r =>
          refine k_f rfl ?_
          wtm_at "ev_st"
          exact ⟨fs, T5, ok, by omega, fun _ => (fun h => by rw [h] at he; cases he), _, _, _, _, _, rfl⟩
      rw [← hC]
      wtm_at "ev_st"
      refine dr T4 (b := b + 10 * (4 * m - (i + 1))) (by omega) (by omega) (by omega) fun r1 t1 c0 c1 T5 => ?_
      wtm_at "ev_st"
      refine k_pick2 c0 c1 ?_ ?_
      · wtm_at "ev_st"
        exact app s t1 hs hn T5
      · wtm_at "ev_st"
        exact app (rv s) t1 ⟨hs.b, hs.a⟩ (Ne.symm hn) T5
    have hw : 0 ≤ (hi - lo) / 3 ∧ 3 * ((hi - lo) / 3) ≤ hi - lo := by omega
    wtm_at "ev_st"
    refine k_d (fun c1 => ?_) (fun c1 => ?_)
    · wtm_at "ev_st"
      refine k_div (by decide) (by decide) ?_
      wtm_at "ev_st"
      refine dr T3 (b := b + 10 * (4 * m - (i + 1)) + 9) (by omega) (by omega) (by omega) fun r1 t1 c0 c1 T4 => ?_
      wtm_at "ev_st"
      refine dr T4 (b := b + 10 * (4 * m - (i + 1)) + 8) (by omega) (by omega) (by omega) fun r2 t2 d0 d1 T5 => ?_
      wtm_at "ev_st"
      refine k_div (by decide) (by decide) ?_
      wtm_at "ev_st"
      refine dr T5 (b := b + 10 * (4 * m - (i + 1)) + 7) (by omega) (by omega) (by omega) fun r3 t3 e0 e1 T6 => ?_
      wtm_at "ev_st"
      refine dr T6 (b := b + 10 * (4 * m - (i + 1)) + 6) (by omega) (by omega) (by omega) fun r4 t4 f0 f1 T7 => ?_
      wtm_at "ev_st"
      refine dr T7 (b := b + 10 * (4 * m - (i + 1)) + 5) (by omega) (by omega) (by omega) fun r5 t5 g0 g1 T8 => ?_
      wtm_at "ev_st"
      have hlt : fs.length < m := by
        have hml : (fs.map stD).length = fs.length := List.length_map ..
        omega
      refine k_eq (fun g2 => ?_) (fun g2 => ?_)
      · wtm_at "ev_st"
        refine dr T8 (b := b + 10 * (4 * m - (i + 1)) + 4) (by omega) (by omega) (by omega) fun r6 t6 x0 x1 T9 => ?_
        wtm_at "ev_st"
        refine dr T9 (b := b + 10 * (4 * m - (i + 1)) + 3) (by omega) (by omega) (by omega) fun r7 t7 x2 x3 Ta => ?_
        wtm_at "ev_st"
        refine dr Ta (b := b + 10 * (4 * m - (i + 1)) + 2) (by omega) (by omega) (by omega) fun r8 t8 x4 x5 Tb => ?_
        wtm_at "ev_st"
        refine dr Tb (b := b + 10 * (4 * m - (i + 1)) + 1) (by omega) (by omega) (by omega) fun r9 t9 x6 x7 Tc => ?_
        wtm_at "ev_st"
        exact fin ((lo + r6, r7), (lo + r8, 9 + r9)) t9 _ _ _ _ ⟨⟨by simp; omega, by simp; omega, by simp; omega, by simp; omega⟩, ⟨by simp; omega, by simp; omega, by simp; omega, by simp; omega⟩⟩ (by simp; intro _; omega) Tc hlt
      · wtm_at "ev_st"
        exact fin ((lo + r1, r2), (hi - r3, r4)) t5 _ _ _ _ ⟨⟨by simp; omega, by simp; omega, by simp; omega, by simp; omega⟩, ⟨by simp; omega, by simp; omega, by simp; omega, by simp; omega⟩⟩ (by simp; intro h; omega) (T8.mono (by omega)) hlt
    · wtm_at "ev_st"
      refine ⟨fs, T3.mono (by omega), ok, hl, fun _ => (fun h => ?_), _, _, _, _, _, rfl⟩
      subst h
      simp at c1
      omega
  · rintro e t ⟨fs, T3, ok, hl, hne, x, y, z, u, v, rfl⟩
    have hm' : ((4 : Int) * (m : Int)).toNat = 4 * m := by omega
    wtm_at "ev_st"
    exact q fs t ok (hne (by omega)) (by omega) (T3.mono (by omega))

open PySem PySem.Spec PyProof.Rows L2
open PySem.W (minD maxD)
/-! ### the pairs that cross -/
def dS : Stk := ((0, 0), (0, 0))
def rowOf (ss : List Stk) (two : Nat) : List Nat := (List.range two).filter fun one => meetS (ss.getD one dS) (ss.getD two dS) == cr
def raw (ss : List Stk) : Nat → List Pr
  | 0 => []
  | k + 1 => raw ss k ++ (rowOf ss k).map fun (one : Nat) => ((one : Int), (k : Int))
def pairsOf (ss : List Stk) : List Pr := srt (raw ss ss.length)
theorem k_cat {env : En} {τ : Tp} {a b : List D} {Q : W → Prop} (h : a.length + b.length ≤ 1000000) (q : Q (.new (a ++ b))) : wpO (gAdd env τ (.d (.list a)) (.new b)) Q := by
  have e : gAdd env τ (.d (.list a)) (.new b) = gCat env τ (.d (.list a)) (.new b) := rfl
  have e2 : gCat env τ (.d (.list a)) (.new b) = some (.new (a ++ b)) := by
    unfold gCat
    dsimp only [seqOf]
    have := line_big
    first | rfl | exact if_pos (by omega)
  rw [e, e2]
  exact wpO_of rfl q
theorem raw_len (ss : List Stk) : ∀ k, k ≤ 5 → (raw ss k).length ≤ 5 * k
  | 0, _ => by simp [raw]
  | k + 1, h => by
    have ih := raw_len ss k (by omega)
    have : (rowOf ss k).length ≤ k := by
      unfold rowOf
      refine Nat.le_trans (List.length_filter_le _ _) ?_
      simp
    unfold raw
    rw [List.length_append, List.length_map]
    omega
theorem at_stk {ss : List Stk} {i : Nat} (h : i < ss.length) : (ss.map stD)[i]? = some (stD (ss.getD i dS)) := by
  simp [h, List.getD]
theorem pairs_w {ss : List Stk} (hs : ∀ s ∈ ss, InS s) (hl : ss.length ≤ 5) (τ : Tp) : S__law_pairs_of [.d (.tuple (ss.map stD))] τ = some (.list ((pairsOf ss).map prD), τ) := by
  have hin : ∀ i, i < ss.length → InS (ss.getD i dS) := fun i h => by
    refine hs _ ?_
    rw [List.getD_eq_getElem?_getD, List.getElem?_eq_getElem h]
    exact List.getElem_mem h
  refine wpC_eq ?_
  unfold S__law_pairs_of
  generalize hB : sSeq (sSet false 1 (f2 gAdd _ _)) sNext = B
  wtm_at "ev_st"
  have hml : (ss.map stD).length = ss.length := List.length_map ..
  refine k_rng1 (by omega) (by omega) ?_
  have hn : (((ss.map stD).length : Nat) : Int).toNat = ss.length := by omega
  rw [hn]
  refine k_for0 ?_
  refine k_forR (fun i e t => t = τ ∧ ∃ x y, e = [.d (.tuple (ss.map stD)), .d (.list ((raw ss i).map prD)), x, y]) ?_ ?_ ⟨rfl, _, _, rfl⟩
  · rintro i e t hi ⟨rfl, x, y, rfl⟩
    rw [← hB]
    wtm_at "ev_st"
    have hi2 : (0 + (i : Int)).toNat = i := by omega
    rw [hi2]
    have hgo : lcGo (.nm 3) (f2 (gEqD false) (eCall S__law_meet (aCons (f2 gIx (eVar 0) (eVar 3)) (aCons (f2 gIx (eVar 0) (eVar 2)) aNil))) (eCon (.str (PySem.Str.ofString "cross")))) (eTup (aCons (eVar 3) (aCons (eVar 2) aNil)))
        [.d (.tuple (ss.map stD)), .d (.list ((raw ss i).map prD)), .d (.int (0 + (i : Int))), .no] (rangeD 0 i) t = some ((rowOf ss i).map (fun one : Nat => prD ((one : Int), (i : Int))), t) := by
      refine lc_map (xs := List.range i) (f := fun k => .int (0 + (k : Nat))) fun one ho => ?_
      have ho : one < i := by simpa using ho
      wtm_at "ev_st"
      refine k_ixt (x := stD (ss.getD one dS)) (by omega) (by rw [show (0 + (one : Int)).toNat = one by omega]; exact at_stk (by omega)) ?_
      wtm_at "ev_st"
      refine k_ixt (x := stD (ss.getD i dS)) (by omega) (by rw [hi2]; exact at_stk hi) ?_
      wtm_at "ev_st"
      refine wpC_of (lmeet_w (hin one (by omega)) (hin i hi) _) ?_
      wtm_at "ev_st"
      refine k_eqs (shaped_meet _ _) sh_cr ?_
      refine ⟨rfl, rfl, fun _ => ?_⟩
      wtm_at "ev_st"
      rw [Int.zero_add, Int.zero_add]
      exact ⟨rfl, rfl⟩
    refine k_lcK rfl (by rw [rangeD_len]; omega) (lcw_of hgo ?_)
    wtm_at "ev_st"
    have rl := raw_len ss i (by omega)
    have rl2 : (rowOf ss i).length ≤ i := by
      unfold rowOf
      refine Nat.le_trans (List.length_filter_le _ _) ?_
      simp
    refine k_cat (by simp; omega) ?_
    wtm_at "ev_st"
    refine ⟨rfl, .d (.int (0 + (i : Int))), y, ?_⟩
    show _ = [Sl.d (.tuple (ss.map stD)), .d (.list ((raw ss i ++ (rowOf ss i).map fun (one : Nat) => ((one : Int), (i : Int))).map prD)), .d (.int (0 + (i : Int))), y]
    rw [List.map_append, List.map_map]
    rfl
  · rintro e t ⟨rfl, x, y, rfl⟩
    wtm_at "ev_st"
    refine k_sort (l := raw ss ss.length) rfl ?_
    wtm_at "ev_st"
    exact ⟨rfl, rfl⟩

open PySem PySem.Spec PyProof.Rows L2
open PySem.W (minD maxD)
theorem raw_mem {ss : List Stk} {p : Pr} : ∀ {k : Nat}, p ∈ raw ss k → ∃ i j : Nat, p = ((i : Int), (j : Int)) ∧ i < j ∧ j < k ∧ meetS (ss.getD i dS) (ss.getD j dS) = cr
  | 0, h => by cases h
  | k + 1, h => by
    unfold raw at h
    rcases List.mem_append.mp h with q | q
    · obtain ⟨i, j, h1, h2, h3, h4⟩ := raw_mem q
      exact ⟨i, j, h1, h2, by omega, h4⟩
    · obtain ⟨one, h1, h2⟩ := List.mem_map.mp q
      unfold rowOf at h1
      obtain ⟨h3, h4⟩ := List.mem_filter.mp h1
      have h3 : one < k := by simpa using h3
      exact ⟨one, k, h2.symm, h3, by omega, eq_of_beq h4⟩
def nrm (p : Pr) : Pr := (min p.1 p.2, max p.1 p.2)
theorem over_w {ss : List Stk} {b : Nat} {τ : Tp} (hT : TpOk (b + 40) τ) (hs : ∀ s ∈ ss, InS s) (hl : ss.length ≤ 5) {Q : D → Tp → Prop} (q : ∀ (fs : List Pr) τ', fs.map nrm = pairsOf ss → TpOk b τ' → Q (.tuple ((srt fs).map prD)) τ') : wpC S__law_over [.tp, .d (.tuple (ss.map stD))] τ Q := by
  unfold S__law_over
  generalize hB : sSeq (sSet false 7 _) _ = B
  have hml : (ss.map stD).length = ss.length := List.length_map ..
  have pl : (pairsOf ss).length ≤ 25 := by
    have := raw_len ss ss.length hl
    unfold pairsOf
    rw [(srt_perm _).length_eq]
    omega
  wtm_at "ev_st"
  rw [hml]
  refine anyOrder_w (m := ss.length) (b := b + 35) (hT.mono (by omega)) (by omega) fun ns τ1 hn T1 => ?_
  wtm_at "ev_st"
  refine dr T1 (b := b + 34) (by omega) (by omega) (by omega) fun w τ2 w0 w1 T2 => ?_
  wtm_at "ev_st"
  refine wpC_of (pairs_w hs hl _) ?_
  wtm_at "ev_st"
  refine k_forI (fun i e t => TpOk (b + 25 - i) t ∧ ∃ fs : List Pr, fs.map nrm = (pairsOf ss).take i ∧ ∃ x y z u, e = [.tp, .d (.tuple (ss.map stD)), .d (.tuple (ns.map PyData.int)), .d (.int w), .own (fs.map prD), x, y, z, u]) ?_ ?_ ⟨T2.mono (by omega), [], by simp, _, _, _, _, rfl⟩
  · rintro i d e t hi ⟨T3, fs, hf, x, y, z, u, rfl⟩
    rw [List.getElem?_map] at hi
    cases hp : (pairsOf ss)[i]? with
    | none => rw [hp] at hi; cases hi
    | some p =>
      rw [hp] at hi
      cases hi
      have hil : i < (pairsOf ss).length := (List.getElem?_eq_some_iff.mp hp).1
      have hm : p ∈ raw ss ss.length := srt_mem.mp (List.mem_of_getElem? hp)
      obtain ⟨one, two, rfl, o1, o2, o3⟩ := raw_mem hm
      have hfl : fs.length = i := by
        have := congrArg List.length hf
        simp at this
        omega
      have ht : (pairsOf ss).take (i + 1) = (pairsOf ss).take i ++ [((one : Int), (two : Int))] := by
        rw [List.take_add_one, hp]
        rfl
      -- the end of a turn
      have fin : ∀ (k : Bool) (t : Tp) (R : Out → Prop), TpOk (b + 25 - (i + 1)) t → ∀ x', wpS (sSeq (sApp 4 (aCons (eIf (eVar 8) (eTup (aCons (eVar 6) (aCons (eVar 5) aNil))) (eTup (aCons (eVar 5) (aCons (eVar 6) aNil)))) aNil)) sNext)
          [.tp, .d (.tuple (ss.map stD)), .d (.tuple (ns.map PyData.int)), .d (.int w), .own (fs.map prD), .d (.int one), .d (.int two), x', .d (.bool k)] t (whK (fun e t => TpOk (b + 25 - (i + 1)) t ∧ ∃ fs : List Pr, fs.map nrm = (pairsOf ss).take (i + 1) ∧ ∃ x y z u, e = [.tp, .d (.tuple (ss.map stD)), .d (.tuple (ns.map PyData.int)), .d (.int w), .own (fs.map prD), x, y, z, u]) R) := by
        intro k t R T4 x'
        wtm_at "ev_st"
        cases k with
        | true =>
          refine k_t rfl ?_
          wtm_at "ev_st"
          refine k_appd (by simp; omega) (by wtm_at "ev_ga") ?_
          wtm_at "ev_st"
          refine ⟨T4, fs ++ [((two : Int), (one : Int))], ?_, .d (.int one), .d (.int two), x', .d (.bool true), ?_⟩
          · rw [List.map_append, hf, ht]
            congr 1
            simp [nrm]
            omega
          · simp only [List.map_append, List.map_cons, List.map_nil]
        | false =>
          refine k_f rfl ?_
          wtm_at "ev_st"
          refine k_appd (by simp; omega) (by wtm_at "ev_ga") ?_
          wtm_at "ev_st"
          refine ⟨T4, fs ++ [((one : Int), (two : Int))], ?_, .d (.int one), .d (.int two), x', .d (.bool false), ?_⟩
          · rw [List.map_append, hf, ht]
            congr 1
            simp [nrm]
            omega
          · simp only [List.map_append, List.map_cons, List.map_nil]
      rw [← hB]
      generalize hC : sSeq (sApp 4 _) sNext = C at fin ⊢
      generalize hD : sSeq (sSet false 8 (f2 gLt (f2 gIx (eVar 2) (eVar 5)) _)) sNext = E
      wtm_at "ev_st"
      refine dr T3 (b := b + 25 - (i + 1)) (by omega) (by omega) (by omega) fun ch t4 c0 c1 T4 => ?_
      wtm_at "ev_st"
      have rk : ∀ (R : Out → Prop) (y z : Sl), (∀ k, R (.nx [.tp, .d (.tuple (ss.map stD)), .d (.tuple (ns.map PyData.int)), .d (.int w), .own (fs.map prD), .d (.int one), .d (.int two), y, .d (.bool k)] t4)) →
          wpS E [.tp, .d (.tuple (ss.map stD)), .d (.tuple (ns.map PyData.int)), .d (.int w), .own (fs.map prD), .d (.int one), .d (.int two), y, z] t4 R := by
        intro R y z hR
        rw [← hD]
        wtm_at "ev_st"
        refine k_ixt (x := .int (ns.getD one 0)) (by omega) (by simp [List.getD]; rw [List.getElem?_eq_getElem (by omega)]; rfl) ?_
        wtm_at "ev_st"
        refine k_ixt (x := .int (ns.getD two 0)) (by omega) (by simp [List.getD]; rw [List.getElem?_eq_getElem (by omega)]; rfl) ?_
        wtm_at "ev_st"
        exact hR _
      refine k_eq (fun _ => ?_) (fun _ => ?_)
      · wtm_at "ev_st"
        exact rk _ _ _ fun k => k_nx (fin k t4 _ T4 _)
      · wtm_at "ev_st"
        refine k_eq (fun _ => ?_) (fun _ => ?_)
        · wtm_at "ev_st"
          refine k_d (fun _ => ?_) (fun _ => ?_)
          · wtm_at "ev_st"
            exact rk _ _ _ fun k => k_nx (fin k t4 _ T4 _)
          · wtm_at "ev_st"
            exact fin _ t4 _ T4 _
        · wtm_at "ev_st"
          exact fin _ t4 _ T4 _
  · rintro e t ⟨T3, fs, hf, x, y, z, u, rfl⟩
    rw [List.length_map, List.take_length] at hf
    wtm_at "ev_st"
    refine k_sort (l := fs) rfl ?_
    wtm_at "ev_st"
    exact q fs t hf (T3.mono (by simp; omega))

open PySem PySem.Spec PyProof.Rows L2
open PySem.W (minD maxD)
structure PileOk (m : Nat) (ss : List Stk) (os : List Pr) : Prop where
  sticks : SticksOk ss
  ne : ss ≠ []
  len : ss.length ≤ m
  overs : ∃ fs, os = srt fs ∧ fs.map nrm = pairsOf ss
abbrev pileD (ss : List Stk) (os : List Pr) : D := .tuple [.tuple (ss.map stD), .tuple (os.map prD)]
theorem pile_w {m : Nat} {b : Nat} {τ : Tp} (hT : TpOk (b + 300) τ) (hm : m ≤ 5) (h1 : 1 ≤ m) {Q : D → Tp → Prop} (q : ∀ ss os τ', PileOk m ss os → TpOk b τ' → Q (pileD ss os) τ') : wpC S__law_pile [.tp, .d (.int (m : Int))] τ Q := by
  unfold S__law_pile
  have fin : ∀ (ss : List Stk) (t : Tp), SticksOk ss → ss ≠ [] → ss.length ≤ m → TpOk (b + 40) t → wpS (sSeq (sRet (eTup (aCons (eVar 2) (aCons (eCall S__law_over (aCons (eVar 0) (aCons (eVar 2) aNil))) aNil)))) sNext) [.tp, .d (.int (m : Int)), .d (.tuple (ss.map stD))] t (runK Q) := by
    intro ss t ok hne hl T
    wtm_at "ev_st"
    refine over_w T ok.ins (by omega) fun fs τ' hf T' => ?_
    wtm_at "ev_st"
    exact q ss (srt fs) τ' ⟨ok, hne, hl, fs, rfl, hf⟩ T'
  generalize hB : sSeq (sRet _) sNext = B at fin ⊢
  wtm_at "ev_st"
  refine dr hT (b := b + 290) (by omega) (by omega) (by omega) fun r1 t1 c0 c1 T1 => ?_
  wtm_at "ev_st"
  refine k_eq (fun _ => ?_) (fun _ => ?_)
  · wtm_at "ev_st"
    refine sticks_w (b := b + 40) (T1.mono (by omega)) hm h1 (by decide) (by decide) (by decide) fun ss t ok hne hl T2 => ?_
    wtm_at "ev_st"
    exact fin ss t ok hne hl T2
  · wtm_at "ev_st"
    refine fan_w (b := b + 40) (T1.mono (by omega)) hm h1 fun ss t ok hne hl T2 => ?_
    wtm_at "ev_st"
    exact fin ss t ok hne hl T2

open PySem PySem.Spec PyProof.Rows L2
open PySem.W (minD maxD)
theorem cross_sym (s o : Stk) : mCross o s = mCross s o := by
  unfold mCross
  rw [Bool.and_comm]
theorem meet_cr {s o : Stk} (h : meetS s o = cr) : mCross s o = true := by
  unfold meetS at h
  split at h
  · assumption
  · split at h
    · exact absurd h (by decide +kernel)
    · exact absurd h (by decide +kernel)
/-- the overs tell crossings -/
def OvOk (ss : List Stk) (os : List Pr) : Prop := ∀ p ∈ os, ∃ i j : Nat, p = ((i : Int), (j : Int)) ∧ i < ss.length ∧ j < ss.length ∧ i ≠ j ∧ mCross (ss.getD i dS) (ss.getD j dS) = true
theorem PileOk.ov {m : Nat} {ss : List Stk} {os : List Pr} (h : PileOk m ss os) : OvOk ss os := by
  obtain ⟨fs, rfl, hf⟩ := h.overs
  intro p hp
  have hp := srt_mem.mp hp
  have h1 : nrm p ∈ pairsOf ss := by rw [← hf]; exact List.mem_map_of_mem hp
  obtain ⟨i, j, e, h2, h3, h4⟩ := raw_mem (srt_mem.mp h1)
  have hx := meet_cr h4
  obtain ⟨a, b⟩ := p
  unfold nrm at e
  simp only [Prod.mk.injEq] at e
  rcases Int.le_total a b with q | q
  · exact ⟨i, j, by ext <;> simp <;> omega, by omega, h3, by omega, hx⟩
  · exact ⟨j, i, by ext <;> simp <;> omega, h3, by omega, by omega, by rw [cross_sym]; exact hx⟩
theorem PileOk.ins {m : Nat} {ss : List Stk} {os : List Pr} (h : PileOk m ss os) {i : Nat} (hi : i < ss.length) : InS (ss.getD i dS) := by
  refine h.sticks.ins _ ?_
  rw [List.getD_eq_getElem?_getD, List.getElem?_eq_getElem hi]
  exact List.getElem_mem hi
abbrev atI' (ss : List Stk) (k : Int) : Stk := ss.getD k.toNat dS
abbrev rowC (ss : List Stk) (p : Pr) : D := .tuple [.int p.1, .int p.2, frD (place (atI' ss p.1) (atI' ss p.2)), frD (place (atI' ss p.2) (atI' ss p.1))]
theorem k_catt {env : En} {τ : Tp} {a b : List D} {Q : W → Prop} (h : a.length + b.length ≤ 1000000) (q : Q (.d (.tuple (a ++ b)))) : wpO (gAdd env τ (.d (.tuple a)) (.d (.tuple b))) Q := by
  have e : gAdd env τ (.d (.tuple a)) (.d (.tuple b)) = gCat env τ (.d (.tuple a)) (.d (.tuple b)) := rfl
  have e2 : gCat env τ (.d (.tuple a)) (.d (.tuple b)) = some (.d (.tuple (a ++ b))) := by
    unfold gCat
    dsimp only [seqOf]
    have := line_big
    exact if_pos (by omega)
  rw [e, e2]
  exact wpO_of rfl q
theorem crossings_w {ss : List Stk} {os : List Pr} (hin : ∀ i, i < ss.length → InS (ss.getD i dS)) (hov : OvOk ss os) (hl : os.length ≤ 1000) (τ : Tp) : S_crossings [.d (pileD ss os)] τ = some (.list (os.map (rowC ss)), τ) := by
  refine wpC_eq ?_
  unfold S_crossings
  have go : lcGo (.tu (.cn (.nm 3) (.cn (.nm 4) .nl))) tYesF (f2 gAdd (eTup (aCons (eVar 3) (aCons (eVar 4) aNil))) (eCall S_crossing (aCons (f2 gIx (eVar 1) (eVar 3)) (aCons (f2 gIx (eVar 1) (eVar 4)) aNil))))
      [.d (pileD ss os), .d (.tuple (ss.map stD)), .d (.tuple (os.map prD)), .no, .no] (os.map prD) τ = some ((os.filter fun _ => true).map (rowC ss), τ) := by
    refine lc_map fun p hp => ?_
    obtain ⟨i, j, rfl, hi, hj, hne, hx⟩ := hov p hp
    wtm_at "ev_st"
    refine ⟨rfl, rfl, fun _ => ?_⟩
    wtm_at "ev_st"
    refine k_ixt (x := stD (ss.getD i dS)) (by omega) (at_stk hi) ?_
    wtm_at "ev_st"
    refine k_ixt (x := stD (ss.getD j dS)) (by omega) (at_stk hj) ?_
    wtm_at "ev_st"
    refine wpC_of (crossing_cross (hin i hi) (hin j hj) hx _) ?_
    wtm_at "ev_st"
    exact ⟨rfl, rfl⟩
  have e : (os.filter fun _ => true) = os := by simp
  rw [e] at go
  wtm_at "ev_st"
  refine k_lcK rfl (by simp; omega) (lcw_of go ?_)
  wtm_at "ev_st"
  exact ⟨rfl, rfl⟩

open PySem PySem.Spec PyProof.Rows L2
open PySem.W (minD maxD)
theorem lcrossings_w {ss : List Stk} {os : List Pr} (hin : ∀ i, i < ss.length → InS (ss.getD i dS)) (hov : OvOk ss os) (hl : os.length ≤ 1000) (τ : Tp) : S__law_crossings [.d (pileD ss os)] τ = some (.list (os.map (rowC ss)), τ) := by
  refine wpC_eq ?_
  unfold S__law_crossings
  generalize hB : sSeq (sPar _ _ _) _ = B
  wtm_at "ev_st"
  refine k_forI (fun i e t => t = τ ∧ ∃ x y z u, e = [.d (pileD ss os), .d (.tuple (ss.map stD)), .d (.tuple (os.map prD)), .own ((os.take i).map (rowC ss)), x, y, z, u]) ?_ ?_ ⟨rfl, _, _, _, _, rfl⟩
  · rintro i d e t hi ⟨rfl, x, y, z, u, rfl⟩
    rw [List.getElem?_map] at hi
    cases hp : os[i]? with
    | none => rw [hp] at hi; cases hi
    | some p =>
      rw [hp] at hi
      cases hi
      have hil : i < os.length := (List.getElem?_eq_some_iff.mp hp).1
      obtain ⟨a, b, rfl, ha, hb, hne, hx⟩ := hov p (List.mem_of_getElem? hp)
      rw [← hB]
      wtm_at "ev_st"
      refine k_ixt (x := stD (ss.getD a dS)) (by omega) (at_stk ha) ?_
      wtm_at "ev_st"
      refine k_ixt (x := stD (ss.getD b dS)) (by omega) (at_stk hb) ?_
      wtm_at "ev_st"
      refine wpC_of (lplace_w (hin a ha) (hin b hb) hx _) ?_
      wtm_at "ev_st"
      refine wpC_of (lplace_w (hin b hb) (hin a ha) (by rw [cross_sym]; exact hx) _) ?_
      wtm_at "ev_st"
      refine k_appd (by simp; omega) (by wtm_at "ev_ga") ?_
      wtm_at "ev_st"
      refine ⟨rfl, .d (.int (a : Int)), .d (.int (b : Int)), .d (stD (ss.getD a dS)), .d (stD (ss.getD b dS)), ?_⟩
      rw [List.take_add_one, hp, List.map_append]
      rfl
  · rintro e t ⟨rfl, x, y, z, u, rfl⟩
    rw [List.length_map, List.take_length]
    wtm_at "ev_st"
    exact ⟨rfl, rfl⟩

open PySem PySem.Spec PyProof.Rows L2
open PySem.W (minD maxD)
theorem eqv_bool (a b : Bool) : PyData.eqv (.bool a) (.bool b) = (a == b) := by unfold PyData.eqv; rfl
section
variable {env : En} {τ : Tp}
theorem k_neb {a b : Bool} {Q : W → Prop} (q : Q (.d (.bool (!(a == b))))) : wpO (gEqD true env τ (.d (.bool a)) (.d (.bool b))) Q := by
  have h : gEqD true env τ (.d (.bool a)) (.d (.bool b)) = some (.d (.bool (!PyData.eqv (.bool a) (.bool b)))) := rfl
  rw [h, eqv_bool]
  exact wpO_of rfl q
theorem k_eqb {a b : Bool} {Q : W → Prop} (q : Q (.d (.bool (a == b)))) : wpO (gEqD false env τ (.d (.bool a)) (.d (.bool b))) Q := by
  have h : gEqD false env τ (.d (.bool a)) (.d (.bool b)) = some (.d (.bool (PyData.eqv (.bool a) (.bool b)))) := rfl
  rw [h, eqv_bool]
  exact wpO_of rfl q
theorem k_eq00 {Q : W → Prop} (q : Q (.d (.bool true))) : wpO (gEqD false env τ (.new []) (.new [])) Q := k_eqnil (l := ([] : List Nat)) q
end
local macro_rules | `(tactic| wtm_at "ev_stO") => `(tactic| with_reducible first | refine k_neb ?_ | refine k_eqb ?_ | refine k_eq00 ?_)
/-- data of ints, tuples and lists -/
inductive Itl : Nat → D → Prop
  | int {n : Nat} (i : Int) : Itl n (.int i)
  | tup {n : Nat} {ds : List D} : ds.length ≤ 1000 → (∀ d ∈ ds, Itl n d) → Itl (n + 1) (.tuple ds)
  | lst {n : Nat} {ds : List D} : ds.length ≤ 1000 → (∀ d ∈ ds, Itl n d) → Itl (n + 1) (.list ds)
theorem lc_none {tg : Tg} {tt te : EvF} {env : En} {τ : Tp} : ∀ {its : List D}, (∀ d ∈ its, wpO (bindT tg d env) fun e => wpE tt e τ fun w t => w = .d (.bool false) ∧ t = τ) → lcGo tg tt te env its τ = some ([], τ)
  | [], _ => rfl
  | d :: r, h => by
    have := lc_map (tg := tg) (tt := tt) (te := te) (env := env) (τ := τ) (f := fun d : D => d) (g := fun d => d) (p := fun _ => false) (xs := d :: r) fun x hx => wpO_mono (h x hx) fun e q => by
      rw [wpE_un] at q ⊢
      exact wpO_mono q fun a q => ⟨q.1, q.2, fun z => by cases z⟩
    have e : (d :: r).filter (fun _ => false) = [] := List.filter_eq_nil_iff.mpr fun _ _ => by simp
    rw [e, List.map_id'] at this
    exact this
theorem like_w : ∀ {n : Nat} {d : D}, Itl n d → ∀ τ, S__law_like (n + 1) [.d d, .d d] τ = some (.bool true, τ)
  | n, _, .int i, τ => by
    refine wpC_eq ?_
    unfold S__law_like
    wtm_at "ev_sto"
    exact ⟨by simp, rfl⟩
  | _, _, .tup (n := n) (ds := ds) hl h, τ => by
    refine wpC_eq ?_
    unfold S__law_like
    wtm_at "ev_sto"
    refine k_lcK rfl (by rw [rangeD_len]; omega) (lcw_of (lc_none fun d hd => ?_) ?_)
    · obtain ⟨i, hi⟩ := List.mem_iff_getElem?.mp hd
      obtain ⟨h1, rfl⟩ := rangeD_at hi
      have h1 : i < ds.length := by omega
      have e : ds[((0 : Int) + (i : Int)).toNat]? = some ds[i] := by rw [show ((0 : Int) + (i : Int)).toNat = i by omega, List.getElem?_eq_getElem h1]
      wtm_at "ev_st"
      refine k_ixt (by omega) e ?_
      wtm_at "ev_st"
      refine k_ixt (by omega) e ?_
      wtm_at "ev_st"
      refine wpC_of (like_w (h _ (List.getElem_mem h1)) _) ?_
      wtm_at "ev_st"
      exact ⟨rfl, rfl⟩
    · wtm_at "ev_st"
      exact ⟨rfl, rfl⟩
  | _, _, .lst (n := n) (ds := ds) hl h, τ => by
    refine wpC_eq ?_
    unfold S__law_like
    wtm_at "ev_sto"
    refine k_lcK rfl (by rw [rangeD_len]; omega) (lcw_of (lc_none fun d hd => ?_) ?_)
    · obtain ⟨i, hi⟩ := List.mem_iff_getElem?.mp hd
      obtain ⟨h1, rfl⟩ := rangeD_at hi
      have h1 : i < ds.length := by omega
      have e : ds[((0 : Int) + (i : Int)).toNat]? = some ds[i] := by rw [show ((0 : Int) + (i : Int)).toNat = i by omega, List.getElem?_eq_getElem h1]
      wtm_at "ev_st"
      refine k_ixl (by omega) e ?_
      wtm_at "ev_st"
      refine k_ixl (by omega) e ?_
      wtm_at "ev_st"
      refine wpC_of (like_w (h _ (List.getElem_mem h1)) _) ?_
      wtm_at "ev_st"
      exact ⟨rfl, rfl⟩
    · wtm_at "ev_st"
      exact ⟨rfl, rfl⟩
termination_by n => n

open PySem PySem.Spec PyProof.Rows L2
open PySem.W (minD maxD)
theorem msz {i j : Int} (hi : i.natAbs < 2 ^ 4000) (hj : j.natAbs < 2 ^ 4000) : i.natAbs.log2 + j.natAbs.log2 < 1000000 := mul_ok (m := 4000) (n := 4000) hi hj (by decide) (by decide) (by decide)
theorem dsz {p q : Rat} (hp : Sz 4000 p) (hq : Sz 4000 q) : ((p.den : Int) * (q.den : Int)).natAbs < 2 ^ 9000 := by
  rw [Int.natAbs_mul]
  have h1 : ((p.den : Int)).natAbs < 2 ^ 4000 := hp.den
  have h2 : ((q.den : Int)).natAbs < 2 ^ 4000 := hq.den
  have h3 : ((p.den : Int)).natAbs * ((q.den : Int)).natAbs < 2 ^ 4000 * 2 ^ 4000 := Nat.mul_lt_mul'' h1 h2
  rw [← Nat.pow_add] at h3
  exact Nat.lt_of_lt_of_le h3 (Nat.pow_le_pow_right (by decide) (by decide))
theorem dpos (p q : Rat) : 0 < (p.den : Int) * (q.den : Int) := Int.mul_pos (den_pos p) (den_pos q)
theorem rsub (p q : Rat) : ((p.num * (q.den : Int) - q.num * (p.den : Int) : Int) : Rat) / (((p.den : Int) * (q.den : Int) : Int) : Rat) = p - q := by
  have h1 := den_ne p
  have h2 := den_ne q
  have e1 := rat_parts p
  have e2 := rat_parts q
  rw [Rat.intCast_sub, Rat.intCast_mul, Rat.intCast_mul, Rat.intCast_mul]
  generalize (p.num : Rat) = a at *
  generalize ((p.den : Int) : Rat) = b at *
  generalize (q.num : Rat) = c at *
  generalize ((q.den : Int) : Rat) = d at *
  rw [e1, e2]
  grind
theorem radd (p q : Rat) : ((p.num * (q.den : Int) + q.num * (p.den : Int) : Int) : Rat) / (((p.den : Int) * (q.den : Int) : Int) : Rat) = p + q := by
  have h1 := den_ne p
  have h2 := den_ne q
  have e1 := rat_parts p
  have e2 := rat_parts q
  rw [Rat.intCast_add, Rat.intCast_mul, Rat.intCast_mul, Rat.intCast_mul]
  generalize (p.num : Rat) = a at *
  generalize ((p.den : Int) : Rat) = b at *
  generalize (q.num : Rat) = c at *
  generalize ((q.den : Int) : Rat) = d at *
  rw [e1, e2]
  grind
theorem rmul (p q : Rat) : ((p.num * q.num : Int) : Rat) / (((p.den : Int) * (q.den : Int) : Int) : Rat) = p * q := by
  have h1 := den_ne p
  have h2 := den_ne q
  have e1 := rat_parts p
  have e2 := rat_parts q
  rw [Rat.intCast_mul, Rat.intCast_mul]
  generalize (p.num : Rat) = a at *
  generalize ((p.den : Int) : Rat) = b at *
  generalize (q.num : Rat) = c at *
  generalize ((q.den : Int) : Rat) = d at *
  rw [e1, e2]
  grind
theorem lless_w {p q : Rat} (hp : Sz 4000 p) (hq : Sz 4000 q) (τ : Tp) : S__law_less [.d (frD p), .d (frD q)] τ = some (frD (p - q), τ) := by
  refine wpC_eq ?_
  unfold S__law_less
  have m1 := msz (i := p.num) (j := (q.den : Int)) hp.num hq.den
  have m2 := msz (i := q.num) (j := (p.den : Int)) hq.num hp.den
  have m3 := msz (i := (p.den : Int)) (j := (q.den : Int)) hp.den hq.den
  wtm_at "ev_st"
  refine wpC_of (lfrac_w (dpos p q) (dsz hp hq) _) ?_
  wtm_at "ev_st"
  rw [rsub]
  exact ⟨rfl, rfl⟩
theorem lsum_w {p q : Rat} (hp : Sz 4000 p) (hq : Sz 4000 q) (τ : Tp) : S__law_sum [.d (frD p), .d (frD q)] τ = some (frD (p + q), τ) := by
  refine wpC_eq ?_
  unfold S__law_sum
  have m1 := msz (i := p.num) (j := (q.den : Int)) hp.num hq.den
  have m2 := msz (i := q.num) (j := (p.den : Int)) hq.num hp.den
  have m3 := msz (i := (p.den : Int)) (j := (q.den : Int)) hp.den hq.den
  wtm_at "ev_st"
  refine wpC_of (lfrac_w (dpos p q) (dsz hp hq) _) ?_
  wtm_at "ev_st"
  rw [radd]
  exact ⟨rfl, rfl⟩
theorem lpart_w {p q : Rat} (hp : Sz 4000 p) (hq : Sz 4000 q) (τ : Tp) : S__law_part [.d (frD p), .d (frD q)] τ = some (frD (p * q), τ) := by
  refine wpC_eq ?_
  unfold S__law_part
  have m1 := msz (i := p.num) (j := q.num) hp.num hq.num
  have m3 := msz (i := (p.den : Int)) (j := (q.den : Int)) hp.den hq.den
  wtm_at "ev_st"
  refine wpC_of (lfrac_w (dpos p q) (dsz hp hq) _) ?_
  wtm_at "ev_st"
  rw [rmul]
  exact ⟨rfl, rfl⟩

open PySem PySem.Spec PyProof.Rows L2
open PySem.W (minD maxD)
theorem frD_int (i : Int) : frD (i : Rat) = .tuple [.int i, .int 1] := by
  unfold frD
  rw [Rat.num_intCast, Rat.den_intCast]
  rfl
/-- a fraction's parts are no greater than what it is made of -/
theorem parts_le {a b : Int} (hb : 0 < b) : ((a : Rat) / b).num.natAbs ≤ a.natAbs ∧ ((a : Rat) / b).den ≤ b.natAbs := by
  obtain ⟨e1, e2⟩ := frac_rat (a := a) hb
  constructor
  · rw [← e1, Int.natAbs_ediv_of_dvd]
    · exact Nat.div_le_self _ _
    · rw [← Int.natAbs_dvd_natAbs]
      simp
      exact Nat.gcd_dvd_left _ _
  · have : (((a : Rat) / b).den : Int) ≤ b := by
      rw [← e2]
      exact Int.ediv_le_self _ (by omega)
    omega
theorem sz_small {q : Rat} (h1 : q.num.natAbs ≤ 1000000000) (h2 : q.den ≤ 1000000000) : Sz 30 q := by
  have e : (2 : Nat) ^ 30 = 1073741824 := by rfl
  exact ⟨by rw [e]; omega, by rw [e]; omega⟩
theorem Sz.mono {m n : Nat} {q : Rat} (h : Sz m q) (hn : m ≤ n) : Sz n q := ⟨Nat.lt_of_lt_of_le h.num (Nat.pow_le_pow_right (by decide) hn), Nat.lt_of_lt_of_le h.den (Nat.pow_le_pow_right (by decide) hn)⟩
theorem place_sz {s o : Stk} (hs : InS s) (ho : InS o) (h : mCross s o = true) : Sz 30 (place s o) := by
  have b1 := side_b ho.a ho.b hs.a
  have b3 := side_b ho.a ho.b hs.b
  obtain ⟨h1, h2⟩ := cross_parts h
  have hc : side o.1 o.2 s.1 ≠ 0 := fun z => by rw [z] at h2; simp at h2
  unfold place
  obtain ⟨p1, p2⟩ := parts_le (a := ((side o.1 o.2 s.1).natAbs : Int)) (b := ((side o.1 o.2 s.1).natAbs : Int) + ((side o.1 o.2 s.2).natAbs : Int)) (by omega)
  exact sz_small (by omega) (by omega)
theorem int_sz {i : Int} (h : i.natAbs ≤ 1000000000) : Sz 30 (i : Rat) := sz_small (by rw [Rat.num_intCast]; exact h) (by rw [Rat.den_intCast]; omega)

open PySem PySem.Spec PyProof.Rows L2
open PySem.W (minD maxD)
/-- place on a segment -/
theorem lheight_w {p q r : Rat} (hp : Sz 4000 p) (hq : Sz 4000 q) (hr : Sz 4000 r) (h1 : Sz 4000 (q - p)) (h2 : Sz 4000 (r * (q - p))) (τ : Tp) : S__law_height [.d (.tuple [frD p, frD q]), .d (frD r)] τ = some (frD (p + r * (q - p)), τ) := by
  refine wpC_eq ?_
  unfold S__law_height
  wtm_at "ev_st"
  refine wpC_of (lless_w hq hp _) ?_
  wtm_at "ev_st"
  refine wpC_of (lpart_w hr h1 _) ?_
  wtm_at "ev_st"
  refine wpC_of (lsum_w hp h2 _) ?_
  wtm_at "ev_st"
  exact ⟨rfl, rfl⟩
theorem place_eq {c d : Int} (h : c * d < 0) : (((c.natAbs : Int) : Rat) / (((c.natAbs : Int) + (d.natAbs : Int) : Int) : Rat)) = (c : Rat) / ((c - d : Int) : Rat) := by
  rcases neg_mul_cases h with ⟨h1, h2⟩ | ⟨h1, h2⟩
  · have e1 : (c.natAbs : Int) = c := by omega
    have e2 : (c.natAbs : Int) + (d.natAbs : Int) = c - d := by omega
    rw [e2, e1]
  · have e1 : (c.natAbs : Int) = -c := by omega
    have e2 : (c.natAbs : Int) + (d.natAbs : Int) = -(c - d) := by omega
    have hb : ((c - d : Int) : Rat) ≠ 0 := by
      intro z
      rw [Rat.intCast_eq_zero_iff] at z
      omega
    rw [e2, e1, Rat.intCast_neg, Rat.intCast_neg]
    generalize ((c - d : Int) : Rat) = x at *
    grind
theorem meet_alg (b c a x y u v : Rat) (hb : b ≠ 0) (h : b * x + c * (y - x) = b * u - a * (v - u)) : x + c / b * (y - x) = u + a / (-b) * (v - u) := by
  grind
/-- where two sticks meet: the same point along both -/
theorem meet_point {s o : Stk} (h : mCross s o = true) : ((s.1.1 : Rat) + place s o * ((s.2.1 : Rat) - s.1.1) = (o.1.1 : Rat) + place o s * ((o.2.1 : Rat) - o.1.1)) ∧ ((s.1.2 : Rat) + place s o * ((s.2.2 : Rat) - s.1.2) = (o.1.2 : Rat) + place o s * ((o.2.2 : Rat) - o.1.2)) := by
  obtain ⟨h1, h2⟩ := cross_parts h
  have e1 : side o.1 o.2 s.1 - side o.1 o.2 s.2 = btm s o := (btm_eq2 s o).symm
  have e2 : side s.1 s.2 o.1 - side s.1 s.2 o.2 = -btm s o := by unfold btm; omega
  have hb : ((btm s o : Int) : Rat) ≠ 0 := by
    intro z
    rw [Rat.intCast_eq_zero_iff] at z
    rw [← e1] at z
    rcases neg_mul_cases h2 with ⟨x1, x2⟩ | ⟨x1, x2⟩ <;> omega
  unfold place
  rw [place_eq h2, place_eq h1, e1, e2, Rat.intCast_neg]
  have k1 : (btm s o) * s.1.1 + side o.1 o.2 s.1 * (s.2.1 - s.1.1) = btm s o * o.1.1 - side s.1 s.2 o.1 * (o.2.1 - o.1.1) := by
    unfold btm side
    grind
  have k2 : (btm s o) * s.1.2 + side o.1 o.2 s.1 * (s.2.2 - s.1.2) = btm s o * o.1.2 - side s.1 s.2 o.1 * (o.2.2 - o.1.2) := by
    unfold btm side
    grind
  constructor
  · refine meet_alg _ _ _ _ _ _ _ hb ?_
    rw [← Rat.intCast_sub, ← Rat.intCast_sub, ← Rat.intCast_mul, ← Rat.intCast_mul, ← Rat.intCast_mul, ← Rat.intCast_mul, ← Rat.intCast_add, ← Rat.intCast_sub, k1]
  · refine meet_alg _ _ _ _ _ _ _ hb ?_
    rw [← Rat.intCast_sub, ← Rat.intCast_sub, ← Rat.intCast_mul, ← Rat.intCast_mul, ← Rat.intCast_mul, ← Rat.intCast_mul, ← Rat.intCast_add, ← Rat.intCast_sub, k2]

open PySem PySem.Spec PyProof.Rows L2
open PySem.W (minD maxD)
theorem cross_rv2 (s o : Stk) : mCross (rv s) (rv o) = mCross s o := by
  rw [cross_rv, cross_sym, cross_rv, cross_sym]
theorem place_rv {s o : Stk} (h : mCross s o = true) : place (rv s) (rv o) = 1 - place s o := by
  obtain ⟨h1, h2⟩ := cross_parts h
  have hc : side o.1 o.2 s.1 ≠ 0 := fun z => by rw [z] at h2; simp at h2
  have e1 : side (rv o).1 (rv o).2 (rv s).1 = - side o.1 o.2 s.2 := side_rv _ _ _
  have e2 : side (rv o).1 (rv o).2 (rv s).2 = - side o.1 o.2 s.1 := side_rv _ _ _
  unfold place
  rw [e1, e2, Int.natAbs_neg, Int.natAbs_neg]
  have hp : (((side o.1 o.2 s.1).natAbs : Int) + ((side o.1 o.2 s.2).natAbs : Int) : Int) ≠ 0 := by omega
  rw [Int.add_comm ((side o.1 o.2 s.2).natAbs : Int)]
  have hq : ((((side o.1 o.2 s.1).natAbs : Int) + ((side o.1 o.2 s.2).natAbs : Int) : Int) : Rat) ≠ 0 := by
    intro z
    rw [Rat.intCast_eq_zero_iff] at z
    exact hp z
  rw [Rat.intCast_add] at hq ⊢
  grind

open PySem PySem.Spec PyProof.Rows L2
open PySem.W (minD maxD)
theorem itl_all {n : Nat} : ∀ {ds : List D}, (∀ d ∈ ds, d.canLay0 = true ∧ d.depth ≤ n) → PyData.canLayAll0 ds = true ∧ PyData.depthAll ds ≤ n
  | [], _ => by simp [PyData.canLayAll0, PyData.depthAll]
  | d :: r, h => by
    obtain ⟨a, b⟩ := h d (by simp)
    obtain ⟨c, e⟩ := itl_all (ds := r) fun x hx => h x (by simp [hx])
    simp only [PyData.canLayAll0, PyData.depthAll, a, c]
    exact ⟨rfl, Nat.max_le.mpr ⟨b, e⟩⟩
theorem itl_lay : ∀ {n : Nat} {d : D}, Itl n d → d.canLay0 = true ∧ d.depth ≤ n
  | n, _, .int i => by simp [PyData.canLay0, PyData.depth]
  | _, _, .tup (n := n) _ h => by
    have := itl_all fun d hd => itl_lay (h d hd)
    simp only [PyData.canLay0, PyData.depth]; exact ⟨this.1, by omega⟩
  | _, _, .lst (n := n) _ h => by
    have := itl_all fun d hd => itl_lay (h d hd)
    simp only [PyData.canLay0, PyData.depth]; exact ⟨this.1, by omega⟩
theorem itl_shaped {n : Nat} {d : D} (h : Itl n d) (hn : n ≤ 60) : SeqAt.shaped d = true := by
  obtain ⟨a, b⟩ := itl_lay h
  unfold SeqAt.shaped
  rw [a, decide_eq_true (by omega)]
  rfl
theorem itl_eqv {n : Nat} {d : D} (h : Itl n d) : PyData.eqv d d = true := SeqAt.eqv_refl d (itl_lay h).1
section
variable {env : En} {τ : Tp} {Q : W → Prop} {n : Nat}
theorem k_eqd {a b : D} (e : a = b) (h : Itl n a) (hn : n ≤ 60) (q : Q (.d (.bool true))) : wpO (gEqD false env τ (.d a) (.d b)) Q := by
  subst e
  have e : gEqD false env τ (.d a) (.d a) = (if SeqAt.shaped a = true ∧ SeqAt.shaped a = true then some (.d (.bool (PyData.eqv a a))) else none) := rfl
  rw [e, if_pos ⟨itl_shaped h hn, itl_shaped h hn⟩, itl_eqv h]
  exact wpO_of rfl q
theorem k_ned {a b : D} (e : a = b) (h : Itl n a) (hn : n ≤ 60) (q : Q (.d (.bool false))) : wpO (gEqD true env τ (.d a) (.d b)) Q := by
  subst e
  have e : gEqD true env τ (.d a) (.d a) = (if SeqAt.shaped a = true ∧ SeqAt.shaped a = true then some (.d (.bool (!PyData.eqv a a))) else none) := rfl
  rw [e, if_pos ⟨itl_shaped h hn, itl_shaped h hn⟩, itl_eqv h]
  exact wpO_of rfl q
end
section
variable {env : En} {τ : Tp} {Q : W → Prop}
theorem k_ix2 {x y z : D} {r : List D} (q : Q (.d z)) : wpO (gIx env τ (.d (.tuple (x :: y :: z :: r))) (.d (.int 2))) Q := k_ixt (k := 2) (by decide) rfl q
theorem k_ix3 {x y z u : D} {r : List D} (q : Q (.d u)) : wpO (gIx env τ (.d (.tuple (x :: y :: z :: u :: r))) (.d (.int 3))) Q := k_ixt (k := 3) (by decide) rfl q
theorem k_il0 {x : D} {r : List D} (q : Q (.d x)) : wpO (gIx env τ (.d (.list (x :: r))) (.d (.int 0))) Q := k_ixl (k := 0) (by decide) rfl q
theorem k_il1 {x y : D} {r : List D} (q : Q (.d y)) : wpO (gIx env τ (.d (.list (x :: y :: r))) (.d (.int 1))) Q := k_ixl (k := 1) (by decide) rfl q
end
local macro_rules | `(tactic| wtm_at "ev_stO") => `(tactic| with_reducible first | refine k_ix2 ?_ | refine k_ix3 ?_ | refine k_il0 ?_ | refine k_il1 ?_)
theorem PileOk.oslen {m : Nat} {ss : List Stk} {os : List Pr} (h : PileOk m ss os) (hm : m ≤ 5) : os.length ≤ 25 := by
  obtain ⟨fs, rfl, hf⟩ := h.overs
  have h1 := raw_len ss ss.length (by have := h.len; omega)
  have h2 := congrArg List.length hf
  unfold pairsOf at h2
  rw [List.length_map, (srt_perm _).length_eq] at h2
  rw [(srt_perm _).length_eq]
  have := h.len
  omega
theorem frD_one : frD 1 = .tuple [.int 1, .int 1] := frD_int 1
theorem sz_one : Sz 4000 (1 : Rat) := (int_sz (i := 1) (by decide)).mono (by decide)
theorem lless1_w {q : Rat} (hq : Sz 4000 q) (τ : Tp) : S__law_less [.d (.tuple [.int 1, .int 1]), .d (frD q)] τ = some (frD (1 - q), τ) := by
  rw [← frD_one]
  exact lless_w sz_one hq τ
theorem sz_mulint {r : Rat} {k : Int} (hr : Sz 30 r) (hk : k.natAbs ≤ 1000) : Sz 4000 (r * (k : Rat)) := by
  have e : r * (k : Rat) = ((r.num * k : Int) : Rat) / ((r.den : Int) : Rat) := by
    rw [Rat.intCast_mul]
    have := rat_parts r
    have h := den_ne r
    grind
  obtain ⟨h1, h2⟩ := parts_le (a := r.num * k) (b := (r.den : Int)) (den_pos r)
  rw [e]
  refine ⟨Nat.lt_of_le_of_lt h1 ?_, Nat.lt_of_le_of_lt h2 (Nat.lt_of_lt_of_le hr.den (Nat.pow_le_pow_right (by decide) (by decide)))⟩
  rw [Int.natAbs_mul]
  have := Nat.mul_lt_mul'' hr.num (show k.natAbs < 2 ^ 30 by have : (2:Nat) ^ 30 = 1073741824 := rfl; omega)
  rw [← Nat.pow_add] at this
  exact Nat.lt_of_lt_of_le this (Nat.pow_le_pow_right (by decide) (by decide))
theorem lheighti_w {p q : Int} {r : Rat} (hp : p.natAbs ≤ 400) (hq : q.natAbs ≤ 400) (hr : Sz 30 r) (τ : Tp) : S__law_height [.d (.tuple [.tuple [.int p, .int 1], .tuple [.int q, .int 1]]), .d (frD r)] τ = some (frD ((p : Rat) + r * ((q : Rat) - p)), τ) := by
  rw [← frD_int, ← frD_int]
  have e : (q : Rat) - p = ((q - p : Int) : Rat) := by rw [Rat.intCast_sub]
  refine lheight_w ((int_sz (by omega)).mono (by decide)) ((int_sz (by omega)).mono (by decide)) (hr.mono (by decide)) ?_ ?_ τ
  · rw [e]; exact (int_sz (by omega)).mono (by decide)
  · rw [e]; exact sz_mulint hr (by omega)
theorem rv_getD (ss : List Stk) (i : Nat) (h : i < ss.length) : (ss.map rv).getD i dS = rv (ss.getD i dS) := by
  rw [List.getD_eq_getElem?_getD, List.getD_eq_getElem?_getD, List.getElem?_map, List.getElem?_eq_getElem h]
  rfl
theorem rv_ins {ss : List Stk} (h : ∀ i, i < ss.length → InS (ss.getD i dS)) : ∀ i, i < (ss.map rv).length → InS ((ss.map rv).getD i dS) := by
  intro i hi
  rw [List.length_map] at hi
  rw [rv_getD ss i hi]
  exact ⟨(h i hi).b, (h i hi).a⟩
theorem rv_ov {ss : List Stk} {os : List Pr} (h : OvOk ss os) : OvOk (ss.map rv) os := by
  intro p hp
  obtain ⟨i, j, e, hi, hj, hne, hx⟩ := h p hp
  refine ⟨i, j, e, by simpa using hi, by simpa using hj, hne, ?_⟩
  rw [rv_getD ss i hi, rv_getD ss j hj, cross_rv2]
  exact hx
theorem rv_rows {ss : List Stk} {os : List Pr} (h : OvOk ss os) : os.map (rowC (ss.map rv)) = os.map fun p => .tuple [.int p.1, .int p.2, frD (1 - place (atI' ss p.1) (atI' ss p.2)), frD (1 - place (atI' ss p.2) (atI' ss p.1))] := by
  refine List.map_congr_left fun p hp => ?_
  obtain ⟨i, j, rfl, hi, hj, hne, hx⟩ := h p hp
  show PyData.tuple [.int i, .int j, frD (place ((ss.map rv).getD ((i : Int)).toNat dS) ((ss.map rv).getD ((j : Int)).toNat dS)), frD (place ((ss.map rv).getD ((j : Int)).toNat dS) ((ss.map rv).getD ((i : Int)).toNat dS))] = _
  simp only [Int.toNat_natCast]
  rw [rv_getD ss i hi, rv_getD ss j hj, place_rv hx, place_rv (by rw [cross_sym]; exact hx)]
  rfl

open PySem PySem.Spec PyProof.Rows L2
open PySem.W (minD maxD)
noncomputable def S_plus : Sem1 := runB (sSeq (sRet (eCall S_fraction (aCons (f2 gAdd (f2 gMul (f2 gIx (eVar 0) (eCon (.int (0)))) (f2 gIx (eVar 1) (eCon (.int (1))))) (f2 gMul (f2 gIx (eVar 1) (eCon (.int (0)))) (f2 gIx (eVar 0) (eCon (.int (1)))))) (aCons (f2 gMul (f2 gIx (eVar 0) (eCon (.int (1)))) (f2 gIx (eVar 1) (eCon (.int (1))))) aNil))))
    sNext) ["one", "other"]
noncomputable def S_minus : Sem1 := runB (sSeq (sRet (eCall S_fraction (aCons (f2 gSub (f2 gMul (f2 gIx (eVar 0) (eCon (.int (0)))) (f2 gIx (eVar 1) (eCon (.int (1))))) (f2 gMul (f2 gIx (eVar 1) (eCon (.int (0)))) (f2 gIx (eVar 0) (eCon (.int (1)))))) (aCons (f2 gMul (f2 gIx (eVar 0) (eCon (.int (1)))) (f2 gIx (eVar 1) (eCon (.int (1))))) aNil))))
    sNext) ["one", "other"]
noncomputable def S_times : Sem1 := runB (sSeq (sRet (eCall S_fraction (aCons (f2 gMul (f2 gIx (eVar 0) (eCon (.int (0)))) (f2 gIx (eVar 1) (eCon (.int (0))))) (aCons (f2 gMul (f2 gIx (eVar 0) (eCon (.int (1)))) (f2 gIx (eVar 1) (eCon (.int (1))))) aNil))))
    sNext) ["one", "other"]
noncomputable def S_over : Sem1 := runB (sSeq (sRet (eCall S_fraction (aCons (f2 gMul (f2 gIx (eVar 0) (eCon (.int (0)))) (f2 gIx (eVar 1) (eCon (.int (1))))) (aCons (f2 gMul (f2 gIx (eVar 0) (eCon (.int (1)))) (f2 gIx (eVar 1) (eCon (.int (0))))) aNil))))
    sNext) ["one", "other"]
noncomputable def S_is_less : Sem1 := runB (sSeq (sRet (f2 gLt (f2 gMul (f2 gIx (eVar 0) (eCon (.int (0)))) (f2 gIx (eVar 1) (eCon (.int (1))))) (f2 gMul (f2 gIx (eVar 1) (eCon (.int (0)))) (f2 gIx (eVar 0) (eCon (.int (1)))))))
    sNext) ["one", "other"]
noncomputable def S_total : Sem1 := runB (sSeq (sSet false 1 (eCon (.tuple [.int (0), .int (1)])))
    (sSeq (sFor (iSeq (eVar 0)) (.nm 2) (sSeq (sSet false 1 (eCall S_plus (aCons (eVar 1) (aCons (eVar 2) aNil))))
    sNext))
    (sSeq (sRet (eVar 1))
    sNext))) ["some", "found", "part"]
noncomputable def M_coming : SemM := runM (sSeq (sSet false 1 (eLc (iEnum (aCons (eSl (eFld 0 "gain") oNone (oSome (f1 gNeg (eCon (.int (1)))))) aNil)) (.tu (.cn (.nm 2) (.cn (.nm 3) .nl))) (f2 gGt (f2 gIx (eVar 3) (eCon (.int (0)))) (eCon (.int (0)))) (eVar 2) [2, 3]))
    (sSeq (sRet (eIf (f2 (gEqD true) (eVar 1) (eLst aNil)) (f2 gIx (eVar 1) (eCon (.int (0)))) (eCon .none)))
    sNext)) ["self", "some", "at", "gain"]
noncomputable def M_leaving : SemM := runM (sSeq (sSet false 2 (eCon .none))
    (sSeq (sFor (iEnum (aCons (eFld 0 "rows") aNil)) (.tu (.cn (.nm 3) (.cn (.nm 4) .nl))) (sSeq (sIf (f2 gGt (f2 gIx (f2 gIx (eVar 4) (eVar 1)) (eCon (.int (0)))) (eCon (.int (0)))) (sSeq (sSet false 5 (eCall S_over (aCons (f2 gIx (eVar 4) (f1 gNeg (eCon (.int (1))))) (aCons (f2 gIx (eVar 4) (eVar 1)) aNil))))
    (sSeq (sIf (eOr (f2 (gIs false) (eVar 2) (eCon .none)) (eOr (eCall S_is_less (aCons (eVar 5) (aCons (f2 gIx (eVar 2) (eCon (.int (0)))) aNil))) (eAnd (f2 (gEqD false) (eVar 5) (f2 gIx (eVar 2) (eCon (.int (0))))) (f2 gLt (f2 gIx (eFld 0 "held") (eVar 3)) (f2 gIx (eFld 0 "held") (f2 gIx (eVar 2) (eCon (.int (1))))))))) (sSeq (sSet false 2 (eTup (aCons (eVar 5) (aCons (eVar 3) aNil))))
    sNext) sNext)
    sNext)) sNext)
    sNext))
    (sSeq (sRet (eIf (f2 (gIs true) (eVar 2) (eCon .none)) (f2 gIx (eVar 2) (eCon (.int (1)))) (eCon .none)))
    sNext))) ["self", "at", "best", "spot", "row", "far"]
noncomputable def M_best : SemM := runM (sSeq (sSet true 1 (f2 gMul (eLst (aCons (eCon (.tuple [.int (0), .int (1)])) aNil)) (eFld 0 "many")))
    (sSeq (sFor (iEnum (aCons (eFld 0 "held") aNil)) (.tu (.cn (.nm 2) (.cn (.nm 3) .nl))) (sSeq (sIf (f2 gLt (eVar 3) (eFld 0 "many")) (sSeq (sSub 1 (eVar 3) (f2 gIx (f2 gIx (eFld 0 "rows") (eVar 2)) (f1 gNeg (eCon (.int (1))))))
    sNext) sNext)
    sNext))
    (sSeq (sRet (eVar 1))
    sNext))) ["self", "found", "spot", "at"]
noncomputable def M_growing : SemM := runM (sSeq (sSet true 2 (f2 gMul (eLst (aCons (eCon (.tuple [.int (0), .int (1)])) aNil)) (eFld 0 "many")))
    (sSeq (sFor (iEnum (aCons (eFld 0 "held") aNil)) (.tu (.cn (.nm 3) (.cn (.nm 4) .nl))) (sSeq (sIf (f2 gLt (eVar 4) (eFld 0 "many")) (sSeq (sSub 2 (eVar 4) (eCall S_minus (aCons (eCon (.tuple [.int (0), .int (1)])) (aCons (f2 gIx (f2 gIx (eFld 0 "rows") (eVar 3)) (eVar 1)) aNil))))
    sNext) sNext)
    sNext))
    (sSeq (sIf (f2 gLt (eVar 1) (eFld 0 "many")) (sSeq (sSub 2 (eVar 1) (eCon (.tuple [.int (1), .int (1)])))
    sNext) sNext)
    (sSeq (sRet (eVar 2))
    sNext)))) ["self", "at", "found", "spot", "other"]
noncomputable def M_prices : SemM := runM (sSeq (sRet (eLc (iSeq (eSl (eFld 0 "gain") (oSome (eFld 0 "many")) (oSome (f1 gNeg (eCon (.int (1))))))) (.nm 1) tYesF (eCall S_minus (aCons (eCon (.tuple [.int (0), .int (1)])) (aCons (eVar 1) aNil))) [1]))
    sNext) ["self", "part"]

/-! # the exchange of a tableau, plain -/
def sm : Nat → (Nat → Rat) → Rat
  | 0, _ => 0
  | n + 1, f => sm n f + f n
theorem sm_congr {n : Nat} {f g : Nat → Rat} (h : ∀ i, i < n → f i = g i) : sm n f = sm n g := by
  induction n with
  | zero => rfl
  | succ n ih =>
    unfold sm
    rw [ih fun i hi => h i (by omega), h n (by omega)]
theorem sm_zero (n : Nat) : sm n (fun _ => 0) = 0 := by
  induction n with
  | zero => rfl
  | succ n ih => unfold sm; rw [ih]; grind
theorem sm_z {n : Nat} {f : Nat → Rat} (h : ∀ i, i < n → f i = 0) : sm n f = 0 := by rw [sm_congr h, sm_zero]
theorem sm_add (n : Nat) (f g : Nat → Rat) : sm n (fun i => f i + g i) = sm n f + sm n g := by
  induction n with
  | zero => simp only [sm]; grind
  | succ n ih => unfold sm; rw [ih]; grind
theorem sm_sub (n : Nat) (f g : Nat → Rat) : sm n (fun i => f i - g i) = sm n f - sm n g := by
  induction n with
  | zero => simp only [sm]; grind
  | succ n ih => unfold sm; rw [ih]; grind
theorem sm_mul (n : Nat) (c : Rat) (f : Nat → Rat) : sm n (fun i => c * f i) = c * sm n f := by
  induction n with
  | zero => unfold sm; grind
  | succ n ih => unfold sm; rw [ih]; grind
theorem sm_comm (n m : Nat) (f : Nat → Nat → Rat) : sm n (fun i => sm m fun j => f i j) = sm m fun j => sm n fun i => f i j := by
  induction n with
  | zero =>
    show (0 : Rat) = sm m fun _ => 0
    rw [sm_zero]
  | succ n ih =>
    show sm n (fun i => sm m fun j => f i j) + sm m (fun j => f n j) = _
    rw [ih, ← sm_add]
    rfl
theorem sm_one {n i : Nat} {f : Nat → Rat} (hi : i < n) (h : ∀ j, j < n → j ≠ i → f j = 0) : sm n f = f i := by
  induction n with
  | zero => omega
  | succ n ih =>
    unfold sm
    by_cases e : i = n
    · subst e
      rw [sm_z fun j hj => h j (by omega) (by omega)]
      grind
    · rw [ih (by omega) fun j hj => h j (by omega), h n (by omega) (Ne.symm e)]
      grind
theorem sm_pos {n : Nat} {f : Nat → Rat} (h : 0 < sm n f) : ∃ i, i < n ∧ 0 < f i := by
  induction n with
  | zero => exact absurd h (by unfold sm; decide)
  | succ n ih =>
    unfold sm at h
    by_cases hn : 0 < f n
    · exact ⟨n, by omega, hn⟩
    · have : 0 < sm n f := by grind
      obtain ⟨i, hi, hp⟩ := ih this
      exact ⟨i, by omega, hp⟩
theorem sm_nonneg {n : Nat} {f : Nat → Rat} (h : ∀ i, i < n → 0 ≤ f i) : 0 ≤ sm n f := by
  induction n with
  | zero => exact Rat.le_refl
  | succ n ih =>
    unfold sm
    have := ih fun i hi => h i (by omega)
    have := h n (by omega)
    grind
structure Tb where
  T : Nat → Nat → Rat
  g : Nat → Rat
  h : Nat → Nat
def Tb.ex (S : Tb) (a s : Nat) : Tb where
  T i j := if i = s then S.T s j / S.T s a else S.T i j - S.T i a * (S.T s j / S.T s a)
  g j := S.g j - S.g a * (S.T s j / S.T s a)
  h i := if i = s then a else S.h i
/-- how the tableau stands to the first one -/
structure Ok (m n : Nat) (A S : Tb) : Prop where
  hN : ∀ i, i < m → S.h i < n + m
  one : ∀ i, i < m → S.T i (S.h i) = 1
  zer : ∀ i k, i < m → k < m → i ≠ k → S.T k (S.h i) = 0
  gz : ∀ i, i < m → S.g (S.h i) = 0
  rhs : ∀ i, i < m → 0 ≤ S.T i (n + m)
  up : ∀ i j, i < m → j ≤ n + m → S.T i j = sm m fun k => S.T i (n + k) * A.T k j
  dn : ∀ k j, k < m → j ≤ n + m → A.T k j = sm m fun i => A.T k (S.h i) * S.T i j
  gu : ∀ j, j ≤ n + m → S.g j = A.g j + sm m fun k => S.g (n + k) * A.T k j
/-- a tableau to begin with -/
structure Fresh (m n : Nat) (A : Tb) : Prop where
  h : ∀ i, i < m → A.h i = n + i
  one : ∀ i, i < m → A.T i (n + i) = 1
  zer : ∀ i k, i < m → k < m → i ≠ k → A.T k (n + i) = 0
  gz : ∀ i, i < m → A.g (n + i) = 0
  rhs : ∀ i, i < m → 0 ≤ A.T i (n + m)
theorem Fresh.ok {m n : Nat} {A : Tb} (F : Fresh m n A) : Ok m n A A where
  hN i hi := by rw [F.h i hi]; omega
  one i hi := by rw [F.h i hi]; exact F.one i hi
  zer i k hi hk hne := by rw [F.h i hi]; exact F.zer i k hi hk hne
  gz i hi := by rw [F.h i hi]; exact F.gz i hi
  rhs := F.rhs
  up i j hi hj := by
    rw [sm_one (i := i) hi fun k hk hne => ?_]
    · rw [F.one i hi]; grind
    · rw [F.zer k i hk hi hne]; grind
  dn k j hk hj := by
    rw [sm_one (i := k) hk fun i hi hne => ?_]
    · rw [F.h k hk, F.one k hk]; grind
    · rw [F.h i hi, F.zer i k hi hk hne]; grind
  gu j hj := by
    rw [sm_z fun k hk => ?_]
    · grind
    · rw [F.gz k hk]; grind
theorem rdiv_self {x : Rat} (h : x ≠ 0) : x / x = 1 := by grind
/-- the row that leaves -/
structure Lv (m n : Nat) (S : Tb) (a s : Nat) : Prop where
  sm : s < m
  pos : 0 < S.T s a
  min : ∀ i, i < m → 0 < S.T i a → S.T s (n + m) / S.T s a < S.T i (n + m) / S.T i a ∨ (S.T s (n + m) / S.T s a = S.T i (n + m) / S.T i a ∧ S.h s ≤ S.h i)
theorem div_nonneg {x y : Rat} (hx : 0 ≤ x) (hy : 0 < y) : 0 ≤ x / y := by
  rw [Rat.div_def]
  exact Rat.mul_nonneg hx (Rat.le_of_lt (Rat.inv_pos.mpr hy))
theorem Ok.ex {m n : Nat} {A S : Tb} (O : Ok m n A S) {a s : Nat} (ha : a < n + m) (L : Lv m n S a s) : Ok m n A (S.ex a s) := by
  have hs := L.sm
  have hp : S.T s a ≠ 0 := fun z => by have := L.pos; rw [z] at this; exact absurd this (by decide)
  have lin : ∀ (c : Nat → Rat) (j : Nat), j ≤ n + m → ∀ x y : Rat, (∀ k, c k = x * S.T s (n + k)) → sm m (fun k => c k * A.T k j) = x * S.T s j := fun c j hj x y hc => by
    rw [O.up s j hs hj, ← sm_mul]
    exact sm_congr fun k hk => by rw [hc k]; grind
  refine ⟨fun i hi => ?_, fun i hi => ?_, fun i k hi hk hne => ?_, fun i hi => ?_, fun i hi => ?_, fun i j hi hj => ?_, fun k j hk hj => ?_, fun j hj => ?_⟩
  · show (if i = s then a else S.h i) < n + m
    split
    · exact ha
    · exact O.hN i hi
  · show (if i = s then S.T s (if i = s then a else S.h i) / S.T s a else S.T i (if i = s then a else S.h i) - S.T i a * (S.T s (if i = s then a else S.h i) / S.T s a)) = 1
    by_cases e : i = s
    · rw [if_pos e, if_pos e]; exact rdiv_self hp
    · rw [if_neg e, if_neg e, O.one i hi, O.zer i s hi hs e]; grind
  · show (if k = s then S.T s (if i = s then a else S.h i) / S.T s a else S.T k (if i = s then a else S.h i) - S.T k a * (S.T s (if i = s then a else S.h i) / S.T s a)) = 0
    by_cases e : k = s
    · subst e
      rw [if_pos rfl, if_neg hne, O.zer i k hi hk hne]; grind
    · rw [if_neg e]
      by_cases e2 : i = s
      · rw [if_pos e2, rdiv_self hp]; grind
      · rw [if_neg e2, O.zer i k hi hk hne, O.zer i s hi hs e2]; grind
  · show S.g (if i = s then a else S.h i) - S.g a * (S.T s (if i = s then a else S.h i) / S.T s a) = 0
    by_cases e : i = s
    · rw [if_pos e, rdiv_self hp]; grind
    · rw [if_neg e, O.gz i hi, O.zer i s hi hs e]; grind
  · show 0 ≤ (if i = s then S.T s (n + m) / S.T s a else S.T i (n + m) - S.T i a * (S.T s (n + m) / S.T s a))
    have r0 : 0 ≤ S.T s (n + m) / S.T s a := div_nonneg (O.rhs s hs) L.pos
    by_cases e : i = s
    · rw [if_pos e]; exact r0
    · rw [if_neg e]
      by_cases hq : 0 < S.T i a
      · have h1 : S.T s (n + m) / S.T s a ≤ S.T i (n + m) / S.T i a := by
          rcases L.min i hi hq with q | ⟨q, _⟩
          · exact Rat.le_of_lt q
          · rw [q]; exact Rat.le_refl
        have h2 : S.T i a * (S.T s (n + m) / S.T s a) ≤ S.T i a * (S.T i (n + m) / S.T i a) := Rat.mul_le_mul_of_nonneg_left h1 (Rat.le_of_lt hq)
        have h3 : S.T i a * (S.T i (n + m) / S.T i a) = S.T i (n + m) := by
          have : S.T i a ≠ 0 := fun z => by rw [z] at hq; exact absurd hq (by decide)
          grind
        grind
      · have h1 : S.T i a ≤ 0 := by grind
        have h2 : 0 ≤ (-S.T i a) * (S.T s (n + m) / S.T s a) := Rat.mul_nonneg (by grind) r0
        have h3 := O.rhs i hi
        grind
  · show (if i = s then S.T s j / S.T s a else S.T i j - S.T i a * (S.T s j / S.T s a)) = sm m fun k => (if i = s then S.T s (n + k) / S.T s a else S.T i (n + k) - S.T i a * (S.T s (n + k) / S.T s a)) * A.T k j
    by_cases e : i = s
    · rw [if_pos e, sm_congr (g := fun k => (1 / S.T s a) * (S.T s (n + k) * A.T k j)) fun k hk => by rw [if_pos e]; grind, sm_mul, ← O.up s j hs hj]
      grind
    · rw [if_neg e, sm_congr (g := fun k => S.T i (n + k) * A.T k j - (S.T i a / S.T s a) * (S.T s (n + k) * A.T k j)) fun k hk => by rw [if_neg e]; grind, sm_sub, sm_mul, ← O.up s j hs hj, ← O.up i j hi hj]
      grind
  · show A.T k j = sm m fun i => A.T k (if i = s then a else S.h i) * (if i = s then S.T s j / S.T s a else S.T i j - S.T i a * (S.T s j / S.T s a))
    have e1 := O.dn k j hk hj
    have e2 := O.dn k a hk (by omega)
    have e3 : sm m (fun i => A.T k (if i = s then a else S.h i) * (if i = s then S.T s j / S.T s a else S.T i j - S.T i a * (S.T s j / S.T s a)) - A.T k (S.h i) * S.T i j + (S.T s j / S.T s a) * (A.T k (S.h i) * S.T i a)) = A.T k a * (S.T s j / S.T s a) := by
      rw [sm_one (i := s) hs fun i hi hne => ?_]
      · rw [if_pos rfl, if_pos rfl]
        have : (S.T s j / S.T s a) * (A.T k (S.h s) * S.T s a) = A.T k (S.h s) * S.T s j := by grind
        grind
      · rw [if_neg hne, if_neg hne]; grind
    rw [sm_add, sm_sub, sm_mul, ← e1, ← e2] at e3
    grind
  · show S.g j - S.g a * (S.T s j / S.T s a) = A.g j + sm m fun k => (S.g (n + k) - S.g a * (S.T s (n + k) / S.T s a)) * A.T k j
    rw [sm_congr (g := fun k => S.g (n + k) * A.T k j - (S.g a / S.T s a) * (S.T s (n + k) * A.T k j)) fun k hk => by grind, sm_sub, sm_mul, ← O.up s j hs hj, O.gu j hj]
    grind

/-! # Bland's rule ends -/
theorem sm_swap {m N : Nat} {a : Nat → Rat} {b : Nat → Nat → Rat} {c : Nat → Rat} : sm N (fun j => sm m (fun k => a k * b k j) * c j) = sm m fun k => a k * sm N fun j => b k j * c j := by
  rw [sm_congr (g := fun j => sm m fun k => a k * (b k j * c j)) fun j hj => ?_, sm_comm]
  · exact sm_congr fun k hk => by rw [sm_mul]
  · rw [Rat.mul_comm, ← sm_mul]
    exact sm_congr fun k hk => by grind
/-- the held names tell the tableau -/
theorem Ok.same {m n : Nat} {A S S' : Tb} (O : Ok m n A S) (O' : Ok m n A S') (hh : ∀ i, i < m → S.h i = S'.h i) {i j : Nat} (hi : i < m) (hj : j ≤ n + m) : S'.T i j = S.T i j := by
  have e1 : S'.T i j = sm m fun q => S'.T i (S.h q) * S.T q j := by
    rw [O'.up i j hi hj]
    rw [sm_congr (g := fun k => sm m fun q => S'.T i (n + k) * A.T k (S.h q) * S.T q j) fun k hk => ?_, sm_comm]
    · refine sm_congr fun q hq => ?_
      rw [O'.up i (S.h q) hi (by have := O.hN q hq; omega)]
      rw [Rat.mul_comm, ← sm_mul]
      exact sm_congr fun k hk => by grind
    · rw [O.dn k j hk hj, ← sm_mul]
      exact sm_congr fun q hq => by grind
  rw [e1, sm_one (i := i) hi fun q hq hne => ?_]
  · rw [hh i hi, O'.one i hi]; grind
  · rw [hh q hq, O'.zer q i hq hi hne]; grind
theorem Ok.sameg {m n : Nat} {A S S' : Tb} (O : Ok m n A S) (O' : Ok m n A S') (hh : ∀ i, i < m → S.h i = S'.h i) {j : Nat} (hj : j ≤ n + m) : S'.g j = S.g j := by
  have key : ∀ j, j ≤ n + m → S'.g j - S.g j = sm m fun k => (S'.g (n + k) - S.g (n + k)) * A.T k j := fun j hj => by
    rw [sm_congr (g := fun k => S'.g (n + k) * A.T k j - S.g (n + k) * A.T k j) fun k hk => by grind, sm_sub, O'.gu j hj, O.gu j hj]
    grind
  have e1 : S'.g j - S.g j = sm m fun q => (S'.g (S.h q) - S.g (S.h q)) * S.T q j := by
    rw [key j hj]
    rw [sm_congr (g := fun k => sm m fun q => (S'.g (n + k) - S.g (n + k)) * A.T k (S.h q) * S.T q j) fun k hk => ?_, sm_comm]
    · refine sm_congr fun q hq => ?_
      rw [key (S.h q) (by have := O.hN q hq; omega)]
      rw [Rat.mul_comm, ← sm_mul]
      exact sm_congr fun k hk => by grind
    · rw [O.dn k j hk hj, ← sm_mul]
      exact sm_congr fun q hq => by grind
  rw [sm_z fun q hq => ?_] at e1
  · grind
  · have h1 := O.gz q hq
    have h2 := O'.gz q hq
    rw [← hh q hq] at h2
    rw [h1, h2]; grind
theorem Ok.inj {m n : Nat} {A S : Tb} (O : Ok m n A S) {i k : Nat} (hi : i < m) (hk : k < m) (e : S.h i = S.h k) : i = k := by
  by_cases h : i = k
  · exact h
  · have h1 := O.zer i k hi hk h
    rw [e, O.one k hk] at h1
    exact absurd h1 (by decide)
/-- the way in which a coming name drives all -/
def dv (m : Nat) (S : Tb) (s j : Nat) : Rat := (if j = s then 1 else 0) - sm m fun i => if S.h i = j then S.T i s else 0
theorem sm_ite {N s : Nat} (hs : s < N) (f : Nat → Rat) : sm N (fun j => f j * (if j = s then 1 else 0)) = f s := by
  rw [sm_one (i := s) hs fun j hj hne => by rw [if_neg hne]; grind]
  rw [if_pos rfl]; grind
theorem sm_dv {m n : Nat} {A S : Tb} (O : Ok m n A S) {s : Nat} (hs : s < n + m) (f : Nat → Rat) : sm (n + m) (fun j => f j * dv m S s j) = f s - sm m fun i => f (S.h i) * S.T i s := by
  unfold dv
  rw [sm_congr (g := fun j => f j * (if j = s then 1 else 0) - sm m fun i => f j * (if S.h i = j then S.T i s else 0)) fun j hj => by rw [sm_mul]; grind, sm_sub, sm_ite hs, sm_comm]
  congr 1
  refine sm_congr fun i hi => ?_
  rw [sm_one (i := S.h i) (O.hN i hi) fun j hj hne => by rw [if_neg (Ne.symm hne)]; grind, if_pos rfl]
theorem dv_row {m n : Nat} {A S : Tb} (O : Ok m n A S) {s i : Nat} (hs : s < n + m) (hi : i < m) : sm (n + m) (fun j => S.T i j * dv m S s j) = 0 := by
  rw [sm_dv O hs, sm_one (i := i) hi fun k hk hne => by rw [O.zer k i hk hi hne]; grind, O.one i hi]
  grind
theorem dv_first {m n : Nat} {A S : Tb} (O : Ok m n A S) {s k : Nat} (hs : s < n + m) (hk : k < m) : sm (n + m) (fun j => A.T k j * dv m S s j) = 0 := by
  rw [sm_congr (g := fun j => sm m (fun i => A.T k (S.h i) * S.T i j) * dv m S s j) fun j hj => by rw [← O.dn k j hk (by omega)], sm_swap]
  exact sm_z fun i hi => by rw [dv_row O hs hi]; grind
/-- along the way the gain grows as the coming name's -/
theorem dv_gain {m n : Nat} {A S S' : Tb} (O : Ok m n A S) (O' : Ok m n A S') {s : Nat} (hs : s < n + m) : sm (n + m) (fun j => S'.g j * dv m S s j) = S.g s := by
  have all : ∀ {S'' : Tb}, Ok m n A S'' → sm (n + m) (fun j => S''.g j * dv m S s j) = sm (n + m) fun j => A.g j * dv m S s j := fun {S''} O'' => by
    rw [sm_congr (g := fun j => A.g j * dv m S s j + sm m (fun k => S''.g (n + k) * A.T k j) * dv m S s j) fun j hj => by rw [O''.gu j (by omega)]; grind, sm_add, sm_swap]
    rw [sm_z (f := fun k => S''.g (n + k) * sm (n + m) fun j => A.T k j * dv m S s j) fun k hk => by rw [dv_first O hs hk]; grind]
    grind
  rw [all O', ← all O, sm_dv O hs, sm_z fun i hi => by rw [O.gz i hi]; grind]
  grind
/-- the name that comes -/
structure Co (m n : Nat) (S : Tb) (a : Nat) : Prop where
  lt : a < n + m
  pos : 0 < S.g a
  min : ∀ j, j < a → S.g j ≤ 0
theorem Co.non {m n : Nat} {A S : Tb} (O : Ok m n A S) {a : Nat} (C : Co m n S a) {i : Nat} (hi : i < m) : S.h i ≠ a := fun e => by
  have := O.gz i hi
  rw [e] at this
  have := C.pos
  grind
/-! ### pigeons -/
theorem pigeon : ∀ (M : Nat) (c : Nat → Nat), (∀ p, p ≤ M → c p < M) → ∃ k l, k < l ∧ l ≤ M ∧ c k = c l
  | 0, c, h => by have := h 0 (Nat.le_refl _); omega
  | M + 1, c, h => by
    by_cases hx : ∃ k, k < M + 1 ∧ c k = c (M + 1)
    · obtain ⟨k, h1, h2⟩ := hx
      exact ⟨k, M + 1, h1, Nat.le_refl _, h2⟩
    · have hn : ∀ k, k < M + 1 → c k ≠ c (M + 1) := fun k hk e => hx ⟨k, hk, e⟩
      have hl := h (M + 1) (Nat.le_refl _)
      obtain ⟨k, l, h1, h2, h3⟩ := pigeon M (fun p => if c p = M then c (M + 1) else c p) fun p hp => by
        have := h p (by omega)
        have := hn p (by omega)
        show (if c p = M then c (M + 1) else c p) < M
        split <;> omega
      refine ⟨k, l, h1, by omega, ?_⟩
      have n1 := hn k (by omega)
      have n2 := hn l (by omega)
      split at h3 <;> split at h3 <;> omega
def code (N : Nat) (h : Nat → Nat) : Nat → Nat
  | 0 => 0
  | m + 1 => code N h m * N + h m
theorem code_lt {N : Nat} {h : Nat → Nat} : ∀ {m : Nat}, (∀ i, i < m → h i < N) → code N h m < N ^ m
  | 0, _ => by unfold code; simp
  | m + 1, H => by
    have ih := code_lt (N := N) (h := h) (m := m) fun i hi => H i (by omega)
    have := H m (by omega)
    unfold code
    rw [Nat.pow_succ]
    have : (code N h m + 1) * N ≤ N ^ m * N := Nat.mul_le_mul_right N ih
    rw [Nat.succ_mul] at this
    omega
theorem code_inj {N : Nat} {h h' : Nat → Nat} : ∀ {m : Nat}, (∀ i, i < m → h i < N) → (∀ i, i < m → h' i < N) → code N h m = code N h' m → ∀ i, i < m → h i = h' i
  | 0, _, _, _, i, hi => by omega
  | m + 1, H, H', e, i, hi => by
    have h1 := H m (by omega)
    have h2 := H' m (by omega)
    unfold code at e
    have m1 : h m = h' m := by
      have a := congrArg (· % N) e
      simp only [Nat.mul_add_mod_self_right] at a
      rw [Nat.mod_eq_of_lt h1, Nat.mod_eq_of_lt h2] at a
      exact a
    have m2 : code N h m = code N h' m := by
      rw [m1] at e
      have : code N h m * N = code N h' m * N := by omega
      exact Nat.eq_of_mul_eq_mul_right (by omega) this
    by_cases q : i = m
    · subst q; exact m1
    · exact code_inj (fun i hi => H i (by omega)) (fun i hi => H' i (by omega)) m2 i (by omega)

theorem max_in (E : Nat → Nat) (k : Nat) : ∀ d, ∃ p, k ≤ p ∧ p < k + (d + 1) ∧ ∀ q, k ≤ q → q < k + (d + 1) → E q ≤ E p
  | 0 => ⟨k, by omega, by omega, fun q h1 h2 => by have : q = k := by omega
                                                   subst this; exact Nat.le_refl _⟩
  | d + 1 => by
    obtain ⟨p, h1, h2, h3⟩ := max_in E k d
    by_cases h : E p < E (k + (d + 1))
    · refine ⟨k + (d + 1), by omega, by omega, fun q q1 q2 => ?_⟩
      by_cases e : q = k + (d + 1)
      · subst e; exact Nat.le_refl _
      · have := h3 q q1 (by omega); omega
    · refine ⟨p, h1, by omega, fun q q1 q2 => ?_⟩
      by_cases e : q = k + (d + 1)
      · subst e; omega
      · exact h3 q q1 (by omega)
theorem no_chain {m n : Nat} {A : Tb} (f : Nat → Tb) (E L : Nat → Nat) (O : ∀ p, Ok m n A (f p)) (C : ∀ p, Co m n (f p) (E p)) (V : ∀ p, Lv m n (f p) (E p) (L p)) (N : ∀ p, f (p + 1) = (f p).ex (E p) (L p)) : False := by
  obtain ⟨k, l, hkl, _, hc⟩ := pigeon ((n + m) ^ m) (fun p => code (n + m) (f p).h m) fun p _ => code_lt (O p).hN
  have hh : ∀ i, i < m → (f k).h i = (f l).h i := code_inj (O k).hN (O l).hN hc
  -- the gain's last part never grows
  have rat : ∀ p, 0 ≤ (f p).T (L p) (n + m) / (f p).T (L p) (E p) := fun p => div_nonneg ((O p).rhs _ (V p).sm) (V p).pos
  have gs : ∀ p, (f (p + 1)).g (n + m) = (f p).g (n + m) - (f p).g (E p) * ((f p).T (L p) (n + m) / (f p).T (L p) (E p)) := fun p => by rw [N p]; rfl
  have g1 : ∀ p, (f (p + 1)).g (n + m) ≤ (f p).g (n + m) := fun p => by
    have h1 := Rat.mul_nonneg (Rat.le_of_lt (C p).pos) (rat p)
    have h2 := gs p
    grind
  have gm : ∀ d p, (f (p + d)).g (n + m) ≤ (f p).g (n + m) := fun d => by
    induction d with
    | zero => intro p; exact Rat.le_refl
    | succ d ih => intro p; exact Rat.le_trans (g1 (p + d)) (ih p)
  have gm' : ∀ p q, p ≤ q → (f q).g (n + m) ≤ (f p).g (n + m) := fun p q h => by
    have := gm (q - p) p
    rw [show p + (q - p) = q by omega] at this
    exact this
  have ge : (f l).g (n + m) = (f k).g (n + m) := (O k).sameg (O l) hh (Nat.le_refl _)
  have deg : ∀ p, k ≤ p → p < l → (f p).T (L p) (n + m) = 0 := fun p h1 h2 => by
    have a1 := gm' k p h1
    have a2 := gm' (p + 1) l h2
    have a3 := g1 p
    have a4 := gs p
    have a5 : (f p).g (E p) * ((f p).T (L p) (n + m) / (f p).T (L p) (E p)) = 0 := by grind
    have a6 := (C p).pos
    have a7 := (V p).pos
    have n1 : (f p).g (E p) ≠ 0 := fun z => by rw [z] at a6; exact absurd a6 (by decide)
    have n2 : (f p).T (L p) (E p) ≠ 0 := fun z => by rw [z] at a7; exact absurd a7 (by decide)
    grind
  -- the values stay
  let val : Nat → Nat → Rat := fun p j => sm m fun i => if (f p).h i = j then (f p).T i (n + m) else 0
  have vs : ∀ p j, k ≤ p → p < l → val (p + 1) j = val p j := fun p j h1 h2 => by
    have d0 := deg p h1 h2
    refine sm_congr fun i hi => ?_
    rw [N p]
    show (if (if i = L p then E p else (f p).h i) = j then (if i = L p then (f p).T (L p) (n + m) / (f p).T (L p) (E p) else (f p).T i (n + m) - (f p).T i (E p) * ((f p).T (L p) (n + m) / (f p).T (L p) (E p))) else 0) = if (f p).h i = j then (f p).T i (n + m) else 0
    rw [d0]
    by_cases e : i = L p
    · subst e
      rw [if_pos rfl, if_pos rfl, d0]
      have : (0 : Rat) / (f p).T (L p) (E p) = 0 := by grind
      rw [this]
      split <;> split <;> rfl
    · rw [if_neg e, if_neg e]
      have : (f p).T i (n + m) - (f p).T i (E p) * (0 / (f p).T (L p) (E p)) = (f p).T i (n + m) := by grind
      rw [this]
  have vc : ∀ d j, k + d ≤ l → val (k + d) j = val k j := fun d => by
    induction d with
    | zero => intro j _; rfl
    | succ d ih => intro j h; rw [← ih j (by omega)]; exact vs (k + d) j (by omega) (by omega)
  have vc' : ∀ p j, k ≤ p → p ≤ l → val p j = val k j := fun p j h1 h2 => by
    have := vc (p - k) j (by omega)
    rw [show k + (p - k) = p by omega] at this
    exact this
  -- what is held
  let Bas : Nat → Nat → Prop := fun p j => ∃ i, i < m ∧ (f p).h i = j
  have bs : ∀ p j, Bas p j → j ≠ (f p).h (L p) → Bas (p + 1) j := fun p j ⟨i, hi, e⟩ hne => by
    refine ⟨i, hi, ?_⟩
    rw [N p]
    show (if i = L p then E p else (f p).h i) = j
    rw [if_neg fun q => hne (by rw [← q, e])]
    exact e
  have ns : ∀ p j, ¬Bas p j → j ≠ E p → ¬Bas (p + 1) j := fun p j hb hne ⟨i, hi, e⟩ => by
    rw [N p] at e
    have e : (if i = L p then E p else (f p).h i) = j := e
    split at e
    · exact hne e.symm
    · exact hb ⟨i, hi, e⟩
  have kl1 : ∀ j, Bas k j → Bas l j := fun j ⟨i, hi, e⟩ => ⟨i, hi, by rw [← hh i hi]; exact e⟩
  have kl2 : ∀ j, Bas l j → Bas k j := fun j ⟨i, hi, e⟩ => ⟨i, hi, by rw [hh i hi]; exact e⟩
  have non : ∀ p, ¬Bas p (E p) := fun p ⟨i, hi, e⟩ => (C p).non (O p) hi e
  have bgo : ∀ j, (∀ q, k ≤ q → q < l → (f q).h (L q) ≠ j) → ∀ d p, k ≤ p → p + d ≤ l → Bas p j → Bas (p + d) j := fun j hno d => by
    induction d with
    | zero => intro p _ _ h; exact h
    | succ d ih => intro p h1 h2 h; exact bs (p + d) j (ih p h1 (by omega) h) (Ne.symm (hno (p + d) (by omega) (by omega)))
  have ngo : ∀ j, (∀ q, k ≤ q → q < l → E q ≠ j) → ∀ d p, k ≤ p → p + d ≤ l → ¬Bas p j → ¬Bas (p + d) j := fun j hno d => by
    induction d with
    | zero => intro p _ _ h; exact h
    | succ d ih => intro p h1 h2 h; exact ns (p + d) j (ih p h1 (by omega) h) (Ne.symm (hno (p + d) (by omega) (by omega)))
  obtain ⟨p, p1, p2, p3⟩ := max_in E k (l - k - 1)
  have p2 : p < l := by omega
  have p3 : ∀ q, k ≤ q → q < l → E q ≤ E p := fun q h1 h2 => p3 q h1 (by omega)
  -- it goes, too
  obtain ⟨q, q1, q2, q3⟩ : ∃ q, k ≤ q ∧ q < l ∧ (f q).h (L q) = E p := by
    refine Classical.byContradiction fun hno => ?_
    have hno : ∀ q, k ≤ q → q < l → (f q).h (L q) ≠ E p := fun q h1 h2 e => hno ⟨q, h1, h2, e⟩
    have b1 : Bas (p + 1) (E p) := ⟨L p, (V p).sm, by rw [N p]; exact if_pos rfl⟩
    have b2 := bgo (E p) hno (l - (p + 1)) (p + 1) (by omega) (by omega) b1
    rw [show p + 1 + (l - (p + 1)) = l by omega] at b2
    have b3 := bgo (E p) hno (p - k) k (Nat.le_refl _) (by omega) (kl2 _ b2)
    rw [show k + (p - k) = p by omega] at b3
    exact non p b3
  -- a name that is held at times and at times is not comes once
  have comes : ∀ j u v, k ≤ u → u ≤ l → k ≤ v → v ≤ l → Bas u j → ¬Bas v j → ∃ w, k ≤ w ∧ w < l ∧ E w = j := fun j u v u1 u2 v1 v2 hb hn => by
    refine Classical.byContradiction fun hno => ?_
    have hno : ∀ q, k ≤ q → q < l → E q ≠ j := fun q h1 h2 e => hno ⟨q, h1, h2, e⟩
    have b1 := ngo j hno (l - v) v v1 (by omega) hn
    rw [show v + (l - v) = l by omega] at b1
    have b2 := ngo j hno (u - k) k (Nat.le_refl _) (by omega) fun h => b1 (kl1 _ h)
    rw [show k + (u - k) = u by omega] at b2
    exact b2 hb
  have hs := (C q).lt
  have dg := dv_gain (O q) (O p) hs
  have : 0 < sm (n + m) fun j => (f p).g j * dv m (f q) (E q) j := by rw [dg]; exact (C q).pos
  obtain ⟨j, hj, jp⟩ := sm_pos this
  by_cases ej : j = E q
  · -- the coming name itself
    have d1 : dv m (f q) (E q) j = 1 := by
      unfold dv
      rw [if_pos ej, sm_z fun i hi => if_neg fun e => (C q).non (O q) hi (e.trans ej)]
      grind
    rw [d1] at jp
    have lt : E q < E p := by
      have := p3 q q1 q2
      have : E q ≠ E p := fun e => (C q).non (O q) (V q).sm (q3.trans e.symm)
      omega
    have := (C p).min (E q) lt
    rw [← ej] at this
    grind
  · by_cases hb : Bas q j
    · obtain ⟨i, hi, ei⟩ := hb
      have d1 : dv m (f q) (E q) j = - (f q).T i (E q) := by
        unfold dv
        rw [if_neg ej, sm_one (i := i) hi fun i' hi' hne => if_neg fun e => hne ((O q).inj hi' hi (e.trans ei.symm)), if_pos ei]
        grind
      rw [d1] at jp
      have hnp : ¬Bas p j := fun ⟨i', hi', e'⟩ => by
        have := (O p).gz i' hi'
        rw [e'] at this
        rw [this] at jp
        grind
      obtain ⟨w, w1, w2, w3⟩ := comes j q p q1 (by omega) p1 (by omega) ⟨i, hi, ei⟩ hnp
      have jt : j ≤ E p := by rw [← w3]; exact p3 w w1 w2
      by_cases et : j = E p
      · have ir : i = L q := (O q).inj hi (V q).sm (ei.trans (et.trans q3.symm))
        subst ir
        have h1 := (V q).pos
        have h2 := (C p).pos
        rw [← et] at h2
        have h3 := Rat.mul_pos h2 h1
        grind
      · have jl : j < E p := by omega
        have h1 := (C p).min j jl
        have h2 : 0 < (f q).T i (E q) := by
          refine Classical.byContradiction fun hle => ?_
          have hle : (f q).T i (E q) ≤ 0 := Rat.not_lt.mp hle
          have h3 : 0 ≤ (-(f p).g j) * (-(f q).T i (E q)) := Rat.mul_nonneg (by grind) (by grind)
          have h4 : 0 ≤ (- (f p).g j) * (f q).T i (E q) ∨ True := .inr trivial
          have h5 : (f p).g j * -(f q).T i (E q) ≤ 0 := by
            have := Rat.mul_nonneg (show 0 ≤ -(f p).g j by grind) (show 0 ≤ -(f q).T i (E q) by grind)
            grind
          grind
        have v1 : val q j = (f q).T i (n + m) := by
          show sm m (fun i => if (f q).h i = j then (f q).T i (n + m) else 0) = _
          rw [sm_one (i := i) hi fun i' hi' hne => if_neg fun e => hne ((O q).inj hi' hi (e.trans ei.symm)), if_pos ei]
        have v2 : val p j = 0 := sm_z fun i' hi' => if_neg fun e => hnp ⟨i', hi', e⟩
        have v3 : (f q).T i (n + m) = 0 := by
          rw [← v1, vc' q j q1 (by omega), ← vc' p j p1 (by omega), v2]
        have h6 := (V q).min i hi h2
        have h7 : (f q).T i (n + m) / (f q).T i (E q) = 0 := by rw [v3]; grind
        rw [h7, deg q q1 q2] at h6
        have h8 : (0 : Rat) / (f q).T (L q) (E q) = 0 := by grind
        rw [h8] at h6
        rcases h6 with h6 | ⟨_, h6⟩
        · exact absurd h6 (by decide)
        · rw [q3, ei] at h6
          omega
    · have d1 : dv m (f q) (E q) j = 0 := by
        unfold dv
        rw [if_neg ej, sm_z fun i hi => if_neg fun e => hb ⟨i, hi, e⟩]
        grind
      rw [d1] at jp
      grind

/-! # how great the parts of a tableau become -/
/-- any exchange over a part that is not nought -/
structure Ok0 (m n : Nat) (A S : Tb) : Prop where
  hN : ∀ i, i < m → S.h i ≤ n + m
  one : ∀ i, i < m → S.T i (S.h i) = 1
  zer : ∀ i k, i < m → k < m → i ≠ k → S.T k (S.h i) = 0
  up : ∀ i j, i < m → j ≤ n + m → S.T i j = sm m fun k => S.T i (n + k) * A.T k j
  dn : ∀ k j, k < m → j ≤ n + m → A.T k j = sm m fun i => A.T k (S.h i) * S.T i j
theorem Ok.o0 {m n : Nat} {A S : Tb} (O : Ok m n A S) : Ok0 m n A S := ⟨fun i hi => Nat.le_of_lt (O.hN i hi), O.one, O.zer, O.up, O.dn⟩
theorem Ok0.ex {m n : Nat} {A S : Tb} (O : Ok0 m n A S) {a s : Nat} (ha : a ≤ n + m) (hs : s < m) (hp : S.T s a ≠ 0) : Ok0 m n A (S.ex a s) := by
  refine ⟨fun i hi => ?_, fun i hi => ?_, fun i k hi hk hne => ?_, fun i j hi hj => ?_, fun k j hk hj => ?_⟩
  · show (if i = s then a else S.h i) ≤ n + m
    split
    · exact ha
    · exact O.hN i hi
  · show (if i = s then S.T s (if i = s then a else S.h i) / S.T s a else S.T i (if i = s then a else S.h i) - S.T i a * (S.T s (if i = s then a else S.h i) / S.T s a)) = 1
    by_cases e : i = s
    · rw [if_pos e, if_pos e]; exact rdiv_self hp
    · rw [if_neg e, if_neg e, O.one i hi, O.zer i s hi hs e]; grind
  · show (if k = s then S.T s (if i = s then a else S.h i) / S.T s a else S.T k (if i = s then a else S.h i) - S.T k a * (S.T s (if i = s then a else S.h i) / S.T s a)) = 0
    by_cases e : k = s
    · subst e
      rw [if_pos rfl, if_neg hne, O.zer i k hi hk hne]; grind
    · rw [if_neg e]
      by_cases e2 : i = s
      · rw [if_pos e2, rdiv_self hp]; grind
      · rw [if_neg e2, O.zer i k hi hk hne, O.zer i s hi hs e2]; grind
  · show (if i = s then S.T s j / S.T s a else S.T i j - S.T i a * (S.T s j / S.T s a)) = sm m fun k => (if i = s then S.T s (n + k) / S.T s a else S.T i (n + k) - S.T i a * (S.T s (n + k) / S.T s a)) * A.T k j
    by_cases e : i = s
    · rw [if_pos e, sm_congr (g := fun k => (1 / S.T s a) * (S.T s (n + k) * A.T k j)) fun k hk => by rw [if_pos e]; grind, sm_mul, ← O.up s j hs hj]
      grind
    · rw [if_neg e, sm_congr (g := fun k => S.T i (n + k) * A.T k j - (S.T i a / S.T s a) * (S.T s (n + k) * A.T k j)) fun k hk => by rw [if_neg e]; grind, sm_sub, sm_mul, ← O.up s j hs hj, ← O.up i j hi hj]
      grind
  · show A.T k j = sm m fun i => A.T k (if i = s then a else S.h i) * (if i = s then S.T s j / S.T s a else S.T i j - S.T i a * (S.T s j / S.T s a))
    have e1 := O.dn k j hk hj
    have e2 := O.dn k a hk ha
    have e3 : sm m (fun i => A.T k (if i = s then a else S.h i) * (if i = s then S.T s j / S.T s a else S.T i j - S.T i a * (S.T s j / S.T s a)) - A.T k (S.h i) * S.T i j + (S.T s j / S.T s a) * (A.T k (S.h i) * S.T i a)) = A.T k a * (S.T s j / S.T s a) := by
      rw [sm_one (i := s) hs fun i hi hne => ?_]
      · rw [if_pos rfl, if_pos rfl]
        have : (S.T s j / S.T s a) * (A.T k (S.h s) * S.T s a) = A.T k (S.h s) * S.T s j := by grind
        grind
      · rw [if_neg hne, if_neg hne]; grind
    rw [sm_add, sm_sub, sm_mul, ← e1, ← e2] at e3
    grind
/-- whole numbers among the parts -/
def IsI (x : Rat) : Prop := ∃ z : Int, x = (z : Rat)
theorem IsI.add {x y : Rat} (h : IsI x) (g : IsI y) : IsI (x + y) := by
  obtain ⟨a, rfl⟩ := h
  obtain ⟨b, rfl⟩ := g
  exact ⟨a + b, by rw [Rat.intCast_add]⟩
theorem IsI.mul {x y : Rat} (h : IsI x) (g : IsI y) : IsI (x * y) := by
  obtain ⟨a, rfl⟩ := h
  obtain ⟨b, rfl⟩ := g
  exact ⟨a * b, by rw [Rat.intCast_mul]⟩
theorem IsI.sub {x y : Rat} (h : IsI x) (g : IsI y) : IsI (x - y) := by
  obtain ⟨a, rfl⟩ := h
  obtain ⟨b, rfl⟩ := g
  exact ⟨a - b, by rw [Rat.intCast_sub]⟩
theorem IsI.of (z : Int) : IsI (z : Rat) := ⟨z, rfl⟩
theorem IsI.nat (z : Nat) : IsI (z : Rat) := ⟨(z : Int), by rw [Rat.intCast_natCast]⟩
theorem IsI.sm {n : Nat} {f : Nat → Rat} (h : ∀ i, i < n → IsI (f i)) : IsI (sm n f) := by
  induction n with
  | zero => exact ⟨0, rfl⟩
  | succ n ih => exact (ih fun i hi => h i (by omega)).add (h n (by omega))
theorem sm_le {n : Nat} {f : Nat → Rat} {c : Rat} (h : ∀ i, i < n → f i ≤ c) : sm n f ≤ n * c := by
  induction n with
  | zero => unfold sm; grind
  | succ n ih =>
    unfold sm
    have h1 := ih fun i hi => h i (by omega)
    have h2 := h n (by omega)
    have e : ((n + 1 : Nat) : Rat) = n + 1 := by rw [Rat.natCast_add]; rfl
    rw [e]
    grind
theorem part_le {a r M : Rat} (h1 : a ≤ M) (h2 : -M ≤ a) (r0 : 0 ≤ r) (r1 : r ≤ 1) : a * r ≤ M ∧ -M ≤ a * r := by
  have e1 : 0 ≤ (M - a) * r := Rat.mul_nonneg (by grind) r0
  have e2 : 0 ≤ (M + a) * r := Rat.mul_nonneg (by grind) r0
  have e3 : 0 ≤ M := by grind
  have e4 : 0 ≤ M * (1 - r) := Rat.mul_nonneg e3 (by grind)
  grind
/-- G times the first tableau is whole, no greater than M -/
structure Whole (m n : Nat) (A : Tb) (G M : Nat) : Prop where
  g0 : 0 < G
  int : ∀ k j, k < m → j ≤ n + m → IsI ((G : Rat) * A.T k j)
  le : ∀ k j, k < m → j ≤ n + m → (G : Rat) * A.T k j ≤ M ∧ -(M : Rat) ≤ (G : Rat) * A.T k j
theorem Ok0.left {m n : Nat} {A S : Tb} (O : Ok0 m n A S) {c : Nat → Rat} (h : ∀ k, k < m → sm m (fun i => A.T k (S.h i) * c i) = 0) : ∀ i, i < m → c i = 0 := by
  intro i hi
  have e1 : sm m (fun k => S.T i (n + k) * sm m fun q => A.T k (S.h q) * c q) = 0 := sm_z fun k hk => by rw [h k hk]; grind
  have e2 : sm m (fun k => S.T i (n + k) * sm m fun q => A.T k (S.h q) * c q) = sm m fun q => S.T i (S.h q) * c q := by
    rw [sm_congr (g := fun k => sm m fun q => S.T i (n + k) * A.T k (S.h q) * c q) fun k hk => ?_, sm_comm]
    · refine sm_congr fun q hq => ?_
      rw [O.up i (S.h q) hi (O.hN q hq), Rat.mul_comm, ← sm_mul]
      exact sm_congr fun k hk => by grind
    · rw [← sm_mul]
      exact sm_congr fun q hq => by grind
  rw [e2, sm_one (i := i) hi fun q hq hne => by rw [O.zer q i hq hi hne]; grind, O.one i hi] at e1
  grind
def Kb (m M : Nat) : Nat := (2 * (m * M) + 1) ^ m
theorem fl_int {x : Rat} (h : IsI x) : (x.floor : Rat) = x := by
  obtain ⟨z, rfl⟩ := h
  rw [Rat.floor_intCast]
/-- one factor makes a column whole -/
theorem Ok0.den {m n : Nat} {A S : Tb} (O : Ok0 m n A S) {G M : Nat} (W : Whole m n A G M) {j : Nat} (hj : j ≤ n + m) : ∃ d : Nat, 0 < d ∧ d ≤ Kb m M ∧ ∀ i, i < m → IsI ((d : Rat) * S.T i j) := by
  let r : Nat → Nat → Rat := fun t i => (t : Rat) * S.T i j - (((t : Rat) * S.T i j).floor : Rat)
  have r0 : ∀ t i, 0 ≤ r t i := fun t i => by
    have := Rat.floor_le ((t : Rat) * S.T i j)
    show 0 ≤ (t : Rat) * S.T i j - (((t : Rat) * S.T i j).floor : Rat)
    grind
  have r1 : ∀ t i, r t i ≤ 1 := fun t i => by
    have := Rat.lt_floor (x := (t : Rat) * S.T i j)
    show (t : Rat) * S.T i j - (((t : Rat) * S.T i j).floor : Rat) ≤ 1
    grind
  let w : Nat → Nat → Rat := fun t k => sm m fun i => ((G : Rat) * A.T k (S.h i)) * r t i
  have wi : ∀ t k, k < m → IsI (w t k) := fun t k hk => by
    have e : w t k = (t : Rat) * ((G : Rat) * A.T k j) - sm m fun i => ((G : Rat) * A.T k (S.h i)) * (((t : Rat) * S.T i j).floor : Rat) := by
      show sm m (fun i => ((G : Rat) * A.T k (S.h i)) * ((t : Rat) * S.T i j - (((t : Rat) * S.T i j).floor : Rat))) = _
      rw [sm_congr (g := fun i => ((t : Rat) * G) * (A.T k (S.h i) * S.T i j) - ((G : Rat) * A.T k (S.h i)) * (((t : Rat) * S.T i j).floor : Rat)) fun i hi => by grind, sm_sub, sm_mul, ← O.dn k j hk hj]
      grind
    rw [e]
    exact ((IsI.nat t).mul (W.int k j hk hj)).sub (IsI.sm fun i hi => (W.int k _ hk (O.hN i hi)).mul (.of _))
  have wb : ∀ t k, k < m → w t k ≤ m * M ∧ -((m : Rat) * M) ≤ w t k := fun t k hk => by
    constructor
    · exact sm_le fun i hi => (part_le (W.le k _ hk (O.hN i hi)).1 (W.le k _ hk (O.hN i hi)).2 (r0 t i) (r1 t i)).1
    · have := sm_le (n := m) (f := fun i => 0 - ((G : Rat) * A.T k (S.h i)) * r t i) (c := M) fun i hi => by
        have := (part_le (W.le k _ hk (O.hN i hi)).1 (W.le k _ hk (O.hN i hi)).2 (r0 t i) (r1 t i)).2
        grind
      rw [sm_sub, sm_zero] at this
      have e : w t k = sm m fun i => ((G : Rat) * A.T k (S.h i)) * r t i := rfl
      grind
  -- w as a natural number
  let c : Nat → Nat → Nat := fun t k => ((w t k).floor + (m * M : Nat)).toNat
  have cz : ∀ t k, k < m → (w t k).floor ≤ (m * M : Nat) ∧ -((m * M : Nat) : Int) ≤ (w t k).floor := fun t k hk => by
    have h1 := fl_int (wi t k hk)
    have h2 := wb t k hk
    have e : ((m : Rat) * M) = (((m * M : Nat) : Int) : Rat) := by rw [Rat.intCast_natCast, Rat.natCast_mul]
    rw [e, ← h1] at h2
    constructor
    · exact Rat.intCast_le_intCast.mp h2.1
    · have := h2.2
      rw [← Rat.intCast_neg] at this
      exact Rat.intCast_le_intCast.mp this
  have cl : ∀ t k, k < m → c t k < 2 * (m * M) + 1 := fun t k hk => by
    have := cz t k hk
    show ((w t k).floor + (m * M : Nat)).toNat < _
    omega
  obtain ⟨t1, t2, ht, hb, hc⟩ := pigeon (Kb m M) (fun t => code (2 * (m * M) + 1) (c t) m) fun t _ => code_lt (cl t)
  have ce := code_inj (cl t1) (cl t2) hc
  have we : ∀ k, k < m → w t1 k = w t2 k := fun k hk => by
    have h1 := cz t1 k hk
    have h2 := cz t2 k hk
    have h3 : ((w t1 k).floor + (m * M : Nat)).toNat = ((w t2 k).floor + (m * M : Nat)).toNat := ce k hk
    have h4 : (w t1 k).floor = (w t2 k).floor := by omega
    rw [← fl_int (wi t1 k hk), ← fl_int (wi t2 k hk), h4]
  have g0 : (G : Rat) ≠ 0 := fun z => by
    have := W.g0
    have : G = 0 := by
      have := Rat.natCast_inj.mp (show ((G : Nat) : Rat) = ((0 : Nat) : Rat) from z)
      exact this
    omega
  have re : ∀ i, i < m → r t2 i - r t1 i = 0 := O.left (c := fun i => r t2 i - r t1 i) fun k hk => by
    have h1 := we k hk
    have h2 : w t2 k - w t1 k = (G : Rat) * sm m fun i => A.T k (S.h i) * (r t2 i - r t1 i) := by
      show sm m (fun i => ((G : Rat) * A.T k (S.h i)) * r t2 i) - sm m (fun i => ((G : Rat) * A.T k (S.h i)) * r t1 i) = _
      rw [← sm_sub, ← sm_mul]
      exact sm_congr fun i hi => by grind
    have h3 : (G : Rat) * sm m (fun i => A.T k (S.h i) * (r t2 i - r t1 i)) = 0 := by rw [← h2, h1]; grind
    exact (Rat.mul_eq_zero.mp h3).resolve_left g0
  refine ⟨t2 - t1, by omega, by omega, fun i hi => ?_⟩
  have h1 := re i hi
  have h2 : ((t2 - t1 : Nat) : Rat) = (t2 : Rat) - t1 := by
    have : t2 = t1 + (t2 - t1) := by omega
    have e : (t2 : Rat) = ((t1 + (t2 - t1) : Nat) : Rat) := by rw [← this]
    rw [e, Rat.natCast_add]
    grind
  have h3 : (t2 : Rat) * S.T i j - (((t2 : Rat) * S.T i j).floor : Rat) - ((t1 : Rat) * S.T i j - (((t1 : Rat) * S.T i j).floor : Rat)) = 0 := h1
  have h4 : ((t2 - t1 : Nat) : Rat) * S.T i j = (((t2 : Rat) * S.T i j).floor : Rat) - (((t1 : Rat) * S.T i j).floor : Rat) := by rw [h2]; grind
  rw [h4]
  exact (IsI.of _).sub (.of _)

theorem den_of {d : Nat} {x : Rat} (hd : 0 < d) (h : IsI ((d : Rat) * x)) : x.den ≤ d := by
  obtain ⟨z, e⟩ := h
  have n0 : ((d : Int) : Rat) ≠ 0 := fun w => by
    rw [Rat.intCast_eq_zero_iff] at w
    omega
  have e2 : (d : Rat) = ((d : Int) : Rat) := by rw [Rat.intCast_natCast]
  have ex : x = (z : Rat) / ((d : Int) : Rat) := by
    rw [e2] at e
    grind
  rw [ex]
  exact (parts_le (a := z) (b := (d : Int)) (by omega)).2
theorem den_inv {x : Rat} (h : x ≠ 0) : x.num.natAbs = (1 / x).den := by
  have e1 : 1 / x = x⁻¹ := by grind
  rw [e1]
  have e2 := Rat.num_inv x⁻¹
  rw [Rat.inv_inv] at e2
  rw [e2, Int.natAbs_mul]
  have hs : x⁻¹.num ≠ 0 := fun z => by
    have : x⁻¹ = 0 := Rat.num_eq_zero.mp z
    have : x = 0 := by rw [← Rat.inv_inv x, this]; exact Rat.inv_zero
    exact h this
  have : x⁻¹.num.sign.natAbs = 1 := Int.natAbs_sign_of_ne_zero hs
  rw [this]
  simp
theorem Ok0.szd {m n : Nat} {A S : Tb} (O : Ok0 m n A S) {G M : Nat} (W : Whole m n A G M) {i j : Nat} (hi : i < m) (hj : j ≤ n + m) : (S.T i j).den ≤ Kb m M := by
  obtain ⟨d, d0, d1, h⟩ := O.den W hj
  exact Nat.le_trans (den_of d0 (h i hi)) d1
theorem Kb_pos (m M : Nat) : 0 < Kb m M := Nat.pow_pos (by omega)
theorem Ok0.szn {m n : Nat} {A S : Tb} (O : Ok0 m n A S) {G M : Nat} (W : Whole m n A G M) {i j : Nat} (hi : i < m) (hj : j ≤ n + m) : (S.T i j).num.natAbs ≤ Kb m M := by
  by_cases h : S.T i j = 0
  · rw [h]
    show (0 : Int).natAbs ≤ _
    simp
  · rw [den_inv h]
    have O' := O.ex hj hi h
    have e : (S.ex j i).T i (S.h i) = 1 / S.T i j := by
      show (if i = i then S.T i (S.h i) / S.T i j else _) = _
      rw [if_pos rfl, O.one i hi]
    rw [← e]
    exact O'.szd W hi (O.hN i hi)
theorem Ok.gd {m n : Nat} {A S : Tb} (O : Ok m n A S) {j : Nat} (hj : j ≤ n + m) : S.g j = A.g j - sm m fun i => A.g (S.h i) * S.T i j := by
  have e : sm m (fun k => S.g (n + k) * A.T k j) = sm m fun i => (S.g (S.h i) - A.g (S.h i)) * S.T i j := by
    rw [sm_congr (g := fun k => sm m fun q => S.g (n + k) * A.T k (S.h q) * S.T q j) fun k hk => ?_, sm_comm]
    · refine sm_congr fun q hq => ?_
      have h1 := O.gu (S.h q) (Nat.le_of_lt (O.hN q hq))
      have h2 : sm m (fun k => S.g (n + k) * A.T k (S.h q)) = S.g (S.h q) - A.g (S.h q) := by grind
      rw [← h2, Rat.mul_comm, ← sm_mul]
      exact sm_congr fun k hk => by grind
    · rw [O.dn k j hk hj, ← sm_mul]
      exact sm_congr fun q hq => by grind
  rw [O.gu j hj, e, sm_congr (g := fun i => 0 - A.g (S.h i) * S.T i j) fun i hi => by rw [O.gz i hi]; grind, sm_sub, sm_zero]
  grind
theorem abs_num {x : Rat} {c D : Nat} (h1 : x ≤ c) (h2 : -(c : Rat) ≤ x) (hd : x.den ≤ D) : x.num.natAbs ≤ c * D := by
  have hp := den_pos x
  have e := rat_parts x
  have hn : (x.num : Rat) = x * ((x.den : Int) : Rat) := by
    have := den_ne x
    grind
  have dp : (0 : Rat) ≤ ((x.den : Int) : Rat) := by
    have := Rat.intCast_le_intCast.mpr (Int.le_of_lt hp)
    exact this
  have e3 : (c : Rat) = ((c : Int) : Rat) := by rw [Rat.intCast_natCast]
  have u1 : x.num ≤ c * x.den := by
    have := Rat.mul_le_mul_of_nonneg_right h1 dp
    rw [← hn, e3, ← Rat.intCast_mul] at this
    exact Rat.intCast_le_intCast.mp this
  have u2 : -(c * x.den : Int) ≤ x.num := by
    have := Rat.mul_le_mul_of_nonneg_right h2 dp
    rw [← hn, e3, ← Rat.intCast_neg, ← Rat.intCast_mul] at this
    have := Rat.intCast_le_intCast.mp this
    rw [Int.neg_mul] at this
    exact this
  have u3 : c * x.den ≤ c * D := Nat.mul_le_mul_left c hd
  have u4 : ((c * x.den : Nat) : Int) = (c : Int) * x.den := by rw [Int.natCast_mul]
  omega
theorem num_abs {x : Rat} {c : Nat} (h : x.num.natAbs ≤ c) : x ≤ c ∧ -(c : Rat) ≤ x := by
  have hp := den_pos x
  have hn : x.num = x * ((x.den : Int) : Rat) := by
    have := den_ne x
    have e := rat_parts x
    grind
  have e3 : (c : Rat) = ((c : Int) : Rat) := by rw [Rat.intCast_natCast]
  have c0 : (0 : Rat) ≤ c := Rat.natCast_nonneg
  have d1 : (1 : Rat) ≤ ((x.den : Int) : Rat) := Rat.intCast_le_intCast.mpr (show (1 : Int) ≤ _ by omega)
  have a1 : (x.num : Rat) ≤ c := by rw [e3]; exact Rat.intCast_le_intCast.mpr (by omega)
  have a2 : -(c : Rat) ≤ (x.num : Rat) := by rw [e3, ← Rat.intCast_neg]; exact Rat.intCast_le_intCast.mpr (by omega)
  constructor
  · refine Rat.not_lt.mp fun h => ?_
    have h3 : 0 < (x - c) * ((x.den : Int) : Rat) := Rat.mul_pos (by grind) (by grind)
    have h4 : 0 ≤ (c : Rat) * (((x.den : Int) : Rat) - 1) := Rat.mul_nonneg c0 (by grind)
    grind
  · refine Rat.not_lt.mp fun h => ?_
    have h3 : 0 < (-(c : Rat) - x) * ((x.den : Int) : Rat) := Rat.mul_pos (by grind) (by grind)
    have h4 : 0 ≤ (c : Rat) * (((x.den : Int) : Rat) - 1) := Rat.mul_nonneg c0 (by grind)
    grind
/-- the gains of the first tableau are noughts and ones -/
def G01 (A : Tb) : Prop := ∀ j, A.g j = 0 ∨ A.g j = 1
theorem Ok.szg {m n : Nat} {A S : Tb} (O : Ok m n A S) {G M : Nat} (W : Whole m n A G M) (g01 : G01 A) {j : Nat} (hj : j ≤ n + m) : (S.g j).den ≤ Kb m M ∧ (S.g j).num.natAbs ≤ (m * Kb m M + 1) * Kb m M := by
  have gi : ∀ j, IsI (A.g j) := fun j => by
    rcases g01 j with h | h <;> rw [h]
    · exact ⟨0, rfl⟩
    · exact ⟨1, rfl⟩
  have hd : (S.g j).den ≤ Kb m M := by
    obtain ⟨d, d0, d1, h⟩ := O.o0.den W hj
    refine Nat.le_trans (den_of d0 ?_) d1
    rw [O.gd hj]
    have : (d : Rat) * (A.g j - sm m fun i => A.g (S.h i) * S.T i j) = (d : Rat) * A.g j - sm m fun i => A.g (S.h i) * ((d : Rat) * S.T i j) := by
      have e5 : sm m (fun i => A.g (S.h i) * ((d : Rat) * S.T i j)) = (d : Rat) * sm m fun i => A.g (S.h i) * S.T i j := by
        rw [← sm_mul]
        exact sm_congr fun i hi => by grind
      rw [e5]
      grind
    rw [this]
    exact ((IsI.nat d).mul (gi j)).sub (IsI.sm fun i hi => (gi _).mul (h i hi))
  have kp : (0 : Rat) ≤ (Kb m M : Nat) := Rat.natCast_nonneg
  have bt : ∀ i, i < m → A.g (S.h i) * S.T i j ≤ (Kb m M : Nat) ∧ -((Kb m M : Nat) : Rat) ≤ A.g (S.h i) * S.T i j := fun i hi => by
    have := num_abs (O.o0.szn W hi hj)
    rcases g01 (S.h i) with h | h <;> rw [h] <;> grind
  have u1 := sm_le fun i hi => (bt i hi).1
  have u2 := sm_le (n := m) (f := fun i => 0 - A.g (S.h i) * S.T i j) (c := ((Kb m M : Nat) : Rat)) fun i hi => by have := (bt i hi).2; grind
  rw [sm_sub, sm_zero] at u2
  have eg := O.gd hj
  have cast : ((m * Kb m M + 1 : Nat) : Rat) = (m : Rat) * (Kb m M : Nat) + 1 := by rw [Rat.natCast_add, Rat.natCast_mul]; rfl
  have b1 : S.g j ≤ ((m * Kb m M + 1 : Nat) : Rat) := by
    rw [cast]
    rcases g01 j with h | h <;> rw [h] at eg <;> grind
  have b2 : -((m * Kb m M + 1 : Nat) : Rat) ≤ S.g j := by
    rw [cast]
    rcases g01 j with h | h <;> rw [h] at eg <;> grind
  exact ⟨hd, abs_num b1 b2 hd⟩
/-! ### the run ends -/
def Stp (m n : Nat) (S' S : Tb) : Prop := ∃ a s, Co m n S a ∧ Lv m n S a s ∧ S' = S.ex a s
theorem stp_acc {m n : Nat} {A S : Tb} (O : Ok m n A S) : Acc (Stp m n) S := by
  refine Classical.byContradiction fun hna => ?_
  have nxt : ∀ x : {S : Tb // Ok m n A S ∧ ¬Acc (Stp m n) S}, ∃ y : {S : Tb // Ok m n A S ∧ ¬Acc (Stp m n) S}, Stp m n y.1 x.1 := fun ⟨S, O, h⟩ => by
    have : ∃ S', Stp m n S' S ∧ ¬Acc (Stp m n) S' := by
      refine Classical.byContradiction fun hno => h (.intro S fun S' hs => ?_)
      exact Classical.byContradiction fun hn => hno ⟨S', hs, hn⟩
    obtain ⟨S', hs, hn⟩ := this
    have O' : Ok m n A S' := by
      obtain ⟨a, s, C, V, rfl⟩ := hs
      exact O.ex C.lt V
    exact ⟨⟨S', O', hn⟩, hs⟩
  let step := fun x => Classical.choose (nxt x)
  have hstep := fun x => Classical.choose_spec (nxt x)
  let f : Nat → {S : Tb // Ok m n A S ∧ ¬Acc (Stp m n) S} := fun p => Nat.rec ⟨S, O, hna⟩ (fun _ x => step x) p
  have hf : ∀ p, Stp m n (f (p + 1)).1 (f p).1 := fun p => hstep (f p)
  exact no_chain (fun p => (f p).1) (fun p => Classical.choose (hf p)) (fun p => Classical.choose (Classical.choose_spec (hf p))) (fun p => (f p).2.1)
    (fun p => (Classical.choose_spec (Classical.choose_spec (hf p))).1) (fun p => (Classical.choose_spec (Classical.choose_spec (hf p))).2.1) (fun p => (Classical.choose_spec (Classical.choose_spec (hf p))).2.2)

/-! # what the last tableau shows -/
/-- the value of a name -/
def xv (m n : Nat) (S : Tb) (j : Nat) : Rat := sm m fun i => if S.h i = j then S.T i (n + m) else 0
section
variable {m n : Nat} {A S : Tb}
theorem xv_nonneg (O : Ok m n A S) (j : Nat) : 0 ≤ xv m n S j := sm_nonneg fun i hi => by
  split
  · exact O.rhs i hi
  · exact Rat.le_refl
theorem xv_held (O : Ok m n A S) {i : Nat} (hi : i < m) : xv m n S (S.h i) = S.T i (n + m) := by
  unfold xv
  rw [sm_one (i := i) hi fun k hk hne => if_neg fun e => hne (O.inj hk hi e), if_pos rfl]
theorem xv_other {j : Nat} (h : ∀ i, i < m → S.h i ≠ j) : xv m n S j = 0 := sm_z fun i hi => if_neg (h i hi)
theorem sm_xv (O : Ok m n A S) (f : Nat → Rat) : sm (n + m) (fun j => f j * xv m n S j) = sm m fun i => f (S.h i) * S.T i (n + m) := by
  unfold xv
  rw [sm_congr (g := fun j => sm m fun i => f j * (if S.h i = j then S.T i (n + m) else 0)) fun j hj => by rw [sm_mul], sm_comm]
  refine sm_congr fun i hi => ?_
  rw [sm_one (i := S.h i) (O.hN i hi) fun j hj hne => by rw [if_neg (Ne.symm hne)]; grind, if_pos rfl]
theorem sm_split (f : Nat → Rat) (n : Nat) : ∀ m, sm (n + m) f = sm n f + sm m fun k => f (n + k)
  | 0 => by
    show sm n f = sm n f + 0
    grind
  | m + 1 => by
    show sm (n + m) f + f (n + m) = sm n f + (sm m (fun k => f (n + k)) + f (n + m))
    rw [sm_split f n m]
    grind
/-- the first rows hold of the values -/
theorem xv_row (O : Ok m n A S) {k : Nat} (hk : k < m) : sm (n + m) (fun j => A.T k j * xv m n S j) = A.T k (n + m) := by
  rw [sm_xv O, ← O.dn k (n + m) hk (Nat.le_refl _)]
theorem first_slack (F : Fresh m n A) {k : Nat} (hk : k < m) (f : Nat → Rat) : sm (n + m) (fun j => A.T k j * f j) = sm n (fun j => A.T k j * f j) + f (n + k) := by
  rw [sm_split]
  congr 1
  rw [sm_one (i := k) hk fun i hi hne => by rw [F.zer i k hi hk hne]; grind, F.one k hk]
  grind
/-- the values keep the bounds -/
theorem xv_fits (F : Fresh m n A) (O : Ok m n A S) {k : Nat} (hk : k < m) : sm n (fun j => A.T k j * xv m n S j) + xv m n S (n + k) = A.T k (n + m) := by
  rw [← first_slack F hk, xv_row O hk]
theorem first_gain (F : Fresh m n A) (f : Nat → Rat) : sm (n + m) (fun j => A.g j * f j) = sm n fun j => A.g j * f j := by
  rw [sm_split, sm_z (f := fun k => A.g (n + k) * f (n + k)) fun k hk => by rw [F.gz k hk]; grind]
  grind
/-- what the values gain -/
theorem xv_gain (F : Fresh m n A) (O : Ok m n A S) (g0 : A.g (n + m) = 0) : S.g (n + m) = - sm n fun j => A.g j * xv m n S j := by
  rw [O.gd (Nat.le_refl _), g0, ← first_gain F, sm_xv O]
  grind
/-- the prices -/
def pr (n : Nat) (S : Tb) (k : Nat) : Rat := - S.g (n + k)
theorem pr_row (O : Ok m n A S) {j : Nat} (hj : j ≤ n + m) : S.g j = A.g j - sm m fun k => pr n S k * A.T k j := by
  rw [O.gu j hj]
  unfold pr
  rw [sm_congr (f := fun k => - S.g (n + k) * A.T k j) (g := fun k => 0 - S.g (n + k) * A.T k j) fun k hk => by grind, sm_sub, sm_zero]
  grind
/-- no name would gain -/
def Best (m n : Nat) (S : Tb) : Prop := ∀ j, j < n + m → S.g j ≤ 0
theorem pr_nonneg (B : Best m n S) {k : Nat} (hk : k < m) : 0 ≤ pr n S k := by
  have := B (n + k) (by omega)
  unfold pr
  grind
theorem pr_fits (O : Ok m n A S) (B : Best m n S) {j : Nat} (hj : j < n + m) : A.g j ≤ sm m fun k => pr n S k * A.T k j := by
  have h1 := pr_row O (Nat.le_of_lt hj)
  have h2 := B j hj
  grind
/-- what the prices come to is what the values gain -/
theorem pr_all (F : Fresh m n A) (O : Ok m n A S) (g0 : A.g (n + m) = 0) : (sm m fun k => pr n S k * A.T k (n + m)) = sm n fun j => A.g j * xv m n S j := by
  have h1 := pr_row O (Nat.le_refl (n + m))
  have h2 := xv_gain F O g0
  rw [g0] at h1
  grind
/-- a name that has a value has no gain -/
theorem slack_zero (O : Ok m n A S) {j : Nat} (h : S.g j ≠ 0) : xv m n S j = 0 := xv_other fun i hi e => h (by rw [← e]; exact O.gz i hi)
/-! no end of gaining -/
theorem grow_nonneg (O : Ok m n A S) {a : Nat} (C : Co m n S a) (hn : ∀ i, i < m → S.T i a ≤ 0) (j : Nat) : 0 ≤ dv m S a j := by
  unfold dv
  have h1 : 0 ≤ sm m fun i => 0 - if S.h i = j then S.T i a else 0 := sm_nonneg fun i hi => by
    have := hn i hi
    split <;> grind
  rw [sm_sub, sm_zero] at h1
  split <;> grind
theorem grow_fits (F : Fresh m n A) (O : Ok m n A S) {a : Nat} (C : Co m n S a) (hn : ∀ i, i < m → S.T i a ≤ 0) {k : Nat} (hk : k < m) : sm n (fun j => A.T k j * dv m S a j) ≤ 0 := by
  have h1 := dv_first O C.lt hk
  rw [first_slack F hk] at h1
  have h2 := grow_nonneg O C hn (n + k)
  grind
theorem grow_gain (F : Fresh m n A) (O : Ok m n A S) {a : Nat} (C : Co m n S a) : sm n (fun j => A.g j * dv m S a j) = S.g a := by
  rw [← first_gain F, dv_gain O F.ok C.lt]
end

open PySem PySem.Spec PyProof.Rows L2
open PySem.W (minD maxD)
/-! ### the program's fractions -/
theorem minus_w {p q : Rat} (hp : Sz 4000 p) (hq : Sz 4000 q) (τ : Tp) : S_minus [.d (frD p), .d (frD q)] τ = some (frD (p - q), τ) := by
  refine wpC_eq ?_
  unfold S_minus
  have m1 := msz (i := p.num) (j := (q.den : Int)) hp.num hq.den
  have m2 := msz (i := q.num) (j := (p.den : Int)) hq.num hp.den
  have m3 := msz (i := (p.den : Int)) (j := (q.den : Int)) hp.den hq.den
  wtm_at "ev_st"
  refine wpC_of (fraction_w (dpos p q) (dsz hp hq) _) ?_
  wtm_at "ev_st"
  rw [rsub]
  exact ⟨rfl, rfl⟩
theorem plus_w {p q : Rat} (hp : Sz 4000 p) (hq : Sz 4000 q) (τ : Tp) : S_plus [.d (frD p), .d (frD q)] τ = some (frD (p + q), τ) := by
  refine wpC_eq ?_
  unfold S_plus
  have m1 := msz (i := p.num) (j := (q.den : Int)) hp.num hq.den
  have m2 := msz (i := q.num) (j := (p.den : Int)) hq.num hp.den
  have m3 := msz (i := (p.den : Int)) (j := (q.den : Int)) hp.den hq.den
  wtm_at "ev_st"
  refine wpC_of (fraction_w (dpos p q) (dsz hp hq) _) ?_
  wtm_at "ev_st"
  rw [radd]
  exact ⟨rfl, rfl⟩
theorem times_w {p q : Rat} (hp : Sz 4000 p) (hq : Sz 4000 q) (τ : Tp) : S_times [.d (frD p), .d (frD q)] τ = some (frD (p * q), τ) := by
  refine wpC_eq ?_
  unfold S_times
  have m1 := msz (i := p.num) (j := q.num) hp.num hq.num
  have m3 := msz (i := (p.den : Int)) (j := (q.den : Int)) hp.den hq.den
  wtm_at "ev_st"
  refine wpC_of (fraction_w (dpos p q) (dsz hp hq) _) ?_
  wtm_at "ev_st"
  rw [rmul]
  exact ⟨rfl, rfl⟩
theorem rover {p q : Rat} (h : 0 < q.num) : ((p.num * (q.den : Int) : Int) : Rat) / ((((p.den : Int) * q.num : Int)) : Rat) = p / q := by
  have h1 := den_ne p
  have h2 := den_ne q
  have e1 := rat_parts p
  have e2 := rat_parts q
  have h3 : ((q.num : Int) : Rat) ≠ 0 := fun z => by
    rw [Rat.intCast_eq_zero_iff] at z
    omega
  rw [Rat.intCast_mul, Rat.intCast_mul]
  have e3 : p / q = ((p.num : Rat) / ((p.den : Int) : Rat)) / ((q.num : Rat) / ((q.den : Int) : Rat)) := by rw [← e1, ← e2]
  rw [e3]
  grind
theorem rnum_pos {q : Rat} : 0 < q.num ↔ 0 < q := by
  constructor
  · intro h
    refine Rat.not_le.mp fun hle => ?_
    have h1 : 0 ≤ -q := by grind
    have h2 := Rat.num_nonneg.mpr h1
    rw [Rat.neg_num] at h2
    omega
  · intro h
    have h1 := Rat.num_nonneg.mpr (Rat.le_of_lt h)
    have h2 : q.num ≠ 0 := fun z => by
      have := Rat.num_eq_zero.mp z
      rw [this] at h
      exact absurd h (by decide)
    omega
theorem over_w' {p q : Rat} (hp : Sz 4000 p) (hq : Sz 4000 q) (h : 0 < q) (τ : Tp) : S_over [.d (frD p), .d (frD q)] τ = some (frD (p / q), τ) := by
  have hn : 0 < q.num := rnum_pos.mpr h
  refine wpC_eq ?_
  unfold S_over
  have m1 := msz (i := p.num) (j := (q.den : Int)) hp.num hq.den
  have m2 := msz (i := (p.den : Int)) (j := q.num) hp.den hq.num
  have hz : ((p.den : Int) * q.num).natAbs < 2 ^ 9000 := by
    rw [Int.natAbs_mul]
    have h1 : ((p.den : Int)).natAbs < 2 ^ 4000 := hp.den
    have h3 : ((p.den : Int)).natAbs * q.num.natAbs < 2 ^ 4000 * 2 ^ 4000 := Nat.mul_lt_mul'' h1 hq.num
    rw [← Nat.pow_add] at h3
    exact Nat.lt_of_lt_of_le h3 (Nat.pow_le_pow_right (by decide) (by decide))
  wtm_at "ev_st"
  refine wpC_of (fraction_w (Int.mul_pos (den_pos p) hn) hz _) ?_
  wtm_at "ev_st"
  rw [rover hn]
  exact ⟨rfl, rfl⟩
theorem lt_cross (p q : Rat) : decide (p.num * (q.den : Int) < q.num * (p.den : Int)) = decide (p < q) := by
  congr 1
  apply propext
  have h1 := den_pos p
  have h2 := den_pos q
  have d1 : (0 : Rat) < ((p.den : Int) : Rat) := Rat.intCast_lt_intCast.mpr h1
  have d2 : (0 : Rat) < ((q.den : Int) : Rat) := Rat.intCast_lt_intCast.mpr h2
  have e1 := rat_parts p
  have e2 := rat_parts q
  have n1 := den_ne p
  have n2 := den_ne q
  have f1 : (p.num : Rat) = p * ((p.den : Int) : Rat) := by grind
  have f2 : (q.num : Rat) = q * ((q.den : Int) : Rat) := by grind
  have key : ((q.num * (p.den : Int) : Int) : Rat) - ((p.num * (q.den : Int) : Int) : Rat) = (q - p) * (((p.den : Int) : Rat) * ((q.den : Int) : Rat)) := by
    rw [Rat.intCast_mul, Rat.intCast_mul, f1, f2]
    grind
  have dd : (0 : Rat) < ((p.den : Int) : Rat) * ((q.den : Int) : Rat) := Rat.mul_pos d1 d2
  constructor
  · intro h
    refine Rat.not_le.mp fun hle => ?_
    have h3 : 0 ≤ (p - q) * (((p.den : Int) : Rat) * ((q.den : Int) : Rat)) := Rat.mul_nonneg (by grind) (Rat.le_of_lt dd)
    have h4 := Rat.intCast_lt_intCast.mpr h
    grind
  · intro h
    have h3 : 0 < (q - p) * (((p.den : Int) : Rat) * ((q.den : Int) : Rat)) := Rat.mul_pos (by grind) dd
    refine Rat.intCast_lt_intCast.mp ?_
    grind
theorem isless_w {p q : Rat} (hp : Sz 4000 p) (hq : Sz 4000 q) (τ : Tp) : S_is_less [.d (frD p), .d (frD q)] τ = some (.bool (decide (p < q)), τ) := by
  refine wpC_eq ?_
  unfold S_is_less
  have m1 := msz (i := p.num) (j := (q.den : Int)) hp.num hq.den
  have m2 := msz (i := q.num) (j := (p.den : Int)) hq.num hp.den
  wtm_at "ev_st"
  rw [lt_cross]
  exact ⟨rfl, rfl⟩
/-! ### the tableau as data -/
def rowD (N : Nat) (r : Nat → Rat) : D := .list ((List.range N).map fun j => frD (r j))
def flT (m n : Nat) (S : Tb) : List (Str × D) := [("many", .int n), ("rows", .list ((List.range m).map fun i => rowD (n + m + 1) (S.T i))), ("gain", rowD (n + m + 1) S.g), ("held", .list ((List.range m).map fun i => PyData.int (S.h i)))]
section
variable {m n : Nat} {S : Tb}
theorem fl_many : (flT m n S).lookup (PySem.Str.ofString "many") = some (.int n) := rfl
theorem fl_rows : (flT m n S).lookup (PySem.Str.ofString "rows") = some (.list ((List.range m).map fun i => rowD (n + m + 1) (S.T i))) := rfl
theorem fl_gain : (flT m n S).lookup (PySem.Str.ofString "gain") = some (rowD (n + m + 1) S.g) := rfl
theorem fl_held : (flT m n S).lookup (PySem.Str.ofString "held") = some (.list ((List.range m).map fun i => PyData.int (S.h i))) := rfl
end
theorem wpM_of {f : EvS} {N : List Str} {fl : List (Str × D)} {ws : List W} {d : D} {env : En} (he : startM N fl ws = env) (h : wpS f env [] (runK fun x _ => x = d)) : runM f N fl ws = some d := by
  rw [wpS_un] at h
  obtain ⟨o, e, q⟩ := wpO_ex h
  unfold runM
  rw [he, e]
  cases o with
  | rt x t => exact congrArg some q
  | nx x t => exact congrArg some q
  | bk x t => exact q.elim
  | ct x t => exact q.elim
theorem enum_range (f : Nat → D) : ∀ (n k : Nat), enumFrom k ((List.range n).map f) = (List.range n).map fun j => PyData.tuple [.int ((k + j : Nat) : Int), f j] := by
  intro n
  induction n generalizing f with
  | zero => intro k; rfl
  | succ n ih =>
    intro k
    rw [List.range_succ_eq_map, List.map_cons, List.map_cons, List.map_map, List.map_map]
    have := ih (fun j => f (j + 1)) (k + 1)
    show PyData.tuple [.int ((k : Nat) : Int), f 0] :: enumFrom (k + 1) ((List.range n).map fun j => f (j + 1)) = _
    rw [this]
    congr 1
    refine List.map_congr_left fun j hj => ?_
    show PyData.tuple [.int ((k + 1 + j : Nat) : Int), f (j + 1)] = PyData.tuple [.int ((k + (j + 1) : Nat) : Int), f (j + 1)]
    rw [show k + 1 + j = k + (j + 1) by omega]

open PySem PySem.Spec PyProof.Rows L2
open PySem.W (minD maxD)
theorem k_fldg {env : En} {τ : Tp} {Q : W → Tp → Prop} {i : Nat} {f : Str} {fl : List (Str × D)} {d : D} (hg : GetAt i env (.ob fl)) (hl : fl.lookup f = some d) (h : Q (.d d) τ) : wpE (eFld i f) env τ Q := k_fld hg.eq hl h
local macro_rules | `(tactic| wtm_at "ev_stE") => `(tactic| ((with_reducible show wpE (eFld _ _) _ _ _); first
  | (with_reducible refine k_fldg (by wtm_at "ev_ga") fl_many ?_)
  | (with_reducible refine k_fldg (by wtm_at "ev_ga") fl_rows ?_)
  | (with_reducible refine k_fldg (by wtm_at "ev_ga") fl_gain ?_)
  | (with_reducible refine k_fldg (by wtm_at "ev_ga") fl_held ?_)))
theorem cut_last {α : Type} (f : Nat → α) (N : Nat) : cutL ((List.range (N + 1)).map f) none (some (-1)) = (List.range N).map f := by
  unfold cutL
  have e : HT.sIx ((List.range (N + 1)).map f).length ((List.range (N + 1)).map f).length (some (-1)) = N := by
    unfold HT.sIx
    dsimp only
    rw [if_pos (by decide)]
    simp
    omega
  rw [e, HT.sIx_none, List.drop_zero, Nat.sub_zero, ← List.map_take, List.take_range, Nat.min_eq_left (Nat.le_succ N)]
/-- the first of those that pass -/
theorem first_of {p : Nat → Bool} {N a : Nat} {r : List Nat} (h : (List.range N).filter p = a :: r) : a < N ∧ p a = true ∧ ∀ j, j < a → p j = false := by
  have hm : a ∈ (List.range N).filter p := by rw [h]; simp
  obtain ⟨h1, h2⟩ := List.mem_filter.mp hm
  refine ⟨by simpa using h1, h2, fun j hj => ?_⟩
  cases hp : p j with
  | false => rfl
  | true =>
    have hs : ((List.range N).filter p).Pairwise (· < ·) := List.Pairwise.filter _ List.pairwise_lt_range
    have hjm : j ∈ (List.range N).filter p := List.mem_filter.mpr ⟨by have : a < N := by simpa using h1
                                                                      simp; omega, hp⟩
    rw [h] at hs hjm
    rw [List.pairwise_cons] at hs
    rcases List.mem_cons.mp hjm with e | e
    · omega
    · have := hs.1 j e; omega
theorem k_nenilL {env : En} {τ : Tp} {Q : W → Prop} {l : List Int} (q : Q (.d (.bool (!l.isEmpty)))) : wpO (gEqD true env τ (.d (.list (l.map PyData.int))) (.new [])) Q := by
  have e : gEqD true env τ (.d (.list (l.map PyData.int))) (.new []) = (if SeqAt.shaped (.list (l.map PyData.int)) = true ∧ SeqAt.shaped (.list []) = true then some (.d (.bool (!PyData.eqv (.list (l.map PyData.int)) (.list [])))) else none) := rfl
  have e2 : PyData.eqv (.list (l.map PyData.int)) (.list []) = l.isEmpty := by
    rw [PyData.eqv]
    cases l <;> rfl
  rw [e, if_pos ⟨shaped_ints l, rfl⟩, e2]
  exact wpO_of rfl q
theorem coming_m {m n : Nat} {S : Tb} (hN : n + m ≤ 1000) : ∃ d, M_coming (flT m n S) [] = some d ∧ ((∃ a : Nat, d = .int a ∧ Co m n S a) ∨ (d = .none ∧ Best m n S)) := by
  let p : Nat → Bool := fun j => decide (0 < (S.g j).num)
  have main : ∀ d, (∀ a r, (List.range (n + m)).filter p = a :: r → d = .int (a : Int)) → ((List.range (n + m)).filter p = [] → d = .none) → M_coming (flT m n S) [] = some d := by
    intro d h1 h2
    refine wpM_of (env := [.ob (flT m n S), .no, .no, .no]) rfl ?_
    wtm_at "ev_st"
    dsimp only
    rw [show cutL ((List.range (n + m + 1)).map fun j => frD (S.g j)) none (some (-1)) = (List.range (n + m)).map (fun j => frD (S.g j)) from cut_last _ _, enum_range]
    refine k_lcK rfl (by simp; omega) (lcw_of (lc_map (f := fun j : Nat => PyData.tuple [.int ((0 + j : Nat) : Int), frD (S.g j)]) (g := fun j : Nat => PyData.int (j : Int)) (p := p) fun j hj => ?_) ?_)
    · wtm_at "ev_st"
      refine ⟨rfl, rfl, fun _ => ?_⟩
      wtm_at "ev_st"
      refine ⟨?_, rfl⟩
      show some (PyData.int ((0 + j : Nat) : Int)) = _
      rw [Nat.zero_add]
    · rw [show (((List.range (n + m)).filter p).map fun j : Nat => PyData.int (j : Int)) = (((List.range (n + m)).filter p).map fun j : Nat => (j : Int)).map PyData.int from by rw [List.map_map]; rfl]
      wtm_at "ev_st"
      refine k_nenilL ?_
      cases hl : (List.range (n + m)).filter p with
      | nil =>
        wtm_at "ev_st"
        exact (h2 hl).symm
      | cons a r =>
        wtm_at "ev_st"
        rw [List.map_cons, List.map_cons]
        refine k_il0 ?_
        wtm_at "ev_st"
        exact (h1 a r hl).symm
  cases hl : (List.range (n + m)).filter p with
  | nil =>
    refine ⟨.none, main _ (fun a r e => by rw [hl] at e; cases e) fun _ => rfl, .inr ⟨rfl, fun j hj => ?_⟩⟩
    rw [List.filter_eq_nil_iff] at hl
    have := hl j (by simpa using hj)
    have h3 : ¬0 < (S.g j).num := by simpa [p] using this
    refine Rat.not_lt.mp fun q => h3 (rnum_pos.mpr q)
  | cons a r =>
    obtain ⟨f1, f2, f3⟩ := first_of hl
    refine ⟨.int (a : Int), main _ (fun a' r' e => by rw [hl] at e; cases e; rfl) (fun e => by rw [hl] at e; cases e), .inl ⟨a, rfl, f1, rnum_pos.mp (of_decide_eq_true f2), fun j hj => ?_⟩⟩
    have h3 : ¬0 < (S.g j).num := of_decide_eq_false (f3 j hj)
    refine Rat.not_lt.mp fun q => h3 (rnum_pos.mpr q)

open PySem PySem.Spec PyProof.Rows L2
open PySem.W (minD maxD)
/-- all parts of the tableau are small enough -/
structure SzT (m n : Nat) (S : Tb) : Prop where
  T : ∀ i j, i < m → j ≤ n + m → Sz 2000 (S.T i j)
  g : ∀ j, j ≤ n + m → Sz 2000 (S.g j)
theorem frD_zero : frD 0 = .tuple [.int 0, .int 1] := frD_int 0
theorem sz_zero : Sz 4000 (0 : Rat) := (int_sz (i := 0) (by decide)).mono (by decide)
theorem minus0_w {q : Rat} (hq : Sz 4000 q) (τ : Tp) : S_minus [.d (.tuple [.int 0, .int 1]), .d (frD q)] τ = some (frD (0 - q), τ) := by
  rw [← frD_zero]
  exact minus_w sz_zero hq τ
theorem cut_mid {α : Type} (f : Nat → α) (n m : Nat) : cutL ((List.range (n + m + 1)).map f) (some (n : Int)) (some (-1)) = (List.range m).map fun k => f (n + k) := by
  have hl : ((List.range (n + m + 1)).map f).length = n + m + 1 := by simp
  unfold cutL
  have e : HT.sIx ((List.range (n + m + 1)).map f).length ((List.range (n + m + 1)).map f).length (some (-1)) = n + m := by
    unfold HT.sIx
    dsimp only
    rw [if_pos (by decide), hl]
    omega
  rw [e, HT.sIx_nat, hl, Nat.min_eq_left (by omega)]
  refine List.ext_getElem? fun i => ?_
  rw [List.getElem?_take, List.getElem?_drop, List.getElem?_map, List.getElem?_map]
  by_cases h : i < m
  · rw [if_pos (by omega), List.getElem?_range (by omega), List.getElem?_range h]
    rfl
  · rw [if_neg (by omega), List.getElem?_eq_none (by simp; omega)]
    rfl
theorem prices_m {m n : Nat} {S : Tb} (hN : n + m ≤ 1000) (z : SzT m n S) : M_prices (flT m n S) [] = some (.list ((List.range m).map fun k => frD (pr n S k))) := by
  refine wpM_of (env := [.ob (flT m n S), .no]) rfl ?_
  wtm_at "ev_st"
  rw [show cutL ((List.range (n + m + 1)).map fun j => frD (S.g j)) (some (n : Int)) (some (-1)) = (List.range m).map (fun k => frD (S.g (n + k))) from cut_mid _ _ _]
  refine k_lcK rfl (by simp; omega) (lcw_of (lc_map (f := fun k : Nat => frD (S.g (n + k))) (g := fun k : Nat => frD (pr n S k)) (p := fun _ => true) fun k hk => ?_) ?_)
  · have hk : k < m := by simpa using hk
    wtm_at "ev_st"
    refine ⟨rfl, rfl, fun _ => ?_⟩
    wtm_at "ev_st"
    refine wpC_of (minus0_w ((z.g (n + k) (by omega)).mono (by decide)) _) ?_
    wtm_at "ev_st"
    refine ⟨?_, rfl⟩
    have : (0 : Rat) - S.g (n + k) = pr n S k := by unfold pr; grind
    rw [this]
    rfl
  · have e : ∀ (l : List Nat), (l.filter fun _ => true) = l := fun l => by simp
    rw [e]
    wtm_at "ev_st"
    rfl
theorem gi_new {env : En} {τ : Tp} {ds : List D} {y : W} : gI dMul env τ (.new ds) y = none := by
  unfold gI
  rfl
theorem tt1 {env : En} {τ : Tp} {a b : W} {w : W} (h1 : gI dMul env τ a b = none) (h2 : gRep env τ a b = some w) : gMul env τ a b = some w := by
  unfold gMul
  rw [h1]
  dsimp only
  rw [h2]
theorem rep_map {d : D} {n : Nat} : (List.replicate n [d]).flatten = (List.range n).map fun _ => d := by
  rw [List.flatten_replicate_singleton, List.map_const', List.length_range]
theorem g_rep {env : En} {τ : Tp} {d : D} {n : Nat} (h : n ≤ 1000) : gRep env τ (.new [d]) (.d (.int n)) = some (.new (List.replicate n [d]).flatten) := by
  unfold gRep
  dsimp only [seqOf]
  have h2 : -(2 ^ 63 : Int) ≤ (n : Int) := by omega
  have h3 : (n : Int) < 2 ^ 63 := by omega
  have h1 : [d].length * (n : Int).toNat ≤ 1000000 := by
    show 1 * n ≤ 1000000
    omega
  exact if_pos ⟨h2, h3, Nat.le_trans h1 (Nat.le_of_lt line_big)⟩
theorem k_rep {env : En} {τ : Tp} {Q : W → Prop} {d : D} {n : Nat} (h : n ≤ 1000) (q : Q (.new ((List.range n).map fun _ => d))) : wpO (gMul env τ (.new [d]) (.d (.int n))) Q := by
  have e := tt1 (gi_new (env := env) (τ := τ) (ds := [d]) (y := .d (.int n))) (g_rep (env := env) (τ := τ) (d := d) h)
  rw [rep_map] at e
  exact wpO_of e q
theorem set_range (f : Nat → D) (n k : Nat) (v : D) : ((List.range n).map f).set k v = (List.range n).map fun j => if j = k then v else f j := by
  refine List.ext_getElem? fun i => ?_
  rw [List.getElem?_set, List.getElem?_map, List.getElem?_map]
  by_cases h : k = i
  · subst h
    rw [if_pos rfl]
    by_cases hk : k < n
    · rw [if_pos (by simpa using hk), List.getElem?_range hk]
      show _ = some (if k = k then v else f k)
      rw [if_pos rfl]
    · rw [if_neg (by simpa using hk), List.getElem?_eq_none (by simp; omega)]
      rfl
  · rw [if_neg h]
    cases hr : (List.range n)[i]? with
    | none => rfl
    | some j =>
      have : j = i := by
        have := List.getElem?_eq_some_iff.mp hr
        obtain ⟨h1, h2⟩ := this
        simpa using h2.symm
      subst this
      show some (f j) = some (if j = k then v else f j)
      rw [if_neg (Ne.symm h)]
theorem range_at {α : Type} (f : Nat → α) {n k : Nat} (h : k < n) : ((List.range n).map f)[k]? = some (f k) := by
  rw [List.getElem?_map, List.getElem?_range h]
  rfl
theorem k_lastN {env : En} {τ : Tp} {Q : W → Prop} {f : Nat → D} {N : Nat} (q : Q (.d (f N))) : wpO (gIx env τ (.d (.list ((List.range (N + 1)).map f))) (.d (.int (-1)))) Q := by
  have e : (List.range (N + 1)).map f = (List.range N).map f ++ [f N] := by rw [List.range_succ, List.map_append]; rfl
  rw [e, g_ix]
  show wpO ((atI ((List.range N).map f ++ [f N]) (-1)).map W.d) Q
  rw [atI_last]
  exact wpO_of rfl q

open PySem PySem.Spec PyProof.Rows L2
open PySem.W (minD maxD)
theorem k_seto {env env' : En} {τ : Tp} {R : Out → Prop} {ds : List D} {i : Nat} {k : Nat} {d : D} (hg : GetAt i env (.own ds)) (h1 : k < ds.length) (h : SetAt (.own (ds.set k d)) i env env') (q : R (.nx env' τ)) : wpO (setSub i d (k : Int) env τ) R := by
  have h2 : ixN ds.length (k : Int) = some k := by
    unfold ixN
    rw [if_pos (by omega), if_pos (by omega)]
    rfl
  unfold setSub
  rw [hg.eq]
  dsimp only
  rw [h2]
  refine wpO_of rfl ?_
  rw [← h.eq.1]
  exact q
/-- the first i held names' values -/
def vp (S : Tb) (f : Nat → Rat) (i j : Nat) : Rat := sm i fun k => if S.h k = j then f k else 0
theorem vp_succ {m n : Nat} {A S : Tb} (O : Ok m n A S) (f : Nat → Rat) {i : Nat} (hi : i < m) : (fun j => if j = S.h i then f i else vp S f i j) = vp S f (i + 1) := by
  funext j
  show _ = vp S f i j + (if S.h i = j then f i else 0)
  by_cases e : j = S.h i
  · rw [if_pos e, if_pos e.symm]
    have : vp S f i j = 0 := sm_z fun k hk => if_neg fun q => by
      have := O.inj (i := k) (k := i) (by omega) hi (q.trans e)
      omega
    rw [this]
    grind
  · rw [if_neg e, if_neg (Ne.symm e)]
    grind
theorem vp_out {m n : Nat} {A S : Tb} (O : Ok m n A S) (f : Nat → Rat) {i j : Nat} (h : S.h i ≠ j) : vp S f (i + 1) j = vp S f i j := by
  show vp S f i j + (if S.h i = j then f i else 0) = _
  rw [if_neg h]
  grind
theorem best_m {m n : Nat} {A S : Tb} (O : Ok m n A S) (hN : n + m ≤ 1000) : M_best (flT m n S) [] = some (.list ((List.range n).map fun j => frD (xv m n S j))) := by
  refine wpM_of (env := [.ob (flT m n S), .no, .no, .no]) rfl ?_
  generalize hB : sSeq (sIf (f2 gLt (eVar 3) _) _ _) _ = B
  wtm_at "ev_st"
  refine k_rep (by omega) ?_
  rw [← frD_zero]
  wtm_at "ev_st"
  rw [enum_range]
  refine k_forI (fun i e t => t = [] ∧ ∃ x y, e = [.ob (flT m n S), .own ((List.range n).map fun j => frD (vp S (fun k => S.T k (n + m)) i j)), x, y]) ?_ ?_ ⟨rfl, _, _, rfl⟩
  · rintro i d e t hi ⟨rfl, x, y, rfl⟩
    have him : i < m := by
      have := (List.getElem?_eq_some_iff.mp hi).1
      simpa using this
    rw [range_at _ him] at hi
    cases hi
    rw [← hB]
    wtm_at "ev_st"
    refine k_d (fun c => ?_) (fun c => ?_)
    · have c : S.h i < n := by omega
      wtm_at "ev_st"
      refine k_ixl (x := rowD (n + m + 1) (S.T i)) (by omega) (by rw [show (((0 + i : Nat) : Int)).toNat = i by omega]; exact range_at _ him) ?_
      wtm_at "ev_st"
      refine k_lastN ?_
      wtm_at "ev_st"
      refine k_seto (ds := _) (by wtm_at "ev_ga") (by simpa using c) (by wtm_at "ev_ga") ?_
      wtm_at "ev_st"
      refine ⟨rfl, .d (.int ((0 + i : Nat) : Int)), .d (.int (S.h i)), ?_⟩
      rw [set_range]
      have := vp_succ O (fun k => S.T k (n + m)) him
      rw [← this]
      have e2 : (fun j => if j = S.h i then frD (S.T i (n + m)) else frD (vp S (fun k => S.T k (n + m)) i j)) = fun j => frD (if j = S.h i then S.T i (n + m) else vp S (fun k => S.T k (n + m)) i j) := by
        funext j
        split <;> rfl
      rw [e2]
    · have c : n ≤ S.h i := by omega
      wtm_at "ev_st"
      refine ⟨rfl, .d (.int ((0 + i : Nat) : Int)), .d (.int (S.h i)), ?_⟩
      have : ((List.range n).map fun j => frD (vp S (fun k => S.T k (n + m)) (i + 1) j)) = (List.range n).map fun j => frD (vp S (fun k => S.T k (n + m)) i j) := List.map_congr_left fun j hj => by
        have hj : j < n := by simpa using hj
        rw [vp_out O _ (by omega)]
      rw [this]
  · rintro e t ⟨rfl, x, y, rfl⟩
    wtm_at "ev_st"
    rw [List.length_map, List.length_range]
    rfl
/-- which way all goes when a name comes -/
theorem growing_m {m n : Nat} {A S : Tb} (O : Ok m n A S) (z : SzT m n S) {a : Nat} (C : Co m n S a) (hN : n + m ≤ 1000) : M_growing (flT m n S) [.d (.int a)] = some (.list ((List.range n).map fun j => frD (dv m S a j))) := by
  have han := C.lt
  refine wpM_of (env := [.ob (flT m n S), .d (.int a), .no, .no, .no]) rfl ?_
  generalize hB : sSeq (sIf (f2 gLt (eVar 4) _) _ _) _ = B
  wtm_at "ev_st"
  refine k_rep (by omega) ?_
  rw [← frD_zero]
  wtm_at "ev_st"
  rw [enum_range]
  refine k_forI (fun i e t => t = [] ∧ ∃ x y, e = [.ob (flT m n S), .d (.int a), .own ((List.range n).map fun j => frD (vp S (fun k => 0 - S.T k a) i j)), x, y]) ?_ ?_ ⟨rfl, _, _, rfl⟩
  · rintro i d e t hi ⟨rfl, x, y, rfl⟩
    have him : i < m := by
      have := (List.getElem?_eq_some_iff.mp hi).1
      simpa using this
    rw [range_at _ him] at hi
    cases hi
    rw [← hB]
    wtm_at "ev_st"
    refine k_d (fun c => ?_) (fun c => ?_)
    · have c : S.h i < n := by omega
      wtm_at "ev_st"
      refine k_ixl (x := rowD (n + m + 1) (S.T i)) (by omega) (by rw [show (((0 + i : Nat) : Int)).toNat = i by omega]; exact range_at _ him) ?_
      wtm_at "ev_st"
      refine k_ixl (x := frD (S.T i a)) (by omega) (by rw [Int.toNat_natCast]; exact range_at _ (by omega)) ?_
      wtm_at "ev_st"
      refine wpC_of (minus0_w ((z.T i a him (by omega)).mono (by decide)) _) ?_
      wtm_at "ev_st"
      refine k_seto (ds := _) (by wtm_at "ev_ga") (by simpa using c) (by wtm_at "ev_ga") ?_
      wtm_at "ev_st"
      refine ⟨rfl, .d (.int ((0 + i : Nat) : Int)), .d (.int (S.h i)), ?_⟩
      rw [set_range]
      have := vp_succ O (fun k => 0 - S.T k a) him
      rw [← this]
      have e2 : (fun j => if j = S.h i then frD (0 - S.T i a) else frD (vp S (fun k => 0 - S.T k a) i j)) = fun j => frD (if j = S.h i then 0 - S.T i a else vp S (fun k => 0 - S.T k a) i j) := by
        funext j
        split <;> rfl
      rw [e2]
    · have c : n ≤ S.h i := by omega
      wtm_at "ev_st"
      refine ⟨rfl, .d (.int ((0 + i : Nat) : Int)), .d (.int (S.h i)), ?_⟩
      have : ((List.range n).map fun j => frD (vp S (fun k => 0 - S.T k a) (i + 1) j)) = (List.range n).map fun j => frD (vp S (fun k => 0 - S.T k a) i j) := List.map_congr_left fun j hj => by
        have hj : j < n := by simpa using hj
        rw [vp_out O _ (by omega)]
      rw [this]
  · rintro e t ⟨rfl, x, y, rfl⟩
    rw [List.length_map, List.length_range]
    have vz : ∀ j, vp S (fun k => 0 - S.T k a) m j = 0 - sm m fun k => if S.h k = j then S.T k a else 0 := fun j => by
      have h1 := sm_sub m (fun _ => 0) fun k => if S.h k = j then S.T k a else 0
      rw [sm_zero] at h1
      rw [← h1]
      refine sm_congr fun k hk => ?_
      split <;> grind
    have va : vp S (fun k => 0 - S.T k a) m a = 0 := sm_z fun k hk => if_neg (C.non O hk)
    have fin : ∀ j, dv m S a j = if j = a then 1 else vp S (fun k => 0 - S.T k a) m j := fun j => by
      unfold dv
      by_cases e : j = a
      · subst e
        have := vz j
        rw [va] at this
        rw [if_pos rfl, if_pos rfl]
        grind
      · rw [if_neg e, if_neg e, vz j]
    wtm_at "ev_st"
    refine k_d (fun c => ?_) (fun c => ?_)
    · have c : a < n := by omega
      wtm_at "ev_st"
      refine k_seto (ds := _) (by wtm_at "ev_ga") (by simpa using c) (by wtm_at "ev_ga") ?_
      wtm_at "ev_st"
      rw [set_range, ← frD_one]
      have e2 : (fun j => if j = a then frD 1 else frD (vp S (fun k => 0 - S.T k a) m j)) = fun j => frD (dv m S a j) := by
        funext j
        rw [fin j]
        split <;> rfl
      rw [e2]
    · have c : n ≤ a := by omega
      wtm_at "ev_st"
      congr 1
      refine List.map_congr_left fun j hj => ?_
      have hj : j < n := by simpa using hj
      rw [fin j, if_neg (by omega)]

open PySem PySem.Spec PyProof.Rows L2
open PySem.W (minD maxD)
theorem wpM_ex {f : EvS} {N : List Str} {fl : List (Str × D)} {ws : List W} {P : D → Prop} {env : En} (he : startM N fl ws = env) (h : wpS f env [] (runK fun x _ => P x)) : ∃ d, runM f N fl ws = some d ∧ P d := by
  rw [wpS_un] at h
  obtain ⟨o, e, q⟩ := wpO_ex h
  unfold runM
  rw [he, e]
  cases o with
  | rt x t => exact ⟨x, rfl, q⟩
  | nx x t => exact ⟨.none, rfl, q⟩
  | bk x t => exact q.elim
  | ct x t => exact q.elim
theorem sz_div {p q : Rat} (hp : Sz 2000 p) (hq : Sz 2000 q) (h : 0 < q) : Sz 4000 (p / q) := by
  have hn : 0 < q.num := rnum_pos.mpr h
  rw [← rover hn]
  obtain ⟨h1, h2⟩ := parts_le (a := p.num * (q.den : Int)) (b := (p.den : Int) * q.num) (Int.mul_pos (den_pos p) hn)
  have e1 : (p.num * (q.den : Int)).natAbs < 2 ^ 4000 := by
    rw [Int.natAbs_mul]
    have h3 : ((q.den : Int)).natAbs < 2 ^ 2000 := hq.den
    have := Nat.mul_lt_mul'' hp.num h3
    rw [← Nat.pow_add] at this
    exact this
  have e2 : ((p.den : Int) * q.num).natAbs < 2 ^ 4000 := by
    rw [Int.natAbs_mul]
    have h3 : ((p.den : Int)).natAbs < 2 ^ 2000 := hp.den
    have := Nat.mul_lt_mul'' h3 hq.num
    rw [← Nat.pow_add] at this
    exact this
  exact ⟨Nat.lt_of_le_of_lt h1 e1, Nat.lt_of_le_of_lt h2 e2⟩
theorem eqv_fr (p q : Rat) : PyData.eqv (frD p) (frD q) = decide (p = q) := by
  have e : PyData.eqv (frD p) (frD q) = (p.num == q.num && ((p.den : Int) == (q.den : Int))) := eqv_pt (p.num, (p.den : Int)) (q.num, (q.den : Int))
  rw [e]
  by_cases h : p = q
  · subst h
    simp
  · rw [decide_eq_false h, Bool.eq_false_iff]
    intro z
    rw [Bool.and_eq_true, beq_iff_eq, beq_iff_eq] at z
    exact h (Rat.ext z.1 (by omega))
theorem itl_fr2 (q : Rat) : Itl 1 (frD q) := .tup (by simp) fun d hd => by
  simp at hd
  rcases hd with rfl | rfl <;> exact .int _
theorem k_eqfr {env : En} {τ : Tp} {Q : W → Prop} {p q : Rat} (h : Q (.d (.bool (decide (p = q))))) : wpO (gEqD false env τ (.d (frD p)) (.d (frD q))) Q := by
  have e : gEqD false env τ (.d (frD p)) (.d (frD q)) = (if SeqAt.shaped (frD p) = true ∧ SeqAt.shaped (frD q) = true then some (.d (.bool (PyData.eqv (frD p) (frD q)))) else none) := rfl
  rw [e, if_pos ⟨itl_shaped (itl_fr2 p) (by decide), itl_shaped (itl_fr2 q) (by decide)⟩, eqv_fr]
  exact wpO_of rfl h
def ratio (n m : Nat) (S : Tb) (a i : Nat) : Rat := S.T i (n + m) / S.T i a
def LvI (n m : Nat) (S : Tb) (a i : Nat) (bd : D) : Prop := (bd = .none ∧ ∀ k, k < i → S.T k a ≤ 0) ∨ ∃ s, s < i ∧ bd = .tuple [frD (ratio n m S a s), .int (s : Nat)] ∧ 0 < S.T s a ∧ ∀ k, k < i → 0 < S.T k a → ratio n m S a s < ratio n m S a k ∨ (ratio n m S a s = ratio n m S a k ∧ S.h s ≤ S.h k)
theorem leaving_m {m n : Nat} {S : Tb} (z : SzT m n S) {a : Nat} (ha : a < n + m) (hN : n + m ≤ 1000) : ∃ d, M_leaving (flT m n S) [.d (.int a)] = some d ∧ ((∃ s : Nat, d = .int s ∧ Lv m n S a s) ∨ (d = .none ∧ ∀ i, i < m → S.T i a ≤ 0)) := by
  refine wpM_ex (env := [.ob (flT m n S), .d (.int a), .no, .no, .no, .no]) rfl ?_
  generalize hC : sSeq (sIf (eOr (f2 (gIs false) (eVar 2) (eCon .none)) _) _ _) sNext = C
  generalize hB : sSeq (sIf (f2 gGt (f2 gIx _ _) _) _ _) _ = B
  wtm_at "ev_st"
  rw [enum_range]
  refine k_forI (fun i e t => t = [] ∧ ∃ bd x y w, LvI n m S a i bd ∧ e = [.ob (flT m n S), .d (.int a), .d bd, x, y, w]) ?_ ?_ ⟨rfl, .none, _, _, _, .inl ⟨rfl, by omega⟩, rfl⟩
  · rintro i d e t hi ⟨rfl, bd, x, y, w, hL, rfl⟩
    have him : i < m := by
      have := (List.getElem?_eq_some_iff.mp hi).1
      simpa using this
    rw [range_at _ him] at hi
    cases hi
    rw [← hB]
    wtm_at "ev_st"
    refine k_ixl (x := frD (S.T i a)) (by omega) (by rw [Int.toNat_natCast]; exact range_at _ (by omega)) ?_
    wtm_at "ev_st"
    refine k_d (fun c => ?_) (fun c => ?_)
    · have c : 0 < S.T i a := rnum_pos.mp c
      have rz : ∀ k, k < m → 0 < S.T k a → Sz 4000 (ratio n m S a k) := fun k hk hp => sz_div (z.T k (n + m) hk (by omega)) (z.T k a hk (by omega)) hp
      wtm_at "ev_st"
      refine k_lastN ?_
      wtm_at "ev_st"
      refine k_ixl (x := frD (S.T i a)) (by omega) (by rw [Int.toNat_natCast]; exact range_at _ (by omega)) ?_
      wtm_at "ev_st"
      refine wpC_of (over_w' ((z.T i (n + m) him (by omega)).mono (by decide)) ((z.T i a him (by omega)).mono (by decide)) c _) ?_
      have yes : ∀ (R : Out → Prop) (x y w : Sl), LvI n m S a (i + 1) (.tuple [frD (ratio n m S a i), .int ((0 + i : Nat) : Int)]) → True := fun _ _ _ _ _ => trivial
      have e0 : ((0 + i : Nat) : Int) = ((i : Nat) : Int) := by omega
      rw [← hC]
      wtm_at "ev_st"
      rcases hL with ⟨rfl, hL⟩ | ⟨s, hs, rfl, hp, hm⟩
      · wtm_at "ev_st"
        refine ⟨rfl, .tuple [frD (ratio n m S a i), .int ((0 + i : Nat) : Int)], _, _, _, .inr ⟨i, by omega, by rw [e0], c, fun k hk hkp => ?_⟩, rfl⟩
        by_cases e : k = i
        · subst e
          exact .inr ⟨rfl, Nat.le_refl _⟩
        · have := hL k (by omega)
          grind
      · wtm_at "ev_st"
        refine wpC_of (isless_w (rz i him c) (rz s (by omega) hp) _) ?_
        have new : (∀ k, k < i → 0 < S.T k a → ratio n m S a i < ratio n m S a k ∨ (ratio n m S a i = ratio n m S a k ∧ S.h i ≤ S.h k)) → LvI n m S a (i + 1) (.tuple [frD (ratio n m S a i), .int ((0 + i : Nat) : Int)]) := fun hn => .inr ⟨i, by omega, by rw [e0], c, fun k hk hkp => by
          by_cases e : k = i
          · subst e; exact .inr ⟨rfl, Nat.le_refl _⟩
          · exact hn k (by omega) hkp⟩
        have old : (ratio n m S a s < ratio n m S a i ∨ (ratio n m S a s = ratio n m S a i ∧ S.h s ≤ S.h i)) → LvI n m S a (i + 1) (.tuple [frD (ratio n m S a s), .int (s : Nat)]) := fun hn => .inr ⟨s, by omega, rfl, hp, fun k hk hkp => by
          by_cases e : k = i
          · subst e; exact hn
          · exact hm k (by omega) hkp⟩
        refine k_d (fun c1 => ?_) (fun c1 => ?_)
        · wtm_at "ev_st"
          refine ⟨rfl, _, _, _, _, new fun k hk hkp => ?_, rfl⟩
          rcases hm k hk hkp with q | ⟨q, _⟩
          · exact .inl (by grind)
          · exact .inl (by grind)
        · wtm_at "ev_st"
          rw [if_neg Bool.false_ne_true, eqv_fr]
          refine k_d (fun c2 => ?_) (fun c2 => ?_)
          · have c2 : ratio n m S a i = ratio n m S a s := c2
            wtm_at "ev_st"
            refine k_ixl (x := PyData.int (S.h i)) (by omega) (by rw [show (((0 + i : Nat) : Int)).toNat = i by omega]; exact range_at _ him) ?_
            wtm_at "ev_st"
            refine k_ixl (x := PyData.int (S.h s)) (by omega) (by rw [Int.toNat_natCast]; exact range_at _ (by omega)) ?_
            wtm_at "ev_st"
            refine k_d (fun c3 => ?_) (fun c3 => ?_)
            · have c3 : S.h i < S.h s := by omega
              wtm_at "ev_st"
              refine ⟨rfl, _, _, _, _, new fun k hk hkp => ?_, rfl⟩
              rcases hm k hk hkp with q | ⟨q, q2⟩
              · exact .inl (by grind)
              · exact .inr ⟨by grind, by omega⟩
            · have c3 : S.h s ≤ S.h i := by omega
              wtm_at "ev_st"
              exact ⟨rfl, _, _, _, _, old (.inr ⟨c2.symm, c3⟩), rfl⟩
          · have c2 : ¬ratio n m S a i = ratio n m S a s := c2
            have c1 : ¬ratio n m S a i < ratio n m S a s := c1
            wtm_at "ev_st"
            refine ⟨rfl, _, _, _, _, old (.inl ?_), rfl⟩
            refine Rat.not_le.mp fun q => ?_
            exact c2 (Rat.le_antisymm q (Rat.not_lt.mp c1))
    · have c : S.T i a ≤ 0 := Rat.not_lt.mp fun q => c (rnum_pos.mpr q)
      wtm_at "ev_st"
      refine ⟨rfl, bd, _, _, _, ?_, rfl⟩
      rcases hL with ⟨rfl, hL⟩ | ⟨s, hs, rfl, hp, hm⟩
      · refine .inl ⟨rfl, fun k hk => ?_⟩
        by_cases e : k = i
        · subst e; exact c
        · exact hL k (by omega)
      · refine .inr ⟨s, by omega, rfl, hp, fun k hk hkp => ?_⟩
        by_cases e : k = i
        · subst e; grind
        · exact hm k (by omega) hkp
  · rintro e t ⟨rfl, bd, x, y, w, hL, rfl⟩
    rw [List.length_map, List.length_range] at hL
    rcases hL with ⟨rfl, hL⟩ | ⟨s, hs, rfl, hp, hm⟩
    · wtm_at "ev_st"
      exact .inr ⟨rfl, hL⟩
    · wtm_at "ev_st"
      exact .inl ⟨s, rfl, hs, hp, hm⟩

open PySem PySem.Spec PyProof.Rows L2
open PySem.W (minD maxD)
/-! ### the expressions of exchange -/
noncomputable def X_lead : EvF := eLc (iSeq (f2 gIx (eFld 0 "rows") (eVar 2))) (.nm 6) tYesF (eCall S_over (aCons (eVar 6) (aCons (f2 gIx (f2 gIx (eFld 0 "rows") (eVar 2)) (eVar 1)) aNil))) [6]
noncomputable def X_len : EvA := aCons (f1 gLen (eFld 0 "rows")) aNil
noncomputable def X_ne : EvF := f2 (gEqD true) (eVar 4) (eVar 2)
noncomputable def X_by : EvF := f2 gIx (f2 gIx (eFld 0 "rows") (eVar 4)) (eVar 1)
noncomputable def X_row : EvF := eLc (iZip (aCons (f2 gIx (eFld 0 "rows") (eVar 4)) (aCons (eVar 3) aNil))) (.tu (.cn (.nm 6) (.cn (.nm 7) .nl))) tYesF (eCall S_minus (aCons (eVar 6) (aCons (eCall S_times (aCons (eVar 5) (aCons (eVar 7) aNil))) aNil))) [6, 7]
noncomputable def X_by2 : EvF := f2 gIx (eFld 0 "gain") (eVar 1)
noncomputable def X_gain : EvF := eLc (iZip (aCons (eFld 0 "gain") (aCons (eVar 3) aNil))) (.tu (.cn (.nm 6) (.cn (.nm 7) .nl))) tYesF (eCall S_minus (aCons (eVar 6) (aCons (eCall S_times (aCons (eVar 5) (aCons (eVar 7) aNil))) aNil))) [6, 7]
theorem wpE_eq {f : EvF} {env : En} {τ τ' : Tp} {w : W} (h : wpE f env τ fun x t => x = w ∧ t = τ') : f env τ = some (w, τ') := by
  rw [wpE_un] at h
  obtain ⟨⟨w', t'⟩, e, h1, h2⟩ := wpO_ex h
  cases h1
  cases h2
  exact e
theorem wpA_eq {f : EvA} {env : En} {τ τ' : Tp} {ws : List W} (h : wpA f env τ fun x t => x = ws ∧ t = τ') : f env τ = some (ws, τ') := by
  unfold wpA at h
  obtain ⟨⟨w', t'⟩, e, h1, h2⟩ := wpO_ex h
  cases h1
  cases h2
  exact e
theorem zip_map (f g : Nat → D) : ∀ l : List Nat, zipD (l.map f) (l.map g) = l.map fun j => PyData.tuple [f j, g j]
  | [] => by unfold zipD; rfl
  | a :: l => by
    show zipD (f a :: l.map f) (g a :: l.map g) = _
    unfold zipD
    exact congrArg _ (zip_map f g l)
theorem zip_range (f g : Nat → D) (N : Nat) : zipD ((List.range N).map f) ((List.range N).map g) = (List.range N).map fun j => PyData.tuple [f j, g j] := zip_map f g _
theorem filter_true {α : Type} (l : List α) : (l.filter fun _ => true) = l := by simp
section
variable {m n : Nat} {S : Tb} {a s : Nat} {x y z u v : Sl}
theorem x_lead (hN : n + m ≤ 1000) (hs : s < m) (ha : a ≤ n + m) (zT : ∀ j, j ≤ n + m → Sz 2000 (S.T s j)) (hp : 0 < S.T s a) :
    X_lead [.ob (flT m n S), .d (.int a), .d (.int s), x, y, z, .no, .no] [] = some (.new ((List.range (n + m + 1)).map fun j => frD (S.T s j / S.T s a)), []) := by
  refine wpE_eq ?_
  unfold X_lead
  wtm_at "ev_st"
  refine k_ixl (x := rowD (n + m + 1) (S.T s)) (by omega) (by rw [Int.toNat_natCast]; exact range_at _ hs) ?_
  wtm_at "ev_st"
  refine k_lcK rfl (by simp; omega) (lcw_of (lc_map (f := fun j : Nat => frD (S.T s j)) (g := fun j : Nat => frD (S.T s j / S.T s a)) (p := fun _ => true) fun j hj => ?_) ?_)
  · have hj : j < n + m + 1 := by simpa using hj
    wtm_at "ev_st"
    refine ⟨rfl, rfl, fun _ => ?_⟩
    wtm_at "ev_st"
    refine k_ixl (x := rowD (n + m + 1) (S.T s)) (by omega) (by rw [Int.toNat_natCast]; exact range_at _ hs) ?_
    wtm_at "ev_st"
    refine k_ixl (x := frD (S.T s a)) (by omega) (by rw [Int.toNat_natCast]; exact range_at _ (by omega)) ?_
    wtm_at "ev_st"
    refine wpC_of (over_w' ((zT j (by omega)).mono (by decide)) ((zT a ha).mono (by decide)) hp _) ?_
    wtm_at "ev_st"
    exact ⟨rfl, rfl⟩
  · rw [filter_true]
    wtm_at "ev_st"
    exact ⟨rfl, rfl⟩
theorem x_len (hN : n + m ≤ 1000) : X_len [.ob (flT m n S), .d (.int a), .d (.int s), x, y, z, u, v] [] = some ([.d (.int m)], []) := by
  refine wpA_eq ?_
  unfold X_len
  wtm_at "ev_st"
  exact ⟨by simp, rfl⟩
theorem x_ne {i : Nat} : X_ne [.ob (flT m n S), .d (.int a), .d (.int s), x, .d (.int i), z, u, v] [] = some (.d (.bool (decide (i ≠ s))), []) := by
  refine wpE_eq ?_
  unfold X_ne
  wtm_at "ev_st"
  refine ⟨?_, rfl⟩
  congr 2
  by_cases h : i = s
  · subst h; simp
  · simp [h]
    omega
theorem x_by {i : Nat} (hi : i < m) (ha : a ≤ n + m) : X_by [.ob (flT m n S), .d (.int a), .d (.int s), x, .d (.int i), z, u, v] [] = some (.d (frD (S.T i a)), []) := by
  refine wpE_eq ?_
  unfold X_by
  wtm_at "ev_st"
  refine k_ixl (x := rowD (n + m + 1) (S.T i)) (by omega) (by rw [Int.toNat_natCast]; exact range_at _ hi) ?_
  wtm_at "ev_st"
  refine k_ixl (x := frD (S.T i a)) (by omega) (by rw [Int.toNat_natCast]; exact range_at _ (by omega)) ?_
  wtm_at "ev_st"
  exact ⟨rfl, rfl⟩
theorem x_by2 (ha : a ≤ n + m) : X_by2 [.ob (flT m n S), .d (.int a), .d (.int s), x, y, z, u, v] [] = some (.d (frD (S.g a)), []) := by
  refine wpE_eq ?_
  unfold X_by2
  wtm_at "ev_st"
  refine k_ixl (x := frD (S.g a)) (by omega) (by rw [Int.toNat_natCast]; exact range_at _ (by omega)) ?_
  wtm_at "ev_st"
  exact ⟨rfl, rfl⟩
theorem sz_mul {p q : Rat} (hp : Sz 2000 p) (hq : Sz 2000 q) : Sz 4000 (p * q) := by
  have e : p * q = ((p.num * q.num : Int) : Rat) / (((p.den : Int) * (q.den : Int) : Int) : Rat) := by rw [← rmul]
  rw [e]
  have h1 := parts_le (a := p.num * q.num) (b := (p.den : Int) * (q.den : Int)) (Int.mul_pos (den_pos p) (den_pos q))
  have m1 : (p.num * q.num).natAbs < 2 ^ 4000 := by
    rw [Int.natAbs_mul]
    have := Nat.mul_lt_mul'' hp.num hq.num
    rw [← Nat.pow_add] at this
    exact this
  have m2 : ((p.den : Int) * (q.den : Int)).natAbs < 2 ^ 4000 := by
    rw [Int.natAbs_mul]
    have h1 : ((p.den : Int)).natAbs < 2 ^ 2000 := hp.den
    have h2 : ((q.den : Int)).natAbs < 2 ^ 2000 := hq.den
    have := Nat.mul_lt_mul'' h1 h2
    rw [← Nat.pow_add] at this
    exact this
  exact ⟨Nat.lt_of_le_of_lt h1.1 m1, Nat.lt_of_le_of_lt h1.2 m2⟩
theorem x_row {i : Nat} {b : Rat} {L : Nat → Rat} (hN : n + m ≤ 1000) (hi : i < m) (zT : ∀ j, j ≤ n + m → Sz 2000 (S.T i j)) (zb : Sz 2000 b) (zL : ∀ j, j ≤ n + m → Sz 2000 (L j)) :
    X_row [.ob (flT m n S), .d (.int a), .d (.int s), .d (.list ((List.range (n + m + 1)).map fun j => frD (L j))), .d (.int i), .d (frD b), .no, .no] [] = some (.new ((List.range (n + m + 1)).map fun j => frD (S.T i j - b * L j)), []) := by
  refine wpE_eq ?_
  unfold X_row
  wtm_at "ev_st"
  refine k_ixl (x := rowD (n + m + 1) (S.T i)) (by omega) (by rw [Int.toNat_natCast]; exact range_at _ hi) ?_
  wtm_at "ev_st"
  rw [zip_range]
  refine k_lcK rfl (by simp; omega) (lcw_of (lc_map (f := fun j : Nat => PyData.tuple [frD (S.T i j), frD (L j)]) (g := fun j : Nat => frD (S.T i j - b * L j)) (p := fun _ => true) fun j hj => ?_) ?_)
  · have hj : j < n + m + 1 := by simpa using hj
    wtm_at "ev_st"
    refine ⟨rfl, rfl, fun _ => ?_⟩
    wtm_at "ev_st"
    refine wpC_of (times_w (zb.mono (by decide)) ((zL j (by omega)).mono (by decide)) _) ?_
    wtm_at "ev_st"
    refine wpC_of (minus_w ((zT j (by omega)).mono (by decide)) (sz_mul zb (zL j (by omega))) _) ?_
    wtm_at "ev_st"
    exact ⟨rfl, rfl⟩
  · rw [filter_true]
    wtm_at "ev_st"
    exact ⟨rfl, rfl⟩
theorem x_gain {b : Rat} {L : Nat → Rat} (hN : n + m ≤ 1000) (zg : ∀ j, j ≤ n + m → Sz 2000 (S.g j)) (zb : Sz 2000 b) (zL : ∀ j, j ≤ n + m → Sz 2000 (L j)) :
    X_gain [.ob (flT m n S), .d (.int a), .d (.int s), .d (.list ((List.range (n + m + 1)).map fun j => frD (L j))), y, .d (frD b), .no, .no] [] = some (.new ((List.range (n + m + 1)).map fun j => frD (S.g j - b * L j)), []) := by
  refine wpE_eq ?_
  unfold X_gain
  wtm_at "ev_st"
  rw [zip_range]
  refine k_lcK rfl (by simp; omega) (lcw_of (lc_map (f := fun j : Nat => PyData.tuple [frD (S.g j), frD (L j)]) (g := fun j : Nat => frD (S.g j - b * L j)) (p := fun _ => true) fun j hj => ?_) ?_)
  · have hj : j < n + m + 1 := by simpa using hj
    wtm_at "ev_st"
    refine ⟨rfl, rfl, fun _ => ?_⟩
    wtm_at "ev_st"
    refine wpC_of (times_w (zb.mono (by decide)) ((zL j (by omega)).mono (by decide)) _) ?_
    wtm_at "ev_st"
    refine wpC_of (minus_w ((zg j (by omega)).mono (by decide)) (sz_mul zb (zL j (by omega))) _) ?_
    wtm_at "ev_st"
    exact ⟨rfl, rfl⟩
  · rw [filter_true]
    wtm_at "ev_st"
    exact ⟨rfl, rfl⟩
end

open PySem PySem.Spec PyProof.Rows L2
open PySem.W (minD maxD)
/-! ### an exchange and a run, as the program makes them -/
def rowsL (m n : Nat) (S : Tb) : List D := (List.range m).map fun i => rowD (n + m + 1) (S.T i)
def gainL (m n : Nat) (S : Tb) : List D := (List.range (n + m + 1)).map fun j => frD (S.g j)
def heldL (m : Nat) (S : Tb) : List D := (List.range m).map fun i => PyData.int (S.h i)
theorem flD_flT (m n : Nat) (S : Tb) : flD (.int n) (rowsL m n S) (gainL m n S) (heldL m S) = flT m n S := rfl
theorem set_rng {α : Type} (f : Nat → α) (m i : Nat) (y : α) : ((List.range m).map f).set i y = (List.range m).map fun k => if k = i then y else f k := by
  refine List.ext_getElem? fun k => ?_
  rw [List.getElem?_set, List.getElem?_map, List.getElem?_map, List.length_map, List.length_range]
  by_cases h : i = k
  · subst h
    rw [if_pos rfl]
    by_cases hi : i < m
    · rw [if_pos hi, List.getElem?_range hi]; simp
    · rw [if_neg hi, List.getElem?_eq_none (by simp; omega)]; rfl
  · rw [if_neg h]
    by_cases hk : k < m
    · rw [List.getElem?_range hk]; simp [Ne.symm h]
    · rw [List.getElem?_eq_none (by simp; omega)]; rfl
theorem isfr_fr (q : Rat) : isFr (frD q) = true := rfl
theorem isfr_map {N : Nat} {f : Nat → Rat} : ∀ d ∈ (List.range N).map (fun j => frD (f j)), isFr d = true := fun d hd => by
  obtain ⟨j, _, rfl⟩ := List.mem_map.mp hd
  rfl
section
variable {m n : Nat} {S : Tb} {a s : Nat}
def prt (S : Tb) (a s i : Nat) : Tb := ⟨fun k => if k < i ∧ k ≠ s then (S.ex a s).T k else S.T k, S.g, S.h⟩
theorem prt_at {i : Nat} : (prt S a s i).T i = S.T i := if_neg (by omega)
theorem ex_row {i : Nat} (h : i ≠ s) : (S.ex a s).T i = fun j => S.T i j - S.T i a * (S.T s j / S.T s a) := funext fun j => if_neg h
theorem ex_lead : (S.ex a s).T s = fun j => S.T s j / S.T s a := funext fun j => if_pos rfl
theorem exH (hN : n + m ≤ 1000) (hs : s < m) (ha : a < n + m) (hp : 0 < S.T s a) (z : SzT m n S) (z' : SzT m n (S.ex a s)) :
    ExH X_lead X_len X_ne X_by X_row X_by2 X_gain (.int n) (rowsL m n S) (gainL m n S) (heldL m S) a s (rowsL m n (S.ex a s)) (gainL m n (S.ex a s)) (heldL m (S.ex a s)) := by
  have zl : ∀ j, j ≤ n + m → Sz 2000 (S.T s j / S.T s a) := fun j hj => by
    have := z'.T s j hs hj
    rw [ex_lead] at this
    exact this
  refine ⟨m, (List.range (n + m + 1)).map fun j => frD (S.T s j / S.T s a), fun i => rowsL m n (prt S a s i), fun i => frD (S.T i a), fun i => (List.range (n + m + 1)).map fun j => frD (S.T i j - S.T i a * (S.T s j / S.T s a)), frD (S.g a), ?_, isfr_map, ?_, by omega, ?_, fun i hi => ⟨?_, ?_, fun e => ?_, fun e => ⟨?_, rfl, ?_, isfr_map, ?_⟩⟩, ?_, rfl, ?_, isfr_map, ?_, ?_, ?_, ?_⟩
  · exact x_lead hN hs (by omega) (fun j hj => z.T s j hs hj) hp
  · exact x_len hN
  · refine List.map_congr_left fun k hk => ?_
    show rowD (n + m + 1) (if k < 0 ∧ k ≠ s then (S.ex a s).T k else S.T k) = _
    rw [if_neg (by omega)]
  · exact x_ne (S := prt S a s i)
  · unfold rowsL; simp
  · refine List.map_congr_left fun k hk => ?_
    show rowD (n + m + 1) (if k < i + 1 ∧ k ≠ s then (S.ex a s).T k else S.T k) = rowD (n + m + 1) (if k < i ∧ k ≠ s then (S.ex a s).T k else S.T k)
    by_cases q : k < i ∧ k ≠ s
    · rw [if_pos q, if_pos (by omega)]
    · rw [if_neg q, if_neg (by omega)]
  · have := x_by (S := prt S a s i) (a := a) (s := s) (x := .d (.list ((List.range (n + m + 1)).map fun j => frD (S.T s j / S.T s a)))) (z := .no) (u := .no) (v := .no) hi (by omega : a ≤ n + m)
    rw [prt_at] at this
    exact this
  · have := x_row (S := prt S a s i) (a := a) (s := s) (b := S.T i a) (L := fun j => S.T s j / S.T s a) hN hi (fun j hj => by rw [prt_at]; exact z.T i j hi hj) (z.T i a hi (by omega)) zl
    rw [prt_at] at this
    exact this
  · show rowsL m n (prt S a s (i + 1)) = (rowsL m n (prt S a s i)).set i _
    unfold rowsL
    rw [set_rng]
    refine List.map_congr_left fun k hk => ?_
    show rowD (n + m + 1) (if k < i + 1 ∧ k ≠ s then (S.ex a s).T k else S.T k) = if k = i then _ else rowD (n + m + 1) (if k < i ∧ k ≠ s then (S.ex a s).T k else S.T k)
    by_cases q : k = i
    · subst q
      rw [if_pos ⟨by omega, e⟩, if_pos rfl, ex_row e]
      rfl
    · rw [if_neg q]
      by_cases q2 : k < i ∧ k ≠ s
      · rw [if_pos q2, if_pos (by omega)]
      · rw [if_neg q2, if_neg (by omega)]
  · exact x_by2 (S := prt S a s m) (by omega)
  · exact x_gain (S := prt S a s m) hN z.g (z.g a (by omega)) zl
  · show s < (rowsL m n (prt S a s m)).length
    unfold rowsL
    simpa using hs
  · unfold heldL; simpa using hs
  · show _ = (rowsL m n (prt S a s m)).set s _
    unfold rowsL
    rw [set_rng]
    refine List.map_congr_left fun k hk => ?_
    have hk : k < m := by simpa using hk
    show _ = if k = s then _ else rowD (n + m + 1) (if k < m ∧ k ≠ s then (S.ex a s).T k else S.T k)
    by_cases q : k = s
    · subst q
      rw [if_pos rfl, ex_lead]
      rfl
    · rw [if_neg q, if_pos ⟨hk, q⟩]
  · unfold heldL
    rw [set_rng]
    refine List.map_congr_left fun k hk => ?_
    show PyData.int ((if k = s then a else S.h k : Nat) : Int) = _
    by_cases q : k = s
    · rw [if_pos q, if_pos q]
    · rw [if_neg q, if_neg q]
/-! ### the run -/
theorem pow_le_sz {x : Nat} (h : x < 2 ^ 2000) : x < 2 ^ 2000 := h
/-- bounds for all tableaux of a run -/
structure Bnd (m n : Nat) (A : Tb) : Prop where
  ex : ∃ G M, Whole m n A G M ∧ (m * Kb m M + 1) * Kb m M < 2 ^ 2000
  g01 : G01 A
theorem Bnd.szt {A : Tb} (B : Bnd m n A) (O : Ok m n A S) : SzT m n S := by
  obtain ⟨G, M, W, hb⟩ := B.ex
  have k1 := Kb_pos m M
  have k2 : Kb m M ≤ (m * Kb m M + 1) * Kb m M := Nat.le_mul_of_pos_left _ (by omega)
  refine ⟨fun i j hi hj => ⟨?_, ?_⟩, fun j hj => ⟨?_, ?_⟩⟩
  · exact Nat.lt_of_le_of_lt (O.o0.szn W hi hj) (by omega)
  · have := O.o0.szd W hi hj
    exact Nat.lt_of_le_of_lt this (by omega)
  · exact Nat.lt_of_le_of_lt (O.szg W B.g01 hj).2 hb
  · have := (O.szg W B.g01 hj).1
    exact Nat.lt_of_le_of_lt this (by omega)
abbrev ExX := ExH X_lead X_len X_ne X_by X_row X_by2 X_gain
theorem run_ex {A : Tb} (B : Bnd m n A) (hN : n + m ≤ 1000) : ∀ S, Acc (Stp m n) S → Ok m n A S → ∃ (k : Nat) (d : D) (S' : Tb), RunD M_coming M_leaving ExX (.int n) (rowsL m n S) (gainL m n S) (heldL m S) k d (rowsL m n S') (gainL m n S') (heldL m S') ∧ Ok m n A S' ∧
    ((d = .none ∧ Best m n S') ∨ ∃ a : Nat, d = .int a ∧ Co m n S' a ∧ ∀ i, i < m → S'.T i a ≤ 0) := by
  intro S ac
  induction ac with
  | intro S _ ih =>
    intro O
    have z := B.szt O
    obtain ⟨d, hd, h⟩ := coming_m (S := S) hN
    rcases h with ⟨a, rfl, C⟩ | ⟨rfl, b⟩
    · obtain ⟨d2, hd2, h2⟩ := leaving_m z C.lt hN
      rcases h2 with ⟨s, rfl, L⟩ | ⟨rfl, no⟩
      · have O' := O.ex C.lt L
        obtain ⟨k, d3, S', r, o, e⟩ := ih (S.ex a s) ⟨a, s, C, L, rfl⟩ O'
        exact ⟨k + 1, d3, S', .step hd hd2 (exH hN L.sm C.lt L.pos z (B.szt O')) r, o, e⟩
      · exact ⟨0, _, S, .grow hd hd2, O, .inr ⟨a, rfl, C, no⟩⟩
    · exact ⟨0, _, S, .stop hd, O, .inl ⟨rfl, b⟩⟩
end

open PySem PySem.Spec PyProof.Rows L2
open PySem.W (minD maxD)
/-! ### the first tableau -/
noncomputable def I_many : EvF := f1 gLen (eVar 3)
noncomputable def I_size : EvF := f1 gLen (eVar 1)
noncomputable def I_rows : EvF := eLst aNil
noncomputable def I_enum : EvI := iEnum (aCons (eVar 1) aNil)
noncomputable def I_slack : EvF := eLc (iRng (aCons (eVar 4) aNil)) (.nm 8) tYesF (eIf (f2 (gEqD false) (eVar 8) (eVar 5)) (eCon (.tuple [.int (1), .int (1)])) (eCon (.tuple [.int (0), .int (1)]))) [8]
noncomputable def I_app : EvF := f2 gAdd (f2 gAdd (f1 gList (eVar 6)) (eVar 7)) (eLst (aCons (f2 gIx (eVar 2) (eVar 5)) aNil))
noncomputable def I_gain : EvF := f2 gAdd (f1 gList (eVar 3)) (f2 gMul (eLst (aCons (eCon (.tuple [.int (0), .int (1)])) aNil)) (f2 gAdd (eVar 4) (eCon (.int (1)))))
noncomputable def I_held : EvF := eLc (iRng (aCons (eVar 4) aNil)) (.nm 5) tYesF (f2 gAdd (eFld 0 "many") (eVar 5)) [5]
def fst0 (m n : Nat) (B : Nat → Nat → Rat) (β γ : Nat → Rat) : Tb where
  T i j := if j < n then B i j else if j < n + m then (if j - n = i then 1 else 0) else β i
  g j := if j < n then γ j else 0
  h i := n + i
theorem fst0_fresh {m n : Nat} {B : Nat → Nat → Rat} {β γ : Nat → Rat} (hb : ∀ i, i < m → 0 ≤ β i) : Fresh m n (fst0 m n B β γ) where
  h i _ := rfl
  one i hi := by
    show (if n + i < n then B _ (n + i) else if n + i < n + m then (if n + i - n = i then (1 : Rat) else 0) else β _) = 1
    rw [if_neg (by omega), if_pos (by omega), if_pos (by omega)]
  zer i k hi hk hne := by
    show (if n + i < n then B _ (n + i) else if n + i < n + m then (if n + i - n = k then (1 : Rat) else 0) else β _) = 0
    rw [if_neg (by omega), if_pos (by omega), if_neg (by omega)]
  gz i hi := by
    show (if n + i < n then γ (n + i) else (0 : Rat)) = 0
    rw [if_neg (by omega)]
  rhs i hi := by
    show 0 ≤ (if n + m < n then B i (n + m) else if n + m < n + m then (if n + m - n = i then 1 else 0) else β i)
    rw [if_neg (by omega), if_neg (by omega)]
    exact hb i hi
theorem range_add' (n m : Nat) : List.range (n + m) = List.range n ++ (List.range m).map (n + ·) := by
  refine List.ext_getElem? fun i => ?_
  by_cases h : i < n
  · rw [List.getElem?_append_left (by simpa using h), List.getElem?_range h, List.getElem?_range (by omega)]
  · rw [List.getElem?_append_right (by simpa using h), List.length_range, List.getElem?_map]
    by_cases h2 : i < n + m
    · rw [List.getElem?_range h2, List.getElem?_range (by omega)]
      simp
      omega
    · rw [List.getElem?_eq_none (by simp; omega), List.getElem?_eq_none (by simp; omega)]
      rfl
theorem rangeD0 (m : Nat) : rangeD 0 m = (List.range m).map fun s : Nat => PyData.int (s : Nat) := by
  unfold rangeD
  refine List.map_congr_left fun i hi => ?_
  rw [Int.zero_add]
theorem k_catnn {env : En} {τ : Tp} {a b : List D} {Q : W → Prop} (h : a.length + b.length ≤ 1000000) (q : Q (.new (a ++ b))) : wpO (gAdd env τ (.new a) (.new b)) Q := by
  have e : gAdd env τ (.new a) (.new b) = gCat env τ (.new a) (.new b) := rfl
  have e2 : gCat env τ (.new a) (.new b) = some (.new (a ++ b)) := by
    unfold gCat
    dsimp only [seqOf]
    have := line_big
    first | rfl | exact if_pos (by omega)
  rw [e, e2]
  exact wpO_of rfl q
theorem k_catnd {env : En} {τ : Tp} {a b : List D} {Q : W → Prop} (h : a.length + b.length ≤ 1000000) (q : Q (.new (a ++ b))) : wpO (gAdd env τ (.new a) (.d (.list b))) Q := by
  have e : gAdd env τ (.new a) (.d (.list b)) = gCat env τ (.new a) (.d (.list b)) := rfl
  have e2 : gCat env τ (.new a) (.d (.list b)) = some (.new (a ++ b)) := by
    unfold gCat
    dsimp only [seqOf]
    have := line_big
    first | rfl | exact if_pos (by omega)
  rw [e, e2]
  exact wpO_of rfl q
def fracs (n : Nat) (f : Nat → Rat) : D := .list ((List.range n).map fun j => frD (f j))
def rowsD (m n : Nat) (B : Nat → Nat → Rat) : D := .list ((List.range m).map fun i => fracs n (B i))
section
variable {m n : Nat} {B : Nat → Nat → Rat} {β γ : Nat → Rat}
theorem mk_row {i : Nat} : (List.range n).map (fun j => frD (B i j)) ++ (List.range m).map (fun s => frD (if s = i then 1 else 0)) ++ [frD (β i)] = (List.range (n + m + 1)).map fun j => frD ((fst0 m n B β γ).T i j) := by
  rw [range_add' (n + m) 1, range_add' n m, List.map_append, List.map_append, List.map_map, List.map_map]
  congr 1
  · congr 1
    · refine List.map_congr_left fun j hj => ?_
      have hj : j < n := by simpa using hj
      show _ = frD (if j < n then B i j else if j < n + m then (if j - n = i then 1 else 0) else β i)
      rw [if_pos hj]
    · refine List.map_congr_left fun j hj => ?_
      have hj : j < m := by simpa using hj
      show _ = frD (if n + j < n then B i (n + j) else if n + j < n + m then (if n + j - n = i then 1 else 0) else β i)
      rw [if_neg (show ¬ n + j < n by omega), if_pos (show n + j < n + m by omega), show n + j - n = j by omega]
  · show [frD (β i)] = [frD (if n + m + 0 < n then B i (n + m + 0) else if n + m + 0 < n + m then (if n + m + 0 - n = i then 1 else 0) else β i)]
    rw [if_neg (by omega), if_neg (by omega)]
theorem mk_gain : (List.range n).map (fun j => frD (γ j)) ++ (List.range (m + 1)).map (fun _ => PyData.tuple [.int 0, .int 1]) = gainL m n (fst0 m n B β γ) := by
  unfold gainL
  rw [show n + m + 1 = n + (m + 1) by omega, range_add' n (m + 1), List.map_append, List.map_map]
  congr 1
  · refine List.map_congr_left fun j hj => ?_
    have hj : j < n := by simpa using hj
    show _ = frD (if j < n then γ j else 0)
    rw [if_pos hj]
  · refine List.map_congr_left fun j hj => ?_
    show _ = frD (if n + j < n then γ (n + j) else 0)
    rw [if_neg (by omega), frD_zero]
theorem inH (hN : n + m + 1 ≤ 1000) : InH I_many I_size I_rows I_enum I_slack I_app I_gain I_held (rowsD m n B) (fracs m β) (fracs n γ) n (rowsL m n (fst0 m n B β γ)) (gainL m n (fst0 m n B β γ)) (heldL m (fst0 m n B β γ)) := by
  refine ⟨m, m, (List.range m).map fun i => fracs n (B i), (List.range m).map fun i => PyData.tuple [.int ((0 + i : Nat) : Int), fracs n (B i)], fun i => fracs n (B i), fun i => (List.range m).map (fun s => frD (if s = i then 1 else 0)), fun i => (List.range (n + m + 1)).map fun j => frD ((fst0 m n B β γ).T i j), rfl, ?_, ?_, ?_, ?_, by simp, by omega, fun i hi => ⟨?_, ?_, ?_⟩, rfl, ?_, ?_, ?_⟩
  · refine wpE_eq ?_
    unfold I_many enI fracs
    wtm_at "ev_st"
    exact ⟨by simp, rfl⟩
  · refine wpE_eq ?_
    unfold I_size enI rowsD
    wtm_at "ev_st"
    exact ⟨by simp, rfl⟩
  · refine wpE_eq ?_
    unfold I_rows
    wtm_at "ev_st"
    exact ⟨rfl, rfl⟩
  · rw [← enum_range (fun i => fracs n (B i)) m 0]
    rfl
  · rw [range_at _ hi, Nat.zero_add]
  · refine wpE_eq ?_
    unfold I_slack enI
    wtm_at "ev_st"
    rw [Int.toNat_natCast, rangeD0]
    refine k_lcK rfl (by simp; omega) (lcw_of (lc_map (f := fun s : Nat => PyData.int (s : Nat)) (g := fun s : Nat => frD (if s = i then 1 else 0)) (p := fun _ => true) fun s hs => ?_) ?_)
    · wtm_at "ev_st"
      refine ⟨rfl, rfl, fun _ => ?_⟩
      wtm_at "ev_st"
      refine k_d (fun c => ?_) (fun c => ?_)
      · wtm_at "ev_st"
        refine ⟨?_, rfl⟩
        rw [if_pos (by omega), frD_one]
        rfl
      · wtm_at "ev_st"
        refine ⟨?_, rfl⟩
        rw [if_neg (by omega), frD_zero]
        rfl
    · rw [filter_true]
      wtm_at "ev_st"
      exact ⟨rfl, rfl⟩
  · refine wpE_eq ?_
    unfold I_app enI fracs
    wtm_at "ev_st"
    refine k_catnd (by simp; omega) ?_
    wtm_at "ev_st"
    refine k_ixl (x := frD (β i)) (by omega) (by rw [Int.toNat_natCast]; exact range_at _ hi) ?_
    wtm_at "ev_st"
    refine k_catnn (by simp; omega) ?_
    rw [mk_row]
    wtm_at "ev_st"
    exact ⟨rfl, rfl⟩
  · refine wpE_eq ?_
    unfold I_gain enI fracs
    wtm_at "ev_st"
    rw [show ((m : Int) + 1) = ((m + 1 : Nat) : Int) by omega]
    refine k_rep (by omega) ?_
    wtm_at "ev_st"
    refine k_catnn (by simp; omega) ?_
    rw [← mk_gain]
    wtm_at "ev_st"
    exact ⟨rfl, rfl⟩
  · refine wpE_eq ?_
    unfold I_held enI
    wtm_at "ev_st"
    rw [Int.toNat_natCast, rangeD0]
    refine k_lcK rfl (by simp; omega) (lcw_of (lc_map (f := fun s : Nat => PyData.int (s : Nat)) (g := fun s : Nat => PyData.int ((n + s : Nat) : Int)) (p := fun _ => true) fun s hs => ?_) ?_)
    · wtm_at "ev_st"
      refine ⟨rfl, rfl, fun _ => ?_⟩
      wtm_at "ev_st"
      refine k_fldg (by wtm_at "ev_ga") (d := .int n) rfl ?_
      wtm_at "ev_st"
      exact ⟨by rw [show ((n : Int) + (s : Int)) = ((n + s : Nat) : Int) by omega]; rfl, rfl⟩
    · rw [filter_true]
      wtm_at "ev_st"
      exact ⟨rfl, rfl⟩
  · intro d hd
    obtain ⟨j, _, rfl⟩ := List.mem_map.mp hd
    exact ⟨_, rfl⟩
end

open PySem PySem.Spec PyProof.Rows L2
open PySem.W (minD maxD)
/-! ### shares: what goes to the ends -/
structure PG (ss : List Stk) (os : List Pr) : Prop where
  ins : ∀ i, i < ss.length → InS (ss.getD i dS)
  ov : OvOk ss os
  sl : ss.length ≤ 5
  ol : os.length ≤ 10
def ou (os : List Pr) (j : Nat) : Pr := os.getD j (0, 0)
def phi (ss : List Stk) (os : List Pr) (j : Nat) : Rat := place (atI' ss (ou os j).1) (atI' ss (ou os j).2)
def plo (ss : List Stk) (os : List Pr) (j : Nat) : Rat := place (atI' ss (ou os j).2) (atI' ss (ou os j).1)
def shB (ss : List Stk) (os : List Pr) (i j : Nat) : Rat :=
  if i = 2 * (ou os j).2.toNat + 1 then 0 - plo ss os j else if i = 2 * (ou os j).2.toNat then plo ss os j - 1 else if i = 2 * (ou os j).1.toNat + 1 then phi ss os j else if i = 2 * (ou os j).1.toNat then 1 - phi ss os j else 0
def rowsF (m n : Nat) (f : Nat → Nat → Rat) : List (List D) := (List.range m).map fun i => (List.range n).map fun c => frD (f i c)
theorem mD_rowsF (m n : Nat) (f : Nat → Nat → Rat) : mD (rowsF m n f) = rowsD m n f := by
  unfold mD rowsF rowsD
  rw [List.map_map]
  rfl
def updF (f : Nat → Nat → Rat) (a c : Nat) (v : Rat) : Nat → Nat → Rat := fun i k => if i = a then (if k = c then v else f i k) else f i k
theorem rowsF_congr {m n : Nat} {f g : Nat → Nat → Rat} (h : ∀ i j, i < m → j < n → f i j = g i j) : rowsF m n f = rowsF m n g := by
  refine List.map_congr_left fun i hi => List.map_congr_left fun j hj => ?_
  rw [h i j (by simpa using hi) (by simpa using hj)]
theorem stF {m n a c : Nat} {f : Nat → Nat → Rat} {v : Rat} {i : Nat} {e e1 e2 : EvF} {env : En} (ha : a < m) (hc : c < n) (h : e (env.set i (.d (rowsD m n f))) [] = some (.d (frD v), [])) (h1 : e1 (env.set i (.d (rowsD m n f))) [] = some (.d (.int a), [])) (h2 : e2 (env.set i (.d (rowsD m n f))) [] = some (.d (.int c), [])) :
    StR i e e1 e2 env (rowsF m n f) (rowsF m n (updF f a c v)) := by
  refine ⟨frD v, a, c, (List.range n).map fun k => frD (f a k), by rw [mD_rowsF]; exact h, rfl, by rw [mD_rowsF]; exact h1, by rw [mD_rowsF]; exact h2, range_at _ ha, by simpa using hc, ?_⟩
  unfold rowsF
  rw [set_rng, set_rng]
  refine List.map_congr_left fun i hi => ?_
  by_cases q : i = a
  · subst q
    rw [if_pos rfl]
    refine List.map_congr_left fun k hk => ?_
    unfold updF
    rw [if_pos rfl]
    split <;> rfl
  · rw [if_neg q]
    refine List.map_congr_left fun k hk => ?_
    unfold updF
    rw [if_neg q]
noncomputable def Y_elt : EvF := eLc (iSeq (f2 gIx (eVar 0) (eCon (.int (1))))) (.nm 9) tYesF (eCon (.tuple [.int (0), .int (1)])) [9]
noncomputable def Y_it0 : EvI := iSeq (f2 gIx (eVar 0) (eCon (.int (0))))
noncomputable def Y_it1 : EvI := iSeq (eTup (aCons (eCon (.int (0))) (aCons (eCon (.int (1))) aNil)))
noncomputable def Y_enum : EvI := iEnum (aCons (eCall S_crossings (aCons (eVar 0) aNil)) aNil)
def Y_tg : Tg := .tu (.cn (.nm 2) (.cn (.tu (.cn (.nm 3) (.cn (.nm 4) (.cn (.nm 5) (.cn (.nm 6) .nl))))) .nl))
noncomputable def Y_s1 : EvF × EvF × EvF := (eCall S_minus (aCons (eCon (.tuple [.int (1), .int (1)])) (aCons (eVar 5) aNil)), f2 gMul (eCon (.int (2))) (eVar 3), eVar 2)
noncomputable def Y_s2 : EvF × EvF × EvF := (eVar 5, f2 gAdd (f2 gMul (eCon (.int (2))) (eVar 3)) (eCon (.int (1))), eVar 2)
noncomputable def Y_s3 : EvF × EvF × EvF := (eCall S_minus (aCons (eVar 6) (aCons (eCon (.tuple [.int (1), .int (1)])) aNil)), f2 gMul (eCon (.int (2))) (eVar 4), eVar 2)
noncomputable def Y_s4 : EvF × EvF × EvF := (eCall S_minus (aCons (eCon (.tuple [.int (0), .int (1)])) (aCons (eVar 6) aNil)), f2 gAdd (f2 gMul (eCon (.int (2))) (eVar 4)) (eCon (.int (1))), eVar 2)
noncomputable def Y_ret : EvS := sSeq (sRet (eVar 1)) sNext
def envY (p : D) : En := [.d p, .no, .no, .no, .no, .no, .no, .no, .no, .no]
section
variable {ss : List Stk} {os : List Pr}
theorem y_elt {a b : Sl} (hl : os.length ≤ 10) : Y_elt [.d (pileD ss os), .no, .no, .no, .no, .no, .no, a, b, .no] [] = some (.new ((List.range os.length).map fun _ => frD 0), []) := by
  refine wpE_eq ?_
  unfold Y_elt
  wtm_at "ev_st"
  refine k_lcK rfl (by simp; omega) (lcw_of (lc_map (f := prD) (g := fun _ => PyData.tuple [.int 0, .int 1]) (p := fun _ => true) fun s hs => ?_) ?_)
  · wtm_at "ev_st"
    refine ⟨rfl, rfl, fun _ => ?_⟩
    wtm_at "ev_st"
    exact ⟨rfl, rfl⟩
  · rw [filter_true, frD_zero]
    wtm_at "ev_st"
    refine ⟨?_, rfl⟩
    rw [List.map_const', List.map_const', List.length_range]
theorem y_lc : ∀ l : List Stk, (os.length ≤ 10) → Lc2M (.nm 7) tYesF Y_it1 (.nm 8) tYesF Y_elt [8] (envY (pileD ss os)) (l.map stD) (List.replicate (2 * l.length) ((List.range os.length).map fun _ => frD 0))
  | [], _ => .nil
  | s :: l, hl => by
    have h := y_lc l hl
    have e : List.replicate (2 * (s :: l).length) ((List.range os.length).map fun _ => frD (0 : Rat)) = [(List.range os.length).map fun _ => frD 0, (List.range os.length).map fun _ => frD 0] ++ List.replicate (2 * l.length) ((List.range os.length).map fun _ => frD 0) := by
      rw [show 2 * (s :: l).length = (2 * l.length + 1) + 1 by simp; omega, List.replicate_succ, List.replicate_succ]
      rfl
    rw [e]
    refine .cons (env1 := [.d (pileD ss os), .no, .no, .no, .no, .no, .no, .d (stD s), .no, .no]) (its := [.int 0, .int 1]) (ws := [.d (.tuple [.int 0, .int 1])]) rfl rfl rfl rfl (by decide) ?_ h
    refine .cons (env1 := [.d (pileD ss os), .no, .no, .no, .no, .no, .no, .d (stD s), .d (.int 0), .no]) rfl rfl (y_elt hl) (.cons (env1 := [.d (pileD ss os), .no, .no, .no, .no, .no, .no, .d (stD s), .d (.int 1), .no]) rfl rfl (y_elt hl) .nil)
def shR (ss : List Stk) (os : List Pr) (j : Nat) : Nat → Nat → Rat := fun i c => if c < j then shB ss os i c else 0
theorem y_enum (G : PG ss os) : Y_enum (envY (pileD ss os)) [] = some (enumFrom 0 (os.map (rowC ss)), [.d (.list (os.map (rowC ss)))], []) := by
  have h : aCons (eCall S_crossings (aCons (eVar 0) aNil)) aNil (envY (pileD ss os)) [] = some ([.d (.list (os.map (rowC ss)))], []) := by
    refine wpA_eq ?_
    unfold envY
    wtm_at "ev_st"
    refine wpC_of (crossings_w G.ins G.ov (by have := G.ol; omega) _) ?_
    wtm_at "ev_st"
    exact ⟨rfl, rfl⟩
  unfold Y_enum iEnum
  rw [h]
  rfl
theorem ou_at {j : Nat} (h : j < os.length) : os[j]? = some (ou os j) := by
  unfold ou
  rw [List.getD_eq_getElem?_getD, List.getElem?_eq_getElem h]
  rfl
theorem PG.at (G : PG ss os) {j : Nat} (h : j < os.length) : ∃ u l : Nat, ou os j = ((u : Int), (l : Int)) ∧ u < ss.length ∧ l < ss.length ∧ u ≠ l ∧ mCross (ss.getD u dS) (ss.getD l dS) = true := G.ov _ (List.mem_of_getElem? (ou_at h))
theorem place_rng {s o : Stk} (h : mCross s o = true) : 0 < place s o ∧ place s o < 1 := by
  obtain ⟨_, h2⟩ := cross_parts h
  unfold place
  generalize side o.1 o.2 s.1 = c at *
  generalize side o.1 o.2 s.2 = d at *
  have c1 : 0 < (c.natAbs : Int) := by rcases neg_mul_cases h2 with ⟨a, b⟩ | ⟨a, b⟩ <;> omega
  have d1 : 0 < (d.natAbs : Int) := by rcases neg_mul_cases h2 with ⟨a, b⟩ | ⟨a, b⟩ <;> omega
  generalize (c.natAbs : Int) = x at *
  generalize (d.natAbs : Int) = y at *
  have x1 : (0 : Rat) < (x : Rat) := Rat.intCast_lt_intCast.mpr c1
  have y1 : (0 : Rat) < (y : Rat) := Rat.intCast_lt_intCast.mpr d1
  rw [Rat.intCast_add]
  have s1 : (0 : Rat) < (x : Rat) + y := by grind
  have iv : 0 < ((x : Rat) + y)⁻¹ := Rat.inv_pos.mpr s1
  have e : ((x : Rat) + y) * ((x : Rat) + y)⁻¹ = 1 := Rat.mul_inv_cancel _ (by intro z; rw [z] at s1; exact absurd s1 (by decide))
  rw [Rat.div_def]
  constructor
  · exact Rat.mul_pos x1 iv
  · have := Rat.mul_pos y1 iv
    grind
theorem PG.hi (G : PG ss os) {j : Nat} (h : j < os.length) : 0 < phi ss os j ∧ phi ss os j < 1 ∧ Sz 30 (phi ss os j) := by
  obtain ⟨u, l, e, hu, hl, hne, hx⟩ := G.at h
  unfold phi
  rw [e]
  exact ⟨(place_rng hx).1, (place_rng hx).2, place_sz (G.ins u hu) (G.ins l hl) hx⟩
theorem PG.lo (G : PG ss os) {j : Nat} (h : j < os.length) : 0 < plo ss os j ∧ plo ss os j < 1 ∧ Sz 30 (plo ss os j) := by
  obtain ⟨u, l, e, hu, hl, hne, hx⟩ := G.at h
  have hx' : mCross (ss.getD l dS) (ss.getD u dS) = true := by rw [cross_sym]; exact hx
  unfold plo
  rw [e]
  exact ⟨(place_rng hx').1, (place_rng hx').2, place_sz (G.ins l hl) (G.ins u hu) hx'⟩
theorem shH (G : PG ss os) : ShH 1 Y_enum Y_tg Y_s1 Y_s2 Y_s3 Y_s4 (envY (pileD ss os)) (rowsF (2 * ss.length) os.length fun _ _ => 0) (rowsF (2 * ss.length) os.length (shB ss os)) := by
  refine ⟨_, _, fun j => rowsF (2 * ss.length) os.length (shR ss os j), rowsF_congr fun i j hi hj => ?_, rowsF_congr fun i j hi hj => ?_, y_enum G, rfl, fun j hj => ?_⟩
  · unfold shR; rw [if_neg (by omega)]
  · unfold shR
    rw [enumFrom_len, List.length_map, if_pos hj]
  · have hj' : j < os.length := by rw [enumFrom_len, List.length_map] at hj; exact hj
    obtain ⟨u, l, e, hu, hl, hne, hx⟩ := G.at hj'
    obtain ⟨h0, h1, hz⟩ := G.hi hj'
    obtain ⟨l0, l1, lz⟩ := G.lo hj'
    have hit : (enumFrom 0 (os.map (rowC ss)))[j] = .tuple [.int (j : Nat), .tuple [.int u, .int l, frD (phi ss os j), frD (plo ss os j)]] := by
      have h2 : (enumFrom 0 (os.map (rowC ss)))[j]? = some ((enumFrom 0 (os.map (rowC ss)))[j]) := List.getElem?_eq_getElem hj
      obtain ⟨x, x1, x2⟩ := enumFrom_at _ _ _ _ h2
      rw [List.getElem?_map, ou_at hj'] at x1
      cases x1
      rw [x2, Nat.zero_add]
      unfold phi plo
      rw [e]
    have z1 : Sz 4000 (phi ss os j) := hz.mono (by decide)
    have z2 : Sz 4000 (plo ss os j) := lz.mono (by decide)
    have sl := G.sl
    have mu := mul_sm (i := 2) (j := (u : Int)) (by decide) (by omega)
    have ml := mul_sm (i := 2) (j := (l : Int)) (by decide) (by omega)
    let f0 := shR ss os j
    let f1 := updF f0 (2 * u) j (1 - phi ss os j)
    let f2' := updF f1 (2 * u + 1) j (phi ss os j)
    let f3 := updF f2' (2 * l) j (plo ss os j - 1)
    refine ⟨[.d (pileD ss os), .no, .d (.int j), .d (.int u), .d (.int l), .d (frD (phi ss os j)), .d (frD (plo ss os j)), .no, .no, .no], rowsF _ _ f1, rowsF _ _ f2', rowsF _ _ f3, by rw [hit]; rfl, rfl, rfl, stF (by omega) hj' ?_ ?_ rfl, stF (by omega) hj' rfl ?_ rfl, stF (by omega) hj' ?_ ?_ rfl, ?_⟩
    · refine wpE_eq ?_
      show wpE (eCall S_minus _) [_, .d (rowsD _ _ _), _, _, _, _, _, _, _, _] _ _
      wtm_at "ev_st"
      rw [← frD_one]
      refine wpC_of (minus_w sz_one z1 _) ?_
      wtm_at "ev_st"
      exact ⟨rfl, rfl⟩
    · show (f2 gMul (eCon (.int (2))) (eVar 3)) [_, .d (rowsD _ _ _), .d (.int j), .d (.int u), .d (.int l), _, _, _, _, _] [] = _
      refine wpE_eq ?_
      wtm_at "ev_st"
      exact ⟨rfl, rfl⟩
    · show (f2 gAdd (f2 gMul (eCon (.int (2))) (eVar 3)) (eCon (.int (1)))) [_, .d (rowsD _ _ _), .d (.int j), .d (.int u), .d (.int l), _, _, _, _, _] [] = _
      refine wpE_eq ?_
      wtm_at "ev_st"
      exact ⟨rfl, rfl⟩
    · refine wpE_eq ?_
      show wpE (eCall S_minus _) [_, .d (rowsD _ _ _), _, _, _, _, _, _, _, _] _ _
      wtm_at "ev_st"
      rw [← frD_one]
      refine wpC_of (minus_w z2 sz_one _) ?_
      wtm_at "ev_st"
      exact ⟨rfl, rfl⟩
    · show (f2 gMul (eCon (.int (2))) (eVar 4)) [_, .d (rowsD _ _ _), .d (.int j), .d (.int u), .d (.int l), _, _, _, _, _] [] = _
      refine wpE_eq ?_
      wtm_at "ev_st"
      exact ⟨rfl, rfl⟩
    · have last : rowsF (2 * ss.length) os.length (shR ss os (j + 1)) = rowsF (2 * ss.length) os.length (updF f3 (2 * l + 1) j (0 - plo ss os j)) := by
        refine rowsF_congr fun i c hi hc => ?_
        show (if c < j + 1 then shB ss os i c else 0) = if i = 2 * l + 1 then (if c = j then _ else f3 i c) else f3 i c
        show _ = if i = 2 * l + 1 then (if c = j then 0 - plo ss os j else (if i = 2 * l then (if c = j then plo ss os j - 1 else f2' i c) else f2' i c)) else (if i = 2 * l then (if c = j then plo ss os j - 1 else f2' i c) else f2' i c)
        have e2 : f2' i c = if i = 2 * u + 1 then (if c = j then phi ss os j else f1 i c) else f1 i c := rfl
        have e1 : f1 i c = if i = 2 * u then (if c = j then 1 - phi ss os j else f0 i c) else f0 i c := rfl
        have e0 : f0 i c = if c < j then shB ss os i c else 0 := rfl
        rw [e2, e1, e0]
        by_cases hcj : c = j
        · subst hcj
          rw [if_pos (show c < c + 1 by omega)]
          unfold shB
          rw [e]
          simp only [Int.toNat_natCast, if_true, if_neg (show ¬ c < c by omega)]
        · by_cases hlt : c < j
          · rw [if_pos (show c < j + 1 by omega), if_pos hlt]
            simp only [hcj, if_false, ite_self]
          · rw [if_neg (show ¬ c < j + 1 by omega), if_neg hlt]
            simp only [hcj, if_false, ite_self]
      show StR 1 Y_s4.1 Y_s4.2.1 Y_s4.2.2 _ _ (rowsF (2 * ss.length) os.length (shR ss os (j + 1)))
      rw [last]
      refine stF (by omega) hj' ?_ ?_ rfl
      · refine wpE_eq ?_
        show wpE (eCall S_minus _) [_, .d (rowsD _ _ _), _, _, _, _, _, _, _, _] _ _
        wtm_at "ev_st"
        refine wpC_of (minus0_w z2 _) ?_
        wtm_at "ev_st"
        exact ⟨rfl, rfl⟩
      · show (f2 gAdd (f2 gMul (eCon (.int (2))) (eVar 4)) (eCon (.int (1)))) [_, .d (rowsD _ _ _), .d (.int j), .d (.int u), .d (.int l), _, _, _, _, _] [] = _
        refine wpE_eq ?_
        wtm_at "ev_st"
        exact ⟨rfl, rfl⟩
/-- the meaning of shares -/
def R_shares : List W → D → Prop := fun ws d => ∃ ss os, PG ss os ∧ ws = [.d (pileD ss os)] ∧ d = rowsD (2 * ss.length) os.length (shB ss os)
noncomputable def S_shares : Sem1 := relSem R_shares
theorem pileD_inj {ss ss' : List Stk} {os os' : List Pr} (h : pileD ss os = pileD ss' os') : ss = ss' ∧ os = os' := by
  injection h with h
  injection h with h1 h2
  injection h2 with h2 _
  injection h1 with h1
  injection h2 with h2
  have stI : ∀ a b : Stk, stD a = stD b → a = b := fun ⟨⟨a, b⟩, ⟨c, d⟩⟩ ⟨⟨a', b'⟩, ⟨c', d'⟩⟩ h => by
    simp only [stD, ptD, PyData.tuple.injEq, List.cons.injEq, PyData.int.injEq, and_true] at h
    obtain ⟨⟨rfl, rfl⟩, rfl, rfl⟩ := h
    rfl
  have prI : ∀ a b : Pr, prD a = prD b → a = b := fun ⟨a, b⟩ ⟨a', b'⟩ h => by
    simp only [prD, PyData.tuple.injEq, List.cons.injEq, PyData.int.injEq, and_true] at h
    obtain ⟨rfl, rfl⟩ := h
    rfl
  exact ⟨List.map_inj_right (f := stD) (fun x y => stI x y) |>.mp h1, List.map_inj_right (f := prD) (fun x y => prI x y) |>.mp h2⟩
theorem shares_w (G : PG ss os) (τ : Tp) : S_shares [.d (pileD ss os)] τ = some (rowsD (2 * ss.length) os.length (shB ss os), τ) := by
  obtain ⟨d, ⟨ss', os', G', e1, e2⟩, e⟩ := relSem_ex (R := R_shares) (ws := [.d (pileD ss os)]) τ ⟨ss, os, G, rfl, rfl⟩
  injection e1 with e1 _
  injection e1 with e1
  obtain ⟨rfl, rfl⟩ := pileD_inj e1
  rw [e2] at e
  exact e
end

open PySem PySem.Spec PyProof.Rows L2
open PySem.W (minD maxD)
/-! ### how great the parts of the first tableau are -/
theorem raw_len2 (ss : List Stk) : ∀ k, 2 * (raw ss k).length ≤ k * (k - 1)
  | 0 => by simp [raw]
  | k + 1 => by
    have ih := raw_len2 ss k
    have : (rowOf ss k).length ≤ k := by
      unfold rowOf
      refine Nat.le_trans (List.length_filter_le _ _) ?_
      simp
    unfold raw
    rw [List.length_append, List.length_map]
    have e : (k + 1) * (k + 1 - 1) = k * (k - 1) + 2 * k := by
      cases k with
      | zero => rfl
      | succ k =>
        show (k + 1 + 1) * (k + 1) = (k + 1) * k + 2 * (k + 1)
        rw [Nat.mul_comm (k + 1 + 1) (k + 1), show k + 1 + 1 = k + 2 by rfl, Nat.mul_add]
        omega
    omega
theorem PileOk.oslen2 {m : Nat} {ss : List Stk} {os : List Pr} (h : PileOk m ss os) (hm : m ≤ 5) : os.length ≤ 10 := by
  obtain ⟨fs, rfl, hf⟩ := h.overs
  have h1 := raw_len2 ss ss.length
  have h2 := congrArg List.length hf
  unfold pairsOf at h2
  rw [List.length_map, (srt_perm _).length_eq] at h2
  rw [(srt_perm _).length_eq]
  have hl := h.len
  have : ss.length * (ss.length - 1) ≤ 5 * 4 := Nat.mul_le_mul (by omega) (by omega)
  omega
theorem PileOk.pg {m : Nat} {ss : List Stk} {os : List Pr} (h : PileOk m ss os) (hm : m ≤ 5) : PG ss os := ⟨fun _ hi => h.ins hi, h.ov, Nat.le_trans h.len hm, h.oslen2 hm⟩
def prodN (f : Nat → Nat) : Nat → Nat
  | 0 => 1
  | n + 1 => prodN f n * f n
theorem prodN_dvd (f : Nat → Nat) : ∀ {n j : Nat}, j < n → ∃ r, prodN f n = f j * r
  | n + 1, j, h => by
    unfold prodN
    by_cases e : j = n
    · subst e; exact ⟨_, Nat.mul_comm _ _⟩
    · obtain ⟨r, hr⟩ := prodN_dvd f (n := n) (j := j) (by omega)
      exact ⟨r * f n, by rw [hr, Nat.mul_assoc]⟩
theorem prodN_pos (f : Nat → Nat) : ∀ {n : Nat}, (∀ j, j < n → 0 < f j) → 0 < prodN f n
  | 0, _ => by unfold prodN; omega
  | n + 1, h => by
    unfold prodN
    exact Nat.mul_pos (prodN_pos f fun j hj => h j (by omega)) (h n (by omega))
theorem prodN_le (f : Nat → Nat) (c : Nat) : ∀ {n : Nat}, (∀ j, j < n → f j ≤ c) → prodN f n ≤ c ^ n
  | 0, _ => by unfold prodN; simp
  | n + 1, h => by
    unfold prodN
    rw [Nat.pow_succ]
    exact Nat.mul_le_mul (prodN_le f c fun j hj => h j (by omega)) (h n (by omega))
section
variable {ss : List Stk} {os : List Pr}
/-- the bottom of a crossing's places -/
def dj (ss : List Stk) (os : List Pr) (j : Nat) : Nat := (btm (atI' ss (ou os j).1) (atI' ss (ou os j).2)).natAbs
theorem btm_288 {s o : Stk} (hs : InS s) (ho : InS o) : (btm s o).natAbs ≤ 288 := by
  obtain ⟨⟨p1, p2, p3, p4⟩, ⟨q1, q2, q3, q4⟩⟩ := hs
  obtain ⟨⟨r1, r2, r3, r4⟩, ⟨u1, u2, u3, u4⟩⟩ := ho
  rw [btm_eq]
  have m1 := mul_b (i := s.2.1 - s.1.1) (j := o.2.2 - o.1.2) (m := 12) (n := 12) (by omega) (by omega)
  have m2 := mul_b (i := s.2.2 - s.1.2) (j := o.2.1 - o.1.1) (m := 12) (n := 12) (by omega) (by omega)
  omega
theorem btm_sym (s o : Stk) : btm o s = - btm s o := by
  rw [btm_eq, btm_eq]
  grind
theorem place_int {s o : Stk} (h : mCross s o = true) : 0 < (btm s o).natAbs ∧ IsI (((btm s o).natAbs : Rat) * place s o) := by
  obtain ⟨_, h2⟩ := cross_parts h
  have hb := btm_eq2 s o
  have hn : (((side o.1 o.2 s.1).natAbs : Int) + ((side o.1 o.2 s.2).natAbs : Int)) = ((btm s o).natAbs : Int) := by
    rcases neg_mul_cases h2 with ⟨a, b⟩ | ⟨a, b⟩ <;> omega
  have hp : 0 < (btm s o).natAbs := by
    rcases neg_mul_cases h2 with ⟨a, b⟩ | ⟨a, b⟩ <;> omega
  refine ⟨hp, ((side o.1 o.2 s.1).natAbs : Int), ?_⟩
  unfold place
  rw [hn]
  have e : ((btm s o).natAbs : Rat) = (((btm s o).natAbs : Int) : Rat) := by rw [Rat.intCast_natCast]
  rw [e]
  have nz : (((btm s o).natAbs : Int) : Rat) ≠ 0 := fun z => by
    rw [Rat.intCast_eq_zero_iff] at z
    omega
  grind
theorem PG.dj (G : PG ss os) {j : Nat} (h : j < os.length) : 0 < dj ss os j ∧ dj ss os j ≤ 288 ∧ IsI ((dj ss os j : Rat) * phi ss os j) ∧ IsI ((dj ss os j : Rat) * plo ss os j) := by
  obtain ⟨u, l, e, hu, hl, hne, hx⟩ := G.at h
  have hx' : mCross (ss.getD l dS) (ss.getD u dS) = true := by rw [cross_sym]; exact hx
  unfold Ev.dj phi plo
  rw [e]
  have e2 : (btm (atI' ss (u : Int)) (atI' ss (l : Int))).natAbs = (btm (atI' ss (l : Int)) (atI' ss (u : Int))).natAbs := by rw [btm_sym (atI' ss (l : Int))]; omega
  refine ⟨(place_int hx).1, btm_288 (G.ins u hu) (G.ins l hl), (place_int hx).2, ?_⟩
  dsimp only
  rw [e2]
  exact (place_int hx').2
def Gp (ss : List Stk) (os : List Pr) : Nat := prodN (dj ss os) os.length
theorem PG.gp (G : PG ss os) : 0 < Gp ss os ∧ Gp ss os ≤ 288 ^ 10 := by
  refine ⟨prodN_pos _ fun j hj => (G.dj hj).1, Nat.le_trans (prodN_le _ 288 fun j hj => (G.dj hj).2.1) (Nat.pow_le_pow_right (by decide) G.ol)⟩
theorem isI_mulN {x : Rat} {a r : Nat} (h : IsI ((a : Rat) * x)) : IsI (((a * r : Nat) : Rat) * x) := by
  have e : ((a * r : Nat) : Rat) * x = (r : Rat) * ((a : Rat) * x) := by rw [Rat.natCast_mul]; grind
  rw [e]
  exact (IsI.nat r).mul h
theorem PG.gphi (G : PG ss os) {j : Nat} (h : j < os.length) (c : Nat) : IsI (((Gp ss os * c : Nat) : Rat) * phi ss os j) ∧ IsI (((Gp ss os * c : Nat) : Rat) * plo ss os j) := by
  obtain ⟨r, hr⟩ := prodN_dvd (Ev.dj ss os) h
  obtain ⟨_, _, h1, h2⟩ := G.dj h
  unfold Gp
  rw [hr, Nat.mul_assoc]
  exact ⟨isI_mulN h1, isI_mulN h2⟩
theorem unit_le {g : Nat} {x : Rat} (h1 : x ≤ 1) (h2 : -1 ≤ x) : (g : Rat) * x ≤ g ∧ -(g : Rat) ≤ (g : Rat) * x := by
  have g0 : (0 : Rat) ≤ g := Rat.natCast_nonneg
  have e1 : 0 ≤ (g : Rat) * (1 - x) := Rat.mul_nonneg g0 (by grind)
  have e2 : 0 ≤ (g : Rat) * (1 + x) := Rat.mul_nonneg g0 (by grind)
  constructor <;> grind
theorem PG.shB_le (G : PG ss os) {i j : Nat} (h : j < os.length) : shB ss os i j ≤ 1 ∧ -1 ≤ shB ss os i j := by
  obtain ⟨a1, a2, _⟩ := G.hi h
  obtain ⟨b1, b2, _⟩ := G.lo h
  unfold shB
  split
  · constructor <;> grind
  · split
    · constructor <;> grind
    · split
      · constructor <;> grind
      · split
        · constructor <;> grind
        · constructor <;> decide
theorem PG.shB_int (G : PG ss os) {i j : Nat} (h : j < os.length) (c : Nat) : IsI (((Gp ss os * c : Nat) : Rat) * shB ss os i j) := by
  obtain ⟨h1, h2⟩ := G.gphi h c
  have hg : IsI ((Gp ss os * c : Nat) : Rat) := IsI.nat _
  generalize ((Gp ss os * c : Nat) : Rat) = g at *
  unfold shB
  split
  · rw [show g * (0 - plo ss os j) = ((0 : Int) : Rat) - g * plo ss os j by rw [Rat.intCast_zero]; grind]
    exact (IsI.of 0).sub h2
  · split
    · rw [show g * (plo ss os j - 1) = g * plo ss os j - g by grind]
      exact h2.sub hg
    · split
      · exact h1
      · split
        · rw [show g * (1 - phi ss os j) = g - g * phi ss os j by grind]
          exact hg.sub h1
        · exact ⟨0, by rw [Rat.intCast_zero]; grind⟩
/-- bounds that are halves of weights -/
theorem PG.bnd (G : PG ss os) {β : Nat → Rat} {w : Nat → Nat} (hw : ∀ i, w i ≤ 1024) (hb : ∀ i, β i = (w i : Rat) / 2) : Bnd (2 * ss.length) os.length (fst0 (2 * ss.length) os.length (shB ss os) β fun _ => 1) := by
  obtain ⟨g0, g1⟩ := G.gp
  have sl := G.sl
  refine ⟨⟨Gp ss os * 2, 288 ^ 10 * 2 * 1024, ⟨by omega, fun k j hk hj => ?_, fun k j hk hj => ?_⟩, ?_⟩, fun j => ?_⟩
  · show IsI (_ * (if j < os.length then shB ss os k j else if j < os.length + 2 * ss.length then (if j - os.length = k then 1 else 0) else β k))
    split
    · rename_i h; exact G.shB_int h 2
    · split
      · split
        · rw [show ((Gp ss os * 2 : Nat) : Rat) * 1 = ((Gp ss os * 2 : Nat) : Rat) by grind]; exact IsI.nat _
        · exact ⟨0, by rw [Rat.intCast_zero]; grind⟩
      · rw [hb, show ((Gp ss os * 2 : Nat) : Rat) * ((w k : Rat) / 2) = ((Gp ss os * w k : Nat) : Rat) by rw [Rat.natCast_mul, Rat.natCast_mul]; grind]
        exact IsI.nat _
  · show _ * (if j < os.length then shB ss os k j else if j < os.length + 2 * ss.length then (if j - os.length = k then 1 else 0) else β k) ≤ _ ∧ _ ≤ _ * (if j < os.length then shB ss os k j else if j < os.length + 2 * ss.length then (if j - os.length = k then 1 else 0) else β k)
    have big : ((Gp ss os * 2 : Nat) : Rat) ≤ ((288 ^ 10 * 2 * 1024 : Nat) : Rat) := Rat.natCast_le_natCast.mpr (by omega)
    have go : ∀ x : Rat, x ≤ 1 → -1 ≤ x → ((Gp ss os * 2 : Nat) : Rat) * x ≤ ((288 ^ 10 * 2 * 1024 : Nat) : Rat) ∧ -((288 ^ 10 * 2 * 1024 : Nat) : Rat) ≤ ((Gp ss os * 2 : Nat) : Rat) * x := fun x h1 h2 => by
      have := unit_le (g := Gp ss os * 2) h1 h2
      constructor <;> grind
    split
    · rename_i h; exact go _ (G.shB_le h).1 (G.shB_le h).2
    · split
      · split
        · exact go 1 (by decide) (by decide)
        · exact go 0 (by decide) (by decide)
      · rw [hb, show ((Gp ss os * 2 : Nat) : Rat) * ((w k : Rat) / 2) = ((Gp ss os * w k : Nat) : Rat) by rw [Rat.natCast_mul, Rat.natCast_mul]; grind]
        have h1 : Gp ss os * w k ≤ 288 ^ 10 * 1024 := Nat.mul_le_mul g1 (hw k)
        have h2 : ((Gp ss os * w k : Nat) : Rat) ≤ ((288 ^ 10 * 2 * 1024 : Nat) : Rat) := Rat.natCast_le_natCast.mpr (by omega)
        have h3 : (0 : Rat) ≤ ((Gp ss os * w k : Nat) : Rat) := Rat.natCast_nonneg
        have h4 : (0 : Rat) ≤ ((288 ^ 10 * 2 * 1024 : Nat) : Rat) := Rat.natCast_nonneg
        constructor <;> grind
  · have : ∀ m, m ≤ 10 → (m * Kb m (288 ^ 10 * 2 * 1024) + 1) * Kb m (288 ^ 10 * 2 * 1024) < 2 ^ 2000 := by decide +kernel
    exact this _ (by omega)
  · show (if j < os.length then (1 : Rat) else 0) = 0 ∨ (if j < os.length then (1 : Rat) else 0) = 1
    split
    · exact .inr rfl
    · exact .inl rfl
end

open PySem PySem.Spec PyProof.Rows L2
open PySem.W (minD maxD)
/-! ### halves, pairs -/
theorem lc2_mp {α : Type} {tg : Tg} {tt : EvF} {fi1 : EvI} {tg1 : Tg} {tt1 te : EvF} {vs1 : List Nat} {env : En} {τ : Tp} {f : α → D} {l : α → List D} : ∀ {xs : List α}, (∀ x ∈ xs, wpO (bindT tg (f x) env) fun e => wpE tt e τ fun w t => w = .d (.bool true) ∧ t = τ ∧ wpI fi1 e τ fun its ws t => t = τ ∧ (ws.all isDW && decide (its.length ≤ 1000)) = true ∧ lcGo tg1 tt1 te (wipeE e vs1) its τ = some (l x, τ)) →
    lc2Go tg tt fi1 tg1 tt1 te vs1 env (xs.map f) τ = some (xs.flatMap l, τ)
  | [], _ => rfl
  | x :: xs, h => by
    have ih := lc2_mp (xs := xs) fun y hy => h y (List.mem_cons_of_mem _ hy)
    obtain ⟨e, b1, q⟩ := wpO_ex (h x List.mem_cons_self)
    rw [wpE_un] at q
    obtain ⟨⟨w, t⟩, b2, q1, q2, q3⟩ := wpO_ex q
    dsimp only at q1 q2 q3
    subst q1 q2
    have q3 : wpO (fi1 e t) fun p => p.2.2 = t ∧ (p.2.1.all isDW && decide (p.1.length ≤ 1000)) = true ∧ lcGo tg1 tt1 te (wipeE e vs1) p.1 t = some (l x, t) := by
      unfold wpI at q3
      exact q3
    obtain ⟨⟨its, ws, t3⟩, b3, q4, q5, q6⟩ := wpO_ex q3
    dsimp only at q4 q5 q6
    subst q4
    rw [List.map_cons]
    unfold lc2Go
    rw [b1]
    dsimp only
    rw [b2]
    dsimp only
    rw [b3]
    dsimp only
    rw [if_pos q5, q6]
    dsimp only
    rw [ih]
    rfl
theorem wpI_of {fi : EvI} {env : En} {τ τ' : Tp} {its : List D} {ws : List W} {Q : List D → List W → Tp → Prop} (e : fi env τ = some (its, ws, τ')) (h : Q its ws τ') : wpI fi env τ Q := by
  unfold wpI
  exact wpO_of e h
noncomputable def S_paired : Sem1 := runB (sSeq (sRet (f1 gTuple (eLc (iRngS (aCons (eCon (.int (0))) (aCons (f1 gLen (eVar 0)) (aCons (eCon (.int (2))) aNil)))) (.nm 1) tYesF (eTup (aCons (f2 gIx (eVar 0) (eVar 1)) (aCons (f2 gIx (eVar 0) (f2 gAdd (eVar 1) (eCon (.int (1))))) aNil))) [1])))
    sNext) ["some", "at"]
noncomputable def S_halves : Sem1 := runB (sSeq (sRet (eLc2 (iSeq (eVar 0)) (.nm 1) tYesF (iSeq (eTup (aCons (eCon (.int (0))) (aCons (eCon (.int (1))) aNil)))) (.nm 2) tYesF (eCall S_times (aCons (eTup (aCons (eVar 1) (aCons (eCon (.int (1))) aNil))) (aCons (eCon (.tuple [.int (1), .int (2)])) aNil))) [1, 2] [2]))
    sNext) ["weights", "weight", "end"]
def pairD (k : Nat) (f : Nat → Rat) : D := .tuple ((List.range k).map fun i => .tuple [frD (f (2 * i)), frD (f (2 * i + 1))])
theorem rsize {k : Nat} : Builtin.Range.rangeSize 0 ((2 * k : Nat) : Int) 2 = (k : Int) := by
  unfold Builtin.Range.rangeSize
  rw [if_pos (by decide)]
  split <;> omega
theorem step2 : ∀ k : Nat, k ≤ 60 → stepOk 0 ((2 * k : Nat) : Int) 2 = true := by decide +kernel
theorem paired_w {k : Nat} (f : Nat → Rat) (hk : k ≤ 60) (τ : Tp) : S_paired [.d (fracs (2 * k) f)] τ = some (pairD k f, τ) := by
  refine wpC_eq ?_
  unfold S_paired fracs
  wtm_at "ev_st"
  refine wpI_of (its := (List.range k).map fun i : Nat => PyData.int ((2 * i : Nat) : Int)) (ws := []) (τ' := τ) ?_ ?_
  · have h : aCons (eCon (.int (0))) (aCons (f1 gLen (eVar 0)) (aCons (eCon (.int (2))) aNil)) [.d (.list ((List.range (2 * k)).map fun j => frD (f j))), .no] τ = some ([.d (.int 0), .d (.int ((2 * k : Nat) : Int)), .d (.int 2)], τ) := by
      refine wpA_eq ?_
      wtm_at "ev_st"
      exact ⟨by simp, rfl⟩
    unfold iRngS
    rw [h]
    dsimp only
    rw [if_pos (step2 k hk), rsize]
    congr 1
    congr 1
    unfold rangeC
    rw [Int.toNat_natCast]
    refine List.map_congr_left fun i hi => ?_
    congr 1
    omega
  · refine k_lcK rfl (by simp; omega) (lcw_of (lc_map (f := fun i : Nat => PyData.int ((2 * i : Nat) : Int)) (g := fun i : Nat => PyData.tuple [frD (f (2 * i)), frD (f (2 * i + 1))]) (p := fun _ => true) fun i hi => ?_) ?_)
    · have hi : i < k := by simpa using hi
      wtm_at "ev_st"
      refine ⟨rfl, rfl, fun _ => ?_⟩
      wtm_at "ev_st"
      refine k_ixl (x := frD (f (2 * i))) (by omega) (by rw [Int.toNat_natCast]; exact range_at _ (by omega)) ?_
      wtm_at "ev_st"
      refine k_ixl (x := frD (f (2 * i + 1))) (by omega) (by rw [show (((2 * i : Nat) : Int) + 1).toNat = 2 * i + 1 by omega]; exact range_at _ (by omega)) ?_
      wtm_at "ev_st"
      exact ⟨rfl, rfl⟩
    · rw [filter_true]
      wtm_at "ev_st"
      exact ⟨rfl, rfl⟩
def bet (wt : List Nat) (i : Nat) : Rat := ((wt.getD (i / 2) 0 : Nat) : Rat) / 2
abbrev wtD (wt : List Nat) : D := .tuple (wt.map fun w => PyData.int (w : Nat))
theorem halves_flat : ∀ wt : List Nat, (wt.flatMap fun w : Nat => [frD ((w : Rat) / 2), frD ((w : Rat) / 2)]) = (List.range (2 * wt.length)).map fun i => frD (bet wt i)
  | [] => rfl
  | w :: r => by
    have ih := halves_flat r
    rw [List.flatMap_cons, ih, show 2 * (w :: r).length = 2 + 2 * r.length by simp; omega, range_add', List.map_append, List.map_map]
    congr 1
    refine List.map_congr_left fun i hi => ?_
    show frD (bet r i) = frD (bet (w :: r) (2 + i))
    unfold bet
    rw [show (2 + i) / 2 = i / 2 + 1 by omega]
    rfl
theorem half_num : ((1 : Rat) / 2).num = 1 := by decide +kernel
theorem half_den : ((1 : Rat) / 2).den = 2 := by decide +kernel
theorem frD_half : frD ((1 : Rat) / 2) = .tuple [.int 1, .int 2] := by
  show PyData.tuple [.int ((1 : Rat) / 2).num, .int ((((1 : Rat) / 2).den : Nat) : Int)] = _
  rw [half_num, half_den]
  rfl
theorem sz_half : Sz 4000 ((1 : Rat) / 2) := (sz_small (by rw [half_num]; decide) (by rw [half_den]; decide)).mono (by decide)
theorem halves_w {wt : List Nat} (hl : wt.length ≤ 5) (hw : ∀ w ∈ wt, w ≤ 1024) (τ : Tp) : S_halves [.d (wtD wt)] τ = some (fracs (2 * wt.length) (bet wt), τ) := by
  refine wpC_eq ?_
  unfold S_halves
  have one : ∀ w ∈ wt, ∀ τ, S_times [.d (.tuple [.int (w : Nat), .int 1]), .d (.tuple [.int 1, .int 2])] τ = some (frD ((w : Rat) / 2), τ) := fun w hwm τ => by
    have e1 : frD (((w : Nat) : Int) : Rat) = .tuple [.int (w : Nat), .int 1] := frD_int _
    rw [← frD_half, ← e1]
    have := hw w hwm
    rw [times_w ((int_sz (by omega)).mono (by decide)) sz_half, Rat.intCast_natCast]
    congr 3
    grind
  wtm_at "ev_st"
  refine k_lc2 ?_
  wtm_at "ev_st"
  refine ⟨rfl, by simp; omega, ?_⟩
  refine wpO_of (lc2_mp (xs := wt) (f := fun w : Nat => PyData.int (w : Nat)) (l := fun w : Nat => [frD ((w : Rat) / 2), frD ((w : Rat) / 2)]) fun w hwm => ?_) ?_
  · wtm_at "ev_st"
    refine ⟨rfl, rfl, ?_⟩
    wtm_at "ev_st"
    refine ⟨rfl, rfl, ?_⟩
    show lcGo _ _ _ [.d (wtD wt), .d (.int w), .no] ([(0 : Int), 1].map PyData.int) τ = _
    refine (lc_map (xs := [(0 : Int), 1]) (f := PyData.int) (g := fun _ => frD ((w : Rat) / 2)) (p := fun _ => true) fun x hx => ?_).trans rfl
    wtm_at "ev_st"
    refine ⟨rfl, rfl, fun _ => ?_⟩
    wtm_at "ev_st"
    refine wpC_of (one w hwm _) ?_
    wtm_at "ev_st"
    exact ⟨rfl, rfl⟩
  · rw [halves_flat]
    wtm_at "ev_st"
    exact ⟨rfl, rfl⟩
/-! ### table_of and solved -/
noncomputable def T_arg : EvA := aCons (eCall S_shares (aCons (eVar 0) aNil)) (aCons (eVar 1) (aCons (f2 gMul (eLst (aCons (eCon (.tuple [.int (1), .int (1)])) aNil)) (f1 gLen (f2 gIx (eVar 0) (eCon (.int (1)))))) aNil))
abbrev InX := InH I_many I_size I_rows I_enum I_slack I_app I_gain I_held
def relT (N : List Str) (a : EvA) : RelT := fun ds many rows gain held => ∃ ws us d1 d2 d3, a (startE N (ds.map .d)) [] = some (ws, []) ∧ seen (startE N (ds.map .d)) ws = some us ∧ us = [.d d1, .d d2, .d d3] ∧ InX d1 d2 d3 many rows gain held
section
variable {ss : List Stk} {os : List Pr}
theorem tab_rel (G : PG ss os) (β : Nat → Rat) : relT ["pile", "bounds"] T_arg [pileD ss os, fracs (2 * ss.length) β] os.length (rowsL (2 * ss.length) os.length (fst0 (2 * ss.length) os.length (shB ss os) β fun _ => 1)) (gainL (2 * ss.length) os.length (fst0 (2 * ss.length) os.length (shB ss os) β fun _ => 1)) (heldL (2 * ss.length) (fst0 (2 * ss.length) os.length (shB ss os) β fun _ => 1)) := by
  have sl := G.sl
  have ol := G.ol
  refine ⟨[.d (rowsD (2 * ss.length) os.length (shB ss os)), .d (fracs (2 * ss.length) β), .d (fracs os.length fun _ => 1)], _, rowsD (2 * ss.length) os.length (shB ss os), fracs (2 * ss.length) β, fracs os.length fun _ => 1, ?_, rfl, rfl, inH (by omega)⟩
  show T_arg [.d (pileD ss os), .d (fracs (2 * ss.length) β)] [] = _
  refine wpA_eq ?_
  unfold T_arg
  wtm_at "ev_st"
  refine wpC_of (shares_w G _) ?_
  wtm_at "ev_st"
  rw [List.length_map]
  refine k_rep (by omega) ?_
  wtm_at "ev_st"
  rw [← frD_one]
  exact ⟨rfl, rfl⟩
noncomputable def V_arg : EvA := aCons (eVar 0) (aCons (eCall S_halves (aCons (eVar 1) aNil)) aNil)
theorem v_arg {wt : List Nat} {x : Sl} (hl : wt.length ≤ 5) (hw : ∀ w ∈ wt, w ≤ 1024) : V_arg [.d (pileD ss os), .d (wtD wt), x] [] = some ([.d (pileD ss os), .d (fracs (2 * wt.length) (bet wt))], []) := by
  refine wpA_eq ?_
  unfold V_arg
  wtm_at "ev_st"
  refine wpC_of (halves_w hl hw _) ?_
  wtm_at "ev_st"
  exact ⟨rfl, rfl⟩
def solD (m n : Nat) (S : Tb) : D := .tuple [.tuple ((List.range n).map fun j => frD (xv m n S j)), pairD (m / 2) (pr n S)]
noncomputable def V_rest (cls : Int) : EvS := sSeq (sRet (eTup (aCons (f1 gTuple (eMet 2 cls M_best aNil)) (aCons (eCall S_paired (aCons (eMet 2 cls M_prices aNil) aNil)) aNil)))) sNext
theorem flC_take {C : Addr} {m n : Nat} {S : Tb} : (flC C (.int n) (rowsL m n S) (gainL m n S) (heldL m S)).take 4 = flT m n S := rfl
theorem met_w {i : Nat} {cls : Int} {sem : SemM} {f : EvA} {env : En} {τ τ1 : Tp} {fl : List (Str × D)} {ws : List W} {d : D} {Q : W → Tp → Prop} (h1 : env[i]? = some (.ob fl)) (h2 : mark fl = some cls) (h3 : f env τ = some (ws, τ1)) (h4 : (noLoc ws && noTp ws) = true) (h5 : sem (fl.take 4) ws = some d) (q : Q (.d d) τ1) : wpE (eMet i cls sem f) env τ Q := by
  rw [wpE_un]
  refine wpO_of (a := (.d d, τ1)) ?_ q
  unfold eMet
  rw [h1]
  dsimp only
  rw [if_pos h2, h3]
  dsimp only
  rw [if_pos h4, h5]
theorem v_rest {C : Addr} {m n k : Nat} {A S : Tb} {x y : Sl} (O : Ok m n A S) (z : SzT m n S) (hN : n + m ≤ 1000) (hm : m = 2 * k) (hk : k ≤ 60) : V_rest (C : Int) [x, y, .ob (flC C (.int n) (rowsL m n S) (gainL m n S) (heldL m S))] [] = some (.rt (solD m n S) []) := by
  have main : wpS (V_rest (C : Int)) [x, y, .ob (flC C (.int n) (rowsL m n S) (gainL m n S) (heldL m S))] [] (runK fun d t => d = solD m n S ∧ t = []) := by
    unfold V_rest
    wtm_at "ev_st"
    refine met_w rfl rfl rfl rfl (by rw [flC_take]; exact best_m O hN) ?_
    wtm_at "ev_st"
    refine met_w rfl rfl rfl rfl (by rw [flC_take]; exact prices_m hN z) ?_
    wtm_at "ev_st"
    subst hm
    refine wpC_of (paired_w (pr n S) hk _) ?_
    wtm_at "ev_st"
    refine ⟨?_, rfl⟩
    unfold solD
    rw [show 2 * k / 2 = k by omega]
  rw [wpS_un] at main
  obtain ⟨o, e, q⟩ := wpO_ex main
  rw [e]
  cases o with
  | rt d t => obtain ⟨rfl, rfl⟩ := q; rfl
  | nx d t => obtain ⟨h, _⟩ := q; cases h
  | bk d t => exact q.elim
  | ct d t => exact q.elim
end

open PySem PySem.Spec PyProof.Rows L2
open PySem.W (minD maxD)
/-! ### what solved gives -/
theorem Ok0.szg {m n : Nat} {A S : Tb} (O : Ok0 m n A S) {G M : Nat} (W : Whole m n A G M) (g01 : G01 A) {j : Nat} (hj : j ≤ n + m) (gd : S.g j = A.g j - sm m fun i => A.g (S.h i) * S.T i j) : (S.g j).den ≤ Kb m M ∧ (S.g j).num.natAbs ≤ (m * Kb m M + 1) * Kb m M := by
  have gi : ∀ j, IsI (A.g j) := fun j => by
    rcases g01 j with h | h <;> rw [h]
    · exact ⟨0, rfl⟩
    · exact ⟨1, rfl⟩
  have hd : (S.g j).den ≤ Kb m M := by
    obtain ⟨d, d0, d1, h⟩ := O.den W hj
    refine Nat.le_trans (den_of d0 ?_) d1
    rw [gd]
    have : (d : Rat) * (A.g j - sm m fun i => A.g (S.h i) * S.T i j) = (d : Rat) * A.g j - sm m fun i => A.g (S.h i) * ((d : Rat) * S.T i j) := by
      have e5 : sm m (fun i => A.g (S.h i) * ((d : Rat) * S.T i j)) = (d : Rat) * sm m fun i => A.g (S.h i) * S.T i j := by
        rw [← sm_mul]
        exact sm_congr fun i hi => by grind
      rw [e5]
      grind
    rw [this]
    exact ((IsI.nat d).mul (gi j)).sub (IsI.sm fun i hi => (gi _).mul (h i hi))
  have kp : (0 : Rat) ≤ (Kb m M : Nat) := Rat.natCast_nonneg
  have bt : ∀ i, i < m → A.g (S.h i) * S.T i j ≤ (Kb m M : Nat) ∧ -((Kb m M : Nat) : Rat) ≤ A.g (S.h i) * S.T i j := fun i hi => by
    have := num_abs (O.szn W hi hj)
    rcases g01 (S.h i) with h | h <;> rw [h] <;> grind
  have u1 := sm_le fun i hi => (bt i hi).1
  have u2 := sm_le (n := m) (f := fun i => 0 - A.g (S.h i) * S.T i j) (c := ((Kb m M : Nat) : Rat)) fun i hi => by have := (bt i hi).2; grind
  rw [sm_sub, sm_zero] at u2
  have cast : ((m * Kb m M + 1 : Nat) : Rat) = (m : Rat) * (Kb m M : Nat) + 1 := by rw [Rat.natCast_add, Rat.natCast_mul]; rfl
  have b1 : S.g j ≤ ((m * Kb m M + 1 : Nat) : Rat) := by
    rw [cast]
    rcases g01 j with h | h <;> rw [h] at gd <;> grind
  have b2 : -((m * Kb m M + 1 : Nat) : Rat) ≤ S.g j := by
    rw [cast]
    rcases g01 j with h | h <;> rw [h] at gd <;> grind
  exact ⟨hd, abs_num b1 b2 hd⟩
/-- the same tableau with other bounds -/
def rb (m n : Nat) (S : Tb) (c : Nat → Rat) : Tb := ⟨fun i j => if j = n + m then sm m fun k => S.T i (n + k) * c k else S.T i j, fun j => if j = n + m then sm m fun k => S.g (n + k) * c k else S.g j, S.h⟩
section
variable {m n : Nat} {B : Nat → Nat → Rat} {β γ c : Nat → Rat} {S : Tb}
theorem fst0_in {k j : Nat} (h : j < n + m) : (fst0 m n B β γ).T k j = (fst0 m n B c γ).T k j := by
  show (if j < n then B k j else if j < n + m then (if j - n = k then 1 else 0) else β k) = (if j < n then B k j else if j < n + m then (if j - n = k then 1 else 0) else c k)
  split
  · rfl
  · simp only [if_pos h]
theorem fst0_rhs {k : Nat} : (fst0 m n B β γ).T k (n + m) = β k := by
  show (if n + m < n then B k (n + m) else if n + m < n + m then (if n + m - n = k then 1 else 0) else β k) = β k
  rw [if_neg (by omega), if_neg (by omega)]
theorem fst0_slack {k q : Nat} (h : q < m) : (fst0 m n B β γ).T k (n + q) = if q = k then 1 else 0 := by
  show (if n + q < n then B k (n + q) else if n + q < n + m then (if n + q - n = k then 1 else 0) else β k) = _
  rw [if_neg (by omega), if_pos (by omega), show n + q - n = q by omega]
theorem fst0_gs {q : Nat} : (fst0 m n B β γ).g (n + q) = 0 := by
  show (if n + q < n then γ (n + q) else 0) = (0 : Rat)
  rw [if_neg (by omega)]
theorem rb_ok (O : Ok m n (fst0 m n B β γ) S) : Ok0 m n (fst0 m n B c γ) (rb m n S c) := by
  have ne : ∀ i, i < m → S.h i ≠ n + m := fun i hi e => by have := O.hN i hi; omega
  have inn : ∀ {i j}, j ≠ n + m → (rb m n S c).T i j = S.T i j := fun h => if_neg h
  have at_ : ∀ {i}, (rb m n S c).T i (n + m) = sm m fun k => S.T i (n + k) * c k := if_pos rfl
  refine ⟨fun i hi => Nat.le_of_lt (O.hN i hi), fun i hi => ?_, fun i k hi hk hne => ?_, fun i j hi hj => ?_, fun k j hk hj => ?_⟩
  · show (rb m n S c).T i (S.h i) = 1
    rw [inn (ne i hi)]; exact O.one i hi
  · show (rb m n S c).T k (S.h i) = 0
    rw [inn (ne i hi)]; exact O.zer i k hi hk hne
  · by_cases e : j = n + m
    · subst e
      rw [at_]
      exact sm_congr fun k hk => by rw [inn (by omega), fst0_rhs]
    · rw [inn e, O.up i j hi hj]
      exact sm_congr fun k hk => by rw [inn (by omega), fst0_in (c := c) (by omega)]
  · have hh : ∀ i, i < m → (fst0 m n B c γ).T k ((rb m n S c).h i) = (fst0 m n B β γ).T k (S.h i) := fun i hi => (fst0_in (O.hN i hi)).symm
    by_cases e : j = n + m
    · subst e
      rw [fst0_rhs, sm_congr (g := fun i => sm m fun q => (fst0 m n B β γ).T k (S.h i) * S.T i (n + q) * c q) fun i hi => ?_, sm_comm, sm_congr (g := fun q => (if q = k then 1 else 0) * c q) fun q hq => ?_, sm_one (i := k) hk fun q hq hne => by rw [if_neg hne]; grind, if_pos rfl]
      · grind
      · rw [← fst0_slack (B := B) (β := β) (γ := γ) hq, O.dn k (n + q) hk (by omega), Rat.mul_comm, ← sm_mul]
        exact sm_congr fun i hi => by grind
      · rw [hh i hi, at_, ← sm_mul]
        exact sm_congr fun q hq => by grind
    · rw [← fst0_in (β := β) (by omega), O.dn k j hk hj]
      exact sm_congr fun i hi => by rw [hh i hi, inn e]
theorem rb_gd (O : Ok m n (fst0 m n B β γ) S) : (rb m n S c).g (n + m) = (fst0 m n B c γ).g (n + m) - sm m fun i => (fst0 m n B c γ).g ((rb m n S c).h i) * (rb m n S c).T i (n + m) := by
  have e1 : (rb m n S c).g (n + m) = sm m fun k => S.g (n + k) * c k := if_pos rfl
  have at_ : ∀ {i}, (rb m n S c).T i (n + m) = sm m fun k => S.T i (n + k) * c k := if_pos rfl
  have e2 : (fst0 m n B c γ).g (n + m) = 0 := fst0_gs
  rw [e1, e2, sm_congr (g := fun k => 0 - sm m fun i => (fst0 m n B c γ).g (S.h i) * S.T i (n + k) * c k) fun k hk => ?_, sm_sub, sm_zero, sm_comm]
  · congr 1
    refine sm_congr fun i hi => ?_
    show _ = (fst0 m n B c γ).g (S.h i) * (rb m n S c).T i (n + m)
    rw [at_, ← sm_mul]
    exact sm_congr fun q hq => by grind
  · have := O.gd (j := n + k) (by omega)
    rw [this, show (fst0 m n B β γ).g (n + k) = 0 from fst0_gs]
    have e3 : sm m (fun i => (fst0 m n B c γ).g (S.h i) * S.T i (n + k) * c k) = c k * sm m fun i => (fst0 m n B β γ).g (S.h i) * S.T i (n + k) := by
      rw [← sm_mul]
      refine sm_congr fun i hi => ?_
      show (fst0 m n B β γ).g (S.h i) * S.T i (n + k) * c k = _
      grind
    rw [e3]
    grind
end
/-- times d it is whole, and no greater than c -/
structure Dn (d c : Nat) (q : Rat) : Prop where
  pos : 0 < d
  int : IsI ((d : Rat) * q)
  up : q ≤ c
  dn : -(c : Rat) ≤ q
theorem Dn.sz {d c k : Nat} {q : Rat} (h : Dn d c q) (hd : d < 2 ^ k) (hc : c * d < 2 ^ k) : Sz k q := by
  have h1 := den_of h.pos h.int
  exact ⟨Nat.lt_of_le_of_lt (abs_num h.up h.dn h1) hc, Nat.lt_of_le_of_lt h1 hd⟩
theorem Dn.add {d c c' : Nat} {p q : Rat} (h : Dn d c p) (g : Dn d c' q) : Dn d (c + c') (p + q) := by
  have e : ((c + c' : Nat) : Rat) = (c : Rat) + c' := Rat.natCast_add ..
  have h1 := h.up
  have h2 := h.dn
  have h3 := g.up
  have h4 := g.dn
  refine ⟨h.pos, ?_, by rw [e]; grind, by rw [e]; grind⟩
  rw [show (d : Rat) * (p + q) = d * p + d * q by grind]
  exact h.int.add g.int
theorem Dn.zero {d c : Nat} (hd : 0 < d) : Dn d c 0 := by
  have h0 : (0 : Rat) ≤ c := Rat.natCast_nonneg
  exact ⟨hd, ⟨0, by rw [Rat.intCast_zero]; grind⟩, h0, by grind⟩
theorem abs_mul {p q c c' : Rat} (h1 : p ≤ c) (h2 : -c ≤ p) (h3 : q ≤ c') (h4 : -c' ≤ q) : p * q ≤ c * c' ∧ -(c * c') ≤ p * q := by
  have a1 := Rat.mul_nonneg (a := c - p) (b := c' + q) (by grind) (by grind)
  have a2 := Rat.mul_nonneg (a := c + p) (b := c' - q) (by grind) (by grind)
  have a3 := Rat.mul_nonneg (a := c - p) (b := c' - q) (by grind) (by grind)
  have a4 := Rat.mul_nonneg (a := c + p) (b := c' + q) (by grind) (by grind)
  constructor <;> grind
theorem Dn.mul {d c d' c' : Nat} {p q : Rat} (h : Dn d c p) (g : Dn d' c' q) : Dn (d * d') (c * c') (p * q) := by
  obtain ⟨b1, b2⟩ := abs_mul h.up h.dn g.up g.dn
  refine ⟨Nat.mul_pos h.pos g.pos, ?_, by rw [Rat.natCast_mul]; exact b1, by rw [Rat.natCast_mul]; exact b2⟩
  rw [Rat.natCast_mul, show (d : Rat) * d' * (p * q) = (d * p) * (d' * q) by grind]
  exact h.int.mul g.int
theorem Dn.times {d c : Nat} {p : Rat} (h : Dn d c p) {k : Nat} (hk : 0 < k) : Dn (d * k) c p := by
  refine ⟨Nat.mul_pos h.pos hk, ?_, h.up, h.dn⟩
  rw [Rat.natCast_mul, show (d : Rat) * k * p = k * (d * p) by grind]
  exact (IsI.nat k).mul h.int
theorem Dn.times' {d c : Nat} {p : Rat} (h : Dn d c p) {k : Nat} (hk : 0 < k) : Dn (k * d) c p := by
  rw [Nat.mul_comm]; exact h.times hk
theorem Dn.more {d c c' : Nat} {p : Rat} (h : Dn d c p) (hc : c ≤ c') : Dn d c' p := by
  have e : (c : Rat) ≤ c' := Rat.natCast_le_natCast.mpr hc
  have h1 := h.up
  have h2 := h.dn
  exact ⟨h.pos, h.int, by grind, by grind⟩
theorem Dn.sm {d c : Nat} (hd : 0 < d) {f : Nat → Rat} : ∀ {n : Nat}, (∀ j, j < n → Dn d c (f j)) → Dn d (n * c) (sm n f)
  | 0, _ => by unfold Ev.sm; exact Dn.zero hd
  | n + 1, h => by
    unfold Ev.sm
    rw [Nat.succ_mul]
    exact (Dn.sm hd fun j hj => h j (by omega)).add (h n (by omega))
/-! ### the relation and its consequences -/
section
variable {ss : List Stk} {os : List Pr} {wt : List Nat}
structure WtOk (ss : List Stk) (wt : List Nat) : Prop where
  len : wt.length = ss.length
  le : ∀ w ∈ wt, w ≤ 1024
def tabS (ss : List Stk) (os : List Pr) (wt : List Nat) : Tb := fst0 (2 * ss.length) os.length (shB ss os) (bet wt) fun _ => 1
def R_solved : List W → D → Prop := fun ws d => ∃ ss os wt S dr k, PG ss os ∧ WtOk ss wt ∧ ws = [.d (pileD ss os), .d (wtD wt)] ∧
  RunD M_coming M_leaving ExX (.int os.length) (rowsL (2 * ss.length) os.length (tabS ss os wt)) (gainL (2 * ss.length) os.length (tabS ss os wt)) (heldL (2 * ss.length) (tabS ss os wt)) k dr (rowsL (2 * ss.length) os.length S) (gainL (2 * ss.length) os.length S) (heldL (2 * ss.length) S) ∧
  Ok (2 * ss.length) os.length (tabS ss os wt) S ∧ ((dr = .none ∧ Best (2 * ss.length) os.length S ∧ d = solD (2 * ss.length) os.length S) ∨ ∃ a : Nat, dr = .int a ∧ Co (2 * ss.length) os.length S a ∧ (∀ i, i < 2 * ss.length → S.T i a ≤ 0) ∧ d = .none)
noncomputable def S_solved : Sem1 := relSem R_solved
theorem bet_le (h : WtOk ss wt) : ∃ w : Nat → Nat, (∀ i, w i ≤ 1024) ∧ ∀ i, bet wt i = (w i : Rat) / 2 := by
  refine ⟨fun i => wt.getD (i / 2) 0, fun i => ?_, fun i => rfl⟩
  show wt.getD (i / 2) 0 ≤ 1024
  rw [List.getD_eq_getElem?_getD]
  cases e : wt[i / 2]? with
  | none => simp
  | some w => exact h.le w (List.mem_of_getElem? e)
theorem bet_nn (wt : List Nat) (i : Nat) : 0 ≤ bet wt i := by
  unfold bet
  have : (0 : Rat) ≤ ((wt.getD (i / 2) 0 : Nat) : Rat) := Rat.natCast_nonneg
  grind
theorem WtOk.bnd (h : WtOk ss wt) (G : PG ss os) : Bnd (2 * ss.length) os.length (tabS ss os wt) := by
  obtain ⟨w, h1, h2⟩ := bet_le h
  exact G.bnd h1 h2
theorem tabS_fresh : Fresh (2 * ss.length) os.length (tabS ss os wt) := fst0_fresh fun i _ => bet_nn wt i
/-- presses and heights that show one another the least energy -/
structure Sol (ss : List Stk) (os : List Pr) (wt : List Nat) (x y : Nat → Rat) : Prop where
  x0 : ∀ j, 0 ≤ x j
  xb : ∀ i, i < 2 * ss.length → sm os.length (fun j => shB ss os i j * x j) ≤ bet wt i
  y0 : ∀ i, i < 2 * ss.length → 0 ≤ y i
  yb : ∀ j, j < os.length → 1 ≤ sm (2 * ss.length) fun i => y i * shB ss os i j
  eq : (sm (2 * ss.length) fun i => y i * bet wt i) = sm os.length x
  xd : ∃ d, d ≤ 2 ^ 1000 ∧ ∀ j, j < os.length → Dn d (2 ^ 1000) (x j)
  yv : ∀ c : Nat → Nat, (∀ i, c i ≤ 1024) → Sz 2000 (sm (2 * ss.length) fun i => y i * ((c i : Rat) / 2))
/-- presses of no weight -/
def Hld (ss : List Stk) (os : List Pr) (z : Nat → Rat) : Prop := (∀ j, 0 ≤ z j) ∧ (∀ i, i < 2 * ss.length → sm os.length (fun j => shB ss os i j * z j) ≤ 0) ∧ 0 < sm os.length z
theorem Bnd.kb {m n : Nat} {A : Tb} (B : Bnd m n A) (hm : 0 < m) : ∃ G M, Whole m n A G M ∧ Kb m M ≤ 2 ^ 1000 := by
  obtain ⟨G, M, W, h⟩ := B.ex
  refine ⟨G, M, W, Nat.le_of_not_lt fun hk => ?_⟩
  have h1 : Kb m M * Kb m M ≤ (m * Kb m M + 1) * Kb m M := Nat.mul_le_mul_right _ (Nat.le_trans (Nat.le_mul_of_pos_left _ hm) (Nat.le_succ _))
  have h2 : 2 ^ 1000 * 2 ^ 1000 ≤ Kb m M * Kb m M := Nat.mul_le_mul (Nat.le_of_lt hk) (Nat.le_of_lt hk)
  rw [← Nat.pow_add] at h2
  omega
theorem sol_of (G : PG ss os) (hw : WtOk ss wt) {S : Tb} (O : Ok (2 * ss.length) os.length (tabS ss os wt) S) (Bs : Best (2 * ss.length) os.length S) : Sol ss os wt (xv (2 * ss.length) os.length S) (pr os.length S) := by
  have F := tabS_fresh (ss := ss) (os := os) (wt := wt)
  have eT : ∀ {i j}, j < os.length → (tabS ss os wt).T i j = shB ss os i j := fun h => if_pos h
  have eg : ∀ {j}, j < os.length → (tabS ss os wt).g j = 1 := fun h => if_pos h
  have er : ∀ {i}, (tabS ss os wt).T i (os.length + 2 * ss.length) = bet wt i := fst0_rhs
  have g0 : (tabS ss os wt).g (os.length + 2 * ss.length) = 0 := fst0_gs
  refine ⟨fun j => xv_nonneg O j, fun i hi => ?_, fun i hi => pr_nonneg Bs hi, fun j hj => ?_, ?_, ?_, fun c hc => ?_⟩
  · have h1 := xv_fits F O hi
    rw [er] at h1
    have h2 := xv_nonneg O (os.length + i)
    rw [sm_congr (g := fun j => shB ss os i j * xv (2 * ss.length) os.length S j) fun j hj => by rw [eT hj]] at h1
    grind
  · have h1 := pr_fits O Bs (j := j) (by omega)
    rw [eg hj, sm_congr (g := fun i => pr os.length S i * shB ss os i j) fun i hi => by rw [eT hj]] at h1
    exact h1
  · have h1 := pr_all F O g0
    rw [sm_congr (g := fun i => pr os.length S i * bet wt i) fun i hi => by rw [er], sm_congr (n := os.length) (g := xv (2 * ss.length) os.length S) fun j hj => by rw [eg hj]; grind] at h1
    exact h1
  · have hB := hw.bnd G
    by_cases hm : 0 < 2 * ss.length
    · obtain ⟨Gn, M, W, hk⟩ := hB.kb hm
      obtain ⟨d, d0, d1, h⟩ := O.o0.den W (Nat.le_refl _)
      refine ⟨d, Nat.le_trans d1 hk, fun j hj => ?_⟩
      by_cases e : ∃ i, i < 2 * ss.length ∧ S.h i = j
      · obtain ⟨i, hi, rfl⟩ := e
        rw [xv_held O hi]
        have := num_abs (Nat.le_trans (O.o0.szn W hi (Nat.le_refl _)) hk)
        exact ⟨d0, h i hi, this.1, this.2⟩
      · rw [xv_other fun i hi q => e ⟨i, hi, q⟩]
        exact Dn.zero d0
    · refine ⟨1, Nat.one_le_two_pow, fun j hj => ?_⟩
      rw [xv_other fun i hi q => by omega]
      exact Dn.zero (by omega)
  · have hB : Bnd (2 * ss.length) os.length (fst0 (2 * ss.length) os.length (shB ss os) (fun i => (c i : Rat) / 2) fun _ => 1) := G.bnd hc fun i => rfl
    obtain ⟨Gn, M, W, hb⟩ := hB.ex
    have k1 := Kb_pos (2 * ss.length) M
    have k2 : Kb (2 * ss.length) M ≤ (2 * ss.length * Kb (2 * ss.length) M + 1) * Kb (2 * ss.length) M := Nat.le_mul_of_pos_left _ (by omega)
    have z := (rb_ok (c := fun i => (c i : Rat) / 2) O).szg W hB.g01 (Nat.le_refl _) (rb_gd O)
    have e : (sm (2 * ss.length) fun i => pr os.length S i * ((c i : Rat) / 2)) = - (rb (2 * ss.length) os.length S fun i => (c i : Rat) / 2).g (os.length + 2 * ss.length) := by
      have e1 : (rb (2 * ss.length) os.length S fun i => (c i : Rat) / 2).g (os.length + 2 * ss.length) = sm (2 * ss.length) fun k => S.g (os.length + k) * ((c k : Rat) / 2) := if_pos rfl
      rw [e1, sm_congr (g := fun k => 0 - S.g (os.length + k) * ((c k : Rat) / 2)) fun k hk => by unfold pr; grind, sm_sub, sm_zero]
      grind
    rw [e]
    refine ⟨?_, ?_⟩
    · rw [Rat.neg_num, Int.natAbs_neg]; exact Nat.lt_of_le_of_lt z.2 hb
    · rw [Rat.neg_den]; exact Nat.lt_of_le_of_lt z.1 (by omega)
theorem hld_of {S : Tb} {a : Nat} (O : Ok (2 * ss.length) os.length (tabS ss os wt) S) (C : Co (2 * ss.length) os.length S a) (hn : ∀ i, i < 2 * ss.length → S.T i a ≤ 0) : Hld ss os (dv (2 * ss.length) S a) := by
  have F := tabS_fresh (ss := ss) (os := os) (wt := wt)
  have eT : ∀ {i j}, j < os.length → (tabS ss os wt).T i j = shB ss os i j := fun h => if_pos h
  have eg : ∀ {j}, j < os.length → (tabS ss os wt).g j = 1 := fun h => if_pos h
  refine ⟨fun j => grow_nonneg O C hn j, fun i hi => ?_, ?_⟩
  · have h1 := grow_fits F O C hn hi
    rw [sm_congr (g := fun j => shB ss os i j * dv (2 * ss.length) S a j) fun j hj => by rw [eT hj]] at h1
    exact h1
  · have h1 := grow_gain F O C
    rw [sm_congr (g := dv (2 * ss.length) S a) fun j hj => by rw [eg hj]; grind] at h1
    rw [h1]
    exact C.pos
theorem relSem_all {R : List W → D → Prop} {ws : List W} {d : D} (h : R ws d) : ∃ d', R ws d' ∧ ∀ τ, relSem R ws τ = some (d', τ) := by
  have h' : ∃ d, R ws d := ⟨d, h⟩
  refine ⟨Classical.choose h', Classical.choose_spec h', fun τ => ?_⟩
  unfold relSem
  rw [dif_pos h']
/-- the run, and its answer -/
theorem solved_w (G : PG ss os) (hw : WtOk ss wt) : ∃ d, (∀ τ, S_solved [.d (pileD ss os), .d (wtD wt)] τ = some (d, τ)) ∧ ((d = .none ∧ ∃ z, Hld ss os z) ∨ ∃ x y, d = .tuple [.tuple ((List.range os.length).map fun j => frD (x j)), pairD ss.length y] ∧ Sol ss os wt x y) := by
  have sl := G.sl
  have ol := G.ol
  have B := hw.bnd G
  have O0 := (tabS_fresh (ss := ss) (os := os) (wt := wt)).ok
  obtain ⟨k, dr, S, r, O, h⟩ := run_ex B (by omega) _ (stp_acc O0) O0
  have hex : ∃ d, R_solved [.d (pileD ss os), .d (wtD wt)] d := by
    rcases h with ⟨rfl, b⟩ | ⟨a, rfl, C, no⟩
    · exact ⟨_, ss, os, wt, S, _, k, G, hw, rfl, r, O, .inl ⟨rfl, b, rfl⟩⟩
    · exact ⟨_, ss, os, wt, S, _, k, G, hw, rfl, r, O, .inr ⟨a, rfl, C, no, rfl⟩⟩
  obtain ⟨d0, hd0⟩ := hex
  obtain ⟨d, ⟨ss', os', wt', S', dr', k', G', hw', e1, r', O', h'⟩, e⟩ := relSem_all (R := R_solved) hd0
  injection e1 with e1 e2
  injection e1 with e1
  injection e2 with e2 _
  injection e2 with e2
  obtain ⟨rfl, rfl⟩ := pileD_inj e1
  have e2 : wt = wt' := by
    injection e2 with e2
    exact (List.map_inj_right (f := fun w : Nat => PyData.int (w : Nat)) fun x y h => by injection h with h; omega).mp e2
  subst e2
  refine ⟨d, e, ?_⟩
  rcases h' with ⟨_, b, rfl⟩ | ⟨a, _, C, no, rfl⟩
  · refine .inr ⟨_, _, ?_, sol_of G hw O' b⟩
    unfold solD
    rw [show 2 * ss.length / 2 = ss.length by omega]
  · exact .inl ⟨rfl, _, hld_of O' C no⟩
/-! ### plain duality -/
theorem weak {x y : Nat → Rat} (hx0 : ∀ j, 0 ≤ x j) {β : Nat → Rat} (hxb : ∀ i, i < 2 * ss.length → sm os.length (fun j => shB ss os i j * x j) ≤ β i) (hy0 : ∀ i, i < 2 * ss.length → 0 ≤ y i) (hyb : ∀ j, j < os.length → 1 ≤ sm (2 * ss.length) fun i => y i * shB ss os i j) :
    sm os.length x ≤ sm (2 * ss.length) fun i => y i * β i := by
  have h1 : sm os.length x ≤ sm os.length fun j => (sm (2 * ss.length) fun i => y i * shB ss os i j) * x j := by
    have := sm_nonneg (n := os.length) (f := fun j => (sm (2 * ss.length) fun i => y i * shB ss os i j) * x j - x j) fun j hj => by
      have := Rat.mul_nonneg (a := (sm (2 * ss.length) fun i => y i * shB ss os i j) - 1) (b := x j) (by have := hyb j hj; grind) (hx0 j)
      grind
    rw [sm_sub] at this
    grind
  have h2 : (sm os.length fun j => (sm (2 * ss.length) fun i => y i * shB ss os i j) * x j) = sm (2 * ss.length) fun i => y i * sm os.length fun j => shB ss os i j * x j := sm_swap
  have h3 := sm_nonneg (n := 2 * ss.length) (f := fun i => y i * β i - y i * sm os.length fun j => shB ss os i j * x j) fun i hi => by
    have := Rat.mul_nonneg (a := y i) (b := β i - sm os.length fun j => shB ss os i j * x j) (hy0 i hi) (by have := hxb i hi; grind)
    grind
  rw [sm_sub] at h3
  grind
theorem Hld.no {z x y : Nat → Rat} (h : Hld ss os z) (s : Sol ss os wt x y) : False := by
  obtain ⟨h1, h2, h3⟩ := h
  have := weak (β := fun _ => 0) h1 h2 s.y0 s.yb
  rw [sm_z (n := 2 * ss.length) fun i hi => by grind] at this
  grind
end

open PySem PySem.Spec PyProof.Rows L2
open PySem.W (minD maxD)
/-! ### shares and solved, run -/
def N_shares : List Str := ["pile", "rows", "at", "upper", "lower", "high", "low", "stick", "end", "row"]
noncomputable def mkShares (K : PySem.W.Frag) : TE := tLc2 (tI K Y_it0) (tG K (.nm 7)) tYes (tI K Y_it1) (tG K (.nm 8)) tYes (tE K Y_elt) [7, 8] [8]
theorem shares_run {K : PySem.W.Frag} {F H : Hp} {vs : List V} {De : Ends} {ws : List W} {d : D} (R : R_shares ws d) (I : SI K F H F H none (startE N_shares ws) [] (L2.start N_shares vs))
    (hD : ∀ τ F' v H', Post K none τ F H F' H' → Dq K F' v d → De.rt v H') : tShares K (mkShares K) 1 Y_enum Y_tg Y_s1 Y_s2 Y_s3 Y_s4 Y_ret De (L2.start N_shares vs) H := by
  obtain ⟨ss, os, G, rfl, rfl⟩ := R
  have hl : (L2.start N_shares vs).length = 10 := I.ok.len.symm
  have sl := G.sl
  refine shares_ok (env := envY (pileD ss os)) (rows0 := rowsF (2 * ss.length) os.length fun _ _ => 0) (rows := rowsF (2 * ss.length) os.length (shB ss os)) (τ := []) (by decide) (by omega) rfl I (fun Q q => ?_) rfl (shH G) (by rw [mD_rowsF]; rfl) hD
  refine lc2M_sem (its := ss.map stD) (ws := [.d (.tuple (ss.map stD))]) tyes tyes (by decide) (by decide) I.ok rfl rfl (by simp; omega) ?_ q
  have e : rowsF (2 * ss.length) os.length (fun _ _ => 0) = List.replicate (2 * ss.length) ((List.range os.length).map fun _ => frD 0) := by
    unfold rowsF
    rw [List.map_const', List.length_range]
  rw [e]
  exact y_lc ss G.ol
abbrev RunX : RelR := fun m rows gain held d rows' gain' held' => ∃ n, RunD M_coming M_leaving ExX m rows gain held n d rows' gain' held'
def N_solved : List Str := ["pile", "weights", "table"]
def N_tab : List Str := ["pile", "bounds"]
theorem solved_run {K : PySem.W.Frag} {C : Addr} {F H : Hp} {vs : List V} {De : Ends} {ws : List W} {d : D} (TC : TCls K C) (R : R_solved ws d) (I : SI K F H F H none (startE N_solved ws) [] (L2.start N_solved vs))
    (hD : ∀ τ F' v H', Post K none τ F H F' H' → Dq K F' v d → De.rt v H') : tSv1 K C RunX (tCall (spT K C 2 (relT N_tab T_arg)) [] E0 (tA K V_arg)) 2 (eCon .none) (V_rest (C : Int)) De (L2.start N_solved vs) H := by
  obtain ⟨ss, os, wt, S, dr, k, G, hw, rfl, r, O, h⟩ := R
  have hl : (L2.start N_solved vs).length = 3 := I.ok.len.symm
  have sl := G.sl
  have ol := G.ol
  have wl := hw.len
  refine sv1_ok (C := C) (env := startE N_solved [.d (pileD ss os), .d (wtD wt)]) (R := RunX) (dr := dr) (d := d) (τ := []) TC (show 2 < 3 by decide) (fun Q q => ?_) hl ⟨k, r⟩ rfl ?_ hD
  · refine use_T (ds := [pileD ss os, fracs (2 * ss.length) (bet wt)]) (us := [.d (pileD ss os), .d (fracs (2 * ss.length) (bet wt))]) I (ws := [.d (pileD ss os), .d (fracs (2 * ss.length) (bet wt))]) ?_ rfl rfl rfl (tab_rel G (bet wt)) q
    have := v_arg (ss := ss) (os := os) (x := .no) (by omega : wt.length ≤ 5) hw.le
    rw [wl] at this
    exact this
  · rcases h with ⟨rfl, b, rfl⟩ | ⟨a, rfl, _, _, rfl⟩
    · refine .inr ⟨rfl, ?_⟩
      exact v_rest (k := ss.length) O ((hw.bnd G).szt O) (by omega) rfl (by omega)
    · exact .inl ⟨⟨a, rfl⟩, rfl⟩
theorem rsh_tp (ws : List W) (d : D) (h : R_shares ws d) : noTp ws = true := by
  obtain ⟨ss, os, _, rfl, _⟩ := h
  rfl
theorem rso_tp (ws : List W) (d : D) (h : R_solved ws d) : noTp ws = true := by
  obtain ⟨ss, os, wt, S, dr, k, _, _, rfl, _⟩ := h
  rfl
noncomputable def X_c1 : EvF := f2 (gIs true) (eVar 1) (eCon .none)
noncomputable def X_c2 : EvF := f2 (gIs false) (eVar 2) (eCon .none)
noncomputable def X_en : EvF := eCon .none
theorem n1 : ∀ fl s, X_c1 (.ob fl :: [.d .none, s]) [] = some (.d (.bool false), []) := fun _ _ => rfl
theorem i1 : ∀ fl s (i : Int), X_c1 (.ob fl :: [.d (.int i), s]) [] = some (.d (.bool true), []) := fun _ _ _ => rfl
theorem n2 : ∀ fl s, X_c2 (.ob fl :: [s, .d .none]) [] = some (.d (.bool true), []) := fun _ _ => rfl
theorem i2 : ∀ fl s (i : Int), X_c2 (.ob fl :: [s, .d (.int i)]) [] = some (.d (.bool false), []) := fun _ _ _ => rfl
theorem n3 : ∀ fl s t, X_en (.ob fl :: [s, t]) [] = some (.d .none, []) := fun _ _ _ => rfl

open PySem PySem.Spec PyProof.Rows L2
open PySem.W (minD maxD)
noncomputable def S_is_whole : Sem1 := runB (sSeq (sRet (eAnd (f1 (gIsi .int) (eVar 0)) (f1 gNot (f1 (gIsi .bool) (eVar 0)))))
    sNext) ["thing"]
noncomputable def S_is_share : Sem1 := runB (sSeq (sIf (eOr (f1 gNot (f1 (gIsi .tuple) (eVar 0))) (eOr (f2 (gEqD true) (f1 gLen (eVar 0)) (eCon (.int (2)))) (eOr (f1 gNot (eCall S_is_whole (aCons (f2 gIx (eVar 0) (eCon (.int (0)))) aNil))) (f1 gNot (eCall S_is_whole (aCons (f2 gIx (eVar 0) (eCon (.int (1)))) aNil)))))) (sSeq (sRet (eCon (.bool false)))
    sNext) sNext)
    (sSeq (sRet (eAnd (f2 gGe (f2 gIx (eVar 0) (eCon (.int (0)))) (eCon (.int (0)))) (eAnd (f2 gGe (f2 gIx (eVar 0) (eCon (.int (1)))) (eCon (.int (1)))) (f2 (gEqD false) (eCall S_divisor (aCons (f2 gIx (eVar 0) (eCon (.int (0)))) (aCons (f2 gIx (eVar 0) (eCon (.int (1)))) aNil))) (eCon (.int (1)))))))
    sNext)) ["thing"]
noncomputable def S_summed : Sem1 := runB (sSeq (sSet false 2 (eCon (.tuple [.int (0), .int (1)])))
    (sSeq (sFor (iZip (aCons (eVar 0) (aCons (eVar 1) aNil))) (.tu (.cn (.nm 3) (.cn (.nm 4) .nl))) (sSeq (sSet false 2 (eCall S_plus (aCons (eVar 2) (aCons (eCall S_times (aCons (eVar 3) (aCons (eVar 4) aNil))) aNil))))
    sNext))
    (sSeq (sRet (eVar 2))
    sNext))) ["row", "presses", "found", "share", "press"]
noncomputable def S_are_presses : Sem1 := runB (sSeq (sRet (eAnd (f1 (gIsi .tuple) (eVar 1)) (eAnd (f2 (gEqD false) (f1 gLen (eVar 1)) (f1 gLen (f2 gIx (eVar 0) (eCon (.int (1)))))) (f1 gAll (eLc (iSeq (eVar 1)) (.nm 2) tYesF (eCall S_is_share (aCons (eVar 2) aNil)) [2])))))
    sNext) ["pile", "thing", "part"]
noncomputable def S_are_borne : Sem1 := runB (sSeq (sSet false 3 (eLc (iSeq (eCall S_shares (aCons (eVar 0) aNil))) (.nm 4) tYesF (eCall S_summed (aCons (eVar 4) (aCons (eVar 1) aNil))) [4]))
    (sSeq (sRet (f1 gNot (f1 gAny (eLc (iZip (aCons (eVar 3) (aCons (eVar 2) aNil))) (.tu (.cn (.nm 5) (.cn (.nm 6) .nl))) tYesF (eCall S_is_less (aCons (eVar 6) (aCons (eVar 5) aNil))) [5, 6]))))
    sNext)) ["pile", "presses", "bounds", "some", "row", "lift", "bound"]
noncomputable def S_least_energy : Sem1 := runB (sSeq (sSet false 2 (eCall S_solved (aCons (eVar 0) (aCons (eVar 1) aNil))))
    (sSeq (sRet (eIf (f2 (gIs true) (eVar 2) (eCon .none)) (eCall S_total (aCons (f2 gIx (eVar 2) (eCon (.int (0)))) aNil)) (eCon .none)))
    sNext)) ["pile", "weights", "found"]
noncomputable def S_sunk : Sem1 := runB (sSeq (sSet false 2 (eCall S_solved (aCons (eVar 0) (aCons (eVar 1) aNil))))
    (sSeq (sRet (eIf (f2 (gIs true) (eVar 2) (eCon .none)) (f2 gIx (eVar 2) (eCon (.int (1)))) (eCon .none)))
    sNext)) ["pile", "weights", "found"]
noncomputable def S_bearing : Sem1 := runB (sSeq (sSet false 2 (eCall S_solved (aCons (eVar 0) (aCons (eVar 1) aNil))))
    (sSeq (sRet (eIf (f2 (gIs true) (eVar 2) (eCon .none)) (f2 gIx (eVar 2) (eCon (.int (0)))) (eCon .none)))
    sNext)) ["pile", "weights", "found"]
noncomputable def S_shown : Sem1 := runB (sSeq (sIf (eOr (f1 gNot (eCall S_are_presses (aCons (eVar 0) (aCons (eVar 2) aNil)))) (f1 gNot (eCall S_are_borne (aCons (eVar 0) (aCons (eVar 2) (aCons (eCall S_halves (aCons (eVar 1) aNil)) aNil)))))) (sSeq (sRet (eCon .none))
    sNext) sNext)
    (sSeq (sRet (eCall S_total (aCons (eVar 2) aNil)))
    sNext)) ["pile", "weights", "thing"]
noncomputable def S__law_below : Sem1 := runB (sSeq (sRet (f2 gLt (f2 gMul (f2 gIx (eVar 0) (eCon (.int (0)))) (f2 gIx (eVar 1) (eCon (.int (1))))) (f2 gMul (f2 gIx (eVar 1) (eCon (.int (0)))) (f2 gIx (eVar 0) (eCon (.int (1)))))))
    sNext) ["one", "other"]
noncomputable def S__law_energy : Sem1 := runB (sSeq (sSet false 2 (eTup (aCons (eCon (.int (0))) (aCons (eCon (.int (1))) aNil))))
    (sSeq (sFor (iZip (aCons (eVar 0) (aCons (eVar 1) aNil))) (.tu (.cn (.nm 3) (.cn (.nm 4) .nl))) (sSeq (sSet false 2 (eCall S__law_sum (aCons (eVar 2) (aCons (eCall S__law_part (aCons (eTup (aCons (eVar 3) (aCons (eCon (.int (2))) aNil))) (aCons (eCall S__law_sum (aCons (f2 gIx (eVar 4) (eCon (.int (0)))) (aCons (f2 gIx (eVar 4) (eCon (.int (1)))) aNil))) aNil))) aNil))))
    sNext))
    (sSeq (sRet (eVar 2))
    sNext))) ["weights", "heights", "found", "weight", "pair"]


open PySem PySem.Spec PyProof.Rows L2
open PySem.W (minD maxD)
/-! ### sums, presses, the least energy -/
theorem total_w {n : Nat} {x : Nat → Rat} (hn : n ≤ 1000) (h1 : ∀ j, j < n → Sz 4000 (x j)) (h2 : ∀ j, j < n → Sz 4000 (sm j x)) (τ : Tp) : S_total [.d (.tuple ((List.range n).map fun j => frD (x j)))] τ = some (frD (sm n x), τ) := by
  refine wpC_eq ?_
  unfold S_total
  generalize hB : sSeq (sSet false 1 (eCall S_plus _)) _ = B
  wtm_at "ev_st"
  rw [← frD_zero]
  refine k_forI (fun i e t => t = τ ∧ ∃ y, e = [.d (.tuple ((List.range n).map fun j => frD (x j))), .d (frD (sm i x)), y]) ?_ ?_ ⟨rfl, _, rfl⟩
  · rintro i d e t hi ⟨rfl, y, rfl⟩
    have hin : i < n := by
      have := (List.getElem?_eq_some_iff.mp hi).1
      simpa using this
    rw [range_at _ hin] at hi
    cases hi
    rw [← hB]
    wtm_at "ev_st"
    refine wpC_of (plus_w (h2 i hin) (h1 i hin) _) ?_
    wtm_at "ev_st"
    exact ⟨rfl, _, rfl⟩
  · rintro e t ⟨rfl, y, rfl⟩
    rw [List.length_map, List.length_range]
    wtm_at "ev_st"
    exact ⟨rfl, rfl⟩
theorem summed_w {n : Nat} {r x : Nat → Rat} (hn : n ≤ 1000) (h0 : ∀ j, j < n → Sz 4000 (r j)) (h1 : ∀ j, j < n → Sz 4000 (x j)) (h3 : ∀ j, j < n → Sz 4000 (r j * x j)) (h2 : ∀ j, j < n → Sz 4000 (sm j fun j => r j * x j)) (τ : Tp) :
    S_summed [.d (fracs n r), .d (.tuple ((List.range n).map fun j => frD (x j)))] τ = some (frD (sm n fun j => r j * x j), τ) := by
  refine wpC_eq ?_
  unfold S_summed fracs
  generalize hB : sSeq (sSet false 2 (eCall S_plus _)) _ = B
  wtm_at "ev_st"
  rw [zip_range, ← frD_zero]
  refine ⟨rfl, ?_⟩
  refine k_forI (fun i e t => t = τ ∧ ∃ y z, e = [.d (.list ((List.range n).map fun j => frD (r j))), .d (.tuple ((List.range n).map fun j => frD (x j))), .d (frD (sm i fun j => r j * x j)), y, z]) ?_ ?_ ⟨rfl, _, _, rfl⟩
  · rintro i d e t hi ⟨rfl, y, z, rfl⟩
    have hin : i < n := by
      have := (List.getElem?_eq_some_iff.mp hi).1
      simpa using this
    rw [range_at _ hin] at hi
    cases hi
    rw [← hB]
    wtm_at "ev_st"
    refine wpC_of (times_w (h0 i hin) (h1 i hin) _) ?_
    wtm_at "ev_st"
    refine wpC_of (plus_w (h2 i hin) (h3 i hin) _) ?_
    wtm_at "ev_st"
    exact ⟨rfl, _, _, rfl⟩
  · rintro e t ⟨rfl, y, z, rfl⟩
    rw [List.length_map, List.length_range]
    wtm_at "ev_st"
    exact ⟨rfl, rfl⟩
theorem bools_m (l : List Bool) : boolsOf (l.map PyData.bool) = some l := by
  induction l with
  | nil => rfl
  | cons b r ih => rw [List.map_cons]; unfold boolsOf; rw [ih]
theorem k_alT {env : En} {τ : Tp} {Q : W → Prop} {l : List Nat} (q : Q (.d (.bool true))) : wpO (gAll env τ (.new (l.map fun _ => PyData.bool true))) Q := by
  have e : gAll env τ (.new (l.map fun _ => PyData.bool true)) = (boolsOf (l.map fun _ => PyData.bool true)).map fun bs => .d (.bool (bs.all id)) := rfl
  have e2 : (l.map fun _ => PyData.bool true) = (l.map fun _ => true).map PyData.bool := by rw [List.map_map]; rfl
  rw [e, e2, bools_m]
  have e3 : (l.map fun _ => true).all id = true := by simp
  show wpO (some (W.d (.bool ((l.map fun _ => true).all id)))) Q
  rw [e3]
  exact wpO_of rfl q
theorem k_anF {env : En} {τ : Tp} {Q : W → Prop} {l : List Nat} (q : Q (.d (.bool false))) : wpO (gAny env τ (.new (l.map fun _ => PyData.bool false))) Q := by
  have e : gAny env τ (.new (l.map fun _ => PyData.bool false)) = (boolsOf (l.map fun _ => PyData.bool false)).map fun bs => .d (.bool (bs.any id)) := rfl
  have e2 : (l.map fun _ => PyData.bool false) = (l.map fun _ => false).map PyData.bool := by rw [List.map_map]; rfl
  rw [e, e2, bools_m]
  have e3 : (l.map fun _ => false).any id = false := by simp
  show wpO (some (W.d (.bool ((l.map fun _ => false).any id)))) Q
  rw [e3]
  exact wpO_of rfl q
theorem whole_int (i : Int) (τ : Tp) : S_is_whole [.d (.int i)] τ = some (.bool true, τ) := by
  refine wpC_eq ?_
  unfold S_is_whole
  wtm_at "ev_st"
  exact ⟨rfl, rfl⟩
theorem share_fr {q : Rat} (h : 0 ≤ q) (τ : Tp) : S_is_share [.d (frD q)] τ = some (.bool true, τ) := by
  refine wpC_eq ?_
  unfold S_is_share
  have hn : 0 ≤ q.num := Rat.num_nonneg.mpr h
  have e1 : q.num = ((q.num.natAbs : Nat) : Int) := by omega
  have hd := den_pos q
  have hg : Nat.gcd q.num.natAbs q.den = 1 := q.reduced
  have dv := fun τ => divisor_w q.num.natAbs q.den τ
  rw [← e1, hg] at dv
  wtm_at "ev_st"
  refine wpC_of (whole_int _ _) ?_
  wtm_at "ev_st"
  refine wpC_of (whole_int _ _) ?_
  wtm_at "ev_sto"
  refine wpC_of (dv _) ?_
  wtm_at "ev_st"
  exact ⟨rfl, rfl⟩
section
variable {ss : List Stk} {os : List Pr}
abbrev prsD (n : Nat) (x : Nat → Rat) : D := .tuple ((List.range n).map fun j => frD (x j))
theorem presses_w {x : Nat → Rat} (hl : os.length ≤ 10) (h : ∀ j, j < os.length → 0 ≤ x j) (τ : Tp) : S_are_presses [.d (pileD ss os), .d (prsD os.length x)] τ = some (.bool true, τ) := by
  refine wpC_eq ?_
  unfold S_are_presses
  wtm_at "ev_st"
  refine k_t (by simp) ?_
  wtm_at "ev_st"
  refine k_lcK rfl (by simp; omega) (lcw_of (lc_map (f := fun j : Nat => frD (x j)) (g := fun _ => PyData.bool true) (p := fun _ => true) fun j hj => ?_) ?_)
  · have hj : j < os.length := by simpa using hj
    wtm_at "ev_st"
    refine ⟨rfl, rfl, fun _ => ?_⟩
    wtm_at "ev_st"
    refine wpC_of (share_fr (h j hj) _) ?_
    wtm_at "ev_st"
    exact ⟨rfl, rfl⟩
  · rw [filter_true]
    wtm_at "ev_st"
    refine k_alT ?_
    wtm_at "ev_st"
    exact ⟨rfl, rfl⟩
end

open PySem PySem.Spec PyProof.Rows L2
open PySem.W (minD maxD)
/-- presses of one bottom -/
def PrOk (n : Nat) (x : Nat → Rat) : Prop := ∃ d, d ≤ 2 ^ 2000 ∧ ∀ j, j < n → Dn d (2 ^ 1002) (x j)
theorem sz_dn {d c k : Nat} {q : Rat} (h : Dn d (k * c) q) (hd : d ≤ 2 ^ 2100) (hk : k ≤ 10) (hc : c ≤ 2 ^ 1003) : Sz 4000 q := by
  refine h.sz (Nat.lt_of_le_of_lt hd (by decide +kernel)) ?_
  have h1 : k * c * d ≤ 10 * 2 ^ 1003 * 2 ^ 2100 := Nat.mul_le_mul (Nat.mul_le_mul hk hc) hd
  exact Nat.lt_of_le_of_lt h1 (by decide +kernel)
theorem PrOk.sz {n : Nat} {x : Nat → Rat} (h : PrOk n x) : ∀ j, j < n → Sz 4000 (x j) := by
  obtain ⟨d, hd, h⟩ := h
  intro j hj
  exact sz_dn (k := 1) (by rw [Nat.one_mul]; exact h j hj) (Nat.le_trans hd (by decide +kernel)) (by omega) (by decide +kernel)
theorem PrOk.sm {n : Nat} {x : Nat → Rat} (h : PrOk n x) (hn : n ≤ 10) : ∀ j, j ≤ n → Sz 4000 (sm j x) := by
  obtain ⟨d, hd, h⟩ := h
  intro j hj
  by_cases hz : j = 0
  · subst hz
    exact sz_zero
  · have hp := (h 0 (by omega)).pos
    exact sz_dn (Dn.sm hp fun q hq => h q (by omega)) (Nat.le_trans hd (by decide +kernel)) (by omega) (by decide +kernel)
section
variable {ss : List Stk} {os : List Pr} {wt : List Nat}
theorem PG.dnB (G : PG ss os) {i j : Nat} (h : j < os.length) : Dn (Gp ss os) 1 (shB ss os i j) := by
  have h1 := G.shB_int (i := i) h 1
  rw [Nat.mul_one] at h1
  obtain ⟨b1, b2⟩ := G.shB_le (i := i) h
  exact ⟨G.gp.1, h1, by show _ ≤ ((1 : Nat) : Rat); exact b1, by show -((1 : Nat) : Rat) ≤ _; exact b2⟩
theorem PG.szB (G : PG ss os) {i j : Nat} (h : j < os.length) : Sz 4000 (shB ss os i j) :=
  sz_dn (k := 1) (c := 1) (G.dnB h) (Nat.le_trans G.gp.2 (by decide +kernel)) (by omega) (by decide +kernel)
theorem PrOk.row {x : Nat → Rat} (G : PG ss os) (h : PrOk os.length x) (i : Nat) : (∀ j, j < os.length → Sz 4000 (shB ss os i j * x j)) ∧ ∀ j, j ≤ os.length → Sz 4000 (Ev.sm j fun j => shB ss os i j * x j) := by
  obtain ⟨d, hd, h⟩ := h
  have ol := G.ol
  have hb : Gp ss os * d ≤ 2 ^ 2100 := Nat.le_trans (Nat.mul_le_mul G.gp.2 hd) (by decide +kernel)
  have one : ∀ j, j < os.length → Dn (Gp ss os * d) (1 * 2 ^ 1002) (shB ss os i j * x j) := fun j hj => (G.dnB hj).mul (h j hj)
  refine ⟨fun j hj => sz_dn (k := 1) (one j hj) hb (by omega) (by decide +kernel), fun j hj => ?_⟩
  by_cases hz : j = 0
  · subst hz
    exact sz_zero
  · have hp := (one 0 (by omega)).pos
    exact sz_dn (Dn.sm hp fun q hq => one q (by omega)) hb (by omega) (by decide +kernel)
/-- of each end the lift -/
def lft (ss : List Stk) (os : List Pr) (x : Nat → Rat) (i : Nat) : Rat := sm os.length fun j => shB ss os i j * x j
theorem borne_w {x β : Nat → Rat} (G : PG ss os) (hx : PrOk os.length x) (hb : ∀ i, i < 2 * ss.length → Sz 4000 (β i)) (h : ∀ i, i < 2 * ss.length → lft ss os x i ≤ β i) (τ : Tp) :
    S_are_borne [.d (pileD ss os), .d (prsD os.length x), .d (fracs (2 * ss.length) β)] τ = some (.bool true, τ) := by
  refine wpC_eq ?_
  unfold S_are_borne
  have sl := G.sl
  have ol := G.ol
  wtm_at "ev_st"
  refine wpC_of (shares_w G _) ?_
  unfold rowsD
  wtm_at "ev_st"
  refine k_lcK rfl (by simp; omega) (lcw_of (lc_map (f := fun i : Nat => fracs os.length (shB ss os i)) (g := fun i : Nat => frD (lft ss os x i)) (p := fun _ => true) fun i hi => ?_) ?_)
  · obtain ⟨r1, r2⟩ := hx.row G i
    wtm_at "ev_st"
    refine ⟨rfl, rfl, fun _ => ?_⟩
    wtm_at "ev_st"
    refine wpC_of (summed_w (by omega) (fun j hj => G.szB hj) hx.sz r1 (fun j hj => r2 j (by omega)) _) ?_
    wtm_at "ev_st"
    exact ⟨rfl, rfl⟩
  · rw [filter_true]
    unfold fracs
    wtm_at "ev_st"
    rw [zip_range]
    refine k_lcK rfl (by simp; omega) (lcw_of (lc_map (f := fun i : Nat => PyData.tuple [frD (lft ss os x i), frD (β i)]) (g := fun _ => PyData.bool false) (p := fun _ => true) fun i hi => ?_) ?_)
    · have hi : i < 2 * ss.length := by simpa using hi
      obtain ⟨r1, r2⟩ := hx.row G i
      wtm_at "ev_st"
      refine ⟨rfl, rfl, fun _ => ?_⟩
      wtm_at "ev_st"
      refine wpC_of (isless_w (hb i hi) (r2 os.length (Nat.le_refl _)) _) ?_
      rw [show decide (β i < sm os.length fun j => shB ss os i j * x j) = false from decide_eq_false fun q => by have := h i hi; unfold lft at this; grind]
      wtm_at "ev_st"
      exact ⟨rfl, rfl⟩
    · rw [filter_true]
      wtm_at "ev_st"
      refine k_anF ?_
      wtm_at "ev_st"
      exact ⟨rfl, rfl⟩
theorem bet_sz (hw : WtOk ss wt) (i : Nat) : Sz 4000 (bet wt i) := by
  obtain ⟨w, h1, h2⟩ := bet_le hw
  rw [h2]
  have h := h1 i
  have e : ((w i : Rat) / 2) = (((w i : Nat) : Int) : Rat) / (((2 : Nat) : Int) : Rat) := by rw [Rat.intCast_natCast]; rfl
  have := parts_le (a := ((w i : Nat) : Int)) (b := (((2 : Nat) : Int))) (by decide)
  rw [e]
  exact (sz_small (by omega) (by omega)).mono (by decide)
theorem Sol.prok {x y : Nat → Rat} (s : Sol ss os wt x y) : PrOk os.length x := by
  obtain ⟨d, hd, h⟩ := s.xd
  exact ⟨d, Nat.le_trans hd (by decide +kernel), fun j hj => (h j hj).more (by decide +kernel)⟩
theorem shown_w {x : Nat → Rat} (G : PG ss os) (hw : WtOk ss wt) (hx : PrOk os.length x) (h0 : ∀ j, j < os.length → 0 ≤ x j) (h : ∀ i, i < 2 * ss.length → lft ss os x i ≤ bet wt i) (τ : Tp) :
    S_shown [.d (pileD ss os), .d (wtD wt), .d (prsD os.length x)] τ = some (frD (sm os.length x), τ) := by
  refine wpC_eq ?_
  unfold S_shown
  have sl := G.sl
  have ol := G.ol
  have wl := hw.len
  wtm_at "ev_st"
  refine wpC_of (presses_w ol h0 _) ?_
  wtm_at "ev_st"
  refine wpC_of (halves_w (by omega) hw.le _) ?_
  wtm_at "ev_st"
  rw [wl]
  refine wpC_of (borne_w G hx (fun i _ => bet_sz hw i) h _) ?_
  wtm_at "ev_st"
  refine wpC_of (total_w (by omega) hx.sz (fun j hj => hx.sm ol j (by omega)) _) ?_
  wtm_at "ev_st"
  exact ⟨rfl, rfl⟩
/-- no heights fit -/
def Not_ (ss : List Stk) (os : List Pr) : Prop := ∃ z, Hld ss os z
theorem energy_none (G : PG ss os) (hw : WtOk ss wt) (hn : Not_ ss os) (τ : Tp) : S_least_energy [.d (pileD ss os), .d (wtD wt)] τ = some (.none, τ) := by
  refine wpC_eq ?_
  unfold S_least_energy
  obtain ⟨d, e, h⟩ := solved_w G hw
  wtm_at "ev_st"
  refine wpC_of (e _) ?_
  rcases h with ⟨rfl, _⟩ | ⟨x, y, rfl, s⟩
  · wtm_at "ev_st"
    exact ⟨rfl, rfl⟩
  · obtain ⟨z, hz⟩ := hn
    exact (hz.no s).elim
theorem energy_some (G : PG ss os) (hw : WtOk ss wt) (hn : ¬Not_ ss os) : ∃ x y, Sol ss os wt x y ∧ ∀ τ, S_least_energy [.d (pileD ss os), .d (wtD wt)] τ = some (frD (sm os.length x), τ) := by
  obtain ⟨d, e, h⟩ := solved_w G hw
  have ol := G.ol
  rcases h with ⟨rfl, hz⟩ | ⟨x, y, rfl, s⟩
  · exact (hn hz).elim
  · refine ⟨x, y, s, fun τ => wpC_eq ?_⟩
    unfold S_least_energy
    wtm_at "ev_st"
    refine wpC_of (e _) ?_
    wtm_at "ev_st"
    refine wpC_of (total_w (by omega) s.prok.sz (fun j hj => s.prok.sm ol j (by omega)) _) ?_
    wtm_at "ev_st"
    exact ⟨rfl, rfl⟩
theorem sunk_some (G : PG ss os) (hw : WtOk ss wt) (hn : ¬Not_ ss os) : ∃ x y, Sol ss os wt x y ∧ ∀ τ, S_sunk [.d (pileD ss os), .d (wtD wt)] τ = some (pairD ss.length y, τ) := by
  obtain ⟨d, e, h⟩ := solved_w G hw
  rcases h with ⟨rfl, hz⟩ | ⟨x, y, rfl, s⟩
  · exact (hn hz).elim
  · refine ⟨x, y, s, fun τ => wpC_eq ?_⟩
    unfold S_sunk
    wtm_at "ev_st"
    refine wpC_of (e _) ?_
    wtm_at "ev_st"
    exact ⟨rfl, rfl⟩
theorem bearing_some (G : PG ss os) (hw : WtOk ss wt) (hn : ¬Not_ ss os) : ∃ x y, Sol ss os wt x y ∧ ∀ τ, S_bearing [.d (pileD ss os), .d (wtD wt)] τ = some (prsD os.length x, τ) := by
  obtain ⟨d, e, h⟩ := solved_w G hw
  rcases h with ⟨rfl, hz⟩ | ⟨x, y, rfl, s⟩
  · exact (hn hz).elim
  · refine ⟨x, y, s, fun τ => wpC_eq ?_⟩
    unfold S_bearing
    wtm_at "ev_st"
    refine wpC_of (e _) ?_
    wtm_at "ev_st"
    exact ⟨rfl, rfl⟩
/-! ### energies of several weights -/
theorem Sol.le {wt' : List Nat} {x y x' y' : Nat → Rat} (s : Sol ss os wt x y) (s' : Sol ss os wt' x' y') (h : ∀ i, i < 2 * ss.length → bet wt i ≤ bet wt' i) : sm os.length x ≤ sm os.length x' := by
  rw [← s'.eq]
  exact weak s.x0 (fun i hi => by have := s.xb i hi; have := h i hi; grind) s'.y0 s'.yb
theorem Sol.uniq {x y x' y' : Nat → Rat} (s : Sol ss os wt x y) (s' : Sol ss os wt x' y') : sm os.length x = sm os.length x' :=
  Rat.le_antisymm (s.le s' fun _ _ => Rat.le_refl) (s'.le s fun _ _ => Rat.le_refl)
end

open PySem PySem.Spec PyProof.Rows L2
open PySem.W (minD maxD)
noncomputable def S_rest09 : EvS := (sSeq (sFor (iSeq (eLst (aCons (eCon (.int (4))) (aCons (eCon (.int (4))) (aCons (eCon (.int (3))) aNil))))) (.nm 2) (sSeq (sSet false 3 (eCall S__law_pile (aCons (eVar 1) (aCons (eVar 2) aNil))))
    (sSeq (sSet false 4 (f1 gLen (f2 gIx (eVar 3) (eCon (.int (0))))))
    (sSeq (sSet false 5 (f1 gTuple (eLc (iRng (aCons (eVar 4) aNil)) (.nm 14) tYesF (f2 gAdd (eCon (.int (1))) (eCall S__law_draw (aCons (eVar 1) (aCons (eCon (.int (6))) aNil)))) [14])))
    (sSeq (sSet false 6 (f1 gTuple (eLc (iRng (aCons (eVar 4) aNil)) (.nm 14) tYesF (f2 gAdd (eCon (.int (1))) (eCall S__law_draw (aCons (eVar 1) (aCons (eCon (.int (6))) aNil)))) [14])))
    (sSeq (sPar (ownL []) [7, 8] (dCons (eCall S_least_energy (aCons (eVar 3) (aCons (eVar 5) aNil))) (dCons (eCall S_least_energy (aCons (eVar 3) (aCons (eVar 6) aNil))) aNil)))
    (sSeq (sIf (eOr (f2 (gIs false) (eVar 7) (eCon .none)) (f2 (gIs false) (eVar 8) (eCon .none))) (sSeq (sIf (eOr (f2 (gIs true) (eVar 7) (eCon .none)) (f2 (gIs true) (eVar 8) (eCon .none))) (sSeq (sRet (eCon (.bool false)))
    sNext) sNext)
    (sSeq sCont
    sNext)) sNext)
    (sSeq (sSet false 9 (f2 gAdd (eCon (.int (1))) (eCall S__law_draw (aCons (eVar 1) (aCons (eCon (.int (2))) aNil)))))
    (sSeq (sIf (f2 (gEqD true) (eCall S_least_energy (aCons (eVar 3) (aCons (f1 gTuple (eLc (iSeq (eVar 5)) (.nm 15) tYesF (f2 gMul (eVar 9) (eVar 15)) [15])) aNil))) (eCall S__law_part (aCons (eVar 7) (aCons (eTup (aCons (eVar 9) (aCons (eCon (.int (1))) aNil))) aNil)))) (sSeq (sRet (eCon (.bool false)))
    sNext) sNext)
    (sSeq (sSet false 10 (eCall S_least_energy (aCons (eVar 3) (aCons (f1 gTuple (eLc (iZip (aCons (eVar 5) (aCons (eVar 6) aNil))) (.tu (.cn (.nm 16) (.cn (.nm 17) .nl))) tYesF (f2 gAdd (eVar 16) (eVar 17)) [16, 17])) aNil))))
    (sSeq (sIf (eCall S__law_below (aCons (eVar 10) (aCons (eCall S__law_sum (aCons (eVar 7) (aCons (eVar 8) aNil))) aNil))) (sSeq (sRet (eCon (.bool false)))
    sNext) sNext)
    (sSeq (sSet false 11 (eCall S__law_draw (aCons (eVar 1) (aCons (eVar 4) aNil))))
    (sSeq (sSet false 12 (eCall S_least_energy (aCons (eVar 3) (aCons (f2 gAdd (f2 gAdd (eSl (eVar 5) oNone (oSome (eVar 11))) (eTup (aCons (f2 gAdd (f2 gAdd (f2 gIx (eVar 5) (eVar 11)) (eCon (.int (1)))) (eCall S__law_draw (aCons (eVar 1) (aCons (eCon (.int (9))) aNil)))) aNil))) (eSl (eVar 5) (oSome (f2 gAdd (eVar 11) (eCon (.int (1))))) oNone)) aNil))))
    (sSeq (sIf (eCall S__law_below (aCons (eVar 12) (aCons (eVar 7) aNil))) (sSeq (sRet (eCon (.bool false)))
    sNext) sNext)
    (sSeq (sIf (eCall S__law_below (aCons (eCall S__law_energy (aCons (eVar 5) (aCons (eCall S_sunk (aCons (eVar 3) (aCons (eVar 6) aNil))) aNil))) (aCons (eVar 7) aNil))) (sSeq (sRet (eCon (.bool false)))
    sNext) sNext)
    (sSeq (sIf (eCall S__law_below (aCons (eCall S__law_energy (aCons (eVar 6) (aCons (eCall S_sunk (aCons (eVar 3) (aCons (eVar 5) aNil))) aNil))) (aCons (eVar 8) aNil))) (sSeq (sRet (eCon (.bool false)))
    sNext) sNext)
    (sSeq (sSet false 13 (f1 gTuple (eLc (iZip (aCons (eCall S_bearing (aCons (eVar 3) (aCons (eVar 5) aNil))) (aCons (eCall S_bearing (aCons (eVar 3) (aCons (eVar 6) aNil))) aNil))) (.tu (.cn (.nm 16) (.cn (.nm 17) .nl))) tYesF (eCall S__law_sum (aCons (eVar 16) (aCons (eVar 17) aNil))) [16, 17])))
    (sSeq (sIf (f2 (gEqD true) (eCall S_shown (aCons (eVar 3) (aCons (f1 gTuple (eLc (iZip (aCons (eVar 5) (aCons (eVar 6) aNil))) (.tu (.cn (.nm 16) (.cn (.nm 17) .nl))) tYesF (f2 gAdd (eVar 16) (eVar 17)) [16, 17])) (aCons (eVar 13) aNil)))) (eCall S__law_sum (aCons (eVar 7) (aCons (eVar 8) aNil)))) (sSeq (sRet (eCon (.bool false)))
    sNext) sNext)
    sNext))))))))))))))))))
    (sSeq (sRet (eCon (.bool true)))
    sNext))
def N_law09 : List Str := ["script", "tape", "most", "pile", "many", "one", "two", "first", "second", "by", "both", "at", "heavy", "parts", "k", "weight", "a", "b"]


open PySem PySem.Spec PyProof.Rows L2
open PySem.W (minD maxD)
theorem lcw_iv {tg : Tg} {tt te : EvF} {env : En} {P : D → Prop} (I : Nat → Tp → Prop) (hs : ∀ d k τ, I (k + 1) τ → wpO (bindT tg d env) fun e => wpE tt e τ fun w t => w = .d (.bool true) ∧ t = τ ∧ wpE te e τ fun w t => ∃ x, toD w = some x ∧ P x ∧ I k t) :
    ∀ {its : List D} {τ : Tp} {Q : List D → Tp → Prop}, I its.length τ → (∀ l t, l.length = its.length → (∀ x ∈ l, P x) → I 0 t → Q l t) → lcW tg tt te env its τ Q
  | [], τ, Q, h, q => lcw_nil (q [] τ rfl (by simp) h)
  | d :: r, τ, Q, h, q => by
    refine lcw_cons (wpO_mono (hs d r.length τ h) fun e h1 => ?_)
    rw [wpE_un] at h1 ⊢
    refine wpO_mono h1 fun p h2 => ?_
    obtain ⟨w, t⟩ := p
    obtain ⟨rfl, rfl, h3⟩ := h2
    refine k_bool ?_
    refine k_t rfl ?_
    rw [wpE_un] at h3 ⊢
    refine wpO_mono h3 fun p h4 => ?_
    obtain ⟨w, t2⟩ := p
    obtain ⟨x, e1, hP, hI⟩ := h4
    refine wpO_of e1 ?_
    exact lcw_iv I hs hI fun l t hl hp hi => q (x :: l) t (by simp [hl]) (fun y hy => by
      rcases List.mem_cons.mp hy with rfl | hy
      · exact hP
      · exact hp y hy) hi
theorem lbelow_w {p q : Rat} (hp : Sz 4000 p) (hq : Sz 4000 q) (τ : Tp) : S__law_below [.d (frD p), .d (frD q)] τ = some (.bool (decide (p < q)), τ) := by
  refine wpC_eq ?_
  unfold S__law_below
  have m1 := msz (i := p.num) (j := (q.den : Int)) hp.num hq.den
  have m2 := msz (i := q.num) (j := (p.den : Int)) hq.num hp.den
  wtm_at "ev_st"
  rw [lt_cross]
  exact ⟨rfl, rfl⟩
theorem k_nefr {env : En} {τ : Tp} {Q : W → Prop} {p q : Rat} (h : Q (.d (.bool (!decide (p = q))))) : wpO (gEqD true env τ (.d (frD p)) (.d (frD q))) Q := by
  have e : gEqD true env τ (.d (frD p)) (.d (frD q)) = (if SeqAt.shaped (frD p) = true ∧ SeqAt.shaped (frD q) = true then some (.d (.bool (!PyData.eqv (frD p) (frD q)))) else none) := rfl
  rw [e, if_pos ⟨itl_shaped (itl_fr2 p) (by decide), itl_shaped (itl_fr2 q) (by decide)⟩, eqv_fr]
  exact wpO_of rfl h
theorem lpart_half {w : Nat} {q : Rat} (hw : w ≤ 1024) (hq : Sz 4000 q) (τ : Tp) : S__law_part [.d (.tuple [.int (w : Nat), .int 2]), .d (frD q)] τ = some (frD ((w : Rat) / 2 * q), τ) := by
  refine wpC_eq ?_
  unfold S__law_part
  have hs : ∀ k : Int, k.natAbs ≤ 1024 → k.natAbs < 2 ^ 4000 := fun k hk => Nat.lt_of_le_of_lt hk (by decide +kernel)
  have m1 := msz (i := (w : Int)) (j := q.num) (hs _ (by omega)) hq.num
  have m3 := msz (i := 2) (j := (q.den : Int)) (hs _ (by decide)) hq.den
  have hd := den_pos q
  have hz : ((2 : Int) * (q.den : Int)).natAbs < 2 ^ 9000 := by
    rw [Int.natAbs_mul]
    have h3 : ((q.den : Int)).natAbs < 2 ^ 4000 := hq.den
    have : Int.natAbs 2 * ((q.den : Int)).natAbs < 2 * 2 ^ 4000 := by
      show 2 * _ < _
      omega
    exact Nat.lt_trans this (by decide +kernel)
  wtm_at "ev_st"
  refine wpC_of (lfrac_w (Int.mul_pos (by decide) hd) hz _) ?_
  wtm_at "ev_st"
  have e : (((w : Int) * q.num : Int) : Rat) / (((2 : Int) * (q.den : Int) : Int) : Rat) = (w : Rat) / 2 * q := by
    have e1 := rat_parts q
    have n1 := den_ne q
    have e2 : (q.num : Rat) = q * ((q.den : Int) : Rat) := by grind
    have e3 : (((2 : Int)) : Rat) = 2 := rfl
    rw [Rat.intCast_mul, Rat.intCast_mul, e2, Rat.intCast_natCast, e3]
    grind
  rw [e]
  exact ⟨rfl, rfl⟩
theorem sm_pair (f : Nat → Rat) : ∀ k, sm (2 * k) f = sm k fun i => f (2 * i) + f (2 * i + 1)
  | 0 => rfl
  | k + 1 => by
    show sm (2 * k) f + f (2 * k) + f (2 * k + 1) = sm k (fun i => f (2 * i) + f (2 * i + 1)) + (f (2 * k) + f (2 * k + 1))
    rw [sm_pair f k]
    grind
theorem wt_range (wt : List Nat) : (wt.map fun w => PyData.int (w : Nat)) = (List.range wt.length).map fun i => PyData.int ((wt.getD i 0 : Nat) : Int) := by
  refine List.ext_getElem? fun i => ?_
  rw [List.getElem?_map, List.getElem?_map]
  by_cases h : i < wt.length
  · rw [List.getElem?_range h, List.getElem?_eq_getElem h]
    show some (PyData.int ((wt[i] : Nat) : Int)) = some (PyData.int ((wt.getD i 0 : Nat) : Int))
    rw [List.getD_eq_getElem?_getD, List.getElem?_eq_getElem h]
    rfl
  · rw [List.getElem?_eq_none (by omega), List.getElem?_eq_none (by simp; omega)]
    rfl
section
variable {ss : List Stk} {os : List Pr} {wt wt' : List Nat} {x y : Nat → Rat}
theorem getD_le (hw : WtOk ss wt) (i : Nat) : wt.getD i 0 ≤ 1024 := by
  rw [List.getD_eq_getElem?_getD]
  cases e : wt[i]? with
  | none => simp
  | some w => exact hw.le w (List.mem_of_getElem? e)
def pe (y : Nat → Rat) (i : Nat) : Rat := y (2 * i) + y (2 * i + 1)
theorem Sol.pe_sz (s : Sol ss os wt x y) {c : Nat → Nat} (hc : ∀ i, c i ≤ 1024) : Sz 2000 (sm ss.length fun i => (c i : Rat) / 2 * pe y i) := by
  have h := s.yv (fun k => c (k / 2)) fun i => hc _
  rw [sm_pair] at h
  rw [sm_congr (g := fun i => y (2 * i) * ((c (2 * i / 2) : Rat) / 2) + y (2 * i + 1) * ((c ((2 * i + 1) / 2) : Rat) / 2)) fun i hi => ?_]
  · exact h
  · rw [show 2 * i / 2 = i by omega, show (2 * i + 1) / 2 = i by omega]
    unfold pe
    grind
theorem rat0 : ((0 : Nat) : Rat) = 0 := rfl
theorem sm_pick {n i : Nat} (hi : i < n) (a : Nat) (f : Nat → Rat) : (sm n fun q => ((if q = i then a else 0 : Nat) : Rat) / 2 * f q) = (a : Rat) / 2 * f i := by
  rw [sm_one (i := i) hi fun j hj hne => ?_]
  · rw [if_pos rfl]
  · rw [if_neg hne, rat0]
    grind
theorem two_half : (((2 : Nat) : Rat) / 2) = 1 := by
  have : ((2 : Nat) : Rat) = 2 := rfl
  rw [this]
  grind
theorem Sol.y_sz (s : Sol ss os wt x y) {a : Nat} (ha : a < 2 * ss.length) : Sz 2000 (y a) := by
  have h := s.yv (fun k => if k = a then 2 else 0) fun i => by split <;> omega
  rw [sm_congr (g := fun k => ((if k = a then 2 else 0 : Nat) : Rat) / 2 * y k) fun i hi => by grind, sm_pick ha, two_half] at h
  rw [show y a = 1 * y a by grind]
  exact h
theorem Sol.pr_sz (s : Sol ss os wt x y) {i : Nat} (hi : i < ss.length) (a : Nat) (ha : a ≤ 1024) : Sz 2000 ((a : Rat) / 2 * pe y i) := by
  have h := s.pe_sz (c := fun k => if k = i then a else 0) fun i => by split <;> omega
  rw [sm_pick hi] at h
  exact h
theorem sm_cut {n i : Nat} (hi : i ≤ n) (c : Nat → Nat) (f : Nat → Rat) : (sm n fun q => ((if q < i then c q else 0 : Nat) : Rat) / 2 * f q) = sm i fun q => (c q : Rat) / 2 * f q := by
  induction n with
  | zero =>
    have : i = 0 := by omega
    subst this
    rfl
  | succ n ih =>
    by_cases e : i = n + 1
    · subst e
      exact sm_congr fun q hq => by rw [if_pos hq]
    · show (sm n fun q => ((if q < i then c q else 0 : Nat) : Rat) / 2 * f q) + ((if n < i then c n else 0 : Nat) : Rat) / 2 * f n = _
      rw [ih (by omega), if_neg (by omega), rat0]
      grind
theorem Sol.en_sz (s : Sol ss os wt x y) (hw' : WtOk ss wt') {i : Nat} (hi : i ≤ ss.length) : Sz 2000 (sm i fun q => ((wt'.getD q 0 : Nat) : Rat) / 2 * pe y q) := by
  have h := s.pe_sz (c := fun k => if k < i then wt'.getD k 0 else 0) fun k => by
    have := getD_le hw' k
    split <;> omega
  rw [sm_cut hi] at h
  exact h
theorem energy_w (s : Sol ss os wt x y) (hw' : WtOk ss wt') (G : PG ss os) (τ : Tp) : S__law_energy [.d (wtD wt'), .d (pairD ss.length y)] τ = some (frD (sm (2 * ss.length) fun i => y i * bet wt' i), τ) := by
  refine wpC_eq ?_
  have sl := G.sl
  have wl := hw'.len
  have e : (sm (2 * ss.length) fun i => y i * bet wt' i) = sm ss.length fun q => ((wt'.getD q 0 : Nat) : Rat) / 2 * pe y q := by
    rw [sm_pair]
    refine sm_congr fun i hi => ?_
    unfold bet pe
    rw [show 2 * i / 2 = i by omega, show (2 * i + 1) / 2 = i by omega]
    grind
  rw [e]
  unfold S__law_energy wtD pairD
  rw [wt_range, wl]
  generalize hB : sSeq (sSet false 2 (eCall S__law_sum _)) _ = B
  wtm_at "ev_st"
  rw [zip_range, ← frD_zero]
  refine ⟨rfl, ?_⟩
  refine k_forI (fun i e t => t = τ ∧ ∃ a b, e = [.d (.tuple ((List.range ss.length).map fun i => PyData.int ((wt'.getD i 0 : Nat) : Int))), .d (.tuple ((List.range ss.length).map fun i => PyData.tuple [frD (y (2 * i)), frD (y (2 * i + 1))])), .d (frD (sm i fun q => ((wt'.getD q 0 : Nat) : Rat) / 2 * pe y q)), a, b]) ?_ ?_ ⟨rfl, _, _, rfl⟩
  · rintro i d e t hi ⟨rfl, a, b, rfl⟩
    have hin : i < ss.length := by
      have := (List.getElem?_eq_some_iff.mp hi).1
      simpa using this
    rw [range_at _ hin] at hi
    cases hi
    rw [← hB]
    wtm_at "ev_st"
    refine wpC_of (lsum_w ((s.y_sz (by omega)).mono (by decide)) ((s.y_sz (by omega)).mono (by decide)) _) ?_
    wtm_at "ev_st"
    have hp : Sz 2000 (pe y i) := by
      have h := s.pr_sz hin 2 (by omega)
      rw [two_half, show 1 * pe y i = pe y i by grind] at h
      exact h
    refine wpC_of (lpart_half (getD_le hw' i) (hp.mono (by decide)) _) ?_
    wtm_at "ev_st"
    refine wpC_of (lsum_w ((s.en_sz hw' (by omega)).mono (by decide)) ((s.pr_sz hin _ (getD_le hw' i)).mono (by decide)) _) ?_
    wtm_at "ev_st"
    exact ⟨rfl, _, _, rfl⟩
  · rintro e t ⟨rfl, a, b, rfl⟩
    rw [List.length_map, List.length_range]
    wtm_at "ev_st"
    exact ⟨rfl, rfl⟩
theorem Sol.dn (s : Sol ss os wt x y) (G : PG ss os) : ∃ d, d ≤ 2 ^ 1000 ∧ 0 < d ∧ Dn d (2 ^ 1004) (sm os.length x) := by
  obtain ⟨d, hd, h⟩ := s.xd
  have ol := G.ol
  by_cases hz : os.length = 0
  · rw [hz]
    exact ⟨1, Nat.one_le_two_pow, by omega, Dn.zero (by omega)⟩
  · have hp := (h 0 (by omega)).pos
    refine ⟨d, hd, hp, (Dn.sm hp h).more ?_⟩
    exact Nat.le_trans (Nat.mul_le_mul_right _ ol) (by decide +kernel)
end

open PySem PySem.Spec PyProof.Rows L2
open PySem.W (minD maxD)
/-! ### weights -/
theorem bet_scale (c : Nat) (wt : List Nat) (i : Nat) : bet (wt.map fun w => c * w) i = c * bet wt i := by
  unfold bet
  have e : (wt.map fun w => c * w).getD (i / 2) 0 = c * wt.getD (i / 2) 0 := by
    rw [List.getD_eq_getElem?_getD, List.getD_eq_getElem?_getD, List.getElem?_map]
    cases wt[i / 2]? with
    | none => rfl
    | some w => rfl
  rw [e, Rat.natCast_mul]
  grind
def bothW (k : Nat) (a b : List Nat) : List Nat := (List.range k).map fun i => a.getD i 0 + b.getD i 0
theorem bothW_at {k i : Nat} (a b : List Nat) (h : i < k) : (bothW k a b).getD i 0 = a.getD i 0 + b.getD i 0 := by
  unfold bothW
  rw [List.getD_eq_getElem?_getD, range_at (fun i => a.getD i 0 + b.getD i 0) h]
  rfl
theorem bet_both {k : Nat} (a b : List Nat) {i : Nat} (h : i < 2 * k) : bet (bothW k a b) i = bet a i + bet b i := by
  unfold bet
  rw [bothW_at a b (by omega), Rat.natCast_add]
  grind
theorem bet_set {wt : List Nat} {a v : Nat} (ha : a < wt.length) (hv : wt.getD a 0 ≤ v) (i : Nat) : bet wt i ≤ bet (wt.take a ++ [v] ++ wt.drop (a + 1)) i := by
  unfold bet
  have e : wt.getD (i / 2) 0 ≤ (wt.take a ++ [v] ++ wt.drop (a + 1)).getD (i / 2) 0 := by
    rw [List.append_assoc, List.singleton_append, show wt.take a ++ v :: wt.drop (a + 1) = wt.set a v from by rw [List.set_eq_take_append_cons_drop, if_pos ha]]
    rw [List.getD_eq_getElem?_getD (l := wt.set a v), List.getElem?_set]
    by_cases q : a = i / 2
    · subst q
      rw [if_pos rfl, if_pos ha]
      exact hv
    · rw [if_neg q, ← List.getD_eq_getElem?_getD]
      exact Nat.le_refl _
  have := Rat.natCast_le_natCast.mpr e
  grind
theorem cut_take {α : Type} (l : List α) (a : Nat) (h : a ≤ l.length) : cutL l none (some (a : Int)) = l.take a := by
  unfold cutL
  rw [HT.sIx_none, HT.sIx_nat, Nat.min_eq_left h, List.drop_zero, Nat.sub_zero]
theorem cut_drop {α : Type} (l : List α) (a : Nat) (h : a ≤ l.length) : cutL l (some (a : Int)) none = l.drop a := by
  unfold cutL
  rw [HT.sIx_none, HT.sIx_nat, Nat.min_eq_left h]
  rw [List.take_of_length_le (by simp)]
theorem ints_of {b : Nat} : ∀ {l : List D}, (∀ d ∈ l, ∃ w : Nat, d = .int w ∧ w ≤ b) → ∃ wt : List Nat, l = wt.map (fun w => PyData.int (w : Nat)) ∧ ∀ w ∈ wt, w ≤ b
  | [], _ => ⟨[], rfl, fun _ h => (by cases h)⟩
  | d :: l, h => by
    obtain ⟨wt, e, hw⟩ := ints_of (l := l) fun d hd => h d (List.mem_cons_of_mem _ hd)
    obtain ⟨w, rfl, hb⟩ := h d (List.mem_cons_self ..)
    exact ⟨w :: wt, by rw [List.map_cons, e], fun v hv => by
      rcases List.mem_cons.mp hv with rfl | hv
      · exact hb
      · exact hw v hv⟩
section
variable {ss : List Stk} {os : List Pr} {wt wt1 wt2 : List Nat} {x y x' y' x1 x2 y1 y2 : Nat → Rat}
theorem Sol.scale {c : Nat} (s : Sol ss os wt x y) (s' : Sol ss os (wt.map fun w => c * w) x' y') : sm os.length x' = sm os.length x * ((c : Int) : Rat) := by
  have c0 : (0 : Rat) ≤ c := Rat.natCast_nonneg
  have h1 := weak (x := fun j => (c : Rat) * x j) (fun j => Rat.mul_nonneg c0 (s.x0 j)) (β := bet (wt.map fun w => c * w)) (fun i hi => by
    rw [bet_scale, sm_congr (g := fun j => (c : Rat) * (shB ss os i j * x j)) fun j hj => by grind, sm_mul]
    have := Rat.mul_nonneg c0 (a := (c : Rat)) (b := bet wt i - sm os.length fun j => shB ss os i j * x j) (by have := s.xb i hi; grind)
    grind) s'.y0 s'.yb
  rw [s'.eq, sm_mul] at h1
  have h2 := weak s'.x0 (fun i hi => s'.xb i hi) s.y0 s.yb
  rw [sm_congr (n := 2 * ss.length) (g := fun i => (c : Rat) * (y i * bet wt i)) fun i hi => by rw [bet_scale]; grind, sm_mul, s.eq] at h2
  rw [Rat.intCast_natCast]
  have := Rat.le_antisymm h2 h1
  grind
theorem Sol.fits2 (s1 : Sol ss os wt1 x1 y1) (s2 : Sol ss os wt2 x2 y2) : ∀ i, i < 2 * ss.length → lft ss os (fun j => x1 j + x2 j) i ≤ bet (bothW ss.length wt1 wt2) i := by
  intro i hi
  unfold lft
  rw [bet_both wt1 wt2 hi, sm_congr (g := fun j => shB ss os i j * x1 j + shB ss os i j * x2 j) fun j hj => by grind, sm_add]
  have h1 := s1.xb i hi
  have h2 := s2.xb i hi
  grind
theorem Sol.both (s1 : Sol ss os wt1 x1 y1) (s2 : Sol ss os wt2 x2 y2) (s : Sol ss os (bothW ss.length wt1 wt2) x y) : sm os.length x1 + sm os.length x2 ≤ sm os.length x := by
  have h := weak (x := fun j => x1 j + x2 j) (fun j => by have := s1.x0 j; have := s2.x0 j; grind) (s1.fits2 s2) s.y0 s.yb
  rw [sm_add, s.eq] at h
  exact h
theorem Sol.prok2 (s1 : Sol ss os wt1 x1 y1) (s2 : Sol ss os wt2 x2 y2) : PrOk os.length fun j => x1 j + x2 j := by
  obtain ⟨d1, h1, k1⟩ := s1.xd
  obtain ⟨d2, h2, k2⟩ := s2.xd
  refine ⟨d1 * d2, Nat.le_trans (Nat.mul_le_mul h1 h2) (by decide +kernel), fun j hj => ?_⟩
  have a := k1 j hj
  have b := k2 j hj
  exact ((a.times b.pos).add (b.times' a.pos)).more (by decide +kernel)
theorem Sol.other (s1 : Sol ss os wt1 x1 y1) (s : Sol ss os wt2 x y) : sm os.length x1 ≤ sm (2 * ss.length) fun i => y i * bet wt1 i := weak s1.x0 s1.xb s.y0 s.yb
theorem Sol.sz (s : Sol ss os wt x y) (G : PG ss os) : Sz 4000 (sm os.length x) := s.prok.sm G.ol _ (Nat.le_refl _)
theorem Sol.en4 (s : Sol ss os wt x y) (hw : WtOk ss wt1) : Sz 4000 (sm (2 * ss.length) fun i => y i * bet wt1 i) := by
  obtain ⟨w, h1, h2⟩ := bet_le hw
  have := s.yv w h1
  rw [sm_congr (g := fun i => y i * ((w i : Rat) / 2)) fun i hi => by rw [h2]]
  exact this.mono (by decide)
end
theorem zip_wt {wt1 wt2 : List Nat} {k : Nat} (h1 : wt1.length = k) (h2 : wt2.length = k) : zipD (wt1.map fun w : Nat => PyData.int (w : Nat)) (wt2.map fun w : Nat => PyData.int (w : Nat)) = (List.range k).map fun i => PyData.tuple [.int ((wt1.getD i 0 : Nat) : Int), .int ((wt2.getD i 0 : Nat) : Int)] := by
  rw [wt_range wt1, wt_range wt2, h1, h2, zip_range]
theorem getD_b {wt : List Nat} {b : Nat} (h : ∀ w ∈ wt, w ≤ b) (i : Nat) : wt.getD i 0 ≤ b := by
  rw [List.getD_eq_getElem?_getD]
  cases e : wt[i]? with
  | none => simp
  | some w => exact h w (List.mem_of_getElem? e)
theorem both_ok {ss : List Stk} {wt1 wt2 : List Nat} (h1 : ∀ w ∈ wt1, w ≤ 6) (h2 : ∀ w ∈ wt2, w ≤ 6) : WtOk ss (bothW ss.length wt1 wt2) := ⟨by unfold bothW; simp, fun w hw => by
  obtain ⟨i, _, rfl⟩ := List.mem_map.mp hw
  have := getD_b h1 i
  have := getD_b h2 i
  omega⟩
theorem both_map (k : Nat) (wt1 wt2 : List Nat) : ((List.range k).map fun i => PyData.int ((wt1.getD i 0 + wt2.getD i 0 : Nat) : Int)) = (bothW k wt1 wt2).map fun w : Nat => PyData.int (w : Nat) := by
  unfold bothW
  rw [List.map_map]
  rfl
theorem wt_at {wt : List Nat} {a : Nat} (h : a < wt.length) : (wt.map fun w : Nat => PyData.int (w : Nat))[a]? = some (.int ((wt.getD a 0 : Nat) : Int)) := by
  rw [wt_range wt, range_at _ h]
theorem k_cont {env : En} {τ : Tp} {R : Out → Prop} (h : R (.ct env τ)) : wpS sCont env τ R := by with_unfolding_all exact h
theorem tpS {ns : List Int} (h : ns.length ≤ 63) : TpOk 100000 [.list (ns.map PyData.int), .int 0, .int 0] := ⟨ns, 0, 0, rfl, h, by decide, by decide⟩
theorem law09 (ns : List Int) (hl : ns.length ≤ 63) : ∃ τ, lawRun S_rest09 N_law09 ns = some (.rt (.bool true) τ) := by
  have main : wpS S_rest09 [.no, .tp, .no, .no, .no, .no, .no, .no, .no, .no, .no, .no, .no, .no, .no, .no, .no, .no] [.list (ns.map PyData.int), .int 0, .int 0] fun o => ∃ τ, o = .rt (.bool true) τ := by
    unfold S_rest09
    generalize hB : sSeq (sSet false 3 _) _ = B
    have body : ∀ (m b : Nat) (τ : Tp) (R : Out → Prop) (x3 x4 x5 x6 x7 x8 x9 xa xb xc xd xe xf xg xh : Sl), m ≤ 5 → 1 ≤ m → TpOk (b + 1000) τ →
        (∀ t y3 y4 y5 y6 y7 y8 y9 ya yb yc yd ye yf yg yh, TpOk b t → R (.nx [.no, .tp, .d (.int m), y3, y4, y5, y6, y7, y8, y9, ya, yb, yc, yd, ye, yf, yg, yh] t) ∧ R (.ct [.no, .tp, .d (.int m), y3, y4, y5, y6, y7, y8, y9, ya, yb, yc, yd, ye, yf, yg, yh] t)) →
        wpS B [.no, .tp, .d (.int m), x3, x4, x5, x6, x7, x8, x9, xa, xb, xc, xd, xe, xf, xg, xh] τ R := by
      intro m b τ R x3 x4 x5 x6 x7 x8 x9 xa xb xc xd xe xf xg xh hm5 hm1 T q
      rw [← hB]
      wtm_at "ev_st"
      refine pile_w (m := m) (b := b + 500) (T.mono (by omega)) hm5 hm1 fun ss os t2 ok T2 => ?_
      have G := ok.pg hm5
      have sl := G.sl
      have ol := G.ol
      have hml : (ss.map stD).length = ss.length := List.length_map ..
      wtm_at "ev_st"
      clear hB
      refine k_lcK rfl (by rw [rangeD_len]; simp; omega) (lcw_iv (P := fun d => ∃ w : Nat, d = .int w ∧ w ≤ 6) (fun k t => TpOk (b + 400 + k) t) (fun d k t hI => ?_) (T2.mono (by rw [rangeD_len]; simp; omega)) fun l t hl hP hI => ?_)
      · wtm_at "ev_st"
        refine ⟨rfl, rfl, ?_⟩
        wtm_at "ev_st"
        refine dr hI (b := b + 400 + k) (by omega) (by omega) (by omega) fun r t' r0 r1 T' => ?_
        wtm_at "ev_st"
        exact ⟨_, rfl, ⟨(1 + r).toNat, by rw [show (((1 + r).toNat : Nat) : Int) = 1 + r by omega], by omega⟩, T'⟩
      obtain ⟨wt1, rfl, wt1b⟩ := ints_of hP
      have wt1ok : WtOk ss wt1 := ⟨by rw [List.length_map, rangeD_len] at hl; simpa using hl, fun w hm => by have := wt1b w hm; omega⟩
      have T3 := hI
      clear hI hP hl
      wtm_at "ev_st"
      refine k_lcK rfl (by rw [rangeD_len]; simp; omega) (lcw_iv (P := fun d => ∃ w : Nat, d = .int w ∧ w ≤ 6) (fun k t => TpOk (b + 300 + k) t) (fun d k t hI => ?_) (T3.mono (by rw [rangeD_len]; simp; omega)) fun l t hl hP hI => ?_)
      · wtm_at "ev_st"
        refine ⟨rfl, rfl, ?_⟩
        wtm_at "ev_st"
        refine dr hI (b := b + 300 + k) (by omega) (by omega) (by omega) fun r t' r0 r1 T' => ?_
        wtm_at "ev_st"
        exact ⟨_, rfl, ⟨(1 + r).toNat, by rw [show (((1 + r).toNat : Nat) : Int) = 1 + r by omega], by omega⟩, T'⟩
      obtain ⟨wt2, rfl, wt2b⟩ := ints_of hP
      have wt2ok : WtOk ss wt2 := ⟨by rw [List.length_map, rangeD_len] at hl; simpa using hl, fun w hm => by have := wt2b w hm; omega⟩
      have T4 := hI
      clear hI hP hl
      wtm_at "ev_st"
      by_cases hn : Not_ ss os
      · refine wpC_of (energy_none G wt1ok hn _) ?_
        wtm_at "ev_st"
        refine wpC_of (energy_none G wt2ok hn _) ?_
        wtm_at "ev_st"
        refine k_cont ?_
        wtm_at "ev_st"
        exact (q _ _ _ _ _ _ _ _ _ _ _ _ _ _ _ _ (T4.mono (by omega))).2
      obtain ⟨x1, y1, s1, e1⟩ := energy_some G wt1ok hn
      obtain ⟨x2, y2, s2, e2⟩ := energy_some G wt2ok hn
      refine wpC_of (e1 _) ?_
      wtm_at "ev_st"
      refine wpC_of (e2 _) ?_
      wtm_at "ev_st"
      refine dr T4 (b := b + 250) (by omega) (by omega) (by omega) fun r t5 r0 r1 T5 => ?_
      obtain ⟨c, hc, c1, c2⟩ : ∃ c : Nat, 1 + r = (c : Int) ∧ 1 ≤ c ∧ c ≤ 2 := ⟨(1 + r).toNat, by omega, by omega, by omega⟩
      wtm_at "ev_st"
      rw [hc]
      refine k_lcK rfl (by have := wt1ok.len; simp; omega) (lcw_of (lc_map (f := fun w : Nat => PyData.int (w : Nat)) (g := fun w : Nat => PyData.int ((c * w : Nat) : Int)) (p := fun _ => true) fun w hw => ?_) ?_)
      · have := wt1b w hw
        have mc := mul_sm (i := (c : Int)) (j := (w : Int)) (by omega) (by omega)
        wtm_at "ev_st"
        refine ⟨rfl, rfl, fun _ => ?_⟩
        wtm_at "ev_st"
        exact ⟨rfl, rfl⟩
      rw [filter_true, show (wt1.map fun w : Nat => PyData.int ((c * w : Nat) : Int)) = (wt1.map fun w => c * w).map (fun w : Nat => PyData.int (w : Nat)) from by rw [List.map_map]; rfl]
      have w3ok : WtOk ss (wt1.map fun w => c * w) := ⟨by rw [List.length_map]; exact wt1ok.len, fun v hv => by
        obtain ⟨w, hw, rfl⟩ := List.mem_map.mp hv
        have h1 := wt1b w hw
        have := Nat.mul_le_mul c2 h1
        omega⟩
      obtain ⟨x3, y3', s3, e3⟩ := energy_some G w3ok hn
      wtm_at "ev_st"
      refine wpC_of (e3 _) ?_
      wtm_at "ev_st"
      rw [← frD_int (c : Int)]
      refine wpC_of (lpart_w (s1.sz G) ((int_sz (by omega)).mono (by decide)) _) ?_
      wtm_at "ev_st"
      rw [s1.scale s3]
      rw [if_pos rfl, eqv_fr, decide_eq_true rfl]
      wtm_at "ev_st"
      rw [zip_wt wt1ok.len wt2ok.len]
      refine k_lcK rfl (by simp; omega) (lcw_of (lc_map (f := fun i : Nat => PyData.tuple [.int ((wt1.getD i 0 : Nat) : Int), .int ((wt2.getD i 0 : Nat) : Int)]) (g := fun i : Nat => PyData.int ((wt1.getD i 0 + wt2.getD i 0 : Nat) : Int)) (p := fun _ => true) fun i hi => ?_) ?_)
      · wtm_at "ev_st"
        refine ⟨rfl, rfl, fun _ => ?_⟩
        wtm_at "ev_st"
        exact ⟨rfl, rfl⟩
      rw [filter_true, both_map]
      have w4ok : WtOk ss (bothW ss.length wt1 wt2) := both_ok wt1b wt2b
      obtain ⟨x4, y4, s4, e4⟩ := energy_some G w4ok hn
      wtm_at "ev_st"
      refine wpC_of (e4 _) ?_
      wtm_at "ev_st"
      refine wpC_of (lsum_w (s1.sz G) (s2.sz G) _) ?_
      wtm_at "ev_st"
      have z12 : Sz 4000 (sm os.length x1 + sm os.length x2) := by
        rw [← sm_add]
        exact (s1.prok2 s2).sm ol _ (Nat.le_refl _)
      refine wpC_of (lbelow_w (s4.sz G) z12 _) ?_
      rw [decide_eq_false (Rat.not_lt.mpr (s1.both s2 s4))]
      wtm_at "ev_st"
      have hne : 0 < ss.length := List.length_pos_iff.mpr ok.ne
      refine dr T5 (b := b + 200) (by omega) (by omega) (by omega) fun a t6 a0 a1 T6 => ?_
      obtain ⟨a, rfl, ha⟩ : ∃ k : Nat, a = (k : Int) ∧ k < ss.length := ⟨a.toNat, by omega, by omega⟩
      wtm_at "ev_st"
      dsimp only
      have wl1 := wt1ok.len
      refine k_ixt (x := .int ((wt1.getD a 0 : Nat) : Int)) (by omega) (by rw [Int.toNat_natCast]; exact wt_at (by omega)) ?_
      wtm_at "ev_st"
      refine dr T6 (b := b + 100) (by omega) (by omega) (by omega) fun r t7 r0 r1 T7 => ?_
      obtain ⟨r, rfl, hr⟩ : ∃ k : Nat, r = (k : Int) ∧ k < 9 := ⟨r.toNat, by omega, by omega⟩
      wtm_at "ev_st"
      rw [cut_take _ a (by rw [List.length_map]; omega)]
      refine k_catt (by simp; omega) ?_
      wtm_at "ev_st"
      rw [show ((a : Int) + 1) = ((a + 1 : Nat) : Int) by omega, cut_drop _ (a + 1) (by rw [List.length_map]; omega)]
      refine k_catt (by simp; omega) ?_
      have eh : List.take a (wt1.map fun w : Nat => PyData.int (w : Nat)) ++ [PyData.int (((wt1.getD a 0 : Nat) : Int) + 1 + (r : Int))] ++ List.drop (a + 1) (wt1.map fun w : Nat => PyData.int (w : Nat)) = (wt1.take a ++ [wt1.getD a 0 + 1 + r] ++ wt1.drop (a + 1)).map fun w : Nat => PyData.int (w : Nat) := by
        rw [List.map_append, List.map_append, List.map_take, List.map_drop]
        rfl
      rw [eh]
      have w5ok : WtOk ss (wt1.take a ++ [wt1.getD a 0 + 1 + r] ++ wt1.drop (a + 1)) := ⟨by simp; omega, fun w hw => by
        rcases List.mem_append.mp hw with hw | hw
        · rcases List.mem_append.mp hw with hw | hw
          · have := wt1b w (List.mem_of_mem_take hw); omega
          · have := getD_b wt1b a
            have : w = wt1.getD a 0 + 1 + r := by simpa using hw
            omega
        · have := wt1b w (List.mem_of_mem_drop hw); omega⟩
      obtain ⟨x5', y5, s5, e5⟩ := energy_some G w5ok hn
      wtm_at "ev_st"
      refine wpC_of (e5 _) ?_
      wtm_at "ev_st"
      refine wpC_of (lbelow_w (s5.sz G) (s1.sz G) _) ?_
      rw [decide_eq_false (Rat.not_lt.mpr (s1.le s5 fun i _ => bet_set (by omega) (by omega) i))]
      wtm_at "ev_st"
      obtain ⟨x6', y6, s6, e6⟩ := sunk_some G wt2ok hn
      refine wpC_of (e6 _) ?_
      wtm_at "ev_st"
      refine wpC_of (energy_w s6 wt1ok G _) ?_
      wtm_at "ev_st"
      refine wpC_of (lbelow_w (s6.en4 wt1ok) (s1.sz G) _) ?_
      rw [decide_eq_false (Rat.not_lt.mpr (s1.other s6))]
      wtm_at "ev_st"
      obtain ⟨x7', y7, s7, e7⟩ := sunk_some G wt1ok hn
      refine wpC_of (e7 _) ?_
      wtm_at "ev_st"
      refine wpC_of (energy_w s7 wt2ok G _) ?_
      wtm_at "ev_st"
      refine wpC_of (lbelow_w (s7.en4 wt2ok) (s2.sz G) _) ?_
      rw [decide_eq_false (Rat.not_lt.mpr (s2.other s7))]
      wtm_at "ev_st"
      obtain ⟨x8', y8, s8, e8⟩ := bearing_some G wt1ok hn
      obtain ⟨x9', y9, s9, e9⟩ := bearing_some G wt2ok hn
      refine wpC_of (e8 _) ?_
      wtm_at "ev_st"
      refine wpC_of (e9 _) ?_
      wtm_at "ev_st"
      rw [zip_range]
      refine k_lcK rfl (by simp; omega) (lcw_of (lc_map (f := fun j : Nat => PyData.tuple [frD (x8' j), frD (x9' j)]) (g := fun j : Nat => frD (x8' j + x9' j)) (p := fun _ => true) fun j hj => ?_) ?_)
      · have hj : j < os.length := by simpa using hj
        wtm_at "ev_st"
        refine ⟨rfl, rfl, fun _ => ?_⟩
        wtm_at "ev_st"
        refine wpC_of (lsum_w (s8.prok.sz j hj) (s9.prok.sz j hj) _) ?_
        wtm_at "ev_st"
        exact ⟨rfl, rfl⟩
      rw [filter_true]
      wtm_at "ev_st"
      rw [zip_wt wt1ok.len wt2ok.len]
      refine k_lcK rfl (by simp; omega) (lcw_of (lc_map (f := fun i : Nat => PyData.tuple [.int ((wt1.getD i 0 : Nat) : Int), .int ((wt2.getD i 0 : Nat) : Int)]) (g := fun i : Nat => PyData.int ((wt1.getD i 0 + wt2.getD i 0 : Nat) : Int)) (p := fun _ => true) fun i hi => ?_) ?_)
      · wtm_at "ev_st"
        refine ⟨rfl, rfl, fun _ => ?_⟩
        wtm_at "ev_st"
        exact ⟨rfl, rfl⟩
      rw [filter_true, both_map]
      wtm_at "ev_st"
      refine wpC_of (shown_w G w4ok (s8.prok2 s9) (fun j _ => by have := s8.x0 j; have := s9.x0 j; grind) (s8.fits2 s9) _) ?_
      wtm_at "ev_st"
      refine wpC_of (lsum_w (s1.sz G) (s2.sz G) _) ?_
      wtm_at "ev_st"
      rw [sm_add, s8.uniq s1, s9.uniq s2]
      rw [if_pos rfl, eqv_fr, decide_eq_true rfl]
      wtm_at "ev_st"
      exact (q _ _ _ _ _ _ _ _ _ _ _ _ _ _ _ _ (T7.mono (by omega))).1
    wtm_at "ev_st"
    refine body 4 2000 _ _ _ _ _ _ _ _ _ _ _ _ _ _ _ _ _ (by omega) (by omega) ((tpS hl).mono (by omega)) fun t1 y3 y4 y5 y6 y7 y8 y9 ya yb yc yd ye yf yg yh T1 => ?_
    suffices h : wpO (forGo _ _ _ _ _) _ from ⟨h, h⟩
    refine for_cons ?_
    wtm_at "ev_st"
    refine body 4 1000 _ _ _ _ _ _ _ _ _ _ _ _ _ _ _ _ _ (by omega) (by omega) (T1.mono (by omega)) fun t1 y3 y4 y5 y6 y7 y8 y9 ya yb yc yd ye yf yg yh T1 => ?_
    suffices h : wpO (forGo _ _ _ _ _) _ from ⟨h, h⟩
    refine for_cons ?_
    wtm_at "ev_st"
    refine body 3 0 _ _ _ _ _ _ _ _ _ _ _ _ _ _ _ _ _ (by omega) (by omega) (T1.mono (by omega)) fun t1 y3 y4 y5 y6 y7 y8 y9 ya yb yc yd ye yf yg yh T1 => ?_
    suffices h : wpO (forGo _ _ _ _ _) _ from ⟨h, h⟩
    refine for_nil ?_
    wtm_at "ev_st"
    exact ⟨_, rfl⟩
  rw [wpS_un] at main
  obtain ⟨o, e, τ, rfl⟩ := wpO_ex main
  exact ⟨τ, e⟩

end Ev
namespace K09
open Ev PySem PySem.Spec PyProof.Rows L2
def top (i : Nat) : Stmt := PySem.Challenge.pw_spillikins_k09_whole_weights_go_together.main.body.getD i (.Pass ⟨0, 0, 0, 0⟩)
structure Top (K : PySem.W.Frag) (mg : Str → Option Value) (C : Addr) : Prop where
  d5 : DefAt K mg "divisor" (top 5)
  d6 : DefAt K mg "fraction" (top 6)
  d7 : DefAt K mg "is_whole" (top 7)
  d8 : DefAt K mg "is_share" (top 8)
  d9 : DefAt K mg "plus" (top 9)
  d10 : DefAt K mg "minus" (top 10)
  d11 : DefAt K mg "times" (top 11)
  d12 : DefAt K mg "over" (top 12)
  d13 : DefAt K mg "is_less" (top 13)
  d14 : DefAt K mg "total" (top 14)
  d17 : DefAt K mg "way" (top 17)
  d18 : DefAt K mg "turn" (top 18)
  d19 : DefAt K mg "meeting" (top 19)
  d20 : DefAt K mg "on_one_line" (top 20)
  d21 : DefAt K mg "crossing" (top 21)
  d22 : DefAt K mg "crossings" (top 22)
  d24 : DefAt K mg "shares" (top 24)
  d25 : DefAt K mg "summed" (top 25)
  d26 : DefAt K mg "paired" (top 26)
  d27 : DefAt K mg "table_of" (top 27)
  d28 : DefAt K mg "are_presses" (top 28)
  d29 : DefAt K mg "are_borne" (top 29)
  d31 : DefAt K mg "halves" (top 31)
  d32 : DefAt K mg "solved" (top 32)
  d33 : DefAt K mg "least_energy" (top 33)
  d34 : DefAt K mg "sunk" (top 34)
  d35 : DefAt K mg "bearing" (top 35)
  d36 : DefAt K mg "shown" (top 36)
  d38 : DefAt K mg "_law_draw" (top 38)
  d39 : DefAt K mg "_law_any_order" (top 39)
  d40 : DefAt K mg "_law_common" (top 40)
  d41 : DefAt K mg "_law_frac" (top 41)
  d42 : DefAt K mg "_law_sum" (top 42)
  d43 : DefAt K mg "_law_part" (top 43)
  d44 : DefAt K mg "_law_below" (top 44)
  d45 : DefAt K mg "_law_side" (top 45)
  d46 : DefAt K mg "_law_sides" (top 46)
  d47 : DefAt K mg "_law_meet" (top 47)
  d48 : DefAt K mg "_law_fan" (top 48)
  d49 : DefAt K mg "_law_sticks" (top 49)
  d50 : DefAt K mg "_law_pairs_of" (top 50)
  d51 : DefAt K mg "_law_over" (top 51)
  d52 : DefAt K mg "_law_pile" (top 52)
  d53 : DefAt K mg "_law_energy" (top 53)
  d54 : DefAt K mg "law" (top 54)
  blt : ∀ x, x ∈ bltNames → mg x = none
  c_NOUGHT : ConAt K mg "NOUGHT" (.tuple [.int 0, .int 1])
  c_ONE : ConAt K mg "ONE" (.tuple [.int 1, .int 1])
  c_HALF : ConAt K mg "HALF" (.tuple [.int 1, .int 2])
  mC : mg "Table" = some (.ref C)
  tc : TCls K C
  ini : IAt K C "Table.__init__" (inClass (top 15) 0)
  m_coming : MAt K C "coming" "Table.coming" (inClass (top 15) 1)
  m_leaving : MAt K C "leaving" "Table.leaving" (inClass (top 15) 2)
  m_exchange : MAt K C "exchange" "Table.exchange" (inClass (top 15) 3)
  m_run : MAt K C "run" "Table.run" (inClass (top 15) 4)
  m_best : MAt K C "best" "Table.best" (inClass (top 15) 5)
  m_prices : MAt K C "prices" "Table.prices" (inClass (top 15) 7)
def gls : List (Str × D) := [("NOUGHT", .tuple [.int 0, .int 1]), ("ONE", .tuple [.int 1, .int 1]), ("HALF", .tuple [.int 1, .int 2])]
section
variable {P : Program} {w : World} {K : PySem.W.Frag} {mg : Str → Option Value} {base : Heap} {C : Addr}
theorem gls_ok (Z : Top K mg C) : GlOk K mg gls := (gl_cons Z.c_NOUGHT (gl_cons Z.c_ONE (gl_cons Z.c_HALF gl_nil)))
theorem sc___init__ : FnScope NI ["self", "rows", "bounds", "gains"] (defScope (inClass (top 15) 0)) := ⟨rfl, rfl, rfl, by decide +kernel, rfl, by decide +kernel, by decide +kernel⟩
theorem code_init {X : Cx} {k : Nat} (M : Mat X k (ctOf NI (defScope (inClass (top 15) 0)) [] gls)) : PSs X (defBody (inClass (top 15) 0)) (tInit X.K I_many I_size I_rows I_enum I_slack I_app I_gain I_held) := by
  with_unfolding_all exact init_code (n := 40) (q23 := ⟨0, 0, 0, 0⟩) M rfl rfl rfl rfl rfl rfl rfl rfl rfl rfl rfl rfl rfl
theorem c_mk (Z : Top K mg C) : MkC P w K mg base 1 "Table" C InX := mk_cls (k := 0) (fns := []) (gl := gls) (Tab.nil (k := 0) Z.blt (gls_ok Z)) Z.ini sc___init__ Z.tc Z.mC (fun f fd F => F.binds (ps := ["self", "rows", "bounds", "gains"]) fun _ _ _ _ _ _ us hl => match us, hl with | [_, _, _, _], _ => rfl) fun M => code_init M
theorem sc_coming : FnScope ["self", "some", "at", "gain"] ["self"] (defScope (inClass (top 15) 1)) := ⟨rfl, rfl, rfl, by decide +kernel, rfl, by decide +kernel, by decide +kernel⟩
theorem mt_coming (Z : Top K mg C) : Mth P w K mg base 1 C "coming" (spM K 0 M_coming) := mth_ro (k := 0) (fns := []) (gl := gls) (ownL []) (Tab.nil (k := 0) Z.blt (gls_ok Z)) Z.m_coming sc_coming rfl (fun f fd F => F.binds (ps := ["self"]) fun _ _ _ _ _ _ us hl => match us, hl with | [_], _ => rfl) (by with_unfolding_all rfl)
theorem sc_best : FnScope ["self", "found", "spot", "at"] ["self"] (defScope (inClass (top 15) 5)) := ⟨rfl, rfl, rfl, by decide +kernel, rfl, by decide +kernel, by decide +kernel⟩
theorem mt_best (Z : Top K mg C) : Mth P w K mg base 1 C "best" (spM K 0 M_best) := mth_ro (k := 0) (fns := []) (gl := gls) (ownL [1]) (Tab.nil (k := 0) Z.blt (gls_ok Z)) Z.m_best sc_best rfl (fun f fd F => F.binds (ps := ["self"]) fun _ _ _ _ _ _ us hl => match us, hl with | [_], _ => rfl) (by with_unfolding_all rfl)
theorem sc_divisor : FnScope ["one", "other"] ["one", "other"] (defScope (top 5)) := ⟨rfl, rfl, rfl, by decide +kernel, rfl, by decide +kernel, by decide +kernel⟩
theorem b_divisor (Z : Top K mg C) : FnB P w K mg base 1 "divisor" 2 S_divisor :=
  fnB_of (k := 0) (fns := []) (gl := gls) (ownL []) Z.d5 (Tab.nil (k := 0) Z.blt (gls_ok Z)) sc_divisor (fun f fd F => F.binds (ps := ["one", "other"]) fun _ _ _ _ _ _ us hl => match us, hl with | [_, _], _ => rfl) rfl (by with_unfolding_all rfl)
theorem sc_is_whole : FnScope ["thing"] ["thing"] (defScope (top 7)) := ⟨rfl, rfl, rfl, by decide +kernel, rfl, by decide +kernel, by decide +kernel⟩
theorem b_is_whole (Z : Top K mg C) : FnB P w K mg base 1 "is_whole" 1 S_is_whole :=
  fnB_of (k := 0) (fns := []) (gl := gls) (ownL []) Z.d7 (Tab.nil (k := 0) Z.blt (gls_ok Z)) sc_is_whole (fun f fd F => F.binds (ps := ["thing"]) fun _ _ _ _ _ _ us hl => match us, hl with | [_], _ => rfl) rfl (by with_unfolding_all rfl)
theorem sc_is_less : FnScope ["one", "other"] ["one", "other"] (defScope (top 13)) := ⟨rfl, rfl, rfl, by decide +kernel, rfl, by decide +kernel, by decide +kernel⟩
theorem b_is_less (Z : Top K mg C) : FnB P w K mg base 1 "is_less" 2 S_is_less :=
  fnB_of (k := 0) (fns := []) (gl := gls) (ownL []) Z.d13 (Tab.nil (k := 0) Z.blt (gls_ok Z)) sc_is_less (fun f fd F => F.binds (ps := ["one", "other"]) fun _ _ _ _ _ _ us hl => match us, hl with | [_, _], _ => rfl) rfl (by with_unfolding_all rfl)
theorem sc_way : FnScope ["one", "other"] ["one", "other"] (defScope (top 17)) := ⟨rfl, rfl, rfl, by decide +kernel, rfl, by decide +kernel, by decide +kernel⟩
theorem b_way (Z : Top K mg C) : FnB P w K mg base 1 "way" 2 S_way :=
  fnB_of (k := 0) (fns := []) (gl := gls) (ownL []) Z.d17 (Tab.nil (k := 0) Z.blt (gls_ok Z)) sc_way (fun f fd F => F.binds (ps := ["one", "other"]) fun _ _ _ _ _ _ us hl => match us, hl with | [_, _], _ => rfl) rfl (by with_unfolding_all rfl)
theorem sc_turn : FnScope ["one", "other"] ["one", "other"] (defScope (top 18)) := ⟨rfl, rfl, rfl, by decide +kernel, rfl, by decide +kernel, by decide +kernel⟩
theorem b_turn (Z : Top K mg C) : FnB P w K mg base 1 "turn" 2 S_turn :=
  fnB_of (k := 0) (fns := []) (gl := gls) (ownL []) Z.d18 (Tab.nil (k := 0) Z.blt (gls_ok Z)) sc_turn (fun f fd F => F.binds (ps := ["one", "other"]) fun _ _ _ _ _ _ us hl => match us, hl with | [_, _], _ => rfl) rfl (by with_unfolding_all rfl)
theorem sc_paired : FnScope ["some", "at"] ["some"] (defScope (top 26)) := ⟨rfl, rfl, rfl, by decide +kernel, rfl, by decide +kernel, by decide +kernel⟩
theorem b_paired (Z : Top K mg C) : FnB P w K mg base 1 "paired" 1 S_paired :=
  fnB_of (k := 0) (fns := []) (gl := gls) (ownL []) Z.d26 (Tab.nil (k := 0) Z.blt (gls_ok Z)) sc_paired (fun f fd F => F.binds (ps := ["some"]) fun _ _ _ _ _ _ us hl => match us, hl with | [_], _ => rfl) rfl (by with_unfolding_all rfl)
theorem sc__law_draw : FnScope ["tape", "many", "prime", "cell", "found"] ["tape", "many"] (defScope (top 38)) := ⟨rfl, rfl, rfl, by decide +kernel, rfl, by decide +kernel, by decide +kernel⟩
theorem b__law_draw (Z : Top K mg C) : FnB P w K mg base 1 "_law_draw" 2 S__law_draw :=
  fnB_of (k := 0) (fns := []) (gl := gls) (ownL []) Z.d38 (Tab.nil (k := 0) Z.blt (gls_ok Z)) sc__law_draw (fun f fd F => F.binds (ps := ["tape", "many"]) fun _ _ _ _ _ _ us hl => match us, hl with | [_, _], _ => rfl) rfl (by with_unfolding_all rfl)
theorem sc__law_common : FnScope ["one", "other"] ["one", "other"] (defScope (top 40)) := ⟨rfl, rfl, rfl, by decide +kernel, rfl, by decide +kernel, by decide +kernel⟩
theorem b__law_common (Z : Top K mg C) : FnB P w K mg base 1 "_law_common" 2 S__law_common :=
  fnB_of (k := 0) (fns := []) (gl := gls) (ownL []) Z.d40 (Tab.nil (k := 0) Z.blt (gls_ok Z)) sc__law_common (fun f fd F => F.binds (ps := ["one", "other"]) fun _ _ _ _ _ _ us hl => match us, hl with | [_, _], _ => rfl) rfl (by with_unfolding_all rfl)
theorem sc__law_below : FnScope ["one", "other"] ["one", "other"] (defScope (top 44)) := ⟨rfl, rfl, rfl, by decide +kernel, rfl, by decide +kernel, by decide +kernel⟩
theorem b__law_below (Z : Top K mg C) : FnB P w K mg base 1 "_law_below" 2 S__law_below :=
  fnB_of (k := 0) (fns := []) (gl := gls) (ownL []) Z.d44 (Tab.nil (k := 0) Z.blt (gls_ok Z)) sc__law_below (fun f fd F => F.binds (ps := ["one", "other"]) fun _ _ _ _ _ _ us hl => match us, hl with | [_, _], _ => rfl) rfl (by with_unfolding_all rfl)
theorem sc__law_side : FnScope ["one", "other", "point", "first"] ["one", "other", "point"] (defScope (top 45)) := ⟨rfl, rfl, rfl, by decide +kernel, rfl, by decide +kernel, by decide +kernel⟩
theorem b__law_side (Z : Top K mg C) : FnB P w K mg base 1 "_law_side" 3 S__law_side :=
  fnB_of (k := 0) (fns := []) (gl := gls) (ownL []) Z.d45 (Tab.nil (k := 0) Z.blt (gls_ok Z)) sc__law_side (fun f fd F => F.binds (ps := ["one", "other", "point"]) fun _ _ _ _ _ _ us hl => match us, hl with | [_, _, _], _ => rfl) rfl (by with_unfolding_all rfl)
theorem sc_fraction : FnScope ["top", "bottom", "by"] ["top", "bottom"] (defScope (top 6)) := ⟨rfl, rfl, rfl, by decide +kernel, rfl, by decide +kernel, by decide +kernel⟩
theorem b_fraction (Z : Top K mg C) : FnB P w K mg base 2 "fraction" 2 S_fraction :=
  fnB_of (k := 1) (fns := [("divisor", ⟨2, S_divisor⟩)]) (gl := gls) (ownL []) Z.d6 (Tab.cons (Tab.nil (k := 1) Z.blt (gls_ok Z)) ((b_divisor Z).mono (by decide))) sc_fraction (fun f fd F => F.binds (ps := ["top", "bottom"]) fun _ _ _ _ _ _ us hl => match us, hl with | [_, _], _ => rfl) rfl (by with_unfolding_all rfl)
theorem sc_is_share : FnScope ["thing"] ["thing"] (defScope (top 8)) := ⟨rfl, rfl, rfl, by decide +kernel, rfl, by decide +kernel, by decide +kernel⟩
theorem b_is_share (Z : Top K mg C) : FnB P w K mg base 2 "is_share" 1 S_is_share :=
  fnB_of (k := 1) (fns := [("is_whole", ⟨1, S_is_whole⟩), ("divisor", ⟨2, S_divisor⟩)]) (gl := gls) (ownL []) Z.d8 (Tab.cons (Tab.cons (Tab.nil (k := 1) Z.blt (gls_ok Z)) ((b_divisor Z).mono (by decide))) ((b_is_whole Z).mono (by decide))) sc_is_share (fun f fd F => F.binds (ps := ["thing"]) fun _ _ _ _ _ _ us hl => match us, hl with | [_], _ => rfl) rfl (by with_unfolding_all rfl)
theorem sc_meeting : FnScope ["stick", "other", "first", "second", "apart", "bottom", "sign"] ["stick", "other"] (defScope (top 19)) := ⟨rfl, rfl, rfl, by decide +kernel, rfl, by decide +kernel, by decide +kernel⟩
theorem b_meeting (Z : Top K mg C) : FnB P w K mg base 2 "meeting" 2 S_meeting :=
  fnB_of (k := 1) (fns := [("turn", ⟨2, S_turn⟩), ("way", ⟨2, S_way⟩)]) (gl := gls) (ownL []) Z.d19 (Tab.cons (Tab.cons (Tab.nil (k := 1) Z.blt (gls_ok Z)) ((b_way Z).mono (by decide))) ((b_turn Z).mono (by decide))) sc_meeting (fun f fd F => F.binds (ps := ["stick", "other"]) fun _ _ _ _ _ _ us hl => match us, hl with | [_, _], _ => rfl) rfl (by with_unfolding_all rfl)
theorem sc_on_one_line : FnScope ["stick", "other"] ["stick", "other"] (defScope (top 20)) := ⟨rfl, rfl, rfl, by decide +kernel, rfl, by decide +kernel, by decide +kernel⟩
theorem b_on_one_line (Z : Top K mg C) : FnB P w K mg base 2 "on_one_line" 2 S_on_one_line :=
  fnB_of (k := 1) (fns := [("turn", ⟨2, S_turn⟩), ("way", ⟨2, S_way⟩)]) (gl := gls) (ownL []) Z.d20 (Tab.cons (Tab.cons (Tab.nil (k := 1) Z.blt (gls_ok Z)) ((b_way Z).mono (by decide))) ((b_turn Z).mono (by decide))) sc_on_one_line (fun f fd F => F.binds (ps := ["stick", "other"]) fun _ _ _ _ _ _ us hl => match us, hl with | [_, _], _ => rfl) rfl (by with_unfolding_all rfl)
theorem sc__law_any_order : FnScope ["tape", "many", "found", "k"] ["tape", "many"] (defScope (top 39)) := ⟨rfl, rfl, rfl, by decide +kernel, rfl, by decide +kernel, by decide +kernel⟩
theorem b__law_any_order (Z : Top K mg C) : FnB P w K mg base 2 "_law_any_order" 2 S__law_any_order :=
  fnB_of (k := 1) (fns := [("_law_draw", ⟨2, S__law_draw⟩)]) (gl := gls) (ownL [2]) Z.d39 (Tab.cons (Tab.nil (k := 1) Z.blt (gls_ok Z)) ((b__law_draw Z).mono (by decide))) sc__law_any_order (fun f fd F => F.binds (ps := ["tape", "many"]) fun _ _ _ _ _ _ us hl => match us, hl with | [_, _], _ => rfl) rfl (by with_unfolding_all rfl)
theorem sc__law_frac : FnScope ["top", "bottom", "share"] ["top", "bottom"] (defScope (top 41)) := ⟨rfl, rfl, rfl, by decide +kernel, rfl, by decide +kernel, by decide +kernel⟩
theorem b__law_frac (Z : Top K mg C) : FnB P w K mg base 2 "_law_frac" 2 S__law_frac :=
  fnB_of (k := 1) (fns := [("_law_common", ⟨2, S__law_common⟩)]) (gl := gls) (ownL []) Z.d41 (Tab.cons (Tab.nil (k := 1) Z.blt (gls_ok Z)) ((b__law_common Z).mono (by decide))) sc__law_frac (fun f fd F => F.binds (ps := ["top", "bottom"]) fun _ _ _ _ _ _ us hl => match us, hl with | [_, _], _ => rfl) rfl (by with_unfolding_all rfl)
theorem sc__law_sides : FnScope ["stick", "other", "found", "point"] ["stick", "other"] (defScope (top 46)) := ⟨rfl, rfl, rfl, by decide +kernel, rfl, by decide +kernel, by decide +kernel⟩
theorem b__law_sides (Z : Top K mg C) : FnB P w K mg base 2 "_law_sides" 2 S__law_sides :=
  fnB_of (k := 1) (fns := [("_law_side", ⟨3, S__law_side⟩)]) (gl := gls) (ownL []) Z.d46 (Tab.cons (Tab.nil (k := 1) Z.blt (gls_ok Z)) ((b__law_side Z).mono (by decide))) sc__law_sides (fun f fd F => F.binds (ps := ["stick", "other"]) fun _ _ _ _ _ _ us hl => match us, hl with | [_, _], _ => rfl) rfl (by with_unfolding_all rfl)
theorem sc_plus : FnScope ["one", "other"] ["one", "other"] (defScope (top 9)) := ⟨rfl, rfl, rfl, by decide +kernel, rfl, by decide +kernel, by decide +kernel⟩
theorem b_plus (Z : Top K mg C) : FnB P w K mg base 3 "plus" 2 S_plus :=
  fnB_of (k := 2) (fns := [("fraction", ⟨2, S_fraction⟩)]) (gl := gls) (ownL []) Z.d9 (Tab.cons (Tab.nil (k := 2) Z.blt (gls_ok Z)) ((b_fraction Z).mono (by decide))) sc_plus (fun f fd F => F.binds (ps := ["one", "other"]) fun _ _ _ _ _ _ us hl => match us, hl with | [_, _], _ => rfl) rfl (by with_unfolding_all rfl)
theorem sc_minus : FnScope ["one", "other"] ["one", "other"] (defScope (top 10)) := ⟨rfl, rfl, rfl, by decide +kernel, rfl, by decide +kernel, by decide +kernel⟩
theorem b_minus (Z : Top K mg C) : FnB P w K mg base 3 "minus" 2 S_minus :=
  fnB_of (k := 2) (fns := [("fraction", ⟨2, S_fraction⟩)]) (gl := gls) (ownL []) Z.d10 (Tab.cons (Tab.nil (k := 2) Z.blt (gls_ok Z)) ((b_fraction Z).mono (by decide))) sc_minus (fun f fd F => F.binds (ps := ["one", "other"]) fun _ _ _ _ _ _ us hl => match us, hl with | [_, _], _ => rfl) rfl (by with_unfolding_all rfl)
theorem sc_times : FnScope ["one", "other"] ["one", "other"] (defScope (top 11)) := ⟨rfl, rfl, rfl, by decide +kernel, rfl, by decide +kernel, by decide +kernel⟩
theorem b_times (Z : Top K mg C) : FnB P w K mg base 3 "times" 2 S_times :=
  fnB_of (k := 2) (fns := [("fraction", ⟨2, S_fraction⟩)]) (gl := gls) (ownL []) Z.d11 (Tab.cons (Tab.nil (k := 2) Z.blt (gls_ok Z)) ((b_fraction Z).mono (by decide))) sc_times (fun f fd F => F.binds (ps := ["one", "other"]) fun _ _ _ _ _ _ us hl => match us, hl with | [_, _], _ => rfl) rfl (by with_unfolding_all rfl)
theorem sc_over : FnScope ["one", "other"] ["one", "other"] (defScope (top 12)) := ⟨rfl, rfl, rfl, by decide +kernel, rfl, by decide +kernel, by decide +kernel⟩
theorem b_over (Z : Top K mg C) : FnB P w K mg base 3 "over" 2 S_over :=
  fnB_of (k := 2) (fns := [("fraction", ⟨2, S_fraction⟩)]) (gl := gls) (ownL []) Z.d12 (Tab.cons (Tab.nil (k := 2) Z.blt (gls_ok Z)) ((b_fraction Z).mono (by decide))) sc_over (fun f fd F => F.binds (ps := ["one", "other"]) fun _ _ _ _ _ _ us hl => match us, hl with | [_, _], _ => rfl) rfl (by with_unfolding_all rfl)
theorem sc_crossing : FnScope ["stick", "other", "bottom", "top", "far"] ["stick", "other"] (defScope (top 21)) := ⟨rfl, rfl, rfl, by decide +kernel, rfl, by decide +kernel, by decide +kernel⟩
theorem b_crossing (Z : Top K mg C) : FnB P w K mg base 3 "crossing" 2 S_crossing :=
  fnB_of (k := 2) (fns := [("on_one_line", ⟨2, S_on_one_line⟩), ("meeting", ⟨2, S_meeting⟩), ("fraction", ⟨2, S_fraction⟩)]) (gl := gls) (ownL []) Z.d21 (Tab.cons (Tab.cons (Tab.cons (Tab.nil (k := 2) Z.blt (gls_ok Z)) ((b_fraction Z).mono (by decide))) ((b_meeting Z).mono (by decide))) ((b_on_one_line Z).mono (by decide))) sc_crossing (fun f fd F => F.binds (ps := ["stick", "other"]) fun _ _ _ _ _ _ us hl => match us, hl with | [_, _], _ => rfl) rfl (by with_unfolding_all rfl)
theorem sc_are_presses : FnScope ["pile", "thing", "part"] ["pile", "thing"] (defScope (top 28)) := ⟨rfl, rfl, rfl, by decide +kernel, rfl, by decide +kernel, by decide +kernel⟩
theorem b_are_presses (Z : Top K mg C) : FnB P w K mg base 3 "are_presses" 2 S_are_presses :=
  fnB_of (k := 2) (fns := [("is_share", ⟨1, S_is_share⟩)]) (gl := gls) (ownL []) Z.d28 (Tab.cons (Tab.nil (k := 2) Z.blt (gls_ok Z)) ((b_is_share Z).mono (by decide))) sc_are_presses (fun f fd F => F.binds (ps := ["pile", "thing"]) fun _ _ _ _ _ _ us hl => match us, hl with | [_, _], _ => rfl) rfl (by with_unfolding_all rfl)
theorem sc__law_sum : FnScope ["one", "other"] ["one", "other"] (defScope (top 42)) := ⟨rfl, rfl, rfl, by decide +kernel, rfl, by decide +kernel, by decide +kernel⟩
theorem b__law_sum (Z : Top K mg C) : FnB P w K mg base 3 "_law_sum" 2 S__law_sum :=
  fnB_of (k := 2) (fns := [("_law_frac", ⟨2, S__law_frac⟩)]) (gl := gls) (ownL []) Z.d42 (Tab.cons (Tab.nil (k := 2) Z.blt (gls_ok Z)) ((b__law_frac Z).mono (by decide))) sc__law_sum (fun f fd F => F.binds (ps := ["one", "other"]) fun _ _ _ _ _ _ us hl => match us, hl with | [_, _], _ => rfl) rfl (by with_unfolding_all rfl)
theorem sc__law_part : FnScope ["one", "other"] ["one", "other"] (defScope (top 43)) := ⟨rfl, rfl, rfl, by decide +kernel, rfl, by decide +kernel, by decide +kernel⟩
theorem b__law_part (Z : Top K mg C) : FnB P w K mg base 3 "_law_part" 2 S__law_part :=
  fnB_of (k := 2) (fns := [("_law_frac", ⟨2, S__law_frac⟩)]) (gl := gls) (ownL []) Z.d43 (Tab.cons (Tab.nil (k := 2) Z.blt (gls_ok Z)) ((b__law_frac Z).mono (by decide))) sc__law_part (fun f fd F => F.binds (ps := ["one", "other"]) fun _ _ _ _ _ _ us hl => match us, hl with | [_, _], _ => rfl) rfl (by with_unfolding_all rfl)
theorem sc__law_meet : FnScope ["stick", "other", "a", "b", "c", "d", "rows", "side", "point", "line"] ["stick", "other"] (defScope (top 47)) := ⟨rfl, rfl, rfl, by decide +kernel, rfl, by decide +kernel, by decide +kernel⟩
theorem b__law_meet (Z : Top K mg C) : FnB P w K mg base 3 "_law_meet" 2 S__law_meet :=
  fnB_of (k := 2) (fns := [("_law_sides", ⟨2, S__law_sides⟩)]) (gl := gls) (ownL []) Z.d47 (Tab.cons (Tab.nil (k := 2) Z.blt (gls_ok Z)) ((b__law_sides Z).mono (by decide))) sc__law_meet (fun f fd F => F.binds (ps := ["stick", "other"]) fun _ _ _ _ _ _ us hl => match us, hl with | [_, _], _ => rfl) rfl (by with_unfolding_all rfl)
theorem sc_leaving : FnScope ["self", "at", "best", "spot", "row", "far"] ["self", "at"] (defScope (inClass (top 15) 2)) := ⟨rfl, rfl, rfl, by decide +kernel, rfl, by decide +kernel, by decide +kernel⟩
theorem mt_leaving (Z : Top K mg C) : Mth P w K mg base 4 C "leaving" (spM K 1 M_leaving) := mth_ro (k := 3) (fns := [("is_less", ⟨2, S_is_less⟩), ("over", ⟨2, S_over⟩)]) (gl := gls) (ownL []) (Tab.cons (Tab.cons (Tab.nil (k := 3) Z.blt (gls_ok Z)) ((b_over Z).mono (by decide))) ((b_is_less Z).mono (by decide))) Z.m_leaving sc_leaving rfl (fun f fd F => F.binds (ps := ["self", "at"]) fun _ _ _ _ _ _ us hl => match us, hl with | [_, _], _ => rfl) (by with_unfolding_all rfl)
theorem sc_exchange : FnScope NX ["self", "at", "spot"] (defScope (inClass (top 15) 3)) := ⟨rfl, rfl, rfl, by decide +kernel, rfl, by decide +kernel, by decide +kernel⟩
theorem code_exch {X : Cx} {k : Nat} (M : Mat X k (ctOf NX (defScope (inClass (top 15) 3)) [("over", ⟨2, S_over⟩), ("times", ⟨2, S_times⟩), ("minus", ⟨2, S_minus⟩)] gls)) : PSs X (defBody (inClass (top 15) 3)) (tExch X.K X_lead X_len X_ne X_by X_row X_by2 X_gain) := by
  with_unfolding_all exact exch_code (n := 40) M rfl rfl rfl rfl rfl rfl rfl rfl rfl rfl rfl rfl rfl rfl
theorem mt_exchange (Z : Top K mg C) : Mth P w K mg base 4 C "exchange" (spX K C ExX) := mth_exch (k := 3) (fns := [("over", ⟨2, S_over⟩), ("times", ⟨2, S_times⟩), ("minus", ⟨2, S_minus⟩)]) (gl := gls) (Tab.cons (Tab.cons (Tab.cons (Tab.nil (k := 3) Z.blt (gls_ok Z)) ((b_minus Z).mono (by decide))) ((b_times Z).mono (by decide))) ((b_over Z).mono (by decide))) Z.m_exchange sc_exchange Z.tc (fun f fd F => F.binds (ps := ["self", "at", "spot"]) fun _ _ _ _ _ _ us hl => match us, hl with | [_, _, _], _ => rfl) fun M => code_exch M
theorem sc_prices : FnScope ["self", "part"] ["self"] (defScope (inClass (top 15) 7)) := ⟨rfl, rfl, rfl, by decide +kernel, rfl, by decide +kernel, by decide +kernel⟩
theorem mt_prices (Z : Top K mg C) : Mth P w K mg base 4 C "prices" (spM K 0 M_prices) := mth_ro (k := 3) (fns := [("minus", ⟨2, S_minus⟩)]) (gl := gls) (ownL []) (Tab.cons (Tab.nil (k := 3) Z.blt (gls_ok Z)) ((b_minus Z).mono (by decide))) Z.m_prices sc_prices rfl (fun f fd F => F.binds (ps := ["self"]) fun _ _ _ _ _ _ us hl => match us, hl with | [_], _ => rfl) (by with_unfolding_all rfl)
theorem sc_total : FnScope ["some", "found", "part"] ["some"] (defScope (top 14)) := ⟨rfl, rfl, rfl, by decide +kernel, rfl, by decide +kernel, by decide +kernel⟩
theorem b_total (Z : Top K mg C) : FnB P w K mg base 4 "total" 1 S_total :=
  fnB_of (k := 3) (fns := [("plus", ⟨2, S_plus⟩)]) (gl := gls) (ownL []) Z.d14 (Tab.cons (Tab.nil (k := 3) Z.blt (gls_ok Z)) ((b_plus Z).mono (by decide))) sc_total (fun f fd F => F.binds (ps := ["some"]) fun _ _ _ _ _ _ us hl => match us, hl with | [_], _ => rfl) rfl (by with_unfolding_all rfl)
theorem sc_crossings : FnScope ["pile", "sticks", "overs", "upper", "lower"] ["pile"] (defScope (top 22)) := ⟨rfl, rfl, rfl, by decide +kernel, rfl, by decide +kernel, by decide +kernel⟩
theorem b_crossings (Z : Top K mg C) : FnB P w K mg base 4 "crossings" 1 S_crossings :=
  fnB_of (k := 3) (fns := [("crossing", ⟨2, S_crossing⟩)]) (gl := gls) (ownL []) Z.d22 (Tab.cons (Tab.nil (k := 3) Z.blt (gls_ok Z)) ((b_crossing Z).mono (by decide))) sc_crossings (fun f fd F => F.binds (ps := ["pile"]) fun _ _ _ _ _ _ us hl => match us, hl with | [_], _ => rfl) rfl (by with_unfolding_all rfl)
theorem sc_summed : FnScope ["row", "presses", "found", "share", "press"] ["row", "presses"] (defScope (top 25)) := ⟨rfl, rfl, rfl, by decide +kernel, rfl, by decide +kernel, by decide +kernel⟩
theorem b_summed (Z : Top K mg C) : FnB P w K mg base 4 "summed" 2 S_summed :=
  fnB_of (k := 3) (fns := [("times", ⟨2, S_times⟩), ("plus", ⟨2, S_plus⟩)]) (gl := gls) (ownL []) Z.d25 (Tab.cons (Tab.cons (Tab.nil (k := 3) Z.blt (gls_ok Z)) ((b_plus Z).mono (by decide))) ((b_times Z).mono (by decide))) sc_summed (fun f fd F => F.binds (ps := ["row", "presses"]) fun _ _ _ _ _ _ us hl => match us, hl with | [_, _], _ => rfl) rfl (by with_unfolding_all rfl)
theorem sc_halves : FnScope ["weights", "weight", "end"] ["weights"] (defScope (top 31)) := ⟨rfl, rfl, rfl, by decide +kernel, rfl, by decide +kernel, by decide +kernel⟩
theorem b_halves (Z : Top K mg C) : FnB P w K mg base 4 "halves" 1 S_halves :=
  fnB_of (k := 3) (fns := [("times", ⟨2, S_times⟩)]) (gl := gls) (ownL []) Z.d31 (Tab.cons (Tab.nil (k := 3) Z.blt (gls_ok Z)) ((b_times Z).mono (by decide))) sc_halves (fun f fd F => F.binds (ps := ["weights"]) fun _ _ _ _ _ _ us hl => match us, hl with | [_], _ => rfl) rfl (by with_unfolding_all rfl)
theorem sc__law_fan : FnScope ["tape", "many", "found", "one", "other", "k", "stick", "row"] ["tape", "many"] (defScope (top 48)) := ⟨rfl, rfl, rfl, by decide +kernel, rfl, by decide +kernel, by decide +kernel⟩
theorem b__law_fan (Z : Top K mg C) : FnB P w K mg base 4 "_law_fan" 2 S__law_fan :=
  fnB_of (k := 3) (fns := [("_law_meet", ⟨2, S__law_meet⟩), ("_law_draw", ⟨2, S__law_draw⟩)]) (gl := gls) (ownL [2]) Z.d48 (Tab.cons (Tab.cons (Tab.nil (k := 3) Z.blt (gls_ok Z)) ((b__law_draw Z).mono (by decide))) ((b__law_meet Z).mono (by decide))) sc__law_fan (fun f fd F => F.binds (ps := ["tape", "many"]) fun _ _ _ _ _ _ us hl => match us, hl with | [_, _], _ => rfl) rfl (by with_unfolding_all rfl)
theorem sc__law_sticks : FnScope ["tape", "most", "low", "high", "found", "many", "wide", "k", "one", "two", "stick", "other"] ["tape", "most", "low", "high"] (defScope (top 49)) := ⟨rfl, rfl, rfl, by decide +kernel, rfl, by decide +kernel, by decide +kernel⟩
theorem b__law_sticks (Z : Top K mg C) : FnB P w K mg base 4 "_law_sticks" 4 S__law_sticks :=
  fnB_of (k := 3) (fns := [("_law_meet", ⟨2, S__law_meet⟩), ("_law_draw", ⟨2, S__law_draw⟩)]) (gl := gls) (ownL [4]) Z.d49 (Tab.cons (Tab.cons (Tab.nil (k := 3) Z.blt (gls_ok Z)) ((b__law_draw Z).mono (by decide))) ((b__law_meet Z).mono (by decide))) sc__law_sticks (fun f fd F => F.binds (ps := ["tape", "most", "low", "high"]) fun _ _ _ _ _ _ us hl => match us, hl with | [_, _, _, _], _ => rfl) rfl (by with_unfolding_all rfl)
theorem sc__law_pairs_of : FnScope ["sticks", "found", "two", "one"] ["sticks"] (defScope (top 50)) := ⟨rfl, rfl, rfl, by decide +kernel, rfl, by decide +kernel, by decide +kernel⟩
theorem b__law_pairs_of (Z : Top K mg C) : FnB P w K mg base 4 "_law_pairs_of" 1 S__law_pairs_of :=
  fnB_of (k := 3) (fns := [("_law_meet", ⟨2, S__law_meet⟩)]) (gl := gls) (ownL []) Z.d50 (Tab.cons (Tab.nil (k := 3) Z.blt (gls_ok Z)) ((b__law_meet Z).mono (by decide))) sc__law_pairs_of (fun f fd F => F.binds (ps := ["sticks"]) fun _ _ _ _ _ _ us hl => match us, hl with | [_], _ => rfl) rfl (by with_unfolding_all rfl)
theorem sc__law_energy : FnScope ["weights", "heights", "found", "weight", "pair"] ["weights", "heights"] (defScope (top 53)) := ⟨rfl, rfl, rfl, by decide +kernel, rfl, by decide +kernel, by decide +kernel⟩
theorem b__law_energy (Z : Top K mg C) : FnB P w K mg base 4 "_law_energy" 2 S__law_energy :=
  fnB_of (k := 3) (fns := [("_law_part", ⟨2, S__law_part⟩), ("_law_sum", ⟨2, S__law_sum⟩)]) (gl := gls) (ownL []) Z.d53 (Tab.cons (Tab.cons (Tab.nil (k := 3) Z.blt (gls_ok Z)) ((b__law_sum Z).mono (by decide))) ((b__law_part Z).mono (by decide))) sc__law_energy (fun f fd F => F.binds (ps := ["weights", "heights"]) fun _ _ _ _ _ _ us hl => match us, hl with | [_, _], _ => rfl) rfl (by with_unfolding_all rfl)
theorem sc_run : FnScope ["self", "at", "spot"] ["self"] (defScope (inClass (top 15) 4)) := ⟨rfl, rfl, rfl, by decide +kernel, rfl, by decide +kernel, by decide +kernel⟩
theorem code_run {X : Cx} {k : Nat} {C : Addr} (M : Mat X k (ctOf ["self", "at", "spot"] (defScope (inClass (top 15) 4)) [] gls)) (cl : L2.Cls X.K C) (m1 : Mth X.prog X.w X.K X.mg X.base k C "coming" (spM X.K 0 M_coming)) (m2 : Mth X.prog X.w X.K X.mg X.base k C "leaving" (spM X.K 1 M_leaving)) (m3 : Mth X.prog X.w X.K X.mg X.base k C "exchange" (spX X.K C ExX)) :
    PSs X (defBody (inClass (top 15) 4)) (tRun X.K C M_coming M_leaving ExX X_c1 X_c2 X_en) := by
  with_unfolding_all exact run_code (n := 40) (q28 := ⟨0, 0, 0, 0⟩) (q29 := ⟨0, 0, 0, 0⟩) (q30 := ⟨0, 0, 0, 0⟩) (q31 := ⟨0, 0, 0, 0⟩) M cl rfl rfl rfl rfl rfl m1 m2 m3 rfl rfl rfl rfl
theorem mt_run (Z : Top K mg C) : Mth P w K mg base 5 C "run" (spRun K C RunX) := mth_run (k := 4) (fns := []) (gl := gls) (Tab.nil (k := 4) Z.blt (gls_ok Z)) Z.m_run sc_run Z.tc (fun f fd F => F.binds (ps := ["self"]) fun _ _ _ _ _ _ us hl => match us, hl with | [_], _ => rfl) n1 i1 n2 i2 n3 fun {X} hp hw hK hmg hb M => by
  subst hp hw hK hmg hb; exact code_run M Z.tc.cl ((mt_coming Z).mono (by decide)) ((mt_leaving Z).mono (by decide)) ((mt_exchange Z).mono (by decide))
theorem sc_shares : FnScope N_shares ["pile"] (defScope (top 24)) := ⟨rfl, rfl, rfl, by decide +kernel, rfl, by decide +kernel, by decide +kernel⟩
theorem code_shares {X : Cx} {k : Nat} (M : Mat X k (ctM N_shares (defScope (top 24)) [("crossings", ⟨1, S_crossings⟩), ("minus", ⟨2, S_minus⟩)] gls 0 [])) : PSs X (defBody (top 24)) (tShares X.K (mkShares X.K) 1 Y_enum Y_tg Y_s1 Y_s2 Y_s3 Y_s4 Y_ret) := by
  with_unfolding_all exact shares_code (n := 40) (q22 := ⟨0, 0, 0, 0⟩) (own := ownL [1]) M rfl rfl rfl rfl rfl rfl rfl rfl rfl rfl rfl rfl rfl rfl rfl rfl rfl
theorem b_shares (Z : Top K mg C) : FnB P w K mg base 5 "shares" 1 S_shares := fnB_rel (k := 4) (N := N_shares) (ps := ["pile"]) (fns := [("crossings", ⟨1, S_crossings⟩), ("minus", ⟨2, S_minus⟩)]) (gl := gls) (cls := 0) (mth := []) (Tab.cons (Tab.cons (Tab.nil (k := 4) Z.blt (gls_ok Z)) ((b_minus Z).mono (by decide))) ((b_crossings Z).mono (by decide))) mthAll_nil Z.d24 sc_shares (fun f fd F => F.binds (ps := ["pile"]) fun _ _ _ _ _ _ us hl => match us, hl with | [_], _ => rfl) rfl rsh_tp fun {X} hp hw hK hmg hb M ws d R =>
  ⟨tShares K (mkShares K) 1 Y_enum Y_tg Y_s1 Y_s2 Y_s3 Y_s4 Y_ret, by subst hp hw hK hmg hb; exact code_shares M, fun F H vs De I hD => shares_run R I hD⟩
theorem sc__law_over : FnScope ["tape", "sticks", "rank", "my_way", "found", "one", "two", "chance", "my_turned"] ["tape", "sticks"] (defScope (top 51)) := ⟨rfl, rfl, rfl, by decide +kernel, rfl, by decide +kernel, by decide +kernel⟩
theorem b__law_over (Z : Top K mg C) : FnB P w K mg base 5 "_law_over" 2 S__law_over :=
  fnB_of (k := 4) (fns := [("_law_pairs_of", ⟨1, S__law_pairs_of⟩), ("_law_any_order", ⟨2, S__law_any_order⟩), ("_law_draw", ⟨2, S__law_draw⟩)]) (gl := gls) (ownL [4]) Z.d51 (Tab.cons (Tab.cons (Tab.cons (Tab.nil (k := 4) Z.blt (gls_ok Z)) ((b__law_draw Z).mono (by decide))) ((b__law_any_order Z).mono (by decide))) ((b__law_pairs_of Z).mono (by decide))) sc__law_over (fun f fd F => F.binds (ps := ["tape", "sticks"]) fun _ _ _ _ _ _ us hl => match us, hl with | [_, _], _ => rfl) rfl (by with_unfolding_all rfl)
theorem sc_table_of : FnScope N_tab ["pile", "bounds"] (defScope (top 27)) := ⟨rfl, rfl, rfl, by decide +kernel, rfl, by decide +kernel, by decide +kernel⟩
theorem code_tab {X : Cx} {k : Nat} {C : Addr} {j : Nat} (M : Mat X k (ctOf N_tab (defScope (top 27)) [("shares", ⟨1, S_shares⟩)] gls)) (F : MkC X.prog X.w X.K X.mg X.base j "Table" C InX) (hj : j + 1 ≤ k) : PSs X (defBody (top 27)) (tSeq (tRet (tMake C (spI X.K C InX) [] E0 (tA X.K T_arg))) tNext) := by
  with_unfolding_all exact mk_code (n := 40) F M hj rfl rfl
theorem t_tab (Z : Top K mg C) : TFn P w K mg base 6 "table_of" C 2 (relT N_tab T_arg) := tab_fn (k := 5) (N := N_tab) (ps := ["pile", "bounds"]) (fns := [("shares", ⟨1, S_shares⟩)]) (gl := gls) (R := InX) (a := T_arg) (Tab.cons (Tab.nil (k := 5) Z.blt (gls_ok Z)) ((b_shares Z).mono (by decide))) Z.d27 sc_table_of (fun f fd F => F.binds (ps := ["pile", "bounds"]) fun _ _ _ _ _ _ us hl => match us, hl with | [_, _], _ => rfl) fun {X} hp hw hK hmg hb M => by
  subst hp hw hK hmg hb; exact code_tab M (c_mk Z) (by decide)
theorem sc_are_borne : FnScope ["pile", "presses", "bounds", "some", "row", "lift", "bound"] ["pile", "presses", "bounds"] (defScope (top 29)) := ⟨rfl, rfl, rfl, by decide +kernel, rfl, by decide +kernel, by decide +kernel⟩
theorem b_are_borne (Z : Top K mg C) : FnB P w K mg base 6 "are_borne" 3 S_are_borne :=
  fnB_of (k := 5) (fns := [("summed", ⟨2, S_summed⟩), ("shares", ⟨1, S_shares⟩), ("is_less", ⟨2, S_is_less⟩)]) (gl := gls) (ownL []) Z.d29 (Tab.cons (Tab.cons (Tab.cons (Tab.nil (k := 5) Z.blt (gls_ok Z)) ((b_is_less Z).mono (by decide))) ((b_shares Z).mono (by decide))) ((b_summed Z).mono (by decide))) sc_are_borne (fun f fd F => F.binds (ps := ["pile", "presses", "bounds"]) fun _ _ _ _ _ _ us hl => match us, hl with | [_, _, _], _ => rfl) rfl (by with_unfolding_all rfl)
theorem sc__law_pile : FnScope ["tape", "most", "sticks"] ["tape", "most"] (defScope (top 52)) := ⟨rfl, rfl, rfl, by decide +kernel, rfl, by decide +kernel, by decide +kernel⟩
theorem b__law_pile (Z : Top K mg C) : FnB P w K mg base 6 "_law_pile" 2 S__law_pile :=
  fnB_of (k := 5) (fns := [("_law_over", ⟨2, S__law_over⟩), ("_law_sticks", ⟨4, S__law_sticks⟩), ("_law_fan", ⟨2, S__law_fan⟩), ("_law_draw", ⟨2, S__law_draw⟩)]) (gl := gls) (ownL []) Z.d52 (Tab.cons (Tab.cons (Tab.cons (Tab.cons (Tab.nil (k := 5) Z.blt (gls_ok Z)) ((b__law_draw Z).mono (by decide))) ((b__law_fan Z).mono (by decide))) ((b__law_sticks Z).mono (by decide))) ((b__law_over Z).mono (by decide))) sc__law_pile (fun f fd F => F.binds (ps := ["tape", "most"]) fun _ _ _ _ _ _ us hl => match us, hl with | [_, _], _ => rfl) rfl (by with_unfolding_all rfl)
theorem sc_solved : FnScope N_solved ["pile", "weights"] (defScope (top 32)) := ⟨rfl, rfl, rfl, by decide +kernel, rfl, by decide +kernel, by decide +kernel⟩
theorem code_solved {X : Cx} {k : Nat} {C : Addr} (M : Mat X k (ctM N_solved (defScope (top 32)) [("halves", ⟨1, S_halves⟩), ("paired", ⟨1, S_paired⟩)] gls (C : Int) [("best", ⟨0, M_best⟩), ("prices", ⟨0, M_prices⟩)])) (cl : L2.Cls X.K C) (mr : Mth X.prog X.w X.K X.mg X.base k C "run" (spRun X.K C RunX)) (F : TFn X.prog X.w X.K X.mg X.base k "table_of" C 2 (relT N_tab T_arg)) :
    PSs X (defBody (top 32)) (tSv1 X.K C RunX (tCall (spT X.K C 2 (relT N_tab T_arg)) [] E0 (tA X.K V_arg)) 2 (eCon .none) (V_rest (C : Int))) := by
  with_unfolding_all exact sv1_code (n := 40) (own := ownL []) M rfl cl mr rfl rfl (tfn_pe (m := 40) F M rfl rfl) rfl rfl
theorem b_solved (Z : Top K mg C) : FnB P w K mg base 7 "solved" 2 S_solved := fnB_rel (k := 6) (N := N_solved) (ps := ["pile", "weights"]) (fns := [("halves", ⟨1, S_halves⟩), ("paired", ⟨1, S_paired⟩)]) (gl := gls) (cls := (C : Int)) (mth := [("best", ⟨0, M_best⟩), ("prices", ⟨0, M_prices⟩)]) (Tab.cons (Tab.cons (Tab.nil (k := 6) Z.blt (gls_ok Z)) ((b_paired Z).mono (by decide))) ((b_halves Z).mono (by decide))) (mthAll_cons Z.tc ((mt_best Z).mono (by decide)) (mthAll_cons Z.tc ((mt_prices Z).mono (by decide)) mthAll_nil)) Z.d32 sc_solved (fun f fd F => F.binds (ps := ["pile", "weights"]) fun _ _ _ _ _ _ us hl => match us, hl with | [_, _], _ => rfl) rfl rso_tp fun {X} hp hw hK hmg hb M ws d R =>
  ⟨tSv1 K C RunX (tCall (spT K C 2 (relT N_tab T_arg)) [] E0 (tA K V_arg)) 2 (eCon .none) (V_rest (C : Int)), by subst hp hw hK hmg hb; exact code_solved M Z.tc.cl ((mt_run Z).mono (by decide)) ((t_tab Z).mono (by decide)), fun F H vs De I hD => solved_run Z.tc R I hD⟩
theorem sc_shown : FnScope ["pile", "weights", "thing"] ["pile", "weights", "thing"] (defScope (top 36)) := ⟨rfl, rfl, rfl, by decide +kernel, rfl, by decide +kernel, by decide +kernel⟩
theorem b_shown (Z : Top K mg C) : FnB P w K mg base 7 "shown" 3 S_shown :=
  fnB_of (k := 6) (fns := [("halves", ⟨1, S_halves⟩), ("are_borne", ⟨3, S_are_borne⟩), ("are_presses", ⟨2, S_are_presses⟩), ("total", ⟨1, S_total⟩)]) (gl := gls) (ownL []) Z.d36 (Tab.cons (Tab.cons (Tab.cons (Tab.cons (Tab.nil (k := 6) Z.blt (gls_ok Z)) ((b_total Z).mono (by decide))) ((b_are_presses Z).mono (by decide))) ((b_are_borne Z).mono (by decide))) ((b_halves Z).mono (by decide))) sc_shown (fun f fd F => F.binds (ps := ["pile", "weights", "thing"]) fun _ _ _ _ _ _ us hl => match us, hl with | [_, _, _], _ => rfl) rfl (by with_unfolding_all rfl)
theorem sc_least_energy : FnScope ["pile", "weights", "found"] ["pile", "weights"] (defScope (top 33)) := ⟨rfl, rfl, rfl, by decide +kernel, rfl, by decide +kernel, by decide +kernel⟩
theorem b_least_energy (Z : Top K mg C) : FnB P w K mg base 8 "least_energy" 2 S_least_energy :=
  fnB_of (k := 7) (fns := [("solved", ⟨2, S_solved⟩), ("total", ⟨1, S_total⟩)]) (gl := gls) (ownL []) Z.d33 (Tab.cons (Tab.cons (Tab.nil (k := 7) Z.blt (gls_ok Z)) ((b_total Z).mono (by decide))) ((b_solved Z).mono (by decide))) sc_least_energy (fun f fd F => F.binds (ps := ["pile", "weights"]) fun _ _ _ _ _ _ us hl => match us, hl with | [_, _], _ => rfl) rfl (by with_unfolding_all rfl)
theorem sc_sunk : FnScope ["pile", "weights", "found"] ["pile", "weights"] (defScope (top 34)) := ⟨rfl, rfl, rfl, by decide +kernel, rfl, by decide +kernel, by decide +kernel⟩
theorem b_sunk (Z : Top K mg C) : FnB P w K mg base 8 "sunk" 2 S_sunk :=
  fnB_of (k := 7) (fns := [("solved", ⟨2, S_solved⟩)]) (gl := gls) (ownL []) Z.d34 (Tab.cons (Tab.nil (k := 7) Z.blt (gls_ok Z)) ((b_solved Z).mono (by decide))) sc_sunk (fun f fd F => F.binds (ps := ["pile", "weights"]) fun _ _ _ _ _ _ us hl => match us, hl with | [_, _], _ => rfl) rfl (by with_unfolding_all rfl)
theorem sc_bearing : FnScope ["pile", "weights", "found"] ["pile", "weights"] (defScope (top 35)) := ⟨rfl, rfl, rfl, by decide +kernel, rfl, by decide +kernel, by decide +kernel⟩
theorem b_bearing (Z : Top K mg C) : FnB P w K mg base 8 "bearing" 2 S_bearing :=
  fnB_of (k := 7) (fns := [("solved", ⟨2, S_solved⟩)]) (gl := gls) (ownL []) Z.d35 (Tab.cons (Tab.nil (k := 7) Z.blt (gls_ok Z)) ((b_solved Z).mono (by decide))) sc_bearing (fun f fd F => F.binds (ps := ["pile", "weights"]) fun _ _ _ _ _ _ us hl => match us, hl with | [_, _], _ => rfl) rfl (by with_unfolding_all rfl)
theorem sc_law : FnScope ["script", "tape", "most", "pile", "many", "one", "two", "first", "second", "by", "both", "at", "heavy", "parts", "k", "weight", "a", "b"] ["script"] (defScope (top 54)) := ⟨rfl, rfl, rfl, by decide +kernel, rfl, by decide +kernel, by decide +kernel⟩
theorem law_ok (Z : Top K mg C) (base : Heap) {fa : Addr} {fd : FuncData} (F : L2.Fun K "law" "law" (top 54) fa fd) : FnOk P w K mg base CX0 9 fa fd ["script"] (spScript K) := by
  refine law_fn (k := 8) (N := ["script", "tape", "most", "pile", "many", "one", "two", "first", "second", "by", "both", "at", "heavy", "parts", "k", "weight", "a", "b"]) (fns := [("_law_energy", ⟨2, S__law_energy⟩), ("_law_pile", ⟨2, S__law_pile⟩), ("_law_below", ⟨2, S__law_below⟩), ("_law_part", ⟨2, S__law_part⟩), ("_law_sum", ⟨2, S__law_sum⟩), ("_law_draw", ⟨2, S__law_draw⟩), ("shown", ⟨3, S_shown⟩), ("bearing", ⟨2, S_bearing⟩), ("sunk", ⟨2, S_sunk⟩), ("least_energy", ⟨2, S_least_energy⟩)]) (gl := gls) (ownL []) (Tab.cons (Tab.cons (Tab.cons (Tab.cons (Tab.cons (Tab.cons (Tab.cons (Tab.cons (Tab.cons (Tab.cons (Tab.nil (k := 8) Z.blt (gls_ok Z)) ((b_least_energy Z).mono (by decide))) ((b_sunk Z).mono (by decide))) ((b_bearing Z).mono (by decide))) ((b_shown Z).mono (by decide))) ((b__law_draw Z).mono (by decide))) ((b__law_sum Z).mono (by decide))) ((b__law_part Z).mono (by decide))) ((b__law_below Z).mono (by decide))) ((b__law_pile Z).mono (by decide))) ((b__law_energy Z).mono (by decide))) F sc_law (by with_unfolding_all rfl) (by decide) rfl rfl (.inl rfl) (by first | exact .inl rfl | exact .inr rfl) rfl fun ns hl => ?_
  have e : evB (evS (ownL []) (evE 41 (ctOf ["script", "tape", "most", "pile", "many", "one", "two", "first", "second", "by", "both", "at", "heavy", "parts", "k", "weight", "a", "b"] (defScope (top 54)) [("_law_energy", ⟨2, S__law_energy⟩), ("_law_pile", ⟨2, S__law_pile⟩), ("_law_below", ⟨2, S__law_below⟩), ("_law_part", ⟨2, S__law_part⟩), ("_law_sum", ⟨2, S__law_sum⟩), ("_law_draw", ⟨2, S__law_draw⟩), ("shown", ⟨3, S_shown⟩), ("bearing", ⟨2, S_bearing⟩), ("sunk", ⟨2, S_sunk⟩), ("least_energy", ⟨2, S_least_energy⟩)] gls)) (ctOf ["script", "tape", "most", "pile", "many", "one", "two", "first", "second", "by", "both", "at", "heavy", "parts", "k", "weight", "a", "b"] (defScope (top 54)) [("_law_energy", ⟨2, S__law_energy⟩), ("_law_pile", ⟨2, S__law_pile⟩), ("_law_below", ⟨2, S__law_below⟩), ("_law_part", ⟨2, S__law_part⟩), ("_law_sum", ⟨2, S__law_sum⟩), ("_law_draw", ⟨2, S__law_draw⟩), ("shown", ⟨3, S_shown⟩), ("bearing", ⟨2, S_bearing⟩), ("sunk", ⟨2, S_sunk⟩), ("least_energy", ⟨2, S_least_energy⟩)] gls) 40) (defBody (top 54)).tail = S_rest09 := by with_unfolding_all rfl
  have q := law09 ns hl
  rw [← e] at q
  exact q
end
end K09
open PySem PySem.W PyProof.Rows in
set_option maxRecDepth 100000 in
set_option maxHeartbeats 0 in
theorem PySem.Challenge.cw_spillikins_k09_whole_weights_go_together_holds : PySem.Challenge.rw_spillikins_k09_whole_weights_go_together.Holds := by
  w_on; o_law; k_head; (case hw => w_witness2)
  k_fill
  refine L2.walk_of (l := PySem.Challenge.rw_spillikins_k09_whole_weights_go_together) (n := 63) (k := 9) (x := "script") (CX := fun _ => L2.CX0) (sp := fun w => Ev.spScript _) rfl (by decide) rfl ⟨rfl, by decide, by decide⟩ (fun w h Y => PySem.W.kIn_of Y) ?F (fun _ _ a ns hl _ hS => ⟨a, ns, rfl, hS, hl, fun _ => rfl⟩) (fun _ _ _ _ _ h => h)
  case F =>
    intro w mg fa h KX G hmg
    refine' Ev.have_def (x := "divisor") (st := K09.top 5) KX G ?a ?l ?c ?k ?_; (case a => k_is); (case l => k_is); (case c => k_is); (case k => k_is)
    intro d5
    refine' Ev.have_def (x := "fraction") (st := K09.top 6) KX G ?a ?l ?c ?k ?_; (case a => k_is); (case l => k_is); (case c => k_is); (case k => k_is)
    intro d6
    refine' Ev.have_def (x := "is_whole") (st := K09.top 7) KX G ?a ?l ?c ?k ?_; (case a => k_is); (case l => k_is); (case c => k_is); (case k => k_is)
    intro d7
    refine' Ev.have_def (x := "is_share") (st := K09.top 8) KX G ?a ?l ?c ?k ?_; (case a => k_is); (case l => k_is); (case c => k_is); (case k => k_is)
    intro d8
    refine' Ev.have_def (x := "plus") (st := K09.top 9) KX G ?a ?l ?c ?k ?_; (case a => k_is); (case l => k_is); (case c => k_is); (case k => k_is)
    intro d9
    refine' Ev.have_def (x := "minus") (st := K09.top 10) KX G ?a ?l ?c ?k ?_; (case a => k_is); (case l => k_is); (case c => k_is); (case k => k_is)
    intro d10
    refine' Ev.have_def (x := "times") (st := K09.top 11) KX G ?a ?l ?c ?k ?_; (case a => k_is); (case l => k_is); (case c => k_is); (case k => k_is)
    intro d11
    refine' Ev.have_def (x := "over") (st := K09.top 12) KX G ?a ?l ?c ?k ?_; (case a => k_is); (case l => k_is); (case c => k_is); (case k => k_is)
    intro d12
    refine' Ev.have_def (x := "is_less") (st := K09.top 13) KX G ?a ?l ?c ?k ?_; (case a => k_is); (case l => k_is); (case c => k_is); (case k => k_is)
    intro d13
    refine' Ev.have_def (x := "total") (st := K09.top 14) KX G ?a ?l ?c ?k ?_; (case a => k_is); (case l => k_is); (case c => k_is); (case k => k_is)
    intro d14
    refine' Ev.have_def (x := "way") (st := K09.top 17) KX G ?a ?l ?c ?k ?_; (case a => k_is); (case l => k_is); (case c => k_is); (case k => k_is)
    intro d17
    refine' Ev.have_def (x := "turn") (st := K09.top 18) KX G ?a ?l ?c ?k ?_; (case a => k_is); (case l => k_is); (case c => k_is); (case k => k_is)
    intro d18
    refine' Ev.have_def (x := "meeting") (st := K09.top 19) KX G ?a ?l ?c ?k ?_; (case a => k_is); (case l => k_is); (case c => k_is); (case k => k_is)
    intro d19
    refine' Ev.have_def (x := "on_one_line") (st := K09.top 20) KX G ?a ?l ?c ?k ?_; (case a => k_is); (case l => k_is); (case c => k_is); (case k => k_is)
    intro d20
    refine' Ev.have_def (x := "crossing") (st := K09.top 21) KX G ?a ?l ?c ?k ?_; (case a => k_is); (case l => k_is); (case c => k_is); (case k => k_is)
    intro d21
    refine' Ev.have_def (x := "crossings") (st := K09.top 22) KX G ?a ?l ?c ?k ?_; (case a => k_is); (case l => k_is); (case c => k_is); (case k => k_is)
    intro d22
    refine' Ev.have_def (x := "shares") (st := K09.top 24) KX G ?a ?l ?c ?k ?_; (case a => k_is); (case l => k_is); (case c => k_is); (case k => k_is)
    intro d24
    refine' Ev.have_def (x := "summed") (st := K09.top 25) KX G ?a ?l ?c ?k ?_; (case a => k_is); (case l => k_is); (case c => k_is); (case k => k_is)
    intro d25
    refine' Ev.have_def (x := "paired") (st := K09.top 26) KX G ?a ?l ?c ?k ?_; (case a => k_is); (case l => k_is); (case c => k_is); (case k => k_is)
    intro d26
    refine' Ev.have_def (x := "table_of") (st := K09.top 27) KX G ?a ?l ?c ?k ?_; (case a => k_is); (case l => k_is); (case c => k_is); (case k => k_is)
    intro d27
    refine' Ev.have_def (x := "are_presses") (st := K09.top 28) KX G ?a ?l ?c ?k ?_; (case a => k_is); (case l => k_is); (case c => k_is); (case k => k_is)
    intro d28
    refine' Ev.have_def (x := "are_borne") (st := K09.top 29) KX G ?a ?l ?c ?k ?_; (case a => k_is); (case l => k_is); (case c => k_is); (case k => k_is)
    intro d29
    refine' Ev.have_def (x := "halves") (st := K09.top 31) KX G ?a ?l ?c ?k ?_; (case a => k_is); (case l => k_is); (case c => k_is); (case k => k_is)
    intro d31
    refine' Ev.have_def (x := "solved") (st := K09.top 32) KX G ?a ?l ?c ?k ?_; (case a => k_is); (case l => k_is); (case c => k_is); (case k => k_is)
    intro d32
    refine' Ev.have_def (x := "least_energy") (st := K09.top 33) KX G ?a ?l ?c ?k ?_; (case a => k_is); (case l => k_is); (case c => k_is); (case k => k_is)
    intro d33
    refine' Ev.have_def (x := "sunk") (st := K09.top 34) KX G ?a ?l ?c ?k ?_; (case a => k_is); (case l => k_is); (case c => k_is); (case k => k_is)
    intro d34
    refine' Ev.have_def (x := "bearing") (st := K09.top 35) KX G ?a ?l ?c ?k ?_; (case a => k_is); (case l => k_is); (case c => k_is); (case k => k_is)
    intro d35
    refine' Ev.have_def (x := "shown") (st := K09.top 36) KX G ?a ?l ?c ?k ?_; (case a => k_is); (case l => k_is); (case c => k_is); (case k => k_is)
    intro d36
    refine' Ev.have_def (x := "_law_draw") (st := K09.top 38) KX G ?a ?l ?c ?k ?_; (case a => k_is); (case l => k_is); (case c => k_is); (case k => k_is)
    intro d38
    refine' Ev.have_def (x := "_law_any_order") (st := K09.top 39) KX G ?a ?l ?c ?k ?_; (case a => k_is); (case l => k_is); (case c => k_is); (case k => k_is)
    intro d39
    refine' Ev.have_def (x := "_law_common") (st := K09.top 40) KX G ?a ?l ?c ?k ?_; (case a => k_is); (case l => k_is); (case c => k_is); (case k => k_is)
    intro d40
    refine' Ev.have_def (x := "_law_frac") (st := K09.top 41) KX G ?a ?l ?c ?k ?_; (case a => k_is); (case l => k_is); (case c => k_is); (case k => k_is)
    intro d41
    refine' Ev.have_def (x := "_law_sum") (st := K09.top 42) KX G ?a ?l ?c ?k ?_; (case a => k_is); (case l => k_is); (case c => k_is); (case k => k_is)
    intro d42
    refine' Ev.have_def (x := "_law_part") (st := K09.top 43) KX G ?a ?l ?c ?k ?_; (case a => k_is); (case l => k_is); (case c => k_is); (case k => k_is)
    intro d43
    refine' Ev.have_def (x := "_law_below") (st := K09.top 44) KX G ?a ?l ?c ?k ?_; (case a => k_is); (case l => k_is); (case c => k_is); (case k => k_is)
    intro d44
    refine' Ev.have_def (x := "_law_side") (st := K09.top 45) KX G ?a ?l ?c ?k ?_; (case a => k_is); (case l => k_is); (case c => k_is); (case k => k_is)
    intro d45
    refine' Ev.have_def (x := "_law_sides") (st := K09.top 46) KX G ?a ?l ?c ?k ?_; (case a => k_is); (case l => k_is); (case c => k_is); (case k => k_is)
    intro d46
    refine' Ev.have_def (x := "_law_meet") (st := K09.top 47) KX G ?a ?l ?c ?k ?_; (case a => k_is); (case l => k_is); (case c => k_is); (case k => k_is)
    intro d47
    refine' Ev.have_def (x := "_law_fan") (st := K09.top 48) KX G ?a ?l ?c ?k ?_; (case a => k_is); (case l => k_is); (case c => k_is); (case k => k_is)
    intro d48
    refine' Ev.have_def (x := "_law_sticks") (st := K09.top 49) KX G ?a ?l ?c ?k ?_; (case a => k_is); (case l => k_is); (case c => k_is); (case k => k_is)
    intro d49
    refine' Ev.have_def (x := "_law_pairs_of") (st := K09.top 50) KX G ?a ?l ?c ?k ?_; (case a => k_is); (case l => k_is); (case c => k_is); (case k => k_is)
    intro d50
    refine' Ev.have_def (x := "_law_over") (st := K09.top 51) KX G ?a ?l ?c ?k ?_; (case a => k_is); (case l => k_is); (case c => k_is); (case k => k_is)
    intro d51
    refine' Ev.have_def (x := "_law_pile") (st := K09.top 52) KX G ?a ?l ?c ?k ?_; (case a => k_is); (case l => k_is); (case c => k_is); (case k => k_is)
    intro d52
    refine' Ev.have_def (x := "_law_energy") (st := K09.top 53) KX G ?a ?l ?c ?k ?_; (case a => k_is); (case l => k_is); (case c => k_is); (case k => k_is)
    intro d53
    refine' Ev.have_def (x := "law") (st := K09.top 54) KX G ?a ?l ?c ?k ?_; (case a => k_is); (case l => k_is); (case c => k_is); (case k => k_is)
    intro d54
    refine' Ev.have_cls (x := "Table") KX G ?aC ?pg ?hd ?po ?sa ?nm ?nr ?ng ?nh ?_; (case aC => k_is); (case pg => k_is); (case hd => k_is); (case po => k_is); (case sa => k_is); (case nm => k_is); (case nr => k_is); (case ng => k_is); (case nh => k_is)
    intro mC tc
    refine' Ev.have_init tc (q := "Table.__init__") (st := L2.inClass (K09.top 15) 0) ?mk ?kc ?a ?i ?l ?c ?k ?_; (case mk => k_is); (case kc => k_is); (case a => k_is); (case i => k_is); (case l => k_is); (case c => k_is); (case k => k_is)
    intro mm___init__
    refine' Ev.have_meth tc (m := "coming") (q := "Table.coming") (st := L2.inClass (K09.top 15) 1) ?a ?i ?l ?c ?k ?_; (case a => k_is); (case i => k_is); (case l => k_is); (case c => k_is); (case k => k_is)
    intro mm_coming
    refine' Ev.have_meth tc (m := "leaving") (q := "Table.leaving") (st := L2.inClass (K09.top 15) 2) ?a ?i ?l ?c ?k ?_; (case a => k_is); (case i => k_is); (case l => k_is); (case c => k_is); (case k => k_is)
    intro mm_leaving
    refine' Ev.have_meth tc (m := "exchange") (q := "Table.exchange") (st := L2.inClass (K09.top 15) 3) ?a ?i ?l ?c ?k ?_; (case a => k_is); (case i => k_is); (case l => k_is); (case c => k_is); (case k => k_is)
    intro mm_exchange
    refine' Ev.have_meth tc (m := "run") (q := "Table.run") (st := L2.inClass (K09.top 15) 4) ?a ?i ?l ?c ?k ?_; (case a => k_is); (case i => k_is); (case l => k_is); (case c => k_is); (case k => k_is)
    intro mm_run
    refine' Ev.have_meth tc (m := "best") (q := "Table.best") (st := L2.inClass (K09.top 15) 5) ?a ?i ?l ?c ?k ?_; (case a => k_is); (case i => k_is); (case l => k_is); (case c => k_is); (case k => k_is)
    intro mm_best
    refine' Ev.have_meth tc (m := "prices") (q := "Table.prices") (st := L2.inClass (K09.top 15) 7) ?a ?i ?l ?c ?k ?_; (case a => k_is); (case i => k_is); (case l => k_is); (case c => k_is); (case k => k_is)
    intro mm_prices
    have z_len := PySem.W.mg_none_of (n := "len") KX G (by k_is)
    have z_abs := PySem.W.mg_none_of (n := "abs") KX G (by k_is)
    have z_tuple := PySem.W.mg_none_of (n := "tuple") KX G (by k_is)
    have z_list := PySem.W.mg_none_of (n := "list") KX G (by k_is)
    have z_all := PySem.W.mg_none_of (n := "all") KX G (by k_is)
    have z_any := PySem.W.mg_none_of (n := "any") KX G (by k_is)
    have z_sorted := PySem.W.mg_none_of (n := "sorted") KX G (by k_is)
    have z_min := PySem.W.mg_none_of (n := "min") KX G (by k_is)
    have z_max := PySem.W.mg_none_of (n := "max") KX G (by k_is)
    have z_int := PySem.W.mg_none_of (n := "int") KX G (by k_is)
    have z_bool := PySem.W.mg_none_of (n := "bool") KX G (by k_is)
    have z_str := PySem.W.mg_none_of (n := "str") KX G (by k_is)
    have z_isinstance := PySem.W.mg_none_of (n := "isinstance") KX G (by k_is)
    have z_range := PySem.W.mg_none_of (n := "range") KX G (by k_is)
    have z_enumerate := PySem.W.mg_none_of (n := "enumerate") KX G (by k_is)
    have z_zip := PySem.W.mg_none_of (n := "zip") KX G (by k_is)
    refine' Ev.have_tup2 (x := "NOUGHT") (i := 0) (j := 1) KX G ?a ?l ?_; (case a => k_is); (case l => k_is)
    intro c_NOUGHT
    refine' Ev.have_tup2 (x := "ONE") (i := 1) (j := 1) KX G ?a ?l ?_; (case a => k_is); (case l => k_is)
    intro c_ONE
    refine' Ev.have_tup2 (x := "HALF") (i := 1) (j := 2) KX G ?a ?l ?_; (case a => k_is); (case l => k_is)
    intro c_HALF
    have Z : K09.Top _ mg _ := ⟨d5, d6, d7, d8, d9, d10, d11, d12, d13, d14, d17, d18, d19, d20, d21, d22, d24, d25, d26, d27, d28, d29, d31, d32, d33, d34, d35, d36, d38, d39, d40, d41, d42, d43, d44, d45, d46, d47, d48, d49, d50, d51, d52, d53, d54, fun x hx => by
      simp only [Ev.bltNames, List.mem_cons, List.not_mem_nil, or_false] at hx
      rcases hx with rfl | rfl | rfl | rfl | rfl | rfl | rfl | rfl | rfl | rfl | rfl | rfl | rfl | rfl | rfl | rfl
      · exact z_len
      · exact z_abs
      · exact z_tuple
      · exact z_list
      · exact z_all
      · exact z_any
      · exact z_sorted
      · exact z_min
      · exact z_max
      · exact z_int
      · exact z_bool
      · exact z_str
      · exact z_isinstance
      · exact z_range
      · exact z_enumerate
      · exact z_zip, c_NOUGHT, c_ONE, c_HALF, mC, tc, mm___init__, mm_coming, mm_leaving, mm_exchange, mm_run, mm_best, mm_prices⟩
    exact Ev.law_top hmg d54 (fun _ _ _ _ _ _ _ => rfl) (fun base fd F => K09.law_ok Z base F)
#print axioms PySem.Challenge.cw_spillikins_k09_whole_weights_go_together_holds

