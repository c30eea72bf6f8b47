import PyProof.Rows.All
import Wide.All
import OpenK.AllK
import Wide.FinOn
import HandS.ForMost
import HandS.Wide
import HandS.Deep
import HandS.IsInst
import HandS.TupAny
import HandS.TupLe
import HandS.TupMul
import HandS.TupSets
import HandS.Style
import HandS.Zip
import HandS.Flow
import HandS.Sort
import KE.DataMinMax
import KE.SortData
import HandS.Text
import KE.GoesEnum
import KE.GoesMore
import KE.GoesZip
import PySem.Challenge.RW_spillikins_k01_piles_known
set_option Elab.async false
set_option linter.all false
set_option maxRecDepth 100000
set_option maxHeartbeats 4000000
set_option exponentiation.threshold 100000
namespace Ev
open PySem PySem.Spec PyProof.Rows L2

/-! ## values of the evaluator -/
abbrev D := PyData
/-- what an expression gives: data; a list just made; a list that a slot owns; the tape -/
inductive W where
  | d (x : D) | new (ds : List D) | loc (i : Nat) | tp
/-- what a slot holds -/
inductive Sl where
  | no | d (x : D) | own (ds : List D) | tp
abbrev En := List Sl
abbrev Tp := List D

mutual
/-- a value v of the heap H is the data d -/
inductive Dq (K : PySem.W.Frag) (H : Hp) : V → PyData → Prop
  | non : Dq K H .non .none
  | bl (b : Bool) : Dq K H (.bl b) (.bool b)
  | int (i : Int) : Dq K H (.int i) (.int i)
  | str (x : Str) : Dq K H (.str x) (.str x)
  | lst {a : Addr} {xs : List V} {ds : List PyData} : H a = some (.lst xs) → DqAll K H xs ds → Dq K H (.ref a) (.list ds)
  | tup {a : Addr} {xs : List V} {ds : List PyData} : SqT K H a xs → DqAll K H xs ds → Dq K H (.ref a) (.tuple ds)
inductive DqAll (K : PySem.W.Frag) (H : Hp) : List V → List PyData → Prop
  | nil : DqAll K H [] []
  | cons {v : V} {vs : List V} {d : PyData} {ds : List PyData} : Dq K H v d → DqAll K H vs ds → DqAll K H (v :: vs) (d :: ds)
end
section
variable {K : PySem.W.Frag}
theorem seqT_mono {H H' : Hp} {a : Addr} {xs : List V} (e : Same H H') (h : SqT K H a xs) : SqT K H' a xs := by
  rcases h with (h | ⟨o, h⟩) | h
  · exact .inl (.inl (e _ _ h))
  · exact .inl (.inr ⟨o, e _ _ h⟩)
  · exact .inr h
mutual
theorem dq_mono {H H' : Hp} (e : Same H H') : ∀ {d : D} {v : V}, Dq K H v d → Dq K H' v d
  | .none, _, h => by cases h; exact .non
  | .bool b, _, h => by cases h; exact .bl b
  | .int i, _, h => by cases h; exact .int i
  | .str x, _, h => by cases h; exact .str x
  | .list ds, _, h => by
    cases h with
    | lst s a => exact .lst (e _ _ s) (dqAll_mono e a)
  | .tuple ds, _, h => by
    cases h with
    | tup s a => exact .tup (seqT_mono e s) (dqAll_mono e a)
  | .dict _, _, h => by cases h
theorem dqAll_mono {H H' : Hp} (e : Same H H') : ∀ {ds : List D} {vs : List V}, DqAll K H vs ds → DqAll K H' vs ds
  | [], _, h => by cases h; exact .nil
  | d :: ds, _, h => by
    cases h with
    | cons a b => exact .cons (dq_mono e a) (dqAll_mono e b)
end
mutual
theorem Dq.dp {H : Hp} : ∀ {d : D} {v : V}, Dq K H v d → Dp K H v d
  | .none, _, h => by cases h; exact .non
  | .bool b, _, h => by cases h; exact .bl b
  | .int i, _, h => by cases h; exact .int i
  | .str x, _, h => by cases h; exact .str x
  | .list ds, _, h => by
    cases h with
    | lst s a => exact .lst (SqL.of s) (DqAll.dp a)
  | .tuple ds, _, h => by
    cases h with
    | tup s a => exact .tup s (DqAll.dp a)
  | .dict _, _, h => by cases h
theorem DqAll.dp {H : Hp} : ∀ {ds : List D} {vs : List V}, DqAll K H vs ds → DpAll K H vs ds
  | [], _, h => by cases h; exact .nil
  | d :: ds, _, h => by
    cases h with
    | cons a b => exact .cons (Dq.dp a) (DqAll.dp b)
end
theorem dqAll_len {H : Hp} : ∀ {ds : List D} {vs : List V}, DqAll K H vs ds → vs.length = ds.length
  | [], _, h => by cases h; rfl
  | d :: ds, _, h => by
    cases h with
    | cons a b => simp [dqAll_len b]
theorem dqAll_get {H : Hp} : ∀ {ds : List D} {vs : List V} {i : Nat} {v : V}, DqAll K H vs ds → vs[i]? = some v → ∃ d, ds[i]? = some d ∧ Dq K H v d
  | [], _, i, v, h, e => by cases h; simp at e
  | d :: ds, _, 0, v, h, e => by
    cases h with
    | cons a b =>
      simp at e
      subst e
      exact ⟨d, rfl, a⟩
  | d :: ds, _, i + 1, v, h, e => by
    cases h with
    | cons a b =>
      obtain ⟨x, hx, hd⟩ := dqAll_get (i := i) b (by simpa using e)
      exact ⟨x, by simpa using hx, hd⟩
theorem dqAll_at {H : Hp} {ds : List D} {vs : List V} {i : Nat} {d : D} (h : DqAll K H vs ds) (e : ds[i]? = some d) : ∃ v, vs[i]? = some v ∧ Dq K H v d := by
  have hl := dqAll_len h
  have hi : i < vs.length := by
    have := (List.getElem?_eq_some_iff.mp e).1
    omega
  obtain ⟨x, hx, hd⟩ := dqAll_get (i := i) (v := vs[i]) h (by simp [hi])
  rw [e] at hx
  cases hx
  exact ⟨_, by simp [hi], hd⟩
theorem dqAll_append {H : Hp} : ∀ {ds es : List D} {vs ws : List V}, DqAll K H vs ds → DqAll K H ws es → DqAll K H (vs ++ ws) (ds ++ es)
  | [], _, _, _, h, g => by cases h; exact g
  | d :: ds, _, _, _, h, g => by
    cases h with
    | cons a b => exact .cons a (dqAll_append b g)
theorem dqAll_take {H : Hp} : ∀ {ds : List D} {vs : List V} (n : Nat), DqAll K H vs ds → DqAll K H (vs.take n) (ds.take n)
  | [], _, n, h => by cases h; simp; exact .nil
  | d :: ds, _, 0, h => by simp; exact .nil
  | d :: ds, _, n + 1, h => by
    cases h with
    | cons a b => exact .cons a (dqAll_take n b)
theorem dqAll_drop {H : Hp} : ∀ {ds : List D} {vs : List V} (n : Nat), DqAll K H vs ds → DqAll K H (vs.drop n) (ds.drop n)
  | [], _, n, h => by cases h; simp; exact .nil
  | d :: ds, _, 0, h => h
  | d :: ds, _, n + 1, h => by
    cases h with
    | cons a b => exact dqAll_drop n b
theorem dqAll_snoc {H : Hp} {ds : List D} {vs : List V} {d : D} {v : V} (h : DqAll K H vs ds) (g : Dq K H v d) : DqAll K H (vs ++ [v]) (ds ++ [d]) := dqAll_append h (.cons g .nil)
theorem dqAll_rev {H : Hp} : ∀ {ds : List D} {vs : List V}, DqAll K H vs ds → DqAll K H vs.reverse ds.reverse
  | [], _, h => by cases h; exact .nil
  | d :: ds, _, h => by
    cases h with
    | cons a b =>
      rw [List.reverse_cons, List.reverse_cons]
      exact dqAll_snoc (dqAll_rev b) a
theorem dqAll_set {H : Hp} : ∀ {ds : List D} {vs : List V} (i : Nat) {d : D} {v : V}, DqAll K H vs ds → Dq K H v d → DqAll K H (vs.set i v) (ds.set i d)
  | [], _, i, _, _, h, _ => by cases h; simp; exact .nil
  | d :: ds, _, 0, _, _, h, g => by
    cases h with
    | cons a b => exact .cons g b
  | d :: ds, _, i + 1, _, _, h, g => by
    cases h with
    | cons a b => exact .cons a (dqAll_set i b g)
theorem dqAll_erase {H : Hp} : ∀ {ds : List D} {vs : List V} (i : Nat), DqAll K H vs ds → DqAll K H (vs.eraseIdx i) (ds.eraseIdx i)
  | [], _, i, h => by cases h; simp; exact .nil
  | d :: ds, _, 0, h => by
    cases h with
    | cons a b => exact b
  | d :: ds, _, i + 1, h => by
    cases h with
    | cons a b => exact .cons a (dqAll_erase i b)
theorem dqAll_rep {H : Hp} {ds : List D} {vs : List V} (h : DqAll K H vs ds) : ∀ k : Nat, DqAll K H (List.replicate k vs).flatten (List.replicate k ds).flatten
  | 0 => .nil
  | k + 1 => by
    rw [List.replicate_succ, List.replicate_succ, List.flatten_cons, List.flatten_cons]
    exact dqAll_append h (dqAll_rep h k)
end

/-! ## the state -/
def Rw (K : PySem.W.Frag) (F H Hb : Hp) (t : Option Addr) (σ : L2.St) (v : V) : W → Prop
  | .d x => Dq K F v x
  | .loc i => σ[i]? = some (some v)
  | .tp => ∃ a, t = some a ∧ v = .ref a
  | .new ds => ∃ a vs, v = .ref a ∧ F a = none ∧ t ≠ some a ∧ Hb a = none ∧ H a = some (.lst vs) ∧ DqAll K F vs ds
def TapeOk (K : PySem.W.Frag) (F H : Hp) : Option Addr → Tp → Prop
  | none, _ => True
  | some a, τ => F a = none ∧ ∃ vs, H a = some (.lst vs) ∧ DqAll K F vs τ
def SlOk (K : PySem.W.Frag) (F H : Hp) (t : Option Addr) (σ : L2.St) (i : Nat) : Sl → Prop
  | .no => True
  | .d x => ∃ v, σ[i]? = some (some v) ∧ Dq K F v x
  | .own ds => ∃ a vs, σ[i]? = some (some (.ref a)) ∧ F a = none ∧ t ≠ some a ∧ H a = some (.lst vs) ∧ DqAll K F vs ds
  | .tp => ∃ a, t = some a ∧ σ[i]? = some (some (.ref a))
structure Sok (K : PySem.W.Frag) (F H : Hp) (t : Option Addr) (env : En) (τ : Tp) (σ : L2.St) : Prop where
  same : Same F H
  len : env.length = σ.length
  slot : ∀ (i : Nat) (s : Sl), env[i]? = some s → SlOk K F H t σ i s
  dis : ∀ (i j : Nat) (ds es : List D), env[i]? = some (Sl.own ds) → env[j]? = some (Sl.own es) → i ≠ j → σ[i]? ≠ σ[j]?
  tape : TapeOk K F H t τ
structure Post (K : PySem.W.Frag) (t : Option Addr) (τ' : Tp) (F H F' H' : Hp) : Prop where
  ext : Same F F'
  same : Same F' H'
  new : ∀ b, F' b ≠ none → F b ≠ none ∨ H b = none
  keep : ∀ b o, H b = some o → t ≠ some b → H' b = some o
  tape : TapeOk K F' H' t τ'

section
variable {K : PySem.W.Frag} {F H F' H' F2 H2 Hb : Hp} {t : Option Addr} {env : En} {τ τ' τ2 : Tp} {σ : L2.St}
theorem Post.refl (S : Sok K F H t env τ σ) : Post K t τ F H F H := ⟨.refl _, S.same, fun b h => .inl h, fun b o h _ => h, S.tape⟩
theorem Post.none_of (P : Post K t τ' F H F' H') {a : Addr} {o : HO} (hF : F a = none) (hH : H a = some o) : F' a = none := by
  cases e : F' a with
  | none => rfl
  | some u =>
    rcases P.new a (by rw [e]; exact fun z => nomatch z) with q | q
    · exact absurd hF q
    · rw [hH] at q; cases q
theorem Sok.post (S : Sok K F H t env τ σ) (P : Post K t τ' F H F' H') : Sok K F' H' t env τ' σ := by
  refine ⟨P.same, S.len, fun i s e => ?_, S.dis, P.tape⟩
  have h := S.slot i s e
  cases s with
  | no => trivial
  | d x =>
    obtain ⟨v, h1, h2⟩ := h
    exact ⟨v, h1, dq_mono P.ext h2⟩
  | own ds =>
    obtain ⟨a, vs, h1, h2, h3, h4, h5⟩ := h
    exact ⟨a, vs, h1, P.none_of h2 h4, h3, P.keep _ _ h4 h3, dqAll_mono P.ext h5⟩
  | tp => exact h
theorem Post.trans (P : Post K t τ' F H F' H') (P2 : Post K t τ2 F' H' F2 H2) : Post K t τ2 F H F2 H2 := by
  refine ⟨P.ext.trans P2.ext, P2.same, fun b h => ?_, fun b o h k => P2.keep _ _ (P.keep _ _ h k) k, P2.tape⟩
  rcases P2.new b h with q | q
  · exact P.new b q
  · cases e : H b with
    | none => exact .inr rfl
    | some o =>
      by_cases k : t = some b
      · have tp := P.tape
        rw [k] at tp
        obtain ⟨_, vs, z, _⟩ := tp
        rw [z] at q
        cases q
      · rw [P.keep _ _ e k] at q
        cases q
theorem Post.bnone (P : Post K t τ' F H F' H') {a : Addr} (hn : H' a = none) (k : t ≠ some a) : H a = none := by
  cases e : H a with
  | none => rfl
  | some o =>
    rw [P.keep _ _ e k] at hn
    cases hn
theorem Rw.post {v : V} {w : W} (r : Rw K F H Hb t σ v w) (P : Post K t τ' F H F' H') : Rw K F' H' Hb t σ v w := by
  cases w with
  | d x => exact dq_mono P.ext r
  | loc i => exact r
  | tp => exact r
  | new ds =>
    obtain ⟨a, vs, h1, h2, h3, h4, h5, h6⟩ := r
    exact ⟨a, vs, h1, P.none_of h2 h5, h3, h4, P.keep _ _ h5 h3, dqAll_mono P.ext h6⟩
theorem Rw.base {v : V} {w : W} (r : Rw K F' H' H t σ v w) (P : Post K t τ' F2 H2 F H) : Rw K F' H' H2 t σ v w := by
  cases w with
  | d x => exact r
  | loc i => exact r
  | tp => exact r
  | new ds =>
    obtain ⟨a, vs, h1, h2, h3, h4, h5, h6⟩ := r
    exact ⟨a, vs, h1, h2, h3, P.bnone h4 h3, h5, h6⟩
end

/-- the items of a list or a tuple (true: a list) -/
def seqOf (env : En) (τ : Tp) : W → Option (Bool × List D)
  | .d (.list ds) => some (true, ds)
  | .d (.tuple ds) => some (false, ds)
  | .new ds => some (true, ds)
  | .loc i => match env[i]? with
    | some (.own ds) => some (true, ds)
    | _ => none
  | .tp => some (true, τ)
  | _ => none
def Sq (K : PySem.W.Frag) (b : Bool) (H : Hp) (a : Addr) (vs : List V) : Prop := if b = true then H a = some (.lst vs) else SqT K H a vs
section
variable {K : PySem.W.Frag} {F H F' H' F2 H2 Hb : Hp} {t : Option Addr} {env : En} {τ τ' τ2 : Tp} {σ : L2.St}
theorem deref {v : V} {w : W} {b : Bool} {ds : List D} (S : Sok K F H t env τ σ) (r : Rw K F H Hb t σ v w) (e : seqOf env τ w = some (b, ds)) :
    ∃ a vs, v = .ref a ∧ DqAll K F vs ds ∧ Sq K b H a vs := by
  cases w with
  | d x =>
    cases x with
    | list es =>
      cases e
      cases r with
      | lst s a => exact ⟨_, _, rfl, a, S.same _ _ s⟩
    | tuple es =>
      cases e
      cases r with
      | tup s a => exact ⟨_, _, rfl, a, seqT_mono S.same s⟩
    | _ => cases e
  | new es =>
    cases e
    obtain ⟨a, vs, h1, h2, h3, h4, h5, h6⟩ := r
    exact ⟨a, vs, h1, h6, h5⟩
  | loc i =>
    change (match env[i]? with | some (.own ds) => some (true, ds) | _ => none) = _ at e
    cases hs : env[i]? with
    | none => rw [hs] at e; cases e
    | some s =>
      rw [hs] at e
      cases s with
      | own es =>
        cases e
        obtain ⟨a, vs, h1, h2, h3, h4, h5⟩ := S.slot i _ hs
        have hv : v = .ref a := by
          have := (show σ[i]? = some (some v) from r)
          rw [h1] at this
          cases this
          rfl
        exact ⟨a, vs, hv, h5, h4⟩
      | _ => cases e
  | tp =>
    cases e
    obtain ⟨a, rfl, rfl⟩ := r
    obtain ⟨_, vs, h1, h2⟩ := S.tape
    exact ⟨a, vs, rfl, h2, h1⟩
theorem Sq.len {b : Bool} {H : Hp} {a : Addr} {vs : List V} (h : Sq K b H a vs) : SqL K H a vs ∨ SqT K H a vs := by
  cases b with
  | true => exact .inl (SqL.of h)
  | false => exact .inr h

/-- as data: a list just made is given away -/
def toD : W → Option D
  | .d x => some x
  | .new ds => some (.list ds)
  | _ => none
theorem freezeAt {a : Addr} {vs : List V} {ds : List D} {Fb : Hp} {τb : Tp} (Sb : Sok K Fb Hb t env τb σ) (S : Sok K F H t env τ σ) (P : Post K t τ Fb Hb F H) (h2 : F a = none) (h3 : t ≠ some a) (h4 : Hb a = none) (h5 : H a = some (.lst vs)) (h6 : DqAll K F vs ds) :
    Post K t τ Fb Hb (upd F a (.lst vs)) H ∧ Same F (upd F a (.lst vs)) ∧ Sok K (upd F a (.lst vs)) H t env τ σ ∧ Dq K (upd F a (.lst vs)) (.ref a) (.list ds) := by
  have e1 : Same F (upd F a (.lst vs)) := fun b o q => by
    rw [upd_ne (ne_of_none q h2)]
    exact q
  have e2 : Same (upd F a (.lst vs)) H := fun b o q => by
    by_cases hb : b = a
    · subst hb
      rw [upd_same] at q
      rw [h5, ← q]
    · rw [upd_ne hb] at q
      exact S.same _ _ q
  have tp : TapeOk K (upd F a (.lst vs)) H t τ := by
    have tp := S.tape
    cases t with
    | none => trivial
    | some c =>
      obtain ⟨t1, us, t2, t3⟩ := tp
      have hc : c ≠ a := fun z => h3 (by rw [z])
      exact ⟨by rw [upd_ne hc]; exact t1, us, t2, dqAll_mono e1 t3⟩
  refine ⟨⟨P.ext.trans e1, e2, fun b q => ?_, P.keep, tp⟩, e1, ⟨e2, S.len, fun i s q => ?_, S.dis, tp⟩, .lst upd_same (dqAll_mono e1 h6)⟩
  · by_cases hb : b = a
    · subst hb
      exact .inr h4
    · rw [upd_ne hb] at q
      exact P.new b q
  · have h := S.slot i s q
    cases s with
    | no => trivial
    | d x =>
      obtain ⟨v, z1, z2⟩ := h
      exact ⟨v, z1, dq_mono e1 z2⟩
    | own es =>
      obtain ⟨c, us, z1, z2, z3, z4, z5⟩ := h
      obtain ⟨c', us', y1, y2, y3, y4, y5⟩ := Sb.slot i _ q
      rw [z1] at y1
      cases y1
      have hc : c ≠ a := ne_of_none y4 h4
      exact ⟨c, us, z1, by rw [upd_ne hc]; exact z2, z3, z4, dqAll_mono e1 z5⟩
    | tp => exact h
theorem freeze {v : V} {w : W} {x : D} {Fb : Hp} {τb : Tp} (Sb : Sok K Fb Hb t env τb σ) (S : Sok K F H t env τ σ) (P : Post K t τ Fb Hb F H) (r : Rw K F H Hb t σ v w) (e : toD w = some x) :
    ∃ F', Post K t τ Fb Hb F' H ∧ Same F F' ∧ Sok K F' H t env τ σ ∧ Dq K F' v x := by
  cases w with
  | d y =>
    cases e
    exact ⟨F, P, .refl _, S, r⟩
  | new ds =>
    cases e
    obtain ⟨a, vs, rfl, h2, h3, h4, h5, h6⟩ := r
    exact ⟨_, freezeAt Sb S P h2 h3 h4 h5 h6⟩
  | loc i => cases e
  | tp => cases e
end

open PySem PySem.Spec PyProof.Rows L2

section
variable {K : PySem.W.Frag} {F H F' H' F2 H2 Hb : Hp} {t : Option Addr} {env : En} {τ τ' τ2 : Tp} {σ : L2.St}
theorem same_upd {p : Addr} {o : HO} (h : H p = none) : Same H (upd H p o) := fun b x e => by
  rw [upd_ne (ne_of_none e h)]
  exact e
theorem Sok.fnone (S : Sok K F H t env τ σ) {p : Addr} (h : H p = none) : F p = none := S.same.free h
theorem Sok.tne (S : Sok K F H t env τ σ) {p : Addr} (h : H p = none) : t ≠ some p := fun e => by
  have tp := S.tape
  rw [e] at tp
  obtain ⟨_, vs, z, _⟩ := tp
  rw [h] at z
  cases z
/-- a new object is laid, F is left as it is -/
theorem Sok.laid (S : Sok K F H t env τ σ) {p : Addr} {o : HO} (h : H p = none) : Post K t τ F H F (upd H p o) := by
  refine ⟨.refl _, S.same.trans (same_upd h), fun b e => .inl e, fun b u e _ => same_upd h _ _ e, ?_⟩
  have tp := S.tape
  cases t with
  | none => trivial
  | some a =>
    obtain ⟨h1, vs, h2, h3⟩ := tp
    exact ⟨h1, vs, same_upd h _ _ h2, h3⟩
theorem Sok.newList (S : Sok K F H t env τ σ) {p : Addr} {vs : List V} {ds : List D} (h : H p = none) (r : DqAll K F vs ds) :
    Post K t τ F H F (upd H p (.lst vs)) ∧ Rw K F (upd H p (.lst vs)) H t σ (.ref p) (.new ds) :=
  ⟨S.laid h, p, vs, rfl, S.fnone h, S.tne h, h, upd_same, r⟩
theorem Sok.newTup (S : Sok K F H t env τ σ) {p : Addr} {vs : List V} {ds : List D} (h : H p = none) (r : DqAll K F vs ds) :
    Post K t τ F H (upd F p (.tup vs)) (upd H p (.tup vs)) ∧ Dq K (upd F p (.tup vs)) (.ref p) (.tuple ds) := by
  have hF := S.fnone h
  refine ⟨⟨same_upd hF, fun b o e => ?_, fun b e => ?_, fun b u e _ => same_upd h _ _ e, ?_⟩, .tup (SqT.of upd_same) (dqAll_mono (same_upd hF) r)⟩
  · by_cases hb : b = p
    · subst hb
      rw [upd_same] at e ⊢
      exact e
    · rw [upd_ne hb] at e ⊢
      exact S.same _ _ e
  · by_cases hb : b = p
    · subst hb
      exact .inr h
    · rw [upd_ne hb] at e
      exact .inl e
  · have tp := S.tape
    cases t with
    | none => trivial
    | some a =>
      obtain ⟨h1, us, h2, h3⟩ := tp
      have ha : a ≠ p := ne_of_none h2 h
      exact ⟨by rw [upd_ne ha]; exact h1, us, same_upd h _ _ h2, dqAll_mono (same_upd hF) h3⟩
end

/-! ## judgements -/
abbrev EvF := En → Tp → Option (W × Tp)
abbrev EvA := En → Tp → Option (List W × Tp)
def tE (K : PySem.W.Frag) (f : EvF) : TE := fun σ H Q => ∃ F t env τ w τ', Sok K F H t env τ σ ∧ f env τ = some (w, τ') ∧ ∀ F' v H', Post K t τ' F H F' H' → Rw K F' H' H t σ v w → Q v H'
inductive RwAll (K : PySem.W.Frag) (F H Hb : Hp) (t : Option Addr) (σ : L2.St) : List V → List W → Prop
  | nil : RwAll K F H Hb t σ [] []
  | cons {v : V} {vs : List V} {w : W} {ws : List W} : Rw K F H Hb t σ v w → RwAll K F H Hb t σ vs ws → RwAll K F H Hb t σ (v :: vs) (w :: ws)
def tA (K : PySem.W.Frag) (f : EvA) : TA := fun σ H Q => ∃ F t env τ ws τ', Sok K F H t env τ σ ∧ f env τ = some (ws, τ') ∧ ∀ F' vs H', Post K t τ' F H F' H' → RwAll K F' H' H t σ vs ws → Q vs H'
def tT (K : PySem.W.Frag) (f : EvF) : TT := fun σ H Q => ∃ F t env τ b τ', Sok K F H t env τ σ ∧ f env τ = some (.d (.bool b), τ') ∧ ∀ F' H', Post K t τ' F H F' H' → Q b H'
theorem RwAll.post {K : PySem.W.Frag} {F H F' H' Hb : Hp} {t : Option Addr} {τ' : Tp} {σ : L2.St} {vs : List V} {ws : List W} (r : RwAll K F H Hb t σ vs ws) (P : Post K t τ' F H F' H') : RwAll K F' H' Hb t σ vs ws := by
  induction r with
  | nil => exact .nil
  | cons a b ih => exact .cons (a.post P) ih
theorem RwAll.base {K : PySem.W.Frag} {F H F' H' H2 F2 : Hp} {t : Option Addr} {τ' : Tp} {σ : L2.St} {vs : List V} {ws : List W} (r : RwAll K F' H' H t σ vs ws) (P : Post K t τ' F2 H2 F H) : RwAll K F' H' H2 t σ vs ws := by
  induction r with
  | nil => exact .nil
  | cons a b ih => exact .cons (a.base P) ih

section
variable {X : Cx}
theorem weakE {e : Expr} {t t' : TE} (h : PE X e t) (w : ∀ σ H Q, t' σ H Q → t σ H Q) : PE X e t' := ⟨fun pins s σ H Q I q => h.run pins s σ H Q I (w _ _ _ q)⟩
theorem weakT {e : Expr} {t t' : TT} (h : PT X e t) (w : ∀ σ H Q, t' σ H Q → t σ H Q) : PT X e t' := ⟨fun pins s σ H Q I q => h.run pins s σ H Q I (w _ _ _ q)⟩
theorem weakW {e : Expr} {t t' : TT} (h : PW X e t) (w : ∀ σ H Q, t' σ H Q → t σ H Q) : PW X e t' := ⟨fun wh pins s σ H Q I q => h.run wh pins s σ H Q I (w _ _ _ q)⟩
theorem weakA {es : List Expr} {t t' : TA} (h : PA X es t) (w : ∀ σ H Q, t' σ H Q → t σ H Q) : PA X es t' := ⟨fun p pins s σ H Q I q => h.run p pins s σ H Q I (w _ _ _ q)⟩
theorem weakS {st : Stmt} {t t' : TS} (h : PS X st t) (w : ∀ D σ H, t' D σ H → t D σ H) : PS X st t' := ⟨fun pins s σ H D I q => h.run pins s σ H D I (w _ _ _ q)⟩
theorem weakSs {st : List Stmt} {t t' : TS} (h : PSs X st t) (w : ∀ D σ H, t' D σ H → t D σ H) : PSs X st t' := ⟨fun pins s σ H D I q => h.run pins s σ H D I (w _ _ _ q)⟩

/-- a bool's test -/
theorem tT_of {e : Expr} {f : EvF} (h : PE X e (tE X.K f)) (he : ∀ whole, isTrue e X.env whole = (do let v ← whole; standAt e.pos; holding [v] (truthy v))) : PT X e (tT X.K f) := by
  refine weakT (pt_val h he) fun σ H Q ⟨F, t, env, τ, b, τ', S, e1, q⟩ => ⟨F, t, env, τ, _, τ', S, e1, fun F' v H' P r => ?_⟩
  cases r
  exact ⟨b, rfl, q F' H' P⟩

/-! ### operators by values -/
/-- what an operation by values does, what it gives -/
abbrev G1 := En → Tp → W → Option W
abbrev G2 := En → Tp → W → W → Option W
def OpOk (X : Cx) (f : Value → Value → Sem Value) (g : G2) : Prop := ∃ r : R2, OpR X f r ∧
  ∀ F H Hb t env τ σ v1 v2 w1 w2 w Q, Sok X.K F H t env τ σ → Rw X.K F H Hb t σ v1 w1 → Rw X.K F H Hb t σ v2 w2 → g env τ w1 w2 = some w →
    (∀ F' v H', Post X.K t τ F H F' H' → Rw X.K F' H' H t σ v w → Q v H') → r v1 v2 H Q
theorem OpOk.or {f : Value → Value → Sem Value} {g g' : G2} (h : OpOk X f g) (h' : OpOk X f g') : OpOk X f fun env τ a b => match g env τ a b with | some w => some w | none => g' env τ a b := by
  obtain ⟨r, o, s⟩ := h
  obtain ⟨r', o', s'⟩ := h'
  refine ⟨_, o.or o', fun F H Hb t env τ σ v1 v2 w1 w2 w Q S R1 R2 e q => ?_⟩
  dsimp only at e
  cases hg : g env τ w1 w2 with
  | some z =>
    rw [hg] at e
    cases e
    exact .inl (s F H Hb t env τ σ v1 v2 w1 w2 _ Q S R1 R2 hg q)
  | none =>
    rw [hg] at e
    exact .inr (s' F H Hb t env τ σ v1 v2 w1 w2 _ Q S R1 R2 e q)
def f2 (g : G2) (a b : EvF) : EvF := fun env τ => match a env τ with
  | some (x, τ1) => (match b env τ1 with
    | some (y, τ2) => (match g env τ2 x y with
      | some w => some (w, τ2)
      | none => none)
    | none => none)
  | none => none
/-- two operands, then an operation by values -/
theorem tOp_of {f : Value → Value → Sem Value} {g : G2} {a b : EvF} {r : R2} (hs : ∀ F H Hb t env τ σ v1 v2 w1 w2 w Q, Sok X.K F H t env τ σ → Rw X.K F H Hb t σ v1 w1 → Rw X.K F H Hb t σ v2 w2 → g env τ w1 w2 = some w →
    (∀ F' v H', Post X.K t τ F H F' H' → Rw X.K F' H' H t σ v w → Q v H') → r v1 v2 H Q) {σ : L2.St} {H : Hp} {Q : VK} (h : tE X.K (f2 g a b) σ H Q) : tOp r (tE X.K a) (tE X.K b) σ H Q := by
  obtain ⟨F, t, env, τ, w, τ', S, e, q⟩ := h
  unfold f2 at e
  split at e
  · rename_i x τ1 e1
    split at e
    · rename_i y τ2 e2
      split at e
      · rename_i w' e3
        cases e
        refine ⟨F, t, env, τ, x, τ1, S, e1, fun F1 v1 H1 P1 r1 => ?_⟩
        have S1 := S.post P1
        refine ⟨F1, t, env, τ1, y, _, S1, e2, fun F2 v2 H2 P2 r2 => ?_⟩
        have S2 := S1.post P2
        exact hs F2 H2 H t env _ σ v1 v2 x y _ Q S2 (r1.post P2) (r2.base P1) e3 fun F3 v3 H3 P3 r3 => q F3 v3 H3 (P1.trans (P2.trans P3)) (r3.base (P1.trans P2))
      · cases e
    · cases e
  · cases e
theorem bin_ok {op : Operator} {g : G2} {a b : EvF} {ea eb : Expr} {pos : Pos} (ho : OpOk X (binaryOp op) g) (ha : PE X ea (tE X.K a)) (hb : PE X eb (tE X.K b)) : PE X (.BinOp ea op eb pos) (tE X.K (f2 g a b)) := by
  obtain ⟨r, o, s⟩ := ho
  exact weakE (pe_op o ha hb) fun σ H Q h => tOp_of (f := binaryOp op) s h
theorem cmp_ok {op : CmpOp} {g : G2} {a b : EvF} {ea eb : Expr} {pos : Pos} (ho : OpOk X (compareOp op) g) (ha : PE X ea (tE X.K a)) (hb : PE X eb (tE X.K b)) (hm : behindInMarks op eb = false) : PE X (.Compare ea [op] [eb] pos) (tE X.K (f2 g a b)) := by
  obtain ⟨r, o, s⟩ := ho
  exact weakE (pe_cmpR o ha hb hm) fun σ H Q h => tOp_of (f := compareOp op) s h
theorem cmpT_ok {op : CmpOp} {g : G2} {a b : EvF} {ea eb : Expr} {pos : Pos} (ho : OpOk X (compareOp op) g) (ha : PE X ea (tE X.K a)) (hb : PE X eb (tE X.K b)) (hm : behindInMarks op eb = false) : PT X (.Compare ea [op] [eb] pos) (tT X.K (f2 g a b)) := by
  obtain ⟨r, o, s⟩ := ho
  refine weakT (pt_cmpR o ha hb hm) fun σ H Q ⟨F, t, env, τ, k, τ', S, e, q⟩ => tOp_of (f := compareOp op) s ⟨F, t, env, τ, _, τ', S, e, fun F' v H' P r => ?_⟩
  cases r
  exact ⟨k, rfl, q F' H' P⟩
end

/-! ### ints -/
def gI (g : Int → Int → Option D) : G2 := fun _ _ a b => match a, b with
  | .d (.int i), .d (.int j) => (g i j).map .d
  | _, _ => none
section
variable {X : Cx}
theorem ok_int {f : Value → Value → Sem Value} {C : Int → Int → Prop} {g : Int → Int → V} {gd : Int → Int → Option D} (o : OpR X f (rI C g)) (h : ∀ i j d, gd i j = some d → C i j ∧ ∀ F, Dq X.K F (g i j) d) : OpOk X f (gI gd) := by
  refine ⟨_, o, fun F H Hb t env τ σ v1 v2 w1 w2 w Q S R1 R2 e q => ?_⟩
  unfold gI at e
  split at e
  · rename_i i j
    cases hd : gd i j with
    | none => rw [hd] at e; cases e
    | some d =>
      rw [hd] at e
      cases e
      cases R1
      cases R2
      obtain ⟨h1, h2⟩ := h i j d hd
      exact ⟨i, j, rfl, rfl, h1, q F _ H (.refl S) (h2 F)⟩
  · cases e
theorem ok_int0 {f : Value → Value → Sem Value} {g : Int → Int → V} {gd : Int → Int → D} (o : OpR X f (rI0 g)) (h : ∀ i j F, Dq X.K F (g i j) (gd i j)) : OpOk X f (gI fun i j => some (gd i j)) := by
  refine ⟨_, o, fun F H Hb t env τ σ v1 v2 w1 w2 w Q S R1 R2 e q => ?_⟩
  unfold gI at e
  split at e
  · rename_i i j
    cases e
    cases R1
    cases R2
    exact ⟨i, j, rfl, rfl, q F _ H (.refl S) (h i j F)⟩
  · cases e
end

namespace PySem.SubBool
open PySem
theorem same_reflected_sub : reflectedDiffers (.type "int") (.type "bool") "sub" = pure false := by
  unfold reflectedDiffers
  show (typeLookup (.type "bool") (dunderR "sub") >>= fun rb => typeLookup (.type "int") (dunderR "sub") >>= fun ra => pure (rb.isSome && rb != ra)) = pure false
  rw [typeLookup_type, typeLookup_type, builtinLookup_eq_fast]; kernel_rfl
theorem sub_ib {prog : Program} {w : World} {A : Around} {E : Value → Shared → Prop} {s : Shared} {a : Int} {t : Tok} {b : Bool} {Q : Value → Shared → Prop} (h : Q (.int (a - if b = true then (1 : Int) else 0) s.toks) { s with toks := s.toks + 1 }) : wpAny (model prog w) A (binaryOp .Sub (.int a t) (.bool b)) Q E s :=
  binaryOp_sub_gives (op := .Sub) (T := "int") (U := "bool") (by decide) (typeIs_int s a t) rfl F.fills_int_sub F.fills_bool_sub isSubtype_bool_int same_reflected_sub F.slot_int_sub F.entry_int_sub (F.args_int_sub_2 _ _)
    (AutoIntG7.int___sub___int_bool_0 a t b) trivial h
end PySem.SubBool
open PySem PySem.Spec PyProof.Rows L2

section
variable {X : Cx}
theorem op_sub_ib : OpR X (binaryOp .Sub) (fun x y H Q => ∃ i k, x = .int i ∧ y = .bl k ∧ Q (.int (i - if k = true then (1 : Int) else 0)) H) := by
  intro pins s σ H x y v u Q I rx ry h
  obtain ⟨i, k, rfl, rfl, q⟩ := h
  obtain ⟨t, rfl⟩ := rx
  cases ry
  exact PySem.SubBool.sub_ib ⟨.int _, H, I.tok _, ⟨_, rfl⟩, q⟩
/-- x is y, x is not y: y None or a bool -/
def isP : V → Bool
  | .non => true
  | .bl _ => true
  | _ => false
theorem is_core {x y : V} {v u : Value} (rx : RelV x v) (ry : RelV y u) (h : isP y = true) : plainIs v u = true ∧ (v == u) = decide (x = y) := by
  cases y with
  | non =>
    cases ry
    refine ⟨?_, rx.none_iff⟩
    cases x <;> first | (cases rx; rfl) | (obtain ⟨t, rfl⟩ := rx; rfl)
  | bl b =>
    cases ry
    cases x with
    | bl c =>
      cases rx
      refine ⟨rfl, ?_⟩
      rw [Bool.eq_iff_iff]
      simp
    | non => cases rx; exact ⟨rfl, rfl⟩
    | ref a => cases rx; exact ⟨rfl, rfl⟩
    | ty n => cases rx; exact ⟨rfl, rfl⟩
    | int i => obtain ⟨t, rfl⟩ := rx; exact ⟨rfl, rfl⟩
    | str i => obtain ⟨t, rfl⟩ := rx; exact ⟨rfl, rfl⟩
    | byt i => obtain ⟨t, rfl⟩ := rx; exact ⟨rfl, rfl⟩
    | flt i => obtain ⟨t, rfl⟩ := rx; exact ⟨rfl, rfl⟩
  | _ => cases h
theorem op_isP : OpR X (compareOp .Is) (fun x y H Q => isP y = true ∧ Q (.bl (decide (x = y))) H) := by
  intro pins s σ H x y v u Q I rx ry ⟨h, q⟩
  obtain ⟨h1, h2⟩ := is_core rx ry h
  exact wpAny_is_plain h1 ⟨.bl _, H, I, by rw [h2]; rfl, q⟩
theorem op_isNotP : OpR X (compareOp .IsNot) (fun x y H Q => isP y = true ∧ Q (.bl (!decide (x = y))) H) := by
  intro pins s σ H x y v u Q I rx ry ⟨h, q⟩
  obtain ⟨h1, h2⟩ := is_core rx ry h
  exact wpAny_isNot_plain h1 ⟨.bl _, H, I, by rw [h2]; rfl, q⟩

theorem derefTup {F H Hb : Hp} {t : Option Addr} {env : En} {τ : Tp} {σ : L2.St} {K : PySem.W.Frag} {v : V} {w : W} {ds : List D} (S : Sok K F H t env τ σ) (r : Rw K F H Hb t σ v w) (e : seqOf env τ w = some (false, ds)) : Dq K F v (.tuple ds) := by
  cases w with
  | d x =>
    cases x with
    | tuple es => cases e; exact r
    | _ => cases e
  | loc i =>
    change (match env[i]? with | some (.own ds) => some (true, ds) | _ => none) = _ at e
    split at e <;> cases e
  | _ => cases e
/-! ### + - * // % ** -/
def gStr : G2 := fun _ _ a b => match a, b with
  | .d (.str x), .d (.str y) => if x.length + y.length ≤ sizeLine then some (.d (.str (x ++ y))) else none
  | _, _ => none
theorem ok_str : OpOk X (binaryOp .Add) gStr := by
  refine ⟨_, op_add_str, fun F H Hb t env τ σ v1 v2 w1 w2 w Q S R1 R2 e q => ?_⟩
  unfold gStr at e
  split at e
  · rename_i x y
    split at e
    · rename_i hl
      cases e
      cases R1
      cases R2
      exact ⟨x, y, rfl, rfl, hl, q F _ H (.refl S) (.str _)⟩
    · cases e
  · cases e
def gCat : G2 := fun env τ a b => match seqOf env τ a, seqOf env τ b with
  | some (true, x), some (true, y) => if x.length + y.length ≤ sizeLine then some (.new (x ++ y)) else none
  | some (false, x), some (false, y) => if x.length + y.length ≤ sizeLine then some (.d (.tuple (x ++ y))) else none
  | _, _ => none
theorem ok_cat : OpOk X (binaryOp .Add) gCat := by
  refine ⟨_, op_cat.or op_catA, fun F H Hb t env τ σ v1 v2 w1 w2 w Q S R1 R2 e q => ?_⟩
  unfold gCat at e
  split at e
  · rename_i x y e1 e2
    split at e
    · rename_i hl
      cases e
      obtain ⟨a, vs, rfl, d1, s1⟩ := deref S R1 e1
      obtain ⟨b, us, rfl, d2, s2⟩ := deref S R2 e2
      refine .inl ⟨a, b, vs, us, rfl, rfl, s1, s2, by rw [dqAll_len d1, dqAll_len d2]; exact hl, fun p hp => ?_⟩
      obtain ⟨P, r⟩ := S.newList hp (dqAll_append d1 d2)
      exact q _ _ _ P r
    · cases e
  · rename_i x y e1 e2
    split at e
    · rename_i hl
      cases e
      obtain ⟨a, vs, rfl, d1, s1⟩ := deref S R1 e1
      obtain ⟨b, us, rfl, d2, s2⟩ := deref S R2 e2
      refine .inr ⟨a, b, vs, us, rfl, rfl, s1, s2, by rw [dqAll_len d1, dqAll_len d2]; exact hl, fun z => ?_, fun z1 z2 => ?_, fun z1 z2 p hp => ?_⟩
      · subst z
        cases d1
        exact q F _ H (.refl S) (derefTup S R2 e2)
      · subst z2
        cases d2
        rw [List.append_nil] at q
        exact q F _ H (.refl S) (derefTup S R1 e1)
      · obtain ⟨P, r⟩ := S.newTup hp (dqAll_append d1 d2)
        exact q _ _ _ P r
    · cases e
  · cases e
/-! ### ==, < .. -/
def viewD (env : En) (τ : Tp) : W → Option D
  | .d x => some x
  | w => match seqOf env τ w with
    | some (true, ds) => some (.list ds)
    | _ => none
theorem viewDp {F H Hb : Hp} {t : Option Addr} {env : En} {τ : Tp} {σ : L2.St} {K : PySem.W.Frag} {v : V} {w : W} {x : D} (S : Sok K F H t env τ σ) (r : Rw K F H Hb t σ v w) (e : viewD env τ w = some x) : Dp K H v x := by
  have gen : ∀ w', seqOf env τ w' = some (true, ‹_›) → True := fun _ _ => trivial
  cases w with
  | d y => cases e; exact (dq_mono S.same r).dp
  | new ds =>
    cases e
    obtain ⟨a, vs, rfl, d1, s1⟩ := deref S r (b := true) (ds := ds) rfl
    exact .lst (SqL.of s1) (dqAll_mono S.same d1).dp
  | tp =>
    cases e
    obtain ⟨a, vs, rfl, d1, s1⟩ := deref S r (b := true) (ds := τ) rfl
    exact .lst (SqL.of s1) (dqAll_mono S.same d1).dp
  | loc i =>
    change (match seqOf env τ (.loc i) with | some (true, ds) => some (PyData.list ds) | _ => none) = some x at e
    split at e
    · rename_i ds e1
      cases e
      obtain ⟨a, vs, rfl, d1, s1⟩ := deref S r e1
      exact .lst (SqL.of s1) (dqAll_mono S.same d1).dp
    · cases e
def gEqD (neg : Bool) : G2 := fun env τ a b => match viewD env τ a, viewD env τ b with
  | some x, some y => if SeqAt.shaped x = true ∧ SeqAt.shaped y = true then some (.d (.bool (if neg then !PyData.eqv x y else PyData.eqv x y))) else none
  | _, _ => none
theorem ok_eq (hu : X.A.units + 64 < cLine) : OpOk X (compareOp .Eq) (gEqD false) := by
  refine ⟨_, op_eqD hu, fun F H Hb t env τ σ v1 v2 w1 w2 w Q S R1 R2 e q => ?_⟩
  unfold gEqD at e
  split at e
  · rename_i x y e1 e2
    split at e
    · rename_i hl
      cases e
      exact ⟨x, y, viewDp S R1 e1, viewDp S R2 e2, hl.1, hl.2, q F _ H (.refl S) (.bl _)⟩
    · cases e
  · cases e
theorem ok_ne (hu : X.A.units + 64 < cLine) : OpOk X (compareOp .NotEq) (gEqD true) := by
  refine ⟨_, op_neD hu, fun F H Hb t env τ σ v1 v2 w1 w2 w Q S R1 R2 e q => ?_⟩
  unfold gEqD at e
  split at e
  · rename_i x y e1 e2
    split at e
    · rename_i hl
      cases e
      exact ⟨x, y, viewDp S R1 e1, viewDp S R2 e2, hl.1, hl.2, q F _ H (.refl S) (.bl _)⟩
    · cases e
  · cases e

/-- ints out of data -/
def intsOf : List D → Option (List Int)
  | [] => some []
  | .int i :: r => match intsOf r with
    | some l => some (i :: l)
    | none => none
  | _ => none
theorem intsOf_eq : ∀ {ds : List D} {ns : List Int}, intsOf ds = some ns → ds = ns.map PyData.int
  | [], _, e => by cases e; rfl
  | .int i :: r, ns, e => by
    unfold intsOf at e
    split at e
    · rename_i l h
      cases e
      rw [intsOf_eq h]
      rfl
    · cases e
  | .none :: _, _, e => by cases e
  | .bool _ :: _, _, e => by cases e
  | .str _ :: _, _, e => by cases e
  | .list _ :: _, _, e => by cases e
  | .tuple _ :: _, _, e => by cases e
  | .dict _ :: _, _, e => by cases e
theorem intsOf_map : ∀ ns : List Int, intsOf (ns.map PyData.int) = some ns
  | [] => rfl
  | n :: r => by
    show (match intsOf (r.map PyData.int) with | some l => some (n :: l) | none => none) = _
    rw [intsOf_map r]
theorem dq_ints {K : PySem.W.Frag} {H : Hp} : ∀ {ns : List Int} {vs : List V}, DqAll K H vs (ns.map PyData.int) → vs = ns.map V.int
  | [], _, h => by cases h; rfl
  | n :: r, _, h => by
    cases h with
    | cons a b =>
      cases a
      rw [dq_ints b]
      rfl
def boolsOf : List D → Option (List Bool)
  | [] => some []
  | .bool i :: r => match boolsOf r with
    | some l => some (i :: l)
    | none => none
  | _ => none
theorem boolsOf_eq : ∀ {ds : List D} {ns : List Bool}, boolsOf ds = some ns → ds = ns.map PyData.bool
  | [], _, e => by cases e; rfl
  | .bool i :: r, ns, e => by
    unfold boolsOf at e
    split at e
    · rename_i l h
      cases e
      rw [boolsOf_eq h]
      rfl
    · cases e
  | .none :: _, _, e => by cases e
  | .int _ :: _, _, e => by cases e
  | .str _ :: _, _, e => by cases e
  | .list _ :: _, _, e => by cases e
  | .tuple _ :: _, _, e => by cases e
  | .dict _ :: _, _, e => by cases e
theorem boolsOf_map : ∀ ns : List Bool, boolsOf (ns.map PyData.bool) = some ns
  | [] => rfl
  | n :: r => by
    show (match boolsOf (r.map PyData.bool) with | some l => some (n :: l) | none => none) = _
    rw [boolsOf_map r]
theorem dq_bools {K : PySem.W.Frag} {H : Hp} : ∀ {ns : List Bool} {vs : List V}, DqAll K H vs (ns.map PyData.bool) → vs = ns.map V.bl
  | [], _, h => by cases h; rfl
  | n :: r, _, h => by
    cases h with
    | cons a b =>
      cases a
      rw [dq_bools b]
      rfl
/-- < and <= of tuples of ints -/
def lexLe : List Int → List Int → Bool
  | [], _ => true
  | _ :: _, [] => false
  | x :: xs, y :: ys => if x = y then lexLe xs ys else decide (x ≤ y)
theorem lexAt_le : ∀ (ns ms : List Int), Ob.lexAt (fun j => decide (ns.getD j 0 = ms.getD j 0)) (fun j => decide (ns.getD j 0 ≤ ms.getD j 0)) (decide (ns.length ≤ ms.length)) 0 (min ns.length ms.length) = lexLe ns ms := by
  have sh : ∀ (k i : Nat) (e r e' r' : Nat → Bool) (z z' : Bool), (∀ j, e' j = e (j + 1)) → (∀ j, r' j = r (j + 1)) → z = z' → Ob.lexAt e r z (i + 1) k = Ob.lexAt e' r' z' i k := by
    intro k
    induction k with
    | zero => intro i e r e' r' z z' _ _ hz; exact hz
    | succ k ih =>
      intro i e r e' r' z z' h1 h2 h3
      rw [Ob.lexAt_succ, Ob.lexAt_succ, h1, h2, ih (i + 1) e r e' r' z z' h1 h2 h3]
  intro ns
  induction ns with
  | nil => intro ms; simp [lexLe, Ob.lexAt_zero]
  | cons x xs ih =>
    intro ms
    cases ms with
    | nil => simp [lexLe, Ob.lexAt_zero]
    | cons y ys =>
      rw [List.length_cons, List.length_cons, Nat.add_min_add_right, Ob.lexAt_succ]
      unfold lexLe
      simp only [List.getD_cons_zero, decide_eq_true_eq]
      split
      · rw [← ih ys]
        exact sh _ _ _ _ _ _ _ _ (fun j => by simp) (fun j => by simp) (by simp)
      · rfl
def tupInts (env : En) (τ : Tp) (w : W) : Option (List Int) := match seqOf env τ w with
  | some (false, ds) => intsOf ds
  | _ => none
theorem tupInts_ok {F H Hb : Hp} {t : Option Addr} {env : En} {τ : Tp} {σ : L2.St} {K : PySem.W.Frag} {v : V} {w : W} {ns : List Int} (S : Sok K F H t env τ σ) (r : Rw K F H Hb t σ v w) (e : tupInts env τ w = some ns) :
    ∃ a, v = .ref a ∧ SqT K H a (ns.map V.int) := by
  unfold tupInts at e
  split at e
  · rename_i ds e1
    obtain ⟨a, vs, rfl, d, s⟩ := deref S r e1
    have h := intsOf_eq e
    subst h
    have h := dq_ints d
    subst h
    exact ⟨a, rfl, s⟩
  · cases e
def gLtT : G2 := fun env τ a b => match tupInts env τ a, tupInts env τ b with
  | some x, some y => some (.d (.bool (HT.lexLt x y)))
  | _, _ => none
def gLeT : G2 := fun env τ a b => match tupInts env τ a, tupInts env τ b with
  | some x, some y => some (.d (.bool (lexLe x y)))
  | _, _ => none
theorem ok_ltT (hu : X.A.units + 64 < cLine) : OpOk X (compareOp .Lt) gLtT := by
  refine ⟨_, op_ltT (by omega), fun F H Hb t env τ σ v1 v2 w1 w2 w Q S R1 R2 e q => ?_⟩
  unfold gLtT at e
  split at e
  · rename_i x y e1 e2
    cases e
    obtain ⟨a, rfl, h1⟩ := tupInts_ok S R1 e1
    obtain ⟨b, rfl, h2⟩ := tupInts_ok S R2 e2
    exact ⟨a, b, x, y, rfl, rfl, h1, h2, q F _ H (.refl S) (.bl _)⟩
  · cases e
theorem ok_leT (hu : X.A.units + 64 < cLine) : OpOk X (compareOp .LtE) gLeT := by
  refine ⟨_, op_leT (by omega), fun F H Hb t env τ σ v1 v2 w1 w2 w Q S R1 R2 e q => ?_⟩
  unfold gLeT at e
  split at e
  · rename_i x y e1 e2
    cases e
    obtain ⟨a, rfl, h1⟩ := tupInts_ok S R1 e1
    obtain ⟨b, rfl, h2⟩ := tupInts_ok S R2 e2
    exact ⟨a, b, x, y, rfl, rfl, h1, h2, by rw [lexAt_le]; exact q F _ H (.refl S) (.bl _)⟩
  · cases e
/-- is, is not: with None, True, False -/
def isD : W → D → Option Bool
  | .d .none, .none => some true
  | .d (.bool a), .bool b => some (a == b)
  | .loc _, _ => none
  | _, .none => some false
  | _, .bool _ => some false
  | _, _ => none
def gIs (neg : Bool) : G2 := fun _ _ a b => match b with
  | .d y => (match isD a y with
    | some c => some (.d (.bool (if neg then !c else c)))
    | none => none)
  | _ => none
theorem isD_ok {F H Hb : Hp} {t : Option Addr} {σ : L2.St} {K : PySem.W.Frag} {v u : V} {w : W} {d : D} {c : Bool} (r : Rw K F H Hb t σ v w) (ru : Dq K F u d) (e : isD w d = some c) : isP u = true ∧ decide (v = u) = c := by
  cases ru with
  | non =>
    refine ⟨rfl, ?_⟩
    cases w with
    | d x => cases r <;> (cases e; rfl)
    | tp => obtain ⟨a, _, rfl⟩ := r; cases e; rfl
    | new ds => obtain ⟨a, vs, rfl, _⟩ := r; cases e; rfl
    | loc i => cases e
  | bl b =>
    refine ⟨rfl, ?_⟩
    cases w with
    | d x =>
      cases r with
      | bl k =>
        cases e
        show decide (V.bl k = V.bl b) = (k == b)
        rw [Bool.eq_iff_iff]
        simp
      | _ => cases e; rfl
    | tp => obtain ⟨a, _, rfl⟩ := r; cases e; rfl
    | new ds => obtain ⟨a, vs, rfl, _⟩ := r; cases e; rfl
    | loc i => cases e
  | _ =>
    cases w with
    | d x => cases r <;> cases e
    | _ => cases e
theorem ok_is : OpOk X (compareOp .Is) (gIs false) := by
  refine ⟨_, op_isP, fun F H Hb t env τ σ v1 v2 w1 w2 w Q S R1 R2 e q => ?_⟩
  unfold gIs at e
  split at e
  · rename_i y
    split at e
    · rename_i c e1
      cases e
      obtain ⟨h1, h2⟩ := isD_ok R1 R2 e1
      exact ⟨h1, by rw [h2]; exact q F _ H (.refl S) (.bl _)⟩
    · cases e
  · cases e
theorem ok_isNot : OpOk X (compareOp .IsNot) (gIs true) := by
  refine ⟨_, op_isNotP, fun F H Hb t env τ σ v1 v2 w1 w2 w Q S R1 R2 e q => ?_⟩
  unfold gIs at e
  split at e
  · rename_i y
    split at e
    · rename_i c e1
      cases e
      obtain ⟨h1, h2⟩ := isD_ok R1 R2 e1
      exact ⟨h1, by rw [h2]; exact q F _ H (.refl S) (.bl _)⟩
    · cases e
  · cases e
/-! in, not in -/
def flatD : D → Bool
  | .none => true
  | .bool _ => true
  | .int _ => true
  | .str _ => true
  | _ => false
theorem flat_ok {K : PySem.W.Frag} {F : Hp} {v : V} {d : D} (r : Dq K F v d) (h : flatD d = true) : flatV v = true := by
  cases r <;> first | rfl | cases h
theorem flat_all {K : PySem.W.Frag} {F : Hp} : ∀ {ds : List D} {vs : List V}, DqAll K F vs ds → ds.all flatD = true → vs.all flatV = true
  | [], _, r, _ => by cases r; rfl
  | d :: ds, _, r, h => by
    cases r with
    | cons a b =>
      rw [List.all_cons, Bool.and_eq_true] at h ⊢
      exact ⟨flat_ok a h.1, flat_all b h.2⟩
theorem eqV_eqv {K : PySem.W.Frag} {F : Hp} {v u : V} {d e : D} (r : Dq K F v d) (r' : Dq K F u e) (h : flatD d = true) (h' : flatD e = true) : eqV v u = PyData.eqv d e := by
  cases r <;> first
    | (cases h; done)
    | (cases r' <;> first | (cases h'; done) | (simp [eqV, PyData.eqv]))
theorem inV_eqv {K : PySem.W.Frag} {F : Hp} {v : V} {d : D} (r : Dq K F v d) (h : flatD d = true) : ∀ {ds : List D} {vs : List V}, DqAll K F vs ds → ds.all flatD = true → inV v vs = ds.any fun z => PyData.eqv z d
  | [], _, q, _ => by cases q; rfl
  | e :: ds, _, q, h' => by
    cases q with
    | cons a b =>
      rw [List.all_cons, Bool.and_eq_true] at h'
      unfold inV
      rw [List.any_cons, List.any_cons, eqV_eqv a r h'.1 h]
      have := inV_eqv r h b h'.2
      unfold inV at this
      rw [this]
def gIn (neg : Bool) : G2 := fun env τ a b => match viewD env τ a, seqOf env τ b with
  | some x, some (true, ds) => if SeqAt.shaped x = true ∧ SeqAt.shaped (.list ds) = true then some (.d (.bool (if neg then !(ds.any fun z => PyData.eqv z x) else ds.any fun z => PyData.eqv z x))) else none
  | some x, some (false, ds) => if flatD x = true ∧ ds.all flatD = true then some (.d (.bool (if neg then !(ds.any fun z => PyData.eqv z x) else ds.any fun z => PyData.eqv z x))) else none
  | _, _ => none
theorem flat_view {F H Hb : Hp} {t : Option Addr} {env : En} {τ : Tp} {σ : L2.St} {K : PySem.W.Frag} {v : V} {w : W} {x : D} (r : Rw K F H Hb t σ v w) (e : viewD env τ w = some x) (h : flatD x = true) : Dq K F v x := by
  cases w with
  | d y => cases e; exact r
  | new ds => cases e; cases h
  | tp => cases e; cases h
  | loc i =>
    change (match seqOf env τ (.loc i) with | some (true, ds) => some (PyData.list ds) | _ => none) = some x at e
    split at e
    · cases e; cases h
    · cases e
theorem seqList {F H Hb : Hp} {t : Option Addr} {env : En} {τ : Tp} {σ : L2.St} {K : PySem.W.Frag} {v : V} {w : W} {ds : List D} (S : Sok K F H t env τ σ) (r : Rw K F H Hb t σ v w) (e : seqOf env τ w = some (true, ds)) : Dp K H v (.list ds) := by
  obtain ⟨a, vs, rfl, d, s⟩ := deref S r e
  exact .lst (SqL.of s) (dqAll_mono S.same d).dp
theorem ok_in (hu : X.A.units + 65 < cLine) : OpOk X (compareOp .In) (gIn false) := by
  refine ⟨_, (op_inD hu).or op_in_seq, fun F H Hb t env τ σ v1 v2 w1 w2 w Q S R1 R2 e q => ?_⟩
  unfold gIn at e
  split at e
  · rename_i x ds e1 e2
    split at e
    · rename_i hc
      cases e
      exact .inl ⟨x, ds, viewDp S R1 e1, seqList S R2 e2, hc.1, hc.2, q F _ H (.refl S) (.bl _)⟩
    · cases e
  · rename_i x ds e1 e2
    split at e
    · rename_i hc
      cases e
      obtain ⟨a, vs, rfl, d, s⟩ := deref S R2 e2
      have hx := flat_view R1 e1 hc.1
      refine .inr ⟨a, vs, rfl, .inr s, flat_ok hx hc.1, flat_all d hc.2, ?_⟩
      rw [inV_eqv hx hc.1 d hc.2]
      exact q F _ H (.refl S) (.bl _)
    · cases e
  · cases e
theorem ok_notIn (hu : X.A.units + 65 < cLine) : OpOk X (compareOp .NotIn) (gIn true) := by
  refine ⟨_, (op_notInD hu).or op_notIn_seq, fun F H Hb t env τ σ v1 v2 w1 w2 w Q S R1 R2 e q => ?_⟩
  unfold gIn at e
  split at e
  · rename_i x ds e1 e2
    split at e
    · rename_i hc
      cases e
      exact .inl ⟨x, ds, viewDp S R1 e1, seqList S R2 e2, hc.1, hc.2, q F _ H (.refl S) (.bl _)⟩
    · cases e
  · rename_i x ds e1 e2
    split at e
    · rename_i hc
      cases e
      obtain ⟨a, vs, rfl, d, s⟩ := deref S R2 e2
      have hx := flat_view R1 e1 hc.1
      refine .inr ⟨a, vs, rfl, .inr s, flat_ok hx hc.1, flat_all d hc.2, ?_⟩
      rw [inV_eqv hx hc.1 d hc.2]
      exact q F _ H (.refl S) (.bl _)
    · cases e
  · cases e

/-! ### arithmetic -/
def gSubB : G2 := fun _ _ a b => match a, b with
  | .d (.int i), .d (.bool k) => some (.d (.int (i - if k = true then (1 : Int) else 0)))
  | _, _ => none
theorem ok_subB : OpOk X (binaryOp .Sub) gSubB := by
  refine ⟨_, op_sub_ib, fun F H Hb t env τ σ v1 v2 w1 w2 w Q S R1 R2 e q => ?_⟩
  unfold gSubB at e
  split at e
  · cases e
    cases R1
    cases R2
    exact ⟨_, _, rfl, rfl, q F _ H (.refl S) (.int _)⟩
  · cases e
def dMul (i j : Int) : Option D := if i.natAbs.log2 + j.natAbs.log2 < 1000000 then some (.int (i * j)) else none
def dDiv (i j : Int) : Option D := if 0 < j ∧ j.natAbs.log2 < 9000 then some (.int (i / j)) else none
def dMod (i j : Int) : Option D := if 0 < j then some (.int (i % j)) else none
def dPow (i j : Int) : Option D := if 0 ≤ j ∧ j ≤ 1000000 ∧ i.natAbs < 2 ^ 64 then some (.int (i ^ j.toNat)) else none
theorem ok_mulI : OpOk X (binaryOp .Mult) (gI dMul) := ok_int op_mulW fun i j d e => by
  unfold dMul at e
  split at e
  · rename_i h; cases e; exact ⟨h, fun F => .int _⟩
  · cases e
theorem ok_div : OpOk X (binaryOp .FloorDiv) (gI dDiv) := ok_int op_fdivW fun i j d e => by
  unfold dDiv at e
  split at e
  · rename_i h; cases e; exact ⟨h, fun F => .int _⟩
  · cases e
theorem ok_mod : OpOk X (binaryOp .Mod) (gI dMod) := ok_int op_mod fun i j d e => by
  unfold dMod at e
  split at e
  · rename_i h; cases e; exact ⟨h, fun F => .int _⟩
  · cases e
theorem ok_pow : OpOk X (binaryOp .Pow) (gI dPow) := ok_int op_pow fun i j d e => by
  unfold dPow at e
  split at e
  · rename_i h; cases e; exact ⟨h, fun F => .int _⟩
  · cases e
/-- a list times an int -/
def gRep : G2 := fun env τ a b => match seqOf env τ a, b with
  | some (true, ds), .d (.int k) => if -(2 ^ 63) ≤ k ∧ k < 2 ^ 63 ∧ ds.length * k.toNat ≤ sizeLine then some (.new (List.replicate k.toNat ds).flatten) else none
  | _, _ => none
theorem ok_rep : OpOk X (binaryOp .Mult) gRep := by
  refine ⟨_, op_rep, fun F H Hb t env τ σ v1 v2 w1 w2 w Q S R1 R2 e q => ?_⟩
  unfold gRep at e
  split at e
  · rename_i ds k e1
    split at e
    · rename_i hc
      cases e
      cases R2
      obtain ⟨a, vs, rfl, d, s⟩ := deref S R1 e1
      refine ⟨a, k, vs, rfl, rfl, s, hc.1, hc.2.1, by rw [dqAll_len d]; exact hc.2.2, fun p hp => ?_⟩
      obtain ⟨P, r⟩ := S.newList hp (dqAll_rep d k.toNat)
      exact q _ _ _ P r
    · cases e
  · cases e
/-! ### the operators -/
def gAdd : G2 := fun env τ a b => match gI (fun i j => some (.int (i + j))) env τ a b with
  | some w => some w
  | none => match gStr env τ a b with
    | some w => some w
    | none => gCat env τ a b
theorem ok_add : OpOk X (binaryOp .Add) gAdd := OpOk.or (ok_int0 op_add fun i j F => .int _) (OpOk.or ok_str ok_cat)
def gSub : G2 := fun env τ a b => match gI (fun i j => some (.int (i - j))) env τ a b with
  | some w => some w
  | none => gSubB env τ a b
theorem ok_sub : OpOk X (binaryOp .Sub) gSub := OpOk.or (ok_int0 op_sub fun i j F => .int _) ok_subB
def gLt : G2 := fun env τ a b => match gI (fun i j => some (.bool (decide (i < j)))) env τ a b with
  | some w => some w
  | none => gLtT env τ a b
theorem ok_lt (hu : X.A.units + 64 < cLine) : OpOk X (compareOp .Lt) gLt := OpOk.or (ok_int0 op_lt fun i j F => .bl _) (ok_ltT hu)
def gLe : G2 := fun env τ a b => match gI (fun i j => some (.bool (decide (i ≤ j)))) env τ a b with
  | some w => some w
  | none => gLeT env τ a b
theorem ok_le (hu : X.A.units + 64 < cLine) : OpOk X (compareOp .LtE) gLe := OpOk.or (ok_int0 op_le fun i j F => .bl _) (ok_leT hu)
theorem ok_gt : OpOk X (compareOp .Gt) (gI fun i j => some (.bool (decide (j < i)))) := ok_int0 op_gt fun i j F => .bl _
theorem ok_ge : OpOk X (compareOp .GtE) (gI fun i j => some (.bool (decide (j ≤ i)))) := ok_int0 op_ge fun i j F => .bl _
end

open PySem PySem.Spec PyProof.Rows L2

/-! ### a tuple times 1, times nothing -/
theorem tupMul_one (l : Addr) (items : Array Value) (n : Nat) (dd : Option Addr) (sl : Array (Option Value)) (x : Int) (u : Tok) (c0 : (decide (x < -(2 ^ 63)) || decide (x ≥ 2 ^ 63)) = false) (c1 : (items.isEmpty || x == 1) = true) :
    Meets (Builtin.«tuple.__mul__» ⟨[.ref l, .int x u], []⟩) (fun _ R s => s.heap.get? l = some { cls := .type "tuple", dict := dd, data := .seq items n, slots := sl } ∧ R (.ok (.ret (Value.ref l))) s) :=
  .of_wp fun prog w A R s h => by
    obtain ⟨hp, g, d, tk, os⟩ := s
    obtain ⟨hl, h⟩ := h
    have f1 := AutoSeq1.idx_int
    wp_walk using wpAny_loadPart' hl
    repeat (first
      | (refine wpAny_ite_false (decide_eq_false (by rw [c0]; exact Bool.false_ne_true)) ?_; wp_walk using wpAny_loadPart' hl)
      | (refine wpAny_ite_true (decide_eq_true c1) ?_; wp_walk using wpAny_loadPart' hl))
    exact ⟨_, rfl, h⟩
theorem tupMul_none (l : Addr) (items : Array Value) (n : Nat) (dd : Option Addr) (sl : Array (Option Value)) (x : Int) (u : Tok) (c0 : (decide (x < -(2 ^ 63)) || decide (x ≥ 2 ^ 63)) = false) (c1 : (items.isEmpty || x == 1) = false) (c2 : (decide (x ≤ 0) || items.isEmpty) = true) :
    Meets (Builtin.«tuple.__mul__» ⟨[.ref l, .int x u], []⟩) (fun _ R s => s.heap.get? l = some { cls := .type "tuple", dict := dd, data := .seq items n, slots := sl } ∧
      R (.ok (.ret (Value.ref s.heap.objs.size))) { s with heap := s.heap.push { cls := Value.type "tuple", data := Data.seq #[] }, toks := s.toks }) :=
  .of_wp fun prog w A R s h => by
    obtain ⟨hp, g, d, tk, os⟩ := s
    obtain ⟨hl, h⟩ := h
    have f1 := AutoSeq1.idx_int
    wp_walk using wpAny_loadPart' hl
    repeat (first
      | (refine wpAny_ite_false (decide_eq_false (by rw [c0]; exact Bool.false_ne_true)) ?_; wp_walk using wpAny_loadPart' hl)
      | (refine wpAny_ite_false (decide_eq_false (by rw [c1]; exact Bool.false_ne_true)) ?_; wp_walk using wpAny_loadPart' hl)
      | (refine wpAny_ite_true (decide_eq_true c2) ?_; wp_walk using wpAny_loadPart' hl))
    exact ⟨_, rfl, h⟩
section
variable {X : Cx}
def rTupMul (K : PySem.W.Frag) : R2 := fun x y H Q => ∃ l k xs, x = .ref l ∧ y = .int k ∧ SqT K H l xs ∧ xs ≠ [] ∧ -(2 ^ 62) ≤ k ∧ k ≤ 1 ∧ ((k = 1 ∧ Q (.ref l) H) ∨ (k ≤ 0 ∧ ∀ p, H p = none → Q (.ref p) (upd H p (.tup []))))
theorem op_tupMul : OpR X (binaryOp .Mult) (rTupMul X.K) := by
  intro pins s σ H x y v u Q I rx ry h
  obtain ⟨l, k, xs, rfl, rfl, hT, hne, hk0, hk, h⟩ := h
  cases rx
  obtain ⟨t, rfl⟩ := ry
  obtain ⟨its, r, ⟨⟨cls, dd, data, sl⟩, ho, hc, n, hd⟩, hs⟩ := I.tuple hT
  simp only at hc hd
  subst hc hd
  have hle : its.length = xs.length := r.length.symm
  have hn : its ≠ [] := fun e => hne (by
    rw [e] at hle
    exact List.eq_nil_of_length_eq_zero hle.symm)
  have hi : its.toArray.isEmpty = false := by
    cases its with
    | nil => exact absurd rfl hn
    | cons a b => rfl
  have c0 : (decide (k < -(2 ^ 63)) || decide (k ≥ 2 ^ 63)) = false := by
    rw [decide_eq_false (by omega), decide_eq_false (by omega)] <;> rfl
  have road : ∀ {m}, Meets (Builtin.«tuple.__mul__» ⟨[.ref l, .int k t], []⟩) m → m (X.A.in1.in1) (fun r s' => ∃ z, r = .ok (.ret z) ∧ EP X pins σ Q z s') s → True := fun _ _ => trivial
  rcases h with ⟨h1, q⟩ | ⟨h1, q⟩
  · refine wpAny_binaryOp_repeat_ref (T := "tuple") (U := "int") (by decide) ⟨_, ho, rfl⟩ (fun s' => typeIs_int s' k t) noFill_tuple_mul F.fills_int_mul F.slot_int_rmul repeat_tuple F.slot_int_index.lookup
      (call_meets F.slot_int_rmul (typeIs_int s k t) F.entry_int_rmul (F.args_int_rmul_2 _ _) (int_rmul_tuple k t l its.toArray n dd sl)
        ⟨ho, rfl, ⟨_, ho, rfl⟩, call_meets F.slot_tuple_mul ⟨_, ho, rfl⟩ F.entry_tuple_mul (F.args_tuple_mul_2 _ _) (tupMul_one l its.toArray n dd sl k t c0 (by rw [hi, h1]; rfl)) ⟨ho, ?_⟩⟩)
    exact ⟨.ref l, H, I, rfl, q⟩
  · have c1 : (its.toArray.isEmpty || k == 1) = false := by
      rw [hi, Bool.false_or]
      exact beq_eq_false_iff_ne.mpr (by omega)
    have c2 : (decide (k ≤ 0) || its.toArray.isEmpty) = true := by
      rw [decide_eq_true h1]
      rfl
    refine wpAny_binaryOp_repeat_ref (T := "tuple") (U := "int") (by decide) ⟨_, ho, rfl⟩ (fun s' => typeIs_int s' k t) noFill_tuple_mul F.fills_int_mul F.slot_int_rmul repeat_tuple F.slot_int_index.lookup
      (call_meets F.slot_int_rmul (typeIs_int s k t) F.entry_int_rmul (F.args_int_rmul_2 _ _) (int_rmul_tuple k t l its.toArray n dd sl)
        ⟨ho, rfl, ⟨_, ho, rfl⟩, call_meets F.slot_tuple_mul ⟨_, ho, rfl⟩ F.entry_tuple_mul (F.args_tuple_mul_2 _ _) (tupMul_none l its.toArray n dd sl k t c0 c1 c2) ⟨ho, ?_⟩⟩)
    refine ⟨.ref s.heap.objs.size, _, I.laid (t' := s.toks) (o := .tup []) (fun b ob q => Heap.get?_push_of_some _ q) (Nat.le_refl _) ?_, rfl, q _ (I.hok.fresh (Nat.le_refl _))⟩
    exact ⟨Nat.zero_le _, [], .nil, IsTup.new _ _⟩
def gRepT : G2 := fun env τ a b => match seqOf env τ a, b with
  | some (false, ds), .d (.int k) => if ds ≠ [] ∧ 0 ≤ k ∧ k ≤ 1000 ∧ ds.length ≤ 1000 then some (.d (.tuple (List.replicate k.toNat ds).flatten)) else none
  | _, _ => none
theorem ok_repT : OpOk X (binaryOp .Mult) gRepT := by
  refine ⟨_, op_repT.or op_tupMul, fun F H Hb t env τ σ v1 v2 w1 w2 w Q S R1 R2 e q => ?_⟩
  unfold gRepT at e
  split at e
  · rename_i ds k e1
    split at e
    · rename_i hc
      cases e
      cases R2
      have hq := derefTup S R1 e1
      obtain ⟨a, vs, rfl, d, s⟩ := deref S R1 e1
      have hne : vs ≠ [] := fun z => hc.1 (by
        subst z
        cases d
        rfl)
      by_cases h2 : 2 ≤ k
      · refine .inl ⟨a, k, vs, rfl, rfl, s, hne, h2, hc.2.2.1, by rw [dqAll_len d]; exact hc.2.2.2, fun p hp => ?_⟩
        obtain ⟨P, r⟩ := S.newTup hp (dqAll_rep d k.toNat)
        exact q _ _ _ P r
      · refine .inr ⟨a, k, vs, rfl, rfl, s, hne, by omega, by omega, ?_⟩
        by_cases h1 : k = 1
        · subst h1
          refine .inl ⟨rfl, ?_⟩
          have e3 : (List.replicate (Int.toNat 1) ds).flatten = ds := by simp
          rw [e3] at q
          exact q F _ H (.refl S) hq
        · have h0 : k = 0 := by omega
          subst h0
          refine .inr ⟨by omega, fun p hp => ?_⟩
          obtain ⟨P, r⟩ := S.newTup hp (vs := []) (ds := []) .nil
          exact q _ _ _ P r
    · cases e
  · cases e
def gMul : G2 := fun env τ a b => match gI dMul env τ a b with
  | some w => some w
  | none => match gRep env τ a b with
    | some w => some w
    | none => gRepT env τ a b
theorem ok_mul : OpOk X (binaryOp .Mult) gMul := OpOk.or ok_mulI (OpOk.or ok_rep ok_repT)
end

open PySem PySem.Spec PyProof.Rows L2
open PySem.W (alike alikeAll alike_unique dataLt minD maxD AlikeAll min_list_data min_tuple_data max_list_data max_tuple_data)
section
variable {X : Cx}
/-! ### calls of built-in functions by values -/
def C1Ok (X : Cx) (f : Value) (g : G1) : Prop := ∃ r : List V → Hp → VK → Prop, CallR X f r ∧
  ∀ F H Hb t env τ σ v w w' Q, Sok X.K F H t env τ σ → Rw X.K F H Hb t σ v w → g env τ w = some w' →
    (∀ F' v' H', Post X.K t τ F H F' H' → Rw X.K F' H' H t σ v' w' → Q v' H') → r [v] H Q
theorem C1Ok.or {f : Value} {g g' : G1} (h : C1Ok X f g) (h' : C1Ok X f g') : C1Ok X f fun env τ a => match g env τ a with | some w => some w | none => g' env τ a := by
  obtain ⟨r, o, s⟩ := h
  obtain ⟨r', o', s'⟩ := h'
  refine ⟨_, o.or o', fun F H Hb t env τ σ v w w' Q S R e q => ?_⟩
  dsimp only at e
  cases hg : g env τ w with
  | some z =>
    rw [hg] at e
    cases e
    exact .inl (s F H Hb t env τ σ v w _ Q S R hg q)
  | none =>
    rw [hg] at e
    exact .inr (s' F H Hb t env τ σ v w w' Q S R e q)
def f1 (g : G1) (a : EvF) : EvF := fun env τ => match a env τ with
  | some (x, τ1) => (match g env τ1 x with
    | some w => some (w, τ1)
    | none => none)
  | none => none
theorem tCB1 {g : G1} {a : EvF} {r : List V → Hp → VK → Prop} (hs : ∀ F H Hb t env τ σ v w w' Q, Sok X.K F H t env τ σ → Rw X.K F H Hb t σ v w → g env τ w = some w' →
    (∀ F' v' H', Post X.K t τ F H F' H' → Rw X.K F' H' H t σ v' w' → Q v' H') → r [v] H Q) {σ : L2.St} {H : Hp} {Q : VK} (h : tE X.K (f1 g a) σ H Q) : tCB r (tCons (tE X.K a) tNil) σ H Q := by
  obtain ⟨F, t, env, τ, w, τ', S, e, q⟩ := h
  unfold f1 at e
  split at e
  · rename_i x τ1 e1
    split at e
    · rename_i w' e2
      cases e
      refine ⟨F, t, env, τ, x, _, S, e1, fun F1 v1 H1 P1 r1 => ?_⟩
      exact hs F1 H1 H t env _ σ v1 x _ Q (S.post P1) r1 e2 fun F3 v3 H3 P3 r3 => q F3 v3 H3 (P1.trans P3) (r3.base P1)
    · cases e
  · cases e

def gLen : G1 := fun env τ w => match w with
  | .d (.str z) => if z.length ≤ sizeLine then some (.d (.int z.length)) else none
  | _ => match seqOf env τ w with
    | some (_, ds) => some (.d (.int ds.length))
    | none => none
theorem ok_len : C1Ok X (.builtin "len") gLen := by
  refine ⟨_, call_len_seq.or call_len_str, fun F H Hb t env τ σ v w w' Q S R e q => ?_⟩
  unfold gLen at e
  split at e
  · rename_i z
    split at e
    · rename_i hz
      cases e
      cases R
      exact .inr ⟨z, rfl, hz, q F _ H (.refl S) (.int _)⟩
    · cases e
  · split at e
    · rename_i b ds e1
      cases e
      obtain ⟨a, vs, rfl, d, s⟩ := deref S R e1
      exact .inl ⟨a, vs, rfl, s.len, by rw [dqAll_len d]; exact q F _ H (.refl S) (.int _)⟩
    · cases e
def gAbs : G1 := fun _ _ w => match w with
  | .d (.int i) => some (.d (.int (if i < 0 then -i else i)))
  | _ => none
theorem ok_abs : C1Ok X (.builtin "abs") gAbs := by
  refine ⟨_, call_abs, fun F H Hb t env τ σ v w w' Q S R e q => ?_⟩
  unfold gAbs at e
  split at e
  · cases e
    cases R
    exact ⟨_, rfl, q F _ H (.refl S) (.int _)⟩
  · cases e
def bools (env : En) (τ : Tp) (w : W) : Option (List Bool) := match seqOf env τ w with
  | some (true, ds) => boolsOf ds
  | _ => none
theorem bools_ok {F H Hb : Hp} {t : Option Addr} {env : En} {τ : Tp} {σ : L2.St} {K : PySem.W.Frag} {v : V} {w : W} {bs : List Bool} (S : Sok K F H t env τ σ) (r : Rw K F H Hb t σ v w) (e : bools env τ w = some bs) :
    ∃ a, v = .ref a ∧ SqL K H a (bs.map V.bl) := by
  unfold bools at e
  split at e
  · rename_i ds e1
    obtain ⟨a, vs, rfl, d, s⟩ := deref S r e1
    have h := boolsOf_eq e
    subst h
    have h := dq_bools d
    subst h
    exact ⟨a, rfl, SqL.of s⟩
  · cases e
def gAll : G1 := fun env τ w => (bools env τ w).map fun bs => .d (.bool (bs.all id))
def gAny : G1 := fun env τ w => (bools env τ w).map fun bs => .d (.bool (bs.any id))
theorem ok_all (hc : X.calm = true) : C1Ok X (.builtin "all") gAll := by
  refine ⟨_, cr_all hc, fun F H Hb t env τ σ v w w' Q S R e q => ?_⟩
  unfold gAll at e
  cases hb : bools env τ w with
  | none => rw [hb] at e; cases e
  | some bs =>
    rw [hb] at e
    cases e
    obtain ⟨a, rfl, s⟩ := bools_ok S R hb
    exact ⟨a, bs, rfl, s, q F _ H (.refl S) (.bl _)⟩
theorem ok_any (hc : X.calm = true) : C1Ok X (.builtin "any") gAny := by
  refine ⟨_, cr_any hc, fun F H Hb t env τ σ v w w' Q S R e q => ?_⟩
  unfold gAny at e
  cases hb : bools env τ w with
  | none => rw [hb] at e; cases e
  | some bs =>
    rw [hb] at e
    cases e
    obtain ⟨a, rfl, s⟩ := bools_ok S R hb
    exact ⟨a, bs, rfl, s, q F _ H (.refl S) (.bl _)⟩
/-- tuple(x), list(x) -/
def gTuple : G1 := fun env τ w => match seqOf env τ w with
  | some (_, ds) => some (.d (.tuple ds))
  | none => none
theorem ok_tuple : C1Ok X (.type "tuple") gTuple := by
  refine ⟨_, call_tuple_of, fun F H Hb t env τ σ v w w' Q S R e q => ?_⟩
  unfold gTuple at e
  split at e
  · rename_i b ds e1
    cases e
    cases b with
    | true =>
      obtain ⟨a, vs, rfl, d, s⟩ := deref S R e1
      refine ⟨a, vs, rfl, .inl ⟨SqL.of s, fun p hp => ?_⟩⟩
      obtain ⟨P, r⟩ := S.newTup hp d
      exact q _ _ _ P r
    | false =>
      have hq := derefTup S R e1
      obtain ⟨a, vs, rfl, d, s⟩ := deref S R e1
      exact ⟨a, vs, rfl, .inr ⟨s, q F _ H (.refl S) hq⟩⟩
  · cases e
def gList : G1 := fun env τ w => match seqOf env τ w with
  | some (_, ds) => some (.new ds)
  | none => none
theorem ok_list : C1Ok X (.type "list") gList := by
  refine ⟨_, call_list_of, fun F H Hb t env τ σ v w w' Q S R e q => ?_⟩
  unfold gList at e
  split at e
  · rename_i b ds e1
    cases e
    obtain ⟨a, vs, rfl, d, s⟩ := deref S R e1
    refine ⟨a, vs, rfl, s.len, fun p hp => ?_⟩
    obtain ⟨P, r⟩ := S.newList hp d
    exact q _ _ _ P r
  · cases e
def gInt : G1 := fun _ _ w => match w with
  | .d (.int i) => some (.d (.int i))
  | .d (.bool k) => some (.d (.int (if k then 1 else 0)))
  | _ => none
theorem ok_intB : C1Ok X (.type "int") gInt := by
  refine ⟨_, call_int1, fun F H Hb t env τ σ v w w' Q S R e q => ?_⟩
  unfold gInt at e
  split at e
  · cases e
    cases R
    exact .inl ⟨_, rfl, q F _ H (.refl S) (.int _)⟩
  · cases e
    cases R
    exact .inr ⟨_, rfl, q F _ H (.refl S) (.int _)⟩
  · cases e
end

/-! ### min, max of data; sorted of data -/
theorem dp_alike_eq {K : PySem.W.Frag} {H : Hp} {X : Cx} {pins : List (Addr × Obj)} {σ : L2.St} {s : Shared} (I : Inv X pins σ H s) {v : V} {u : Value} {d e : D} (h : Dp X.K H v d) (ru : RelV v u) {h' : Heap} {as : List Addr} (k : ∀ b o, s.heap.get? b = some o → h'.get? b = some o) (r : Reads h' u e as) (ha : alike d e = true) : d = e := by
  obtain ⟨bs, r1⟩ := Dp.reads I d v u h ru
  exact alike_unique d e u bs as ha (PyProof.Rows.Reads.keeps k r1) r
theorem minD_mem (x : D) (xs : List D) : minD x xs ∈ x :: xs := by
  unfold minD
  induction xs generalizing x with
  | nil => simp
  | cons y ys ih =>
    rw [List.foldl_cons]
    have := ih (if dataLt y x then y else x)
    rcases List.mem_cons.mp this with h | h
    · rw [h]
      split <;> simp
    · exact List.mem_cons_of_mem _ (List.mem_cons_of_mem _ h)
theorem maxD_mem (x : D) (xs : List D) : maxD x xs ∈ x :: xs := by
  unfold maxD
  induction xs generalizing x with
  | nil => simp
  | cons y ys ih =>
    rw [List.foldl_cons]
    have := ih (if dataLt x y then y else x)
    rcases List.mem_cons.mp this with h | h
    · rw [h]
      split <;> simp
    · exact List.mem_cons_of_mem _ (List.mem_cons_of_mem _ h)
def isNone : D → Bool
  | .none => true
  | _ => false
def alikeB (ds : List D) : Bool := ds.all (fun x => ds.all fun y => alike x y) && ds.all fun x => !isNone x
theorem alikeB_ok {ds : List D} (h : alikeB ds = true) : AlikeAll ds := by
  unfold alikeB at h
  rw [Bool.and_eq_true, List.all_eq_true, List.all_eq_true] at h
  refine ⟨fun x hx y hy => ?_, fun x hx e => ?_⟩
  · have := h.1 x hx
    rw [List.all_eq_true] at this
    exact this y hy
  · have := h.2 x hx
    rw [e] at this
    cases this
def gMin : G1 := fun env τ w => match seqOf env τ w with
  | some (_, x :: xs) => if alikeB (x :: xs) = true ∧ PyData.depthAll (x :: xs) ≤ 60 then some (.d (minD x xs)) else none
  | _ => none
def gMax : G1 := fun env τ w => match seqOf env τ w with
  | some (_, x :: xs) => if alikeB (x :: xs) = true ∧ PyData.depthAll (x :: xs) ≤ 60 then some (.d (maxD x xs)) else none
  | _ => none
section
variable {X : Cx}
/-- min, max of a list or tuple of alike data -/
def rMM (K : PySem.W.Frag) (m : D → List D → D) : List V → Hp → VK → Prop := fun vs H Q => ∃ (a : Addr) (us : List V) (x : D) (xs : List D), vs = [V.ref a] ∧ (SqL K H a us ∨ SqT K H a us) ∧ DpAll K H us (x :: xs) ∧ AlikeAll (x :: xs) ∧ PyData.depthAll (x :: xs) ≤ 60 ∧
  ∀ (i : Nat) (v : V), us[i]? = some v → (x :: xs)[i]? = some (m x xs) → Q v H
theorem dpAll_at' {K : PySem.W.Frag} {H : Hp} : ∀ {ds : List D} {vs : List V} {i : Nat} {v : V}, DpAll K H vs ds → vs[i]? = some v → ∃ d, ds[i]? = some d ∧ Dp K H v d
  | [], _, i, v, h, e => by cases h; simp at e
  | d :: ds, _, 0, v, h, e => by
    cases h with
    | cons a b =>
      simp at e
      subst e
      exact ⟨d, rfl, a⟩
  | d :: ds, _, i + 1, v, h, e => by
    cases h with
    | cons a b =>
      obtain ⟨x, hx, hd⟩ := dpAll_at' (i := i) b (by simpa using e)
      exact ⟨x, by simpa using hx, hd⟩
theorem vals_at {xs : List V} {us : List Value} (r : Vals xs us) {i : Nat} {u : Value} (e : us[i]? = some u) : ∃ x, xs[i]? = some x ∧ RelV x u := by
  have hl := r.length
  have hi : i < xs.length := by
    have := (List.getElem?_eq_some_iff.mp e).1
    omega
  obtain ⟨u', h1, h2⟩ := r.get (i := i) (x := xs[i]) (by simp [hi])
  rw [e] at h1
  cases h1
  exact ⟨_, by simp [hi], h2⟩
theorem mm_end {pins : List (Addr × Obj)} {σ : L2.St} {H : Hp} {s : Shared} (I : Inv X pins σ H s) {us : List V} {its : List Value} {x : D} {xs : List D} {m : D → List D → D} {Q : VK} (hm : m x xs ∈ x :: xs) (rv : Vals us its) (hd : DpAll X.K H us (x :: xs)) (ha : AlikeAll (x :: xs))
    (q : ∀ (i : Nat) (v : V), us[i]? = some v → (x :: xs)[i]? = some (m x xs) → Q v H) {i : Nat} {v : Value} {h' : Heap} {tk : Nat} {bs : List Addr} (hv : its.toArray[i]? = some v) (r : Reads h' v (m x xs) bs) (k : ∀ b o, s.heap.get? b = some o → h'.get? b = some o) : EP X pins σ Q v { s with heap := h', toks := tk } := by
  obtain ⟨y, hy, ry⟩ := vals_at rv (i := i) (u := v) (by simpa using hv)
  obtain ⟨d, hd1, hd2⟩ := dpAll_at' hd hy
  have hmem : d ∈ x :: xs := List.mem_of_getElem? hd1
  have e := dp_alike_eq (K := X.K) I hd2 ry k r (ha.1 d hmem _ hm)
  subst e
  exact ⟨y, H, I.kept k, ry, q i y hy hd1⟩
theorem cr_minMM (hc : X.calm = true) (hu : X.A.units + 64 < cLine) : CallR X (.builtin "min") (rMM X.K minD) := by
  intro pins s σ H vs ws Q I r h
  obtain ⟨a, us, x, xs, rfl, hs, hd, ha, hdp, q⟩ := h
  rw [Vals.ref1 r]
  rcases hs with hs | hs
  · obtain ⟨its, rv, pl, _⟩ := I.list hs
    obtain ⟨as, hr⟩ := Dp.readsAll I _ _ _ hd rv
    exact min_list_data (I.ok.hd hc) pl.isList hr ha (by omega) fun i v h' tk bs hv rd k => mm_end I (minD_mem x xs) rv hd ha q hv rd k
  · obtain ⟨its, rv, pl, _⟩ := I.tuple hs
    obtain ⟨as, hr⟩ := Dp.readsAll I _ _ _ hd rv
    exact min_tuple_data (I.ok.hd hc) (show s.heap.IsTuple a its.toArray from pl) hr ha (by omega) fun i v h' tk bs hv rd k => mm_end I (minD_mem x xs) rv hd ha q hv rd k
theorem cr_maxMM (hc : X.calm = true) (hu : X.A.units + 64 < cLine) : CallR X (.builtin "max") (rMM X.K maxD) := by
  intro pins s σ H vs ws Q I r h
  obtain ⟨a, us, x, xs, rfl, hs, hd, ha, hdp, q⟩ := h
  rw [Vals.ref1 r]
  rcases hs with hs | hs
  · obtain ⟨its, rv, pl, _⟩ := I.list hs
    obtain ⟨as, hr⟩ := Dp.readsAll I _ _ _ hd rv
    exact max_list_data (I.ok.hd hc) pl.isList hr ha (by omega) fun i v h' tk bs hv rd k => mm_end I (maxD_mem x xs) rv hd ha q hv rd k
  · obtain ⟨its, rv, pl, _⟩ := I.tuple hs
    obtain ⟨as, hr⟩ := Dp.readsAll I _ _ _ hd rv
    exact max_tuple_data (I.ok.hd hc) (show s.heap.IsTuple a its.toArray from pl) hr ha (by omega) fun i v h' tk bs hv rd k => mm_end I (maxD_mem x xs) rv hd ha q hv rd k
theorem mm_use {m : D → List D → D} {F H Hb : Hp} {t : Option Addr} {env : En} {τ : Tp} {σ : L2.St} {v : V} {w : W} {b : Bool} {x : D} {xs : List D} {Q : VK} (S : Sok X.K F H t env τ σ) (R : Rw X.K F H Hb t σ v w) (e : seqOf env τ w = some (b, x :: xs)) (hc : alikeB (x :: xs) = true) (hd : PyData.depthAll (x :: xs) ≤ 60)
    (q : ∀ F' v' H', Post X.K t τ F H F' H' → Rw X.K F' H' H t σ v' (.d (m x xs)) → Q v' H') : rMM X.K m [v] H Q := by
  obtain ⟨a, vs, rfl, d, s⟩ := deref S R e
  refine ⟨a, vs, x, xs, rfl, s.len, (dqAll_mono S.same d).dp, alikeB_ok hc, hd, fun i v h1 h2 => ?_⟩
  obtain ⟨y, h3, h4⟩ := dqAll_get d h1
  rw [h2] at h3
  cases h3
  exact q F v H (.refl S) h4
theorem ok_min (hc : X.calm = true) (hu : X.A.units + 64 < cLine) : C1Ok X (.builtin "min") gMin := by
  refine ⟨_, cr_minMM hc hu, fun F H Hb t env τ σ v w w' Q S R e q => ?_⟩
  unfold gMin at e
  split at e
  · rename_i b x xs e1
    split at e
    · rename_i hb
      cases e
      exact mm_use S R e1 hb.1 hb.2 q
    · cases e
  · cases e
theorem ok_max (hc : X.calm = true) (hu : X.A.units + 64 < cLine) : C1Ok X (.builtin "max") gMax := by
  refine ⟨_, cr_maxMM hc hu, fun F H Hb t env τ σ v w w' Q S R e q => ?_⟩
  unfold gMax at e
  split at e
  · rename_i b x xs e1
    split at e
    · rename_i hb
      cases e
      exact mm_use S R e1 hb.1 hb.2 q
    · cases e
  · cases e
end

open PySem PySem.Spec PyProof.Rows L2 PySem.Calls
open PySem.W (alike alikeAll AlikeAll EachIs AllAlike Sortable dataLe SortsAt sortVals list_sort_vals copyHeap copyHeap_at sortingHeap each_map bound_map sortVals_length sortVals_data sorting_copy_old)
/-! ### sorted of a tuple -/
section
variable {prog : Program} {w : World} {A : Around} {E : Value → Shared → Prop} {s : Shared}
theorem tup_collect {l : Addr} {vs : List Value} {Q : List Value → Shared → Prop} (hl : IsTup s.heap l vs.toArray) (hz : vs.length ≤ sizeLine)
    (q : Q vs { s with heap := (s.heap.push (seqObj "list" #[] 0)).update s.heap.objs.size (Obj.mapSeq (· ++ vs.toArray)) }) : wpAny (model prog w) A (collect (.ref l)) Q E s := by
  obtain ⟨o, ho, hc, n, hd⟩ := id hl
  unfold collect
  refine wpAny_bind ((wpAny_runValue (codeAny_builtin entry_proto_collect' ?_)))
  show wpAny _ _ (do again (.builtin "list.__iadd__" ⟨[← newList [], .ref l], []⟩)) _ _ s
  refine wpAny_bind ((wpAny_newList (wpAny_pure ⟨Code.quiet_builtin _ (by decide +kernel), codeAny_builtin entry_list_iadd' ?_⟩)))
  show wpAny _ _ (Builtin.List.listExtendWith (.ref s.heap.objs.size) (.ref l) (.ref s.heap.objs.size)) _ _ { s with heap := s.heap.push (seqObj "list" #[] 0) }
  unfold Builtin.List.listExtendWith
  have hp : (s.heap.push (seqObj "list" #[] 0)).get? l = some o := Heap.get?_push_of_some _ ho
  refine wpAny_bind (wpAny_typeOf (T := "tuple") ⟨o, hp, hc⟩ ?_)
  rw [if_pos (by simp)]
  refine wpAny_bind (listItems_at hp hd ?_)
  have h0 : (s.heap.push (seqObj "list" #[] 0)).get? s.heap.objs.size = some (seqObj "list" #[] 0) := Heap.get?_push_size _ rfl
  refine wpAny_bind (listItems_at (xs := #[]) (n := 0) h0 rfl ?_)
  rw [if_neg (by simp)]
  refine wpAny_bind (listUpdate_at (xs := #[]) (n := 0) h0 rfl ?_ (Nat.zero_le _) (by show (#[] ++ vs.toArray).size ≤ sizeLine + 1; simp only [Array.size_append, List.size_toArray, List.length_nil]; omega))
  refine wpAny_pure ?_
  show wpAny (model prog w) A (do
      let o ← load s.heap.objs.size
      match o.data with
      | .seq xs _ => pure xs.toList
      | _ => unsupported "internal:collect") Q E { s with heap := (s.heap.push (seqObj "list" #[] 0)).update s.heap.objs.size (Obj.mapSeq (· ++ vs.toArray)) }
  refine wpAny_bind (wpAny_load (get?_update_seq h0 _) ?_)
  show wpAny _ _ (pure ((#[] : Array Value) ++ vs.toArray).toList) Q E _
  rw [show ((#[] : Array Value) ++ vs.toArray).toList = vs by simp]
  exact wpAny_pure q
variable {κ : PyProof.Rows.KeyKind}
theorem tup_sorted {l : Addr} {vs : List Value} {Q : Value → Shared → Prop} (hl : IsTup s.heap l vs.toArray) (S : SortsAt prog w A.in1.in1 { s with heap := sortingHeap (copyHeap s.heap vs) (s.heap.objs.size + 1) vs } κ vs) (hz : vs.length ≤ sizeLine)
    (q : Q (.ref (s.heap.objs.size + 1)) { s with heap := sortedAll s.heap vs (sortVals κ false vs vs).toArray }) : wpAny (model prog w) A (call (.builtin "sorted") [.ref l] []) Q E s := by
  refine call_function_entry_kw kind_sorted plain_sorted entry_sorted (args_sorted1 _) ?_
  unfold Builtin.«sorted»
  refine wpAny_bind (m := checkCount "sorted" 1 1 _) (wpAny_pure ?_)
  refine wpAny_bind (tup_collect hl hz ?_)
  refine wpAny_bind ((wpAny_newList ?_ hz))
  have hsz : ((s.heap.push (seqObj "list" #[] 0)).update s.heap.objs.size (Obj.mapSeq (· ++ vs.toArray))).objs.size = s.heap.objs.size + 1 := by rw [Heap.size_update, size_push']
  show wpAny _ _ _ _ _ { s with heap := copyHeap s.heap vs }
  rw [hsz]
  refine wpAny_bind ((wpAny_holding (wpAny_call_entry_kw slot_list_sort ⟨_, copyHeap_at s.heap vs, rfl⟩ entry_list_sort ?b (args_list_sort _))))
  case b =>
    show wpAny (model prog w) A.in1.in1 (Builtin.«list.sort» ⟨[.ref (s.heap.objs.size + 1)], []⟩) _ _ _
    refine wpAny_mono (list_sort_vals (P := fun f s' => f = .done (.ret .none) ∧ Q (.ref (s.heap.objs.size + 1)) s') (s := { s with heap := copyHeap s.heap vs }) (copyHeap_at s.heap vs) S hz ⟨rfl, q⟩) (fun f s' hf => ?_) fun _ _ e => e
    obtain ⟨rfl, hq⟩ := hf
    exact ⟨_, rfl, wpAny_pure ⟨_, rfl, hq⟩⟩
theorem tup_sorted_data {β : Type} {R : Value → β → Prop} {enc : β → PyData} {vs : List Value} {bs : List β} {l : Addr} {Q : Value → Shared → Prop} (hl : IsTup s.heap l vs.toArray) (e : EachIs R vs bs) (er : EachIs (fun v b => ∃ as, Reads s.heap v (enc b) as) vs bs) (hal : AllAlike (bs.map enc)) (hk : Sortable (bs.map enc)) (hz : bs.length ≤ sizeLine)
    (hu : ∀ b, b ∈ bs → A.units + 2 + (enc b).depth < cLine) (q : ∀ out, out.length = bs.length → EachIs R out (bs.mergeSort (dataLe false enc)) → Q (.ref (s.heap.objs.size + 1)) { s with heap := sortedAll s.heap vs (List.toArray out) }) :
    wpAny (model prog w) A (call (.builtin "sorted") [.ref l] []) Q E s := by
  have er' : EachIs (fun v b => ∃ as, Reads (sortingHeap (copyHeap s.heap vs) (s.heap.objs.size + 1) vs) v (enc b) as) vs bs := er.mono fun _ _ ⟨as, r⟩ => ⟨as, PyProof.Rows.Reads.keeps (fun _ _ => sorting_copy_old) r⟩
  exact tup_sorted hl (SortsAt.data (s := { s with heap := sortingHeap (copyHeap s.heap vs) (s.heap.objs.size + 1) vs }) (each_map (R := fun v d => ∃ as, Reads (sortingHeap (copyHeap s.heap vs) (s.heap.objs.size + 1) vs) v d as) enc er') hal hk (bound_map hu)) (by rw [e.length]; exact hz)
    (q _ (by rw [sortVals_length false rfl]; exact e.length) (sortVals_data false e er' hal))
end

open PySem PySem.Spec PyProof.Rows L2
open PySem.W (alike alikeAll alike_unique dataLt minD maxD AlikeAll EachIs AllAlike Sortable dataLe sorted_data iter_tupleW cmpIn_lt cmpIn_gt moved_old readsAll_atA argBest_fold reads_keeps readsAll_len)
section
variable {X : Cx}
/-! ### sorted of a list (or a tuple) of alike data -/
def rSortD (K : PySem.W.Frag) (F : Hp) : List V → Hp → VK → Prop := fun vs H Q => ∃ (a : Addr) (us : List V) (ds : List D), vs = [V.ref a] ∧ (SqL K H a us ∨ SqT K H a us) ∧ DqAll K F us ds ∧ Same F H ∧ AllAlike ds ∧ Sortable ds ∧ (∀ d, d ∈ ds → d.depth ≤ 60) ∧
  ∀ p us', H p = none → DqAll K F us' (ds.mergeSort (dataLe false fun x => x)) → Q (.ref p) (upd H p (.lst us'))
theorem each_of {K : PySem.W.Frag} {F : Hp} : ∀ {us : List V} {its : List Value} {ds : List D}, Vals us its → DqAll K F us ds → EachIs (fun (u : Value) (d : D) => ∃ x, RelV x u ∧ Dq K F x d) its ds
  | _, _, _, .nil, h => by cases h; exact .nil
  | _, _, _, .cons r rs, h => by
    cases h with
    | cons a b => exact .cons ⟨_, r, a⟩ (each_of rs b)
theorem each_back {K : PySem.W.Frag} {F : Hp} : ∀ {its : List Value} {ds : List D}, EachIs (fun (u : Value) (d : D) => ∃ x, RelV x u ∧ Dq K F x d) its ds → ∃ us, Vals us its ∧ DqAll K F us ds
  | _, _, .nil => ⟨[], .nil, .nil⟩
  | _, _, .cons ⟨x, r, d⟩ t => by
    obtain ⟨us, h1, h2⟩ := each_back t
    exact ⟨x :: us, .cons r h1, .cons d h2⟩
theorem cr_sortD {F : Hp} (hu : X.A.units + 64 < cLine) : CallR X (.builtin "sorted") (rSortD X.K F) := by
  intro pins s σ H vs ws Q I r h
  obtain ⟨a, us, ds, rfl, hs, hd, hF, hal, hso, hdp, q⟩ := h
  rw [Vals.ref1 r]
  have er : ∀ {us : List V} {its : List Value} {ds : List D}, Vals us its → DqAll X.K F us ds → EachIs (fun (v : Value) (b : D) => ∃ as, Reads s.heap v ((fun x => x) b) as) its ds := fun {us its ds} rv hd => by
    induction rv generalizing ds with
    | nil => cases hd; exact .nil
    | cons ra rb ih =>
      cases hd with
      | cons a b => exact .cons (Dp.reads I _ _ _ (dq_mono hF a).dp ra) (ih b)
  have hu' : ∀ b, b ∈ ds → X.A.units + 2 + ((fun x : D => x) b).depth < cLine := fun b hb => by
    have := hdp b hb
    show X.A.units + 2 + b.depth < cLine
    omega
  rcases hs with hs | hs
  · obtain ⟨its, rv, pl, hz⟩ := I.list hs
    have hl : ds.length ≤ sizeLine := by rw [← dqAll_len hd]; exact hz
    refine sorted_data (R := fun (u : Value) (d : D) => ∃ x, RelV x u ∧ Dq X.K F x d) (enc := fun x => x) pl.isList (each_of rv hd) (er rv hd) (by simpa using hal) (by simpa using hso) hl hu' fun out hlen ho => ?_
    obtain ⟨us', hv', hd'⟩ := each_back ho
    obtain ⟨ep, he'⟩ := PyProof.Rows.sortedAll_at s.heap its out.toArray
    have hlen' : us'.length ≤ sizeLine := by
      have := hv'.length
      omega
    exact ⟨.ref _, upd H (s.heap.objs.size + 1) (.lst us'), I.laid (t' := s.toks) (fun _ _ => PyProof.Rows.sortedAll_old) (Nat.le_succ _) ⟨hlen', out, ep, hv', he'⟩, rfl, q _ us' (I.hok.fresh (Nat.le_succ _)) hd'⟩
  · obtain ⟨its, rv, pl, hz⟩ := I.tuple hs
    have hl : ds.length ≤ sizeLine := by rw [← dqAll_len hd]; exact hz
    refine tup_sorted_data (R := fun (u : Value) (d : D) => ∃ x, RelV x u ∧ Dq X.K F x d) (enc := fun x => x) pl (each_of rv hd) (er rv hd) (by simpa using hal) (by simpa using hso) hl hu' fun out hlen ho => ?_
    obtain ⟨us', hv', hd'⟩ := each_back ho
    obtain ⟨ep, he'⟩ := PyProof.Rows.sortedAll_at s.heap its out.toArray
    have hlen' : us'.length ≤ sizeLine := by
      have := hv'.length
      omega
    exact ⟨.ref _, upd H (s.heap.objs.size + 1) (.lst us'), I.laid (t' := s.toks) (fun _ _ => PyProof.Rows.sortedAll_old) (Nat.le_succ _) ⟨hlen', out, ep, hv', he'⟩, rfl, q _ us' (I.hok.fresh (Nat.le_succ _)) hd'⟩
def allAlikeB (ds : List D) : Bool := ds.all fun x => ds.all fun y => alike x y
theorem allAlikeB_ok {ds : List D} (h : allAlikeB ds = true) : AllAlike ds := fun x hx y hy => by
  unfold allAlikeB at h
  rw [List.all_eq_true] at h
  have := h x hx
  rw [List.all_eq_true] at this
  exact this y hy
def tupNe : D → Bool
  | .tuple (_ :: _) => true
  | _ => false
def notNT : D → Bool
  | .none => false
  | .tuple _ => false
  | _ => true
def sortableB (ds : List D) : Bool := ds.all tupNe || ds.all notNT
theorem sortableB_ok {ds : List D} (h : sortableB ds = true) : Sortable ds := by
  unfold sortableB at h
  rw [Bool.or_eq_true, List.all_eq_true, List.all_eq_true] at h
  rcases h with h | h
  · refine .inl fun d hd => ?_
    have := h d hd
    cases d with
    | tuple xs =>
      cases xs with
      | nil => cases this
      | cons x r => exact ⟨x, r, rfl⟩
    | _ => cases this
  · refine .inr fun d hd => ?_
    have := h d hd
    cases d with
    | tuple xs => cases this
    | none => cases this
    | _ => exact ⟨(fun e => nomatch e), fun xs e => nomatch e⟩
def gSorted : G1 := fun env τ w => match seqOf env τ w with
  | some (_, ds) => if allAlikeB ds = true ∧ sortableB ds = true ∧ (ds.all fun d => decide (d.depth ≤ 60)) = true then some (.new (ds.mergeSort (dataLe false fun x => x))) else none
  | _ => none
theorem ok_sorted (hu : X.A.units + 64 < cLine) : C1Ok X (.builtin "sorted") gSorted := by
  refine ⟨fun vs H Q => ∃ F, rSortD X.K F vs H Q, fun pins s σ H xs us Q I r ⟨F, h⟩ => cr_sortD hu pins s σ H xs us Q I r h, fun F H Hb t env τ σ v w w' Q S R e q => ?_⟩
  unfold gSorted at e
  split at e
  · rename_i b ds e1
    split at e
    · rename_i hc
      cases e
      obtain ⟨a, vs, rfl, d, s⟩ := deref S R e1
      refine ⟨F, a, vs, ds, rfl, (by cases b with | true => exact .inl (SqL.of s) | false => exact .inr s), d, S.same, allAlikeB_ok hc.1, sortableB_ok hc.2.1, fun x hx => ?_, fun p us' hp hd' => ?_⟩
      · have h3 := hc.2.2
        rw [List.all_eq_true] at h3
        exact of_decide_eq_true (h3 x hx)
      · obtain ⟨P, r⟩ := S.newList hp hd'
        exact q _ _ _ P r
    · cases e
  · cases e
end

/-! ### max, min of two alike data -/
section
variable {prog : Program} {w : World} {A : Around} {E : Value → Shared → Prop} {s : Shared}
theorem max2_walk {a b : Value} {Q : Value → Shared → Prop}
    (h : wpAny (model prog w) A.in1 (pyIter (.ref s.heap.objs.size)) (fun it s₂ => ∃ I fp wr G n P St H bt, it = .ref I ∧ WalksS prog w A.in1 I fp wr G n P St ∧ St 0 s₂ ∧ (∀ b ∈ fp, b < s₂.heap.objs.size) ∧ 0 < n ∧
      (∀ b o, H.get? b = some o → b ∉ wr) ∧ (∀ b o, H.get? b = some o → s₂.heap.get? b = some o) ∧ CmpIn prog w A.in1 .Gt H P bt ∧ ∀ v s', P (argBest bt (n - 1)) v → Moved wr G s₂ s' → Q v s') E
      { s with heap := s.heap.push { cls := .type "tuple", data := .seq #[a, b] } }) :
    wpAny (model prog w) A (call (.builtin "max") [a, b]) Q E s := by
  have hname : (toString "max" ++ toString ".loop" : String) = "max.loop" := by decide
  refine call_function_tree F.kind_max F.plain_max F.entry_max (F.args_max2 _ _) ?_
  show wpAny _ A.in1 (Builtin.Builtins.bindParams "max" ["key", "default"] 0 ⟨[], []⟩ >>= _) _ _ s
  refine wpAny_bind (wpAny_of_eq (show Builtin.Builtins.bindParams "max" ["key", "default"] 0 ⟨[], []⟩ = pure [none, none] from rfl) ?_)
  show wpAny _ A.in1 (newTuple [a, b] >>= _) _ _ s
  refine wpAny_bind (wpAny_newObj_type ?_)
  refine wpAny_bind (wpAny_mono h (fun it s₂ h₂ => ?_) fun _ _ e => e)
  obtain ⟨I, fp, wr, G, n, P, St, H, bt, rfl, W, hst, hfp, hn, hw, hkeep, hcmp, hQ⟩ := h₂
  refine wpAny_bind (wpAny_newObj_type ?_)
  have hSf : s₂.heap.objs.size ∉ fp := fun hm => Nat.lt_irrefl _ (hfp _ hm)
  rw [hname]
  refine wpAny_pure ⟨plainId_quiet F.plain_max_loop _, codeAny_max_loop_firstH W H hw bt hcmp s₂.heap.objs.size hSf (fresh_in hkeep) _ hn (fun b o e => Heap.get?_push_of_some _ (hkeep b o e)) (W.frame 0 s₂ _ s₂.toks hst (Nat.le_refl _) fun b _ o e => Heap.get?_push_of_some _ e) (Heap.get?_push_size _ rfl) fun v s' hP hm => ?_⟩
  exact hQ v s' hP (Moved.drop_new (tk := s₂.toks) hm (Nat.le_refl _))
theorem min2_walk {a b : Value} {Q : Value → Shared → Prop}
    (h : wpAny (model prog w) A.in1 (pyIter (.ref s.heap.objs.size)) (fun it s₂ => ∃ I fp wr G n P St H bt, it = .ref I ∧ WalksS prog w A.in1 I fp wr G n P St ∧ St 0 s₂ ∧ (∀ b ∈ fp, b < s₂.heap.objs.size) ∧ 0 < n ∧
      (∀ b o, H.get? b = some o → b ∉ wr) ∧ (∀ b o, H.get? b = some o → s₂.heap.get? b = some o) ∧ CmpIn prog w A.in1 .Lt H P bt ∧ ∀ v s', P (argBest bt (n - 1)) v → Moved wr G s₂ s' → Q v s') E
      { s with heap := s.heap.push { cls := .type "tuple", data := .seq #[a, b] } }) :
    wpAny (model prog w) A (call (.builtin "min") [a, b]) Q E s := by
  have hname : (toString "min" ++ toString ".loop" : String) = "min.loop" := by decide
  refine call_function_tree F.kind_min F.plain_min F.entry_min (F.args_min2 _ _) ?_
  show wpAny _ A.in1 (Builtin.Builtins.bindParams "min" ["key", "default"] 0 ⟨[], []⟩ >>= _) _ _ s
  refine wpAny_bind (wpAny_of_eq (show Builtin.Builtins.bindParams "min" ["key", "default"] 0 ⟨[], []⟩ = pure [none, none] from rfl) ?_)
  show wpAny _ A.in1 (newTuple [a, b] >>= _) _ _ s
  refine wpAny_bind (wpAny_newObj_type ?_)
  refine wpAny_bind (wpAny_mono h (fun it s₂ h₂ => ?_) fun _ _ e => e)
  obtain ⟨I, fp, wr, G, n, P, St, H, bt, rfl, W, hst, hfp, hn, hw, hkeep, hcmp, hQ⟩ := h₂
  refine wpAny_bind (wpAny_newObj_type ?_)
  have hSf : s₂.heap.objs.size ∉ fp := fun hm => Nat.lt_irrefl _ (hfp _ hm)
  rw [hname]
  refine wpAny_pure ⟨plainId_quiet F.plain_min_loop _, codeAny_min_loop_firstH W H hw bt hcmp s₂.heap.objs.size hSf (fresh_in hkeep) _ hn (fun b o e => Heap.get?_push_of_some _ (hkeep b o e)) (W.frame 0 s₂ _ s₂.toks hst (Nat.le_refl _) fun b _ o e => Heap.get?_push_of_some _ e) (Heap.get?_push_size _ rfl) fun v s' hP hm => ?_⟩
  exact hQ v s' hP (Moved.drop_new (tk := s₂.toks) hm (Nat.le_refl _))
theorem max2_data {a b : Value} {x y : D} {as : List Addr} {Q : Value → Shared → Prop} (hh : A.handled = none) (hr : ReadsAll s.heap [a, b] [x, y] as) (ha : AlikeAll [x, y]) (hu : A.units + 1 + PyData.depthAll [x, y] < cLine)
    (h : ∀ (i : Nat) v h' tk bs, [a, b][i]? = some v → Reads h' v (maxD x [y]) bs → (∀ b o, s.heap.get? b = some o → h'.get? b = some o) → Q v { s with heap := h', toks := tk }) :
    wpAny (model prog w) A (call (.builtin "max") [a, b]) Q E s := by
  refine max2_walk ?_
  generalize hs1 : ({ s with heap := s.heap.push { cls := .type "tuple", data := .seq #[a, b] } } : Shared) = s1
  have k1 : ∀ b o, s.heap.get? b = some o → s1.heap.get? b = some o := fun b o e => by
    rw [← hs1]
    exact Heap.get?_push_of_some _ e
  have hl : s1.heap.IsTuple s.heap.objs.size #[a, b] := by
    rw [← hs1]
    exact ⟨_, Heap.get?_push_size _ rfl, rfl, _, rfl⟩
  have hr1 : ReadsAll s1.heap (#[a, b] : Array Value).toList [x, y] as := PyProof.Rows.ReadsAll.keeps k1 hr
  refine iter_tupleW (A := A.in1) hh hl fun s₂ e W st hfp hw hk => ?_
  refine ⟨_, _, _, _, _, _, _, s1.heap, _, rfl, W, st, hfp, Nat.zero_lt_succ _, hw, hk, cmpIn_gt (A := A.in1) hr1 ha (by show A.units + 1 + _ < _; exact hu), fun v s' hP m => ?_⟩
  obtain ⟨h', tk, e3, hk'⟩ := moved_old e rfl m
  obtain ⟨bs, r, _, _, _⟩ := readsAll_atA hr1 _ v hP
  have e2 := (argBest_fold (fun a b => dataLt b a) PyData.none x [y] 1 (Nat.le_refl _)).2
  subst e3
  have h1 := h _ v h' tk bs (by simpa using hP) (reads_keeps hk' (by unfold maxD; have e4 : List.take 1 [y] = [y] := rfl; rw [e4] at e2; rw [← e2]; exact r)) fun b o e => hk' b o (k1 b o e)
  subst hs1
  exact h1
theorem min2_data {a b : Value} {x y : D} {as : List Addr} {Q : Value → Shared → Prop} (hh : A.handled = none) (hr : ReadsAll s.heap [a, b] [x, y] as) (ha : AlikeAll [x, y]) (hu : A.units + 1 + PyData.depthAll [x, y] < cLine)
    (h : ∀ (i : Nat) v h' tk bs, [a, b][i]? = some v → Reads h' v (minD x [y]) bs → (∀ b o, s.heap.get? b = some o → h'.get? b = some o) → Q v { s with heap := h', toks := tk }) :
    wpAny (model prog w) A (call (.builtin "min") [a, b]) Q E s := by
  refine min2_walk ?_
  generalize hs1 : ({ s with heap := s.heap.push { cls := .type "tuple", data := .seq #[a, b] } } : Shared) = s1
  have k1 : ∀ b o, s.heap.get? b = some o → s1.heap.get? b = some o := fun b o e => by
    rw [← hs1]
    exact Heap.get?_push_of_some _ e
  have hl : s1.heap.IsTuple s.heap.objs.size #[a, b] := by
    rw [← hs1]
    exact ⟨_, Heap.get?_push_size _ rfl, rfl, _, rfl⟩
  have hr1 : ReadsAll s1.heap (#[a, b] : Array Value).toList [x, y] as := PyProof.Rows.ReadsAll.keeps k1 hr
  refine iter_tupleW (A := A.in1) hh hl fun s₂ e W st hfp hw hk => ?_
  refine ⟨_, _, _, _, _, _, _, s1.heap, _, rfl, W, st, hfp, Nat.zero_lt_succ _, hw, hk, cmpIn_lt (A := A.in1) hr1 ha (by show A.units + 1 + _ < _; exact hu), fun v s' hP m => ?_⟩
  obtain ⟨h', tk, e3, hk'⟩ := moved_old e rfl m
  obtain ⟨bs, r, _, _, _⟩ := readsAll_atA hr1 _ v hP
  have e2 := (argBest_fold dataLt PyData.none x [y] 1 (Nat.le_refl _)).2
  subst e3
  have h1 := h _ v h' tk bs (by simpa using hP) (reads_keeps hk' (by unfold minD; have e4 : List.take 1 [y] = [y] := rfl; rw [e4] at e2; rw [← e2]; exact r)) fun b o e => hk' b o (k1 b o e)
  subst hs1
  exact h1
end

/-! ### calls of two arguments -/
def C2Ok (X : Cx) (f : Value) (g : G2) : Prop := ∃ r : List V → Hp → VK → Prop, CallR X f r ∧
  ∀ F H Hb t env τ σ v1 v2 w1 w2 w Q, Sok X.K F H t env τ σ → Rw X.K F H Hb t σ v1 w1 → Rw X.K F H Hb t σ v2 w2 → g env τ w1 w2 = some w →
    (∀ F' v' H', Post X.K t τ F H F' H' → Rw X.K F' H' H t σ v' w → Q v' H') → r [v1, v2] H Q
section
variable {X : Cx}
theorem tCB2 {g : G2} {a b : EvF} {r : List V → Hp → VK → Prop} (hs : ∀ F H Hb t env τ σ v1 v2 w1 w2 w Q, Sok X.K F H t env τ σ → Rw X.K F H Hb t σ v1 w1 → Rw X.K F H Hb t σ v2 w2 → g env τ w1 w2 = some w →
    (∀ F' v' H', Post X.K t τ F H F' H' → Rw X.K F' H' H t σ v' w → Q v' H') → r [v1, v2] H Q) {σ : L2.St} {H : Hp} {Q : VK} (h : tE X.K (f2 g a b) σ H Q) : tCB r (tCons (tE X.K a) (tCons (tE X.K b) tNil)) σ H Q := by
  obtain ⟨F, t, env, τ, w, τ', S, e, q⟩ := h
  unfold f2 at e
  split at e
  · rename_i x τ1 e1
    split at e
    · rename_i y τ2 e2
      split at e
      · rename_i w' e3
        cases e
        refine ⟨F, t, env, τ, x, τ1, S, e1, fun F1 v1 H1 P1 r1 => ?_⟩
        have S1 := S.post P1
        refine ⟨F1, t, env, τ1, y, _, S1, e2, fun F2 v2 H2 P2 r2 => ?_⟩
        have S2 := S1.post P2
        exact hs F2 H2 H t env _ σ v1 v2 x y _ Q S2 (r1.post P2) (r2.base P1) e3 fun F3 v3 H3 P3 r3 => q F3 v3 H3 (P1.trans (P2.trans P3)) (r3.base (P1.trans P2))
      · cases e
    · cases e
  · cases e
def rMM2 (K : PySem.W.Frag) (m : D → List D → D) : List V → Hp → VK → Prop := fun vs H Q => ∃ (u1 u2 : V) (x y : D), vs = [u1, u2] ∧ DpAll K H [u1, u2] [x, y] ∧ AlikeAll [x, y] ∧ PyData.depthAll [x, y] ≤ 60 ∧
  ∀ (i : Nat) (v : V), [u1, u2][i]? = some v → [x, y][i]? = some (m x [y]) → Q v H
theorem cr_max2 (hc : X.calm = true) (hu : X.A.units + 64 < cLine) : CallR X (.builtin "max") (rMM2 X.K maxD) := by
  intro pins s σ H vs ws Q I r h
  obtain ⟨u1, u2, x, y, rfl, hd, ha, hdp, q⟩ := h
  obtain ⟨a, b, rfl, r1, r2⟩ := vals2 r
  obtain ⟨as, hr⟩ := Dp.readsAll I _ _ _ hd r
  exact max2_data (I.ok.hd hc) hr ha (by omega) fun i v h' tk bs hv rd k => mm_end I (its := [a, b]) (maxD_mem x [y]) r hd ha q (by simpa using hv) rd k
theorem cr_min2 (hc : X.calm = true) (hu : X.A.units + 64 < cLine) : CallR X (.builtin "min") (rMM2 X.K minD) := by
  intro pins s σ H vs ws Q I r h
  obtain ⟨u1, u2, x, y, rfl, hd, ha, hdp, q⟩ := h
  obtain ⟨a, b, rfl, r1, r2⟩ := vals2 r
  obtain ⟨as, hr⟩ := Dp.readsAll I _ _ _ hd r
  exact min2_data (I.ok.hd hc) hr ha (by omega) fun i v h' tk bs hv rd k => mm_end I (its := [a, b]) (minD_mem x [y]) r hd ha q (by simpa using hv) rd k
def gMM2 (m : D → List D → D) : G2 := fun _ _ a b => match a, b with
  | .d x, .d y => if alikeB [x, y] = true ∧ PyData.depthAll [x, y] ≤ 60 then some (.d (m x [y])) else none
  | _, _ => none
theorem mm2_use {m : D → List D → D} {F H Hb : Hp} {t : Option Addr} {env : En} {τ : Tp} {σ : L2.St} {v1 v2 : V} {w1 w2 w : W} {Q : VK} (S : Sok X.K F H t env τ σ) (R1 : Rw X.K F H Hb t σ v1 w1) (R2 : Rw X.K F H Hb t σ v2 w2) (e : gMM2 m env τ w1 w2 = some w)
    (q : ∀ F' v' H', Post X.K t τ F H F' H' → Rw X.K F' H' H t σ v' w → Q v' H') : rMM2 X.K m [v1, v2] H Q := by
  unfold gMM2 at e
  split at e
  · rename_i x y
    split at e
    · rename_i hc
      cases e
      have d : DqAll X.K F [v1, v2] [x, y] := .cons R1 (.cons R2 .nil)
      refine ⟨v1, v2, x, y, rfl, (dqAll_mono S.same d).dp, alikeB_ok hc.1, hc.2, fun i v h1 h2 => ?_⟩
      obtain ⟨z, h3, h4⟩ := dqAll_get d h1
      rw [h2] at h3
      cases h3
      exact q F v H (.refl S) h4
    · cases e
  · cases e
theorem ok_max2 (hc : X.calm = true) (hu : X.A.units + 64 < cLine) : C2Ok X (.builtin "max") (gMM2 maxD) := ⟨_, cr_max2 hc hu, fun F H Hb t env τ σ v1 v2 w1 w2 w Q S R1 R2 e q => mm2_use S R1 R2 e q⟩
theorem ok_min2 (hc : X.calm = true) (hu : X.A.units + 64 < cLine) : C2Ok X (.builtin "min") (gMM2 minD) := ⟨_, cr_min2 hc hu, fun F H Hb t env τ σ v1 v2 w1 w2 w Q S R1 R2 e q => mm2_use S R1 R2 e q⟩
/-! ### sum of ints -/
def intsL (env : En) (τ : Tp) (w : W) : Option (List Int) := match seqOf env τ w with
  | some (true, ds) => intsOf ds
  | _ => none
end

open PySem PySem.Spec PyProof.Rows L2
/-! ### isinstance -/
inductive BT where
  | int | bool | tuple | list | str
  deriving DecidableEq
def BT.name : BT → String
  | .int => "int" | .bool => "bool" | .tuple => "tuple" | .list => "list" | .str => "str"
def isT : W → BT → Bool
  | .d (.bool _), .bool => true
  | .d (.bool _), .int => true
  | .d (.int _), .int => true
  | .d (.str _), .str => true
  | .d (.list _), .list => true
  | .d (.tuple _), .tuple => true
  | .new _, .list => true
  | .tp, .list => true
  | _, _ => false
def okT : W → Bool
  | .loc _ => false
  | .d (.dict _) => false
  | _ => true
theorem kit_none (b : BT) : kitB "NoneType" b.name = some false := by cases b <;> decide +kernel
theorem kit_bool (b : BT) : kitB "bool" b.name = some (isT (.d (.bool true)) b) := by cases b <;> decide +kernel
theorem kit_int (b : BT) : kitB "int" b.name = some (isT (.d (.int 0)) b) := by cases b <;> decide +kernel
theorem kit_str (b : BT) : kitB "str" b.name = some (isT (.d (.str ⟨#[]⟩)) b) := by cases b <;> decide +kernel
theorem kit_list (b : BT) : kitB "list" b.name = some (isT .tp b) := by cases b <;> decide +kernel
theorem kit_tuple (b : BT) : kitB "tuple" b.name = some (isT (.d (.tuple [])) b) := by cases b <;> decide +kernel
section
variable {X : Cx}
theorem sqT_ty {K : PySem.W.Frag} {H : Hp} {a : Addr} {xs : List V} (h : SqT K H a xs) : TyX K H (.ref a) (.type "tuple") := by
  rcases h with (h | ⟨o, h⟩) | ⟨o, its, n, h, c, _⟩
  · exact .base (.tup h)
  · exact .fTuple h
  · exact .kTuple h c
theorem ty_of {F H Hb : Hp} {t : Option Addr} {env : En} {τ : Tp} {σ : L2.St} {K : PySem.W.Frag} {v : V} {w : W} (S : Sok K F H t env τ σ) (r : Rw K F H Hb t σ v w) (h : okT w = true) : ∃ n, TyX K H v (.type n) ∧ ∀ b : BT, kitB n b.name = some (isT w b) := by
  cases w with
  | d x =>
    cases r with
    | non => exact ⟨_, .base .non, fun b => by rw [kit_none]; cases b <;> rfl⟩
    | bl c => exact ⟨_, .base (.bl c), fun b => by rw [kit_bool]; cases b <;> rfl⟩
    | int c => exact ⟨_, .base (.int c), fun b => by rw [kit_int]; cases b <;> rfl⟩
    | str c => exact ⟨_, .base (.str c), fun b => by rw [kit_str]; cases b <;> rfl⟩
    | lst s a => exact ⟨_, .base (.lst (S.same _ _ s)), fun b => by rw [kit_list]; cases b <;> rfl⟩
    | tup s a => exact ⟨_, sqT_ty (seqT_mono S.same s), fun b => by rw [kit_tuple]; cases b <;> rfl⟩
  | new ds =>
    obtain ⟨a, vs, rfl, d, s⟩ := deref S r (b := true) (ds := ds) rfl
    exact ⟨_, .base (.lst s), fun b => by rw [kit_list]; cases b <;> rfl⟩
  | tp =>
    obtain ⟨a, vs, rfl, d, s⟩ := deref S r (b := true) (ds := τ) rfl
    exact ⟨_, .base (.lst s), fun b => by rw [kit_list]⟩
  | loc i => cases h
def gIsi (b : BT) : G1 := fun _ _ w => if okT w = true then some (.d (.bool (isT w b))) else none
theorem isi_ok {a : EvF} {ea : Expr} {x ty : Str} {b : BT} {p p2 pos : Pos} (ha : PE X ea (tE X.K a)) (hx : x = "isinstance") (hg : Gl X x) (hm : X.mg x = none) (ht : ty = Str.ofString b.name) (hg2 : Gl X ty) (hm2 : X.mg ty = none)
    (hs : starEach [ea, .Name ty p2] X.env = (false, eval ea X.env) :: starEach [.Name ty p2] X.env) : PE X (.Call (.Name x p) [ea, .Name ty p2] [] pos) (tE X.K (f1 (gIsi b) a)) := by
  subst hx
  have h2 : PE X (.Name ty p2) (tC (.ty b.name)) := by
    subst ht
    cases b <;> exact pe_bltn hg2 hm2 (by decide +kernel) rfl
  have hpl : (backTo pos (starEach [.Name ty p2] X.env)).any (·.1) = false := rfl
  refine weakE (pe_callB call_isi hg hm (by decide +kernel) (pa_cons ha (pa_cons h2 pa_nil) hs) (he := hs) (hpl := hpl)) fun σ H Q ⟨F, t, env, τ, w, τ', S, e, q⟩ => ?_
  unfold f1 at e
  split at e
  · rename_i y τ1 e1
    split at e
    · rename_i w' e2
      cases e
      unfold gIsi at e2
      split at e2
      · rename_i hk
        cases e2
        refine ⟨F, t, env, τ, y, _, S, e1, fun F1 v1 H1 P1 r1 => ?_⟩
        obtain ⟨n, h1, h3⟩ := ty_of (S.post P1) r1 hk
        exact ⟨v1, .ty b.name, _, _, _, rfl, .ty _, h1, kit_ty (h3 b), q F1 _ H1 P1 (.bl _)⟩
      · cases e2
    · cases e
  · cases e
/-- isinstance(x, (T1, T2)) -/
def gIsi2 (b c : BT) : G1 := fun _ _ w => if okT w = true then some (.d (.bool (isT w b || isT w c))) else none
theorem isi2_ok {a : EvF} {ea : Expr} {x ty tz : Str} {b c : BT} {p p2 p3 p4 pos : Pos} {k : Nat} (ha : PE X ea (tE X.K a)) (hx : x = "isinstance") (hg : Gl X x) (hm : X.mg x = none) (ht : ty = Str.ofString b.name) (hg2 : Gl X ty) (hm2 : X.mg ty = none)
    (ht3 : tz = Str.ofString c.name) (hg3 : Gl X tz) (hm3 : X.mg tz = none)
    (hs : starEach [ea, .Tuple [.Name ty p2, .Name tz p3] k p4] X.env = (false, eval ea X.env) :: starEach [.Tuple [.Name ty p2, .Name tz p3] k p4] X.env) : PE X (.Call (.Name x p) [ea, .Tuple [.Name ty p2, .Name tz p3] k p4] [] pos) (tE X.K (f1 (gIsi2 b c) a)) := by
  subst hx
  have h2 : PE X (.Name ty p2) (tC (.ty b.name)) := by
    subst ht
    cases b <;> exact pe_bltn hg2 hm2 (by decide +kernel) rfl
  have h3 : PE X (.Name tz p3) (tC (.ty c.name)) := by
    subst ht3
    cases c <;> exact pe_bltn hg3 hm3 (by decide +kernel) rfl
  have hpl : (backTo pos (starEach [.Tuple [.Name ty p2, .Name tz p3] k p4] X.env)).any (·.1) = false := rfl
  refine weakE (pe_callB call_isiT hg hm (by decide +kernel) (pa_cons ha (pa_cons (pe_tup (pa_cons h2 (pa_cons h3 pa_nil))) pa_nil) hs) (he := hs) (hpl := hpl)) fun σ H Q ⟨F, t, env, τ, w, τ', S, e, q⟩ => ?_
  unfold f1 at e
  split at e
  · rename_i y τ1 e1
    split at e
    · rename_i w' e2
      cases e
      unfold gIsi2 at e2
      split at e2
      · rename_i hk
        cases e2
        refine ⟨F, t, env, τ, y, _, S, e1, fun F1 v1 H1 P1 r1 => ?_⟩
        have S1 := S.post P1
        refine ⟨(by show 2 ≤ sizeLine; decide), fun tp htp => ?_⟩
        have P2 := S1.laid (o := .tup [.ty b.name, .ty c.name]) htp
        have S2 := S1.post P2
        have r2 := r1.post P2
        obtain ⟨n, h1, h4⟩ := ty_of S2 r2 hk
        refine ⟨v1, tp, [.ty b.name, .ty c.name], _, [.type b.name, .type c.name], isT y b || isT y c, rfl, upd_same, .cons (.ty _) (.cons (.ty _) .nil), h1, ?_, q _ _ _ (P1.trans P2) (.bl _)⟩
        refine kitAny_cons (kit_ty (h4 b)) (fun e0 => ?_) fun e1 => by rw [e1]; rfl
        rw [e0, Bool.false_or]
        refine kitAny_cons (kit_ty (h4 c)) (fun e0 => ?_) fun e1 => e1
        rw [e0]
        rfl
      · cases e2
    · cases e
  · cases e
end

open PySem PySem.Spec PyProof.Rows L2
open HT (slicePart_)
/-! ### x[::-1] -/
section
variable {prog : Program} {w : World} {A : Around} {E : Value → Shared → Prop} {s : Shared}
theorem rev_places (n : Nat) : Builtin.Slice.slicePlaces ((n : Int) - 1) (-1) (-1) = n := by
  unfold Builtin.Slice.slicePlaces
  have h1 : ¬ ((-1 : Int) > 0) := by decide
  rw [if_neg h1]
  by_cases h : ((n : Int) - 1) > -1
  · rw [if_pos h]
    have e : ((n : Int) - 1 - (-1) - 1) / (-(-1)) + 1 = (n : Int) := by
      have : (-(-1) : Int) = 1 := by decide
      rw [this, Int.ediv_one]
      omega
    rw [e, Int.toNat_natCast]
  · rw [if_neg h]
    have : n = 0 := by omega
    subst this
    rfl
theorem rev_pick (xs : List Value) : ((List.range xs.length).filterMap fun (k : Nat) => xs.toArray[(((xs.length : Nat) : Int) - 1 + (k : Int) * (-1)).toNat]?) = xs.reverse := by
  have e : ∀ k ∈ List.range xs.length, xs.toArray[(((xs.length : Nat) : Int) - 1 + (k : Int) * (-1)).toNat]? = some (xs.reverse.getD k .none) := by
    intro k hk
    have hk := List.mem_range.mp hk
    have e1 : (((xs.length : Nat) : Int) - 1 + (k : Int) * (-1)).toNat = xs.length - 1 - k := by omega
    rw [e1]
    have h2 : xs.length - 1 - k < xs.length := by omega
    have h3 : k < xs.reverse.length := by rw [List.length_reverse]; exact hk
    rw [List.getElem?_toArray, List.getElem?_eq_getElem h2, List.getD_eq_getElem?_getD, List.getElem?_eq_getElem h3, Option.getD_some, List.getElem_reverse]
  have h : ∀ l : List Nat, (∀ k ∈ l, k < xs.length) → (l.filterMap fun (k : Nat) => xs.toArray[(((xs.length : Nat) : Int) - 1 + (k : Int) * (-1)).toNat]?) = l.map fun k => xs.reverse.getD k .none := by
    intro l
    induction l with
    | nil => intro _; rfl
    | cons a r ih =>
      intro hl
      rw [List.filterMap_cons, e a (List.mem_range.mpr (hl a (by simp))), List.map_cons, ih fun k hk => hl k (List.mem_cons_of_mem _ hk)]
  rw [h _ fun k hk => List.mem_range.mp hk]
  apply List.ext_getElem
  · simp
  · intro i h1 h2
    simp only [List.length_map, List.length_range] at h1
    rw [List.getElem_map, List.getElem_range, List.getD_eq_getElem?_getD, List.getElem?_eq_getElem h2, Option.getD_some]
theorem getItem_tup_rev {t sl : Addr} {its : List Value} {vs : Value} {Q : Value → Shared → Prop} (ht : IsTup s.heap t its.toArray) (hs : s.heap.IsSliceOf sl .none .none vs) (ps : IsPart vs (some (-1)))
    (h : Q (.ref s.heap.objs.size) { s with heap := s.heap.push { cls := .type "tuple", data := .seq its.reverse.toArray } })
    (hsz : its.length ≤ sizeLine) : wpAny (model prog w) A (getItem (.ref t) (.ref sl)) Q E s := by
  have htake : sizeOk (.seq its.reverse.toArray) := by
    show its.reverse.toArray.size ≤ sizeLine
    rw [List.size_toArray, List.length_reverse]
    exact hsz
  obtain ⟨os, hos, hcs, hds⟩ := id hs
  have hTs : s.TypeIs (.ref sl) "slice" := ⟨os, hos, hcs⟩
  unfold getItem
  try with_reducible refine wpAny_holding ?_
  first | refine wpAny_bind (wpAny_pure ?_) | skip
  refine wpAny_bind (wpAny_sequenceKey ht.typeIs (by decide) ?_)
  refine wpAny_bind (wpAny_callSpecial?_slot (name := Str.ofString "__getitem__") ht.typeIs PyProof.Rows.slot_tuple_getitem
    (wpAny_call_entry PyProof.Rows.slot_tuple_getitem ht.typeIs entry_tuple_getitem ?_ (args_tuple_getitem _ _)))
  show wpAny _ _ (Builtin.Tuple.tupleItemsOf (.ref t) >>= _) _ _ s
  refine wpAny_bind (tupleItemsOf_ ht ?_)
  refine wpAny_bind (wpAny_typeOf hTs ?_)
  rw [if_pos (by decide)]
  refine wpAny_bind ?_
  unfold Builtin.Slice.sliceApplied Builtin.Slice.sliceFields
  refine wpAny_bind (wpAny_bind (wpAny_field hos hds (x := .none) rfl (wpAny_bind (wpAny_field hos hds (x := .none) rfl (wpAny_bind (wpAny_field hos hds (x := vs) rfl (wpAny_pure ?_)))))))
  refine wpAny_bind (slicePart_ ps ?_)
  show wpAny _ _ (if ((-1 : Int) == 0) = true then _ else _) _ _ s
  rw [if_neg (by decide)]
  refine wpAny_bind (slicePart_ .none (wpAny_bind (slicePart_ .none (wpAny_bind (wpAny_pure ?_)))))
  show wpAny _ _ (pure ((((its.toArray.size : Nat) : Int) - 1), (-1 : Int), Builtin.Slice.slicePlaces (((its.toArray.size : Nat) : Int) - 1) (-1) (-1))) _ _ s
  rw [rev_places]
  refine wpAny_pure ?_
  have hno : ¬ (((((its.toArray.size : Nat) : Int) - 1) == 0 && (-1 : Int) == 1 && its.toArray.size == its.toArray.size) = true) := by
    intro q
    rw [Bool.and_eq_true, Bool.and_eq_true] at q
    exact absurd (eq_of_beq q.1.2) (by decide)
  show wpAny _ _ (if ((((its.toArray.size : Nat) : Int) - 1) == 0 && (-1 : Int) == 1 && its.toArray.size == its.toArray.size) = true then _ else _) _ _ s
  rw [if_neg hno]
  have e : ((List.range its.toArray.size).filterMap fun (k : Nat) => its.toArray[(((its.toArray.size : Nat) : Int) - 1 + (k : Int) * (-1)).toNat]?) = its.reverse := by
    have := rev_pick its
    simpa using this
  rw [e]
  first
    | exact wpAny_bind (m := Builtin.Tuple.tupleExact _) (wpAny_newObj_type (wpAny_pure ⟨_, rfl, wpAny_pure h⟩) htake)
    | exact wpAny_bind (m := Builtin.Tuple.tupleExact _) (wpAny_newObj_type (wpAny_bind (wpAny_pure (wpAny_pure ⟨_, rfl, wpAny_pure h⟩))) htake)
    | exact wpAny_bind (wpAny_bind (m := Builtin.Tuple.tupleExact _) (wpAny_newObj_type (wpAny_pure (wpAny_pure ⟨_, rfl, wpAny_pure h⟩)) htake))
    | exact wpAny_bind (wpAny_bind (m := Builtin.Tuple.tupleExact _) (wpAny_newObj_type (wpAny_pure ⟨_, rfl, wpAny_pure h⟩) htake))
end
section
variable {X : Cx}
def tRevA (K : PySem.W.Frag) (te : TE) : TE := fun σ H Q => te σ H fun x H1 => ∃ a xs, x = .ref a ∧ ((SqL K H1 a xs ∧ ∀ p, H1 p = none → Q (.ref p) (upd H1 p (.lst xs.reverse))) ∨ (SqT K H1 a xs ∧ ∀ p, H1 p = none → Q (.ref p) (upd H1 p (.tup xs.reverse))))
theorem pe_revA {e : Expr} {te : TE} {k : Nat} {p1 p2 p3 pos : Pos} (he : PE X e te) : PE X (.Subscript e (.Slice none none (some (.UnaryOp .USub (.Constant (.int 1) k p1) p2)) p3) pos) (tRevA X.K te) := by
  refine ⟨fun pins s σ H Q I h => ?_⟩
  refine Subscript_ (thn (he.run pins s σ H _ I h) fun v s1 ⟨x, H1, I1, r1, q1⟩ => ?_)
  obtain ⟨a, xs, ex, q⟩ := q1
  subst ex
  cases r1
  have hst : PO X (some (.UnaryOp .USub (.Constant (.int 1) k p1) p2)) (tPart (tUn (rU fun i => .int (-i)) (tC (.int 1)))) := po_some (pe_un un_neg pe_int)
  refine wpAny_Slice ?_
  rw [evalPart_none]
  refine wpAny_pure ?_
  refine wpAny_pure ?_
  refine thn (hst.run pins s1 σ H1 (fun o H4 => o = some (-1) ∧ H4 = H1) I1 ⟨1, rfl, -1, rfl, rfl, rfl⟩) fun vs s4 ⟨o, H4, I4, ps, eo, e4⟩ => ?_
  subst eo e4
  have I5 : Inv X pins σ H4 { s4 with heap := s4.heap.push { cls := .type "slice", data := .fields #[.none, .none, vs] } } := I4.kept (t' := s4.toks) fun b ob q => Heap.get?_push_of_some _ q
  show wpAny (model X.prog X.w) X.A (subscriptTail e (.Slice none none (some (.UnaryOp .USub (.Constant (.int 1) k p1) p2)) p3) (.ref a) (.ref s4.heap.objs.size)) (EP X pins σ Q) X.xe { s4 with heap := s4.heap.push { cls := .type "slice", data := .fields #[.none, .none, vs] } }
  rcases q with ⟨hx, q⟩ | ⟨hx, q⟩
  · obtain ⟨its, r, ht, hz⟩ := I5.list hx
    have hlen := r.length
    refine tail_any (ops := [.ref a, .ref s4.heap.objs.size]) ht.isList.typeIs (PySem.slot_list_getitem.lookup) ?_ (by with_unfolding_all rfl)
    refine wpAny_getItem_list_slice ht.isList (Heap.IsSliceOf.new _ .none .none vs) .none .none ps (by decide) ?_ (by rw [List.size_toArray]; omega)
    rw [PySem.W.krv_pick]
    refine ⟨.ref _, _, I5.laid (t' := s4.toks) (o := .lst xs.reverse) (fun b ob q => Heap.get?_push_of_some _ q) (Nat.le_refl _) ?_, rfl, q _ (I5.hok.fresh (Nat.le_refl _))⟩
    exact ⟨by rw [List.length_reverse]; exact hz, _, 0, r.reverse, Heap.get?_push_size _ rfl⟩
  · obtain ⟨its, r, ht, hz⟩ := I5.tuple hx
    have hlen := r.length
    refine tail_any (ops := [.ref a, .ref s4.heap.objs.size]) ht.typeIs (PyProof.Rows.slot_tuple_getitem.lookup) ?_ (by with_unfolding_all rfl)
    refine getItem_tup_rev ht (Heap.IsSliceOf.new _ .none .none vs) ps ?_ (by omega)
    refine ⟨.ref _, _, I5.laid (t' := s4.toks) (o := .tup xs.reverse) (fun b ob q => Heap.get?_push_of_some _ q) (Nat.le_refl _) ?_, rfl, q _ (I5.hok.fresh (Nat.le_refl _))⟩
    exact ⟨by rw [List.length_reverse]; exact hz, _, r.reverse, IsTup.new _ _⟩
def gRev : G1 := fun env τ w => match seqOf env τ w with
  | some (true, ds) => some (.new ds.reverse)
  | some (false, ds) => some (.d (.tuple ds.reverse))
  | none => none
theorem rev_ok {a : EvF} {e : Expr} {k : Nat} {p1 p2 p3 pos : Pos} (he : PE X e (tE X.K a)) : PE X (.Subscript e (.Slice none none (some (.UnaryOp .USub (.Constant (.int 1) k p1) p2)) p3) pos) (tE X.K (f1 gRev a)) := by
  refine weakE (pe_revA he) fun σ H Q ⟨F, t, env, τ, w, τ', S, e, q⟩ => ?_
  unfold f1 at e
  split at e
  · rename_i y τ1 e1
    split at e
    · rename_i w' e2
      cases e
      refine ⟨F, t, env, τ, y, _, S, e1, fun F1 v1 H1 P1 r1 => ?_⟩
      have S1 := S.post P1
      unfold gRev at e2
      split at e2
      · rename_i ds e3
        cases e2
        obtain ⟨b, vs, rfl, d, s⟩ := deref S1 r1 e3
        refine ⟨b, vs, rfl, .inl ⟨SqL.of s, fun p hp => ?_⟩⟩
        obtain ⟨P, r⟩ := S1.newList hp (dqAll_rev d)
        exact q _ _ _ (P1.trans P) (r.base P1)
      · rename_i ds e3
        cases e2
        obtain ⟨b, vs, rfl, d, s⟩ := deref S1 r1 e3
        refine ⟨b, vs, rfl, .inr ⟨s, fun p hp => ?_⟩⟩
        obtain ⟨P, r⟩ := S1.newTup hp (dqAll_rev d)
        exact q _ _ _ (P1.trans P) r
      · cases e2
    · cases e
  · cases e
end

open PySem PySem.Spec PyProof.Rows L2
section
variable {X : Cx}
/-! ### names, constants -/
def eVar (i : Nat) : EvF := fun env τ => match env[i]? with
  | some (.d x) => some (.d x, τ)
  | some (.own _) => some (.loc i, τ)
  | some .tp => some (.tp, τ)
  | _ => none
theorem var_ok {i : Nat} {x : Str} {pos : Pos} (hN : X.N[i]? = some x) (hv : Vis X.env.scope x) (hd : (x == ("__debug__" : Str)) = false) (hcd : (x == ("__classdict__" : Str)) = false) : PE X (.Name x pos) (tE X.K (eVar i)) := by
  refine weakE (pe_var hN hv hd hcd) fun σ H Q ⟨F, t, env, τ, w, τ', S, e, q⟩ => ?_
  unfold eVar at e
  cases hs : env[i]? with
  | none => rw [hs] at e; cases e
  | some s =>
    rw [hs] at e
    have so := S.slot i s hs
    cases s with
    | no => cases e
    | d x =>
      cases e
      obtain ⟨v, h1, h2⟩ := so
      exact ⟨v, h1, q F v H (.refl S) h2⟩
    | own ds =>
      cases e
      obtain ⟨a, vs, h1, _⟩ := so
      exact ⟨_, h1, q F _ H (.refl S) h1⟩
    | tp =>
      cases e
      obtain ⟨a, h1, h2⟩ := so
      exact ⟨_, h2, q F _ H (.refl S) ⟨a, h1, rfl⟩⟩
def eCon (d : D) : EvF := fun _ τ => some (.d d, τ)
theorem con_ok {e : Expr} {v : V} {d : D} (h : PE X e (tC v)) (hd : ∀ F, Dq X.K F v d) : PE X e (tE X.K (eCon d)) :=
  weakE h fun σ H Q ⟨F, t, env, τ, w, τ', S, e, q⟩ => by
    cases e
    exact q F v H (.refl S) (hd F)

/-! ### - and not -/
def gNeg : G1 := fun _ _ w => match w with
  | .d (.int i) => some (.d (.int (-i)))
  | _ => none
theorem neg_ok {a : EvF} {e : Expr} {pos : Pos} (h : PE X e (tE X.K a)) : PE X (.UnaryOp .USub e pos) (tE X.K (f1 gNeg a)) :=
  weakE (pe_un un_neg h) fun σ H Q ⟨F, t, env, τ, w, τ', S, e, q⟩ => by
    unfold f1 at e
    split at e
    · rename_i y τ1 e1
      split at e
      · rename_i w' e2
        cases e
        refine ⟨F, t, env, τ, y, _, S, e1, fun F1 v1 H1 P1 r1 => ?_⟩
        unfold gNeg at e2
        split at e2
        · cases e2
          cases r1
          exact ⟨_, rfl, q F1 _ H1 P1 (.int _)⟩
        · cases e2
      · cases e
    · cases e
def gNot : G1 := fun _ _ w => match w with
  | .d (.bool b) => some (.d (.bool (!b)))
  | _ => none
theorem not_ok {a : EvF} {e : Expr} {pos : Pos} (h : PE X e (tE X.K a)) : PE X (.UnaryOp .Not e pos) (tE X.K (f1 gNot a)) :=
  weakE (pe_not h) fun σ H Q ⟨F, t, env, τ, w, τ', S, e, q⟩ => by
    unfold f1 at e
    split at e
    · rename_i y τ1 e1
      split at e
      · rename_i w' e2
        cases e
        refine ⟨F, t, env, τ, y, _, S, e1, fun F1 v1 H1 P1 r1 => ?_⟩
        unfold gNot at e2
        split at e2
        · cases e2
          cases r1
          exact ⟨_, rfl, q F1 _ H1 P1 (.bl _)⟩
        · cases e2
      · cases e
    · cases e
theorem notT_ok {a : EvF} {e : Expr} {pos : Pos} (h : PT X e (tT X.K a)) : PT X (.UnaryOp .Not e pos) (tT X.K (f1 gNot a)) :=
  weakT (pt_not h) fun σ H Q ⟨F, t, env, τ, w, τ', S, e, q⟩ => by
    unfold f1 at e
    split at e
    · rename_i y τ1 e1
      split at e
      · rename_i w' e2
        cases e
        unfold gNot at e2
        split at e2
        · cases e2
          exact ⟨F, t, env, τ, _, _, S, e1, fun F1 H1 P1 => q F1 H1 P1⟩
        · cases e2
      · cases e
    · cases e
/-! ### and, or -/
def eAnd (a b : EvF) : EvF := fun env τ => match a env τ with
  | some (.d (.bool true), τ1) => b env τ1
  | some (.d (.bool false), τ1) => some (.d (.bool false), τ1)
  | _ => none
def eOr (a b : EvF) : EvF := fun env τ => match a env τ with
  | some (.d (.bool false), τ1) => b env τ1
  | some (.d (.bool true), τ1) => some (.d (.bool true), τ1)
  | _ => none
theorem and_ok {a b : EvF} {ea eb : Expr} {rest : List Expr} {pos : Pos} (ha : PE X ea (tE X.K a)) (hb : PE X (.BoolOp .And (eb :: rest) pos) (tE X.K b)) : PE X (.BoolOp .And (ea :: eb :: rest) pos) (tE X.K (eAnd a b)) :=
  weakE (pe_and ha hb) fun σ H Q ⟨F, t, env, τ, w, τ', S, e, q⟩ => by
    unfold eAnd at e
    split at e
    · rename_i τ1 e1
      refine ⟨F, t, env, τ, _, _, S, e1, fun F1 v1 H1 P1 r1 => ?_⟩
      cases r1
      refine ⟨true, rfl, ?_⟩
      rw [if_pos rfl]
      exact ⟨F1, t, env, τ1, w, τ', S.post P1, e, fun F2 v2 H2 P2 r2 => q F2 v2 H2 (P1.trans P2) (r2.base P1)⟩
    · rename_i τ1 e1
      cases e
      refine ⟨F, t, env, τ, _, _, S, e1, fun F1 v1 H1 P1 r1 => ?_⟩
      cases r1
      refine ⟨false, rfl, ?_⟩
      rw [if_neg Bool.false_ne_true]
      exact q F1 _ H1 P1 (.bl _)
    · cases e
theorem or_ok {a b : EvF} {ea eb : Expr} {rest : List Expr} {pos : Pos} (ha : PE X ea (tE X.K a)) (hb : PE X (.BoolOp .Or (eb :: rest) pos) (tE X.K b)) : PE X (.BoolOp .Or (ea :: eb :: rest) pos) (tE X.K (eOr a b)) :=
  weakE (pe_or ha hb) fun σ H Q ⟨F, t, env, τ, w, τ', S, e, q⟩ => by
    unfold eOr at e
    split at e
    · rename_i τ1 e1
      refine ⟨F, t, env, τ, _, _, S, e1, fun F1 v1 H1 P1 r1 => ?_⟩
      cases r1
      refine ⟨false, rfl, ?_⟩
      rw [if_neg Bool.false_ne_true]
      exact ⟨F1, t, env, τ1, w, τ', S.post P1, e, fun F2 v2 H2 P2 r2 => q F2 v2 H2 (P1.trans P2) (r2.base P1)⟩
    · rename_i τ1 e1
      cases e
      refine ⟨F, t, env, τ, _, _, S, e1, fun F1 v1 H1 P1 r1 => ?_⟩
      cases r1
      refine ⟨true, rfl, ?_⟩
      rw [if_pos rfl]
      exact q F1 _ H1 P1 (.bl _)
    · cases e
theorem andW_ok {a b : EvF} {ea eb : Expr} {rest : List Expr} {pos : Pos} (ha : PT X ea (tT X.K a)) (hb : PW X (.BoolOp .And (eb :: rest) pos) (tT X.K b)) : PW X (.BoolOp .And (ea :: eb :: rest) pos) (tT X.K (eAnd a b)) :=
  weakW (pw_and ha hb) fun σ H Q ⟨F, t, env, τ, k, τ', S, e, q⟩ => by
    unfold eAnd at e
    split at e
    · rename_i τ1 e1
      refine ⟨F, t, env, τ, _, _, S, e1, fun F1 H1 P1 => ?_⟩
      show ite _ _ _
      rw [if_pos rfl]
      exact ⟨F1, t, env, τ1, k, τ', S.post P1, e, fun F2 H2 P2 => q F2 H2 (P1.trans P2)⟩
    · rename_i τ1 e1
      cases e
      refine ⟨F, t, env, τ, _, _, S, e1, fun F1 H1 P1 => ?_⟩
      show ite _ _ _
      rw [if_neg Bool.false_ne_true]
      exact q F1 H1 P1
    · cases e
theorem orW_ok {a b : EvF} {ea eb : Expr} {rest : List Expr} {pos : Pos} (ha : PT X ea (tT X.K a)) (hb : PW X (.BoolOp .Or (eb :: rest) pos) (tT X.K b)) : PW X (.BoolOp .Or (ea :: eb :: rest) pos) (tT X.K (eOr a b)) :=
  weakW (pw_or ha hb) fun σ H Q ⟨F, t, env, τ, k, τ', S, e, q⟩ => by
    unfold eOr at e
    split at e
    · rename_i τ1 e1
      refine ⟨F, t, env, τ, _, _, S, e1, fun F1 H1 P1 => ?_⟩
      show ite _ _ _
      rw [if_neg Bool.false_ne_true]
      exact ⟨F1, t, env, τ1, k, τ', S.post P1, e, fun F2 H2 P2 => q F2 H2 (P1.trans P2)⟩
    · rename_i τ1 e1
      cases e
      refine ⟨F, t, env, τ, _, _, S, e1, fun F1 H1 P1 => ?_⟩
      show ite _ _ _
      rw [if_pos rfl]
      exact q F1 H1 P1
    · cases e
/-! ### a if c else b -/
def eIf (c a b : EvF) : EvF := fun env τ => match c env τ with
  | some (.d (.bool true), τ1) => a env τ1
  | some (.d (.bool false), τ1) => b env τ1
  | _ => none
theorem ife_ok {c a b : EvF} {ec ea eb : Expr} {pos : Pos} (hc : PT X ec (tT X.K c)) (ha : PE X ea (tE X.K a)) (hb : PE X eb (tE X.K b)) : PE X (.IfExp ec ea eb pos) (tE X.K (eIf c a b)) :=
  weakE (pe_ifExp hc ha hb) fun σ H Q ⟨F, t, env, τ, w, τ', S, e, q⟩ => by
    unfold eIf at e
    split at e
    · rename_i τ1 e1
      refine ⟨F, t, env, τ, _, _, S, e1, fun F1 H1 P1 => ?_⟩
      show ite _ _ _
      rw [if_pos rfl]
      exact ⟨F1, t, env, τ1, w, τ', S.post P1, e, fun F2 v2 H2 P2 r2 => q F2 v2 H2 (P1.trans P2) (r2.base P1)⟩
    · rename_i τ1 e1
      refine ⟨F, t, env, τ, _, _, S, e1, fun F1 H1 P1 => ?_⟩
      show ite _ _ _
      rw [if_neg Bool.false_ne_true]
      exact ⟨F1, t, env, τ1, w, τ', S.post P1, e, fun F2 v2 H2 P2 r2 => q F2 v2 H2 (P1.trans P2) (r2.base P1)⟩
    · cases e
/-! ### a < b < c -/
def eChn (g g' : G2) (a b c : EvF) : EvF := fun env τ => match a env τ with
  | some (x, τ1) => (match b env τ1 with
    | some (y, τ2) => (match g env τ2 x y with
      | some (.d (.bool true)) => (match c env τ2 with
        | some (z, τ3) => (match g' env τ3 y z with
          | some w => some (w, τ3)
          | none => none)
        | none => none)
      | some (.d (.bool false)) => some (.d (.bool false), τ2)
      | _ => none)
    | none => none)
  | none => none
theorem chn_core {g g' : G2} {a b c : EvF} {r r' : R2}
    (hs : ∀ F H Hb t env τ σ v1 v2 w1 w2 w Q, Sok X.K F H t env τ σ → Rw X.K F H Hb t σ v1 w1 → Rw X.K F H Hb t σ v2 w2 → g env τ w1 w2 = some w → (∀ F' v H', Post X.K t τ F H F' H' → Rw X.K F' H' H t σ v w → Q v H') → r v1 v2 H Q)
    (hs' : ∀ F H Hb t env τ σ v1 v2 w1 w2 w Q, Sok X.K F H t env τ σ → Rw X.K F H Hb t σ v1 w1 → Rw X.K F H Hb t σ v2 w2 → g' env τ w1 w2 = some w → (∀ F' v H', Post X.K t τ F H F' H' → Rw X.K F' H' H t σ v w → Q v H') → r' v1 v2 H Q)
    {σ : L2.St} {H : Hp} {Q : VK} (h : tE X.K (eChn g g' a b c) σ H Q) : tChain r r' (tE X.K a) (tE X.K b) (tE X.K c) σ H Q := by
  obtain ⟨F, t, env, τ, w, τ', S, e, q⟩ := h
  unfold eChn at e
  split at e
  · rename_i x τ1 e1
    split at e
    · rename_i y τ2 e2
      refine ⟨F, t, env, τ, x, τ1, S, e1, fun F1 v1 H1 P1 r1 => ?_⟩
      have S1 := S.post P1
      refine ⟨F1, t, env, τ1, y, _, S1, e2, fun F2 v2 H2 P2 r2 => ?_⟩
      have S2 := S1.post P2
      split at e
      · rename_i e3
        split at e
        · rename_i z τ3 e4
          split at e
          · rename_i w' e5
            cases e
            refine hs F2 H2 H t env _ σ v1 v2 x y _ _ S2 (r1.post P2) (r2.base P1) e3 fun F3 v3 H3 P3 r3 => ?_
            cases r3
            refine ⟨true, rfl, ?_⟩
            rw [if_pos rfl]
            have S3 := S2.post P3
            refine ⟨F3, t, env, τ2, z, _, S3, e4, fun F4 v4 H4 P4 r4 => ?_⟩
            have P14 := P1.trans (P2.trans P3)
            exact hs' F4 H4 H t env _ σ v2 v4 y z _ Q (S3.post P4) (((r2.base P1).post P3).post P4) (r4.base P14) e5 fun F5 v5 H5 P5 r5 => q F5 v5 H5 (P14.trans (P4.trans P5)) (r5.base (P14.trans P4))
          · cases e
        · cases e
      · rename_i e3
        cases e
        refine hs F2 H2 H t env _ σ v1 v2 x y _ _ S2 (r1.post P2) (r2.base P1) e3 fun F3 v3 H3 P3 r3 => ?_
        cases r3
        refine ⟨false, rfl, ?_⟩
        rw [if_neg Bool.false_ne_true]
        exact q F3 _ H3 (P1.trans (P2.trans P3)) (.bl _)
      · cases e
    · cases e
  · cases e
theorem chn_ok {o o' : CmpOp} {g g' : G2} {a b c : EvF} {ea eb ec : Expr} {pos : Pos} (ho : OpOk X (compareOp o) g) (ho' : OpOk X (compareOp o') g') (ha : PE X ea (tE X.K a)) (hb : PE X eb (tE X.K b)) (hc : PE X ec (tE X.K c)) (hm : lastMarks [o, o'] [eb, ec] = false) :
    PE X (.Compare ea [o, o'] [eb, ec] pos) (tE X.K (eChn g g' a b c)) := by
  obtain ⟨r, o1, s1⟩ := ho
  obtain ⟨r', o2, s2⟩ := ho'
  exact weakE (pe_chain o1 o2 ha hb hc hm) fun σ H Q h => chn_core s1 s2 h
theorem chnT_ok {o o' : CmpOp} {g g' : G2} {a b c : EvF} {ea eb ec : Expr} {pos : Pos} (ho : OpOk X (compareOp o) g) (ho' : OpOk X (compareOp o') g') (ha : PE X ea (tE X.K a)) (hb : PE X eb (tE X.K b)) (hc : PE X ec (tE X.K c)) (hm : lastMarks [o, o'] [eb, ec] = false) :
    PT X (.Compare ea [o, o'] [eb, ec] pos) (tT X.K (eChn g g' a b c)) := by
  obtain ⟨r, o1, s1⟩ := ho
  obtain ⟨r', o2, s2⟩ := ho'
  refine weakT (pt_chain o1 o2 ha hb hc hm) fun σ H Q ⟨F, t, env, τ, k, τ', S, e, q⟩ => chn_core s1 s2 ⟨F, t, env, τ, _, τ', S, e, fun F' v H' P r => ?_⟩
  cases r
  exact ⟨k, rfl, q F' H' P⟩
/-! ### a[i] -/
def gIx : G2 := fun env τ a b => match seqOf env τ a, b with
  | some (_, ds), .d (.int i) => (atI ds i).map .d
  | _, _ => none
theorem atI_dq {K : PySem.W.Frag} {F : Hp} {vs : List V} {ds : List D} {i : Int} {x : D} (d : DqAll K F vs ds) (e : atI ds i = some x) : ∃ v, atI vs i = some v ∧ Dq K F v x := by
  unfold atI at e ⊢
  rw [dqAll_len d]
  cases h : ixN ds.length i with
  | none => rw [h] at e; cases e
  | some j =>
    rw [h] at e
    exact dqAll_at d e
def plainIx : Expr → Bool
  | .Slice .. => false
  | _ => true
theorem plainIx_ok {b : Expr} (h : plainIx b = true) : PlainIx b := by
  intro o i
  cases b <;> first | rfl | cases h
theorem ix_ok {a b : EvF} {ea eb : Expr} {pos : Pos} (ha : PE X ea (tE X.K a)) (hb : PE X eb (tE X.K b)) (hp : plainIx eb = true) : PE X (.Subscript ea eb pos) (tE X.K (f2 gIx a b)) := by
  refine weakE (pe_ix (ix_list.or ix_tup) ha hb (plainIx_ok hp)) fun σ H Q h => tOp_of (f := fun _ _ => pure .none) (fun F H Hb t env τ σ v1 v2 w1 w2 w Q S R1 R2 e q => ?_) h
  unfold gIx at e
  split at e
  · rename_i b ds i e1
    cases hx : atI ds i with
    | none => rw [hx] at e; cases e
    | some x =>
      rw [hx] at e
      cases e
      cases R2
      obtain ⟨a, vs, rfl, d, s⟩ := deref S R1 e1
      obtain ⟨v, h1, h2⟩ := atI_dq d hx
      cases b with
      | true => exact .inl ⟨a, vs, i, v, rfl, rfl, SqL.of s, h1, q F v H (.refl S) h2⟩
      | false => exact .inr ⟨a, vs, i, v, rfl, rfl, s, h1, q F v H (.refl S) h2⟩
  · cases e
/-! ### a[lo:hi] -/
def cutL {α : Type} (xs : List α) (lo hi : Option Int) : List α := (xs.drop (HT.sIx xs.length 0 lo)).take (HT.sIx xs.length xs.length hi - HT.sIx xs.length 0 lo)
theorem dq_cut {K : PySem.W.Frag} {F : Hp} {vs : List V} {ds : List D} {lo hi : Option Int} (d : DqAll K F vs ds) : DqAll K F (cutV vs lo hi) (cutL ds lo hi) := by
  unfold cutV cutL
  rw [dqAll_len d]
  exact dqAll_take _ (dqAll_drop _ d)
theorem cut_whole {α : Type} {xs : List α} {lo hi : Option Int} (h : HT.sIx xs.length 0 lo = 0 ∧ HT.sIx xs.length xs.length hi = xs.length) : cutL xs lo hi = xs := by
  unfold cutL
  rw [h.1, h.2]
  simp
abbrev EvO := En → Tp → Option (Option Int × Tp)
def tO (K : PySem.W.Frag) (f : EvO) : TO := fun σ H Q => ∃ F t env τ o τ', Sok K F H t env τ σ ∧ f env τ = some (o, τ') ∧ ∀ F' H', Post K t τ' F H F' H' → Q o H'
def oNone : EvO := fun _ τ => some (none, τ)
def oSome (a : EvF) : EvO := fun env τ => match a env τ with
  | some (.d (.int i), τ1) => some (some i, τ1)
  | _ => none
theorem oNone_ok : PO X none (tO X.K oNone) := ⟨fun pins s σ H Q I ⟨F, t, env, τ, o, τ', S, e, q⟩ => by
  cases e
  exact po_none.run pins s σ H Q I (q F H (.refl S))⟩
theorem oSome_ok {a : EvF} {e : Expr} (h : PE X e (tE X.K a)) : PO X (some e) (tO X.K (oSome a)) := ⟨fun pins s σ H Q I ⟨F, t, env, τ, o, τ', S, e, q⟩ => by
  refine (po_some h).run pins s σ H Q I ?_
  unfold oSome at e
  split at e
  · rename_i i τ1 e1
    cases e
    refine ⟨F, t, env, τ, _, _, S, e1, fun F1 v1 H1 P1 r1 => ?_⟩
    cases r1
    exact ⟨i, rfl, q F1 H1 P1⟩
  · cases e⟩
end

open PySem PySem.Spec PyProof.Rows L2
def nst : Expr → Bool
  | .Starred .. => false
  | _ => true
theorem starEach_ns {e : Expr} {es : List Expr} {env : Env} (h : nst e = true) : starEach (e :: es) env = (false, eval e env) :: starEach es env := by
  cases e <;> first | rfl | cases h
theorem star_plain {es : List Expr} {env : Env} {pos : Pos} (h : es.all nst = true) : (backTo pos (starEach es env)).any (·.1) = false := by
  induction es with
  | nil => rfl
  | cons e r ih =>
    rw [List.all_cons, Bool.and_eq_true] at h
    rw [starEach_ns h.1]
    show (false || (backTo pos (starEach r env)).any (·.1)) = false
    rw [ih h.2]
    rfl
section
variable {X : Cx}
/-! ### a[lo:hi] -/
def gSl (env : En) (τ : Tp) (w : W) (lo hi : Option Int) : Option W := match w with
  | .d (.str z) => if z.length ≤ sizeLine then some (.d (.str (cutS z lo hi))) else none
  | _ => match seqOf env τ w with
    | some (true, ds) => some (.new (cutL ds lo hi))
    | some (false, ds) => some (.d (.tuple (cutL ds lo hi)))
    | none => none
def eSl (a : EvF) (lo hi : EvO) : EvF := fun env τ => match a env τ with
  | some (w, τ1) => (match lo env τ1 with
    | some (l, τ2) => (match hi env τ2 with
      | some (h, τ3) => (match gSl env τ3 w l h with
        | some r => some (r, τ3)
        | none => none)
      | none => none)
    | none => none)
  | none => none
theorem sl_ok {a : EvF} {lo hi : EvO} {ea : Expr} {el eh : Option Expr} {p2 pos : Pos} (ha : PE X ea (tE X.K a)) (hl : PO X el (tO X.K lo)) (hh : PO X eh (tO X.K hi)) : PE X (.Subscript ea (.Slice el eh none p2) pos) (tE X.K (eSl a lo hi)) := by
  refine weakE (pe_slice (sl_list.or (sl_tupA.or sl_str)) ha hl hh) fun σ H Q ⟨F, t, env, τ, w, τ', S, e, q⟩ => ?_
  unfold eSl at e
  split at e
  · rename_i y τ1 e1
    split at e
    · rename_i l τ2 e2
      split at e
      · rename_i h τ3 e3
        split at e
        · rename_i r e4
          cases e
          refine ⟨F, t, env, τ, y, τ1, S, e1, fun F1 v1 H1 P1 r1 => ?_⟩
          have S1 := S.post P1
          refine ⟨F1, t, env, τ1, l, τ2, S1, e2, fun F2 H2 P2 => ?_⟩
          have S2 := S1.post P2
          refine ⟨F2, t, env, τ2, h, _, S2, e3, fun F3 H3 P3 => ?_⟩
          have S3 := S2.post P3
          have r3 := (r1.post P2).post P3
          have P13 := P1.trans (P2.trans P3)
          unfold gSl at e4
          split at e4
          · rename_i z
            split at e4
            · rename_i hz
              cases e4
              cases r3
              exact .inr (.inr ⟨z, rfl, hz, q F3 _ H3 P13 (.str _)⟩)
            · cases e4
          · split at e4
            · rename_i ds e5
              cases e4
              obtain ⟨b, vs, rfl, d, s⟩ := deref S3 r3 e5
              refine .inl ⟨b, vs, rfl, SqL.of s, fun p hp => ?_⟩
              obtain ⟨P, r⟩ := S3.newList hp (dq_cut (lo := l) (hi := h) d)
              exact q _ _ _ (P13.trans P) (r.base P13)
            · rename_i ds e5
              cases e4
              have hq := derefTup S3 r3 e5
              obtain ⟨b, vs, rfl, d, s⟩ := deref S3 r3 e5
              refine .inr (.inl ⟨b, vs, rfl, s, fun hw => ?_, fun _ p hp => ?_⟩)
              · rw [dqAll_len d] at hw
                rw [cut_whole hw] at q
                exact q F3 _ H3 P13 hq
              · obtain ⟨P, r⟩ := S3.newTup hp (dq_cut (lo := l) (hi := h) d)
                exact q _ _ _ (P13.trans P) r
            · cases e4
        · cases e
      · cases e
    · cases e
  · cases e

/-! ### argument lists -/
/-- a list just made is given away -/
def nf : W → W
  | .new ds => .d (.list ds)
  | w => w
theorem freezeW {K : PySem.W.Frag} {F H Fb Hb : Hp} {t : Option Addr} {env : En} {τ τb : Tp} {σ : L2.St} {v : V} {w : W} (Sb : Sok K Fb Hb t env τb σ) (S : Sok K F H t env τ σ) (P : Post K t τ Fb Hb F H) (r : Rw K F H Hb t σ v w) :
    ∃ F', Post K t τ Fb Hb F' H ∧ Sok K F' H t env τ σ ∧ Rw K F' H Hb t σ v (nf w) := by
  cases w with
  | new ds =>
    obtain ⟨F', h1, _, h2, h3⟩ := freeze Sb S P r (x := .list ds) rfl
    exact ⟨F', h1, h2, h3⟩
  | d x => exact ⟨F, P, S, r⟩
  | loc i => exact ⟨F, P, S, r⟩
  | tp => exact ⟨F, P, S, r⟩
def aNil : EvA := fun _ τ => some ([], τ)
def aCons (a : EvF) (r : EvA) : EvA := fun env τ => match a env τ with
  | some (w, τ1) => (match r env τ1 with
    | some (ws, τ2) => some (nf w :: ws, τ2)
    | none => none)
  | none => none
theorem aNil_ok : PA X [] (tA X.K aNil) := weakA pa_nil fun σ H Q ⟨F, t, env, τ, ws, τ', S, e, q⟩ => by
  cases e
  exact q F [] H (.refl S) .nil
theorem aCons_core {a : EvF} {r : EvA} {σ : L2.St} {H : Hp} {Q : List V → Hp → Prop} (h : tA X.K (aCons a r) σ H Q) : tCons (tE X.K a) (tA X.K r) σ H Q := by
  obtain ⟨F, t, env, τ, ws, τ', S, e, q⟩ := h
  unfold aCons at e
  split at e
  · rename_i w τ1 e1
    split at e
    · rename_i ws' τ2 e2
      cases e
      refine ⟨F, t, env, τ, w, τ1, S, e1, fun F1 v1 H1 P1 r1 => ?_⟩
      obtain ⟨F1', P1', S1', r1'⟩ := freezeW S (S.post P1) P1 r1
      exact ⟨F1', t, env, τ1, ws', _, S1', e2, fun F2 vs H2 P2 r2 => q F2 _ H2 (P1'.trans P2) (.cons (r1'.post P2) (r2.base P1'))⟩
    · cases e
  · cases e
theorem aCons_ok {a : EvF} {r : EvA} {ea : Expr} {es : List Expr} (ha : PE X ea (tE X.K a)) (hr : PA X es (tA X.K r)) (hs : nst ea = true) : PA X (ea :: es) (tA X.K (aCons a r)) :=
  weakA (pa_cons ha hr (starEach_ns hs)) fun σ H Q h => aCons_core h
/-! ### displays -/
def dsOf : List W → Option (List D)
  | [] => some []
  | .d x :: r => match dsOf r with
    | some l => some (x :: l)
    | none => none
  | _ => none
theorem dsOf_ok {K : PySem.W.Frag} {F H Hb : Hp} {t : Option Addr} {σ : L2.St} : ∀ {vs : List V} {ws : List W} {ds : List D}, RwAll K F H Hb t σ vs ws → dsOf ws = some ds → DqAll K F vs ds
  | _, _, _, .nil, e => by cases e; exact .nil
  | _, _, _, .cons (w := w) a b, e => by
    cases w with
    | d x =>
      unfold dsOf at e
      split at e
      · rename_i l h
        cases e
        exact .cons a (dsOf_ok b h)
      · cases e
    | _ => cases e
def eTup (f : EvA) : EvF := fun env τ => match f env τ with
  | some (ws, τ1) => (match dsOf ws with
    | some ds => if ds.length ≤ sizeLine then some (.d (.tuple ds), τ1) else none
    | none => none)
  | none => none
def eLst (f : EvA) : EvF := fun env τ => match f env τ with
  | some (ws, τ1) => (match dsOf ws with
    | some ds => if ds.length ≤ sizeLine then some (.new ds, τ1) else none
    | none => none)
  | none => none
theorem tup_ok {f : EvA} {es : List Expr} {k : Nat} {pos : Pos} (h : PA X es (tA X.K f)) : PE X (.Tuple es k pos) (tE X.K (eTup f)) := by
  refine weakE (pe_tup h) fun σ H Q ⟨F, t, env, τ, w, τ', S, e, q⟩ => ?_
  unfold eTup at e
  split at e
  · rename_i ws τ1 e1
    split at e
    · rename_i ds e2
      split at e
      · rename_i hl
        cases e
        refine ⟨F, t, env, τ, ws, _, S, e1, fun F1 vs H1 P1 r1 => ?_⟩
        have d := dsOf_ok r1 e2
        refine ⟨by rw [dqAll_len d]; exact hl, fun p hp => ?_⟩
        obtain ⟨P, r⟩ := (S.post P1).newTup hp d
        exact q _ _ _ (P1.trans P) r
      · cases e
    · cases e
  · cases e
theorem lst_ok {f : EvA} {es : List Expr} {pos : Pos} (h : PA X es (tA X.K f)) : PE X (.List es pos) (tE X.K (eLst f)) := by
  refine weakE (pe_lst h) fun σ H Q ⟨F, t, env, τ, w, τ', S, e, q⟩ => ?_
  unfold eLst at e
  split at e
  · rename_i ws τ1 e1
    split at e
    · rename_i ds e2
      split at e
      · rename_i hl
        cases e
        refine ⟨F, t, env, τ, ws, _, S, e1, fun F1 vs H1 P1 r1 => ?_⟩
        have d := dsOf_ok r1 e2
        refine ⟨by rw [dqAll_len d]; exact hl, fun p hp => ?_⟩
        obtain ⟨P, r⟩ := (S.post P1).newList hp d
        exact q _ _ _ (P1.trans P) (r.base P1)
      · cases e
    · cases e
  · cases e
/-! ### calls of built-in functions -/
theorem c1_ok {x : Str} {id : String} {g : G1} {a : EvF} {ea : Expr} {p pos : Pos} (h : C1Ok X (.builtin id) g) (ha : PE X ea (tE X.K a)) (hg : Gl X x) (hm : X.mg x = none) (hv : bootBuiltins x = some (.builtin id)) (hn : x ≠ "__name__") (hd : (x == ("__debug__" : Str)) = false) (hs : nst ea = true) :
    PE X (.Call (.Name x p) [ea] [] pos) (tE X.K (f1 g a)) := by
  obtain ⟨r, o, s⟩ := h
  exact weakE (pe_callB o hg hm hv (pa_cons ha pa_nil (starEach_ns hs)) hn hd (starEach_ns hs) (star_plain (es := []) rfl)) fun σ H Q h => tCB1 s h
theorem c1T_ok {x : Str} {id : String} {g : G1} {a : EvF} {ea : Expr} {p pos : Pos} (h : C1Ok X (.type id) g) (ha : PE X ea (tE X.K a)) (hg : Gl X x) (hm : X.mg x = none) (hv : bootBuiltins x = some (.type id)) (hn : x ≠ "__name__") (hd : (x == ("__debug__" : Str)) = false) (hs : nst ea = true) :
    PE X (.Call (.Name x p) [ea] [] pos) (tE X.K (f1 g a)) := by
  obtain ⟨r, o, s⟩ := h
  exact weakE (pe_callTy o hg hm hv (pa_cons ha pa_nil (starEach_ns hs)) hn hd (starEach_ns hs) (star_plain (es := []) rfl)) fun σ H Q h => tCB1 s h
theorem c2_ok {x : Str} {id : String} {g : G2} {a b : EvF} {ea eb : Expr} {p pos : Pos} (h : C2Ok X (.builtin id) g) (ha : PE X ea (tE X.K a)) (hb : PE X eb (tE X.K b)) (hg : Gl X x) (hm : X.mg x = none) (hv : bootBuiltins x = some (.builtin id)) (hn : x ≠ "__name__") (hd : (x == ("__debug__" : Str)) = false) (hs : nst ea = true) (hs2 : nst eb = true) :
    PE X (.Call (.Name x p) [ea, eb] [] pos) (tE X.K (f2 g a b)) := by
  obtain ⟨r, o, s⟩ := h
  exact weakE (pe_callB o hg hm hv (pa_cons ha (pa_cons hb pa_nil (starEach_ns hs2)) (starEach_ns hs)) hn hd (starEach_ns hs) (star_plain (es := [eb]) (by rw [List.all_cons, hs2]; rfl))) fun σ H Q h => tCB2 s h
end

open PySem PySem.Spec PyProof.Rows L2
/-! ## defs: what they promise -/
abbrev Sem1 := List W → Tp → Option (D × Tp)
inductive ArgAll (K : PySem.W.Frag) (F : Hp) (t : Option Addr) : List V → List W → Prop
  | nil : ArgAll K F t [] []
  | d {v : V} {vs : List V} {x : D} {ws : List W} : Dq K F v x → ArgAll K F t vs ws → ArgAll K F t (v :: vs) (.d x :: ws)
  | tp {a : Addr} {vs : List V} {ws : List W} : t = some a → ArgAll K F t vs ws → ArgAll K F t (.ref a :: vs) (.tp :: ws)
theorem ArgAll.len {K : PySem.W.Frag} {F : Hp} {t : Option Addr} {vs : List V} {ws : List W} (h : ArgAll K F t vs ws) : vs.length = ws.length := by
  induction h with
  | nil => rfl
  | d _ _ ih => simp [ih]
  | tp _ _ ih => simp [ih]
theorem ArgAll.mono {K : PySem.W.Frag} {F F' : Hp} {t : Option Addr} {vs : List V} {ws : List W} (h : ArgAll K F t vs ws) (e : Same F F') : ArgAll K F' t vs ws := by
  induction h with
  | nil => exact .nil
  | d a _ ih => exact .d (dq_mono e a) ih
  | tp a _ ih => exact .tp a ih
def spD (K : PySem.W.Frag) (n : Nat) (sem : Sem1) : Sp := fun vs H Q _ => ∃ F t ws τ d τ', ws.length = n ∧ Same F H ∧ TapeOk K F H t τ ∧ ArgAll K F t vs ws ∧ sem ws τ = some (d, τ') ∧ ∀ F' v H', Post K t τ' F H F' H' → Dq K F' v d → Q v H'
theorem spD_len {K : PySem.W.Frag} {n : Nat} {sem : Sem1} {vs : List V} {H : Hp} {Q : VK} {E : XK} (h : spD K n sem vs H Q E) : vs.length = n := by
  obtain ⟨F, t, ws, τ, d, τ', h1, _, _, h2, _⟩ := h
  rw [h2.len, h1]
/-! the arguments as the def sees them -/
def noLoc : List W → Bool
  | [] => true
  | .loc _ :: _ => false
  | _ :: r => noLoc r
def noTp : List W → Bool
  | [] => true
  | .tp :: _ => false
  | _ :: r => noTp r
def seen (env : En) : List W → Option (List W)
  | [] => some []
  | .loc i :: r => match env[i]?, seen env r with
    | some (.own ds), some l => some (.d (.list ds) :: l)
    | _, _ => none
  | .d x :: r => match seen env r with
    | some l => some (.d x :: l)
    | none => none
  | _ => none
mutual
def noLst : D → Bool
  | .list _ => false
  | .tuple ds => noLstAll ds
  | .dict _ => false
  | _ => true
def noLstAll : List D → Bool
  | [] => true
  | d :: r => noLst d && noLstAll r
end
def eCall (sem : Sem1) (f : EvA) : EvF := fun env τ => match f env τ with
  | some (ws, τ1) => if noLoc ws = true then (if noTp ws = true then (match sem ws [] with
        | some (d, _) => some (.d d, τ1)
        | none => none)
      else (match sem ws τ1 with
        | some (d, τ2) => some (.d d, τ2)
        | none => none))
    else (match seen env ws with
      | some us => (match sem us [] with
        | some (d, _) => if noLst d = true then some (.d d, τ1) else none
        | none => none)
      | none => none)
  | none => none
section
variable {K : PySem.W.Frag} {F H F' H' Hb : Hp} {t : Option Addr} {env : En} {τ τ' : Tp} {σ : L2.St}
theorem args_of : ∀ {vs : List V} {ws : List W}, RwAll K F H Hb t σ vs ws → noLoc ws = true → (∀ w ∈ ws, ∀ ds, w ≠ .new ds) → ArgAll K F t vs ws
  | _, _, .nil, _, _ => .nil
  | _, _, .cons (w := w) a b, h, hn => by
    cases w with
    | d x => exact .d a (args_of b h fun w hw => hn w (List.mem_cons_of_mem _ hw))
    | loc i => cases h
    | tp =>
      obtain ⟨c, h1, rfl⟩ := a
      exact .tp h1 (args_of b h fun w hw => hn w (List.mem_cons_of_mem _ hw))
    | new ds => exact absurd rfl (hn _ (by simp) ds)
theorem args_notp {t' : Option Addr} {vs : List V} {ws : List W} (h : ArgAll K F t vs ws) (hn : noTp ws = true) : ArgAll K F t' vs ws := by
  induction h with
  | nil => exact .nil
  | d a _ ih => exact .d a (ih hn)
  | tp => cases hn
/-- a call that gets no tape leaves it -/
theorem Post.untaped (S : Sok K F H t env τ σ) (P : Post K none τ' F H F' H') : Post K t τ F H F' H' := by
  refine ⟨P.ext, P.same, P.new, fun b o h _ => P.keep b o h (fun z => nomatch z), ?_⟩
  have tp := S.tape
  cases t with
  | none => trivial
  | some a =>
    obtain ⟨h1, vs, h2, h3⟩ := tp
    exact ⟨P.none_of h1 h2, vs, P.keep _ _ h2 (fun z => nomatch z), dqAll_mono P.ext h3⟩
/-- the heap as data with the lists that the slots own -/
def OwnAddr (env : En) (σ : L2.St) (b : Addr) : Prop := ∃ (i : Nat) (ds : List D), env[i]? = some (Sl.own ds) ∧ σ[i]? = some (some (V.ref b))
open Classical in
noncomputable def withOwn (env : En) (σ : L2.St) (F H : Hp) : Hp := fun b => if OwnAddr env σ b then H b else F b
open Classical in
noncomputable def lessOwn (env : En) (σ : L2.St) (F : Hp) : Hp := fun b => if OwnAddr env σ b then none else F b
theorem own_at (S : Sok K F H t env τ σ) {b : Addr} (h : OwnAddr env σ b) : ∃ ds vs, F b = none ∧ t ≠ some b ∧ H b = some (.lst vs) ∧ DqAll K F vs ds := by
  obtain ⟨i, ds, h1, h2⟩ := h
  obtain ⟨a, vs, z1, z2, z3, z4, z5⟩ := S.slot i _ h1
  rw [h2] at z1
  cases z1
  exact ⟨ds, vs, z2, z3, z4, z5⟩
theorem withOwn_yes {b : Addr} (h : OwnAddr env σ b) : withOwn env σ F H b = H b := by unfold withOwn; rw [if_pos h]
theorem withOwn_no {b : Addr} (h : ¬ OwnAddr env σ b) : withOwn env σ F H b = F b := by unfold withOwn; rw [if_neg h]
theorem withOwn_ext (S : Sok K F H t env τ σ) : Same F (withOwn env σ F H) := fun b o e => by
  by_cases h : OwnAddr env σ b
  · obtain ⟨_, _, h1, _⟩ := own_at S h
    rw [h1] at e
    cases e
  · rw [withOwn_no h]
    exact e
theorem withOwn_same (S : Sok K F H t env τ σ) : Same (withOwn env σ F H) H := fun b o e => by
  by_cases h : OwnAddr env σ b
  · rw [withOwn_yes h] at e
    exact e
  · rw [withOwn_no h] at e
    exact S.same _ _ e
theorem seen_ok (S : Sok K F H t env τ σ) : ∀ {vs : List V} {ws us : List W}, RwAll K F H Hb t σ vs ws → seen env ws = some us → ArgAll K (withOwn env σ F H) none vs us
  | _, _, _, .nil, e => by cases e; exact .nil
  | _, _, _, .cons (v := v) (w := w) a b, e => by
    cases w with
    | d x =>
      unfold seen at e
      split at e
      · rename_i l h
        cases e
        exact .d (dq_mono (withOwn_ext S) a) (seen_ok S b h)
      · cases e
    | loc i =>
      unfold seen at e
      split at e
      · rename_i ds l h1 h2
        cases e
        obtain ⟨c, vs, z1, z2, z3, z4, z5⟩ := S.slot i _ h1
        have a' : σ[i]? = some (some v) := a
        rw [z1] at a'
        cases a'
        refine .d (.lst ?_ (dqAll_mono (withOwn_ext S) z5)) (seen_ok S b h2)
        rw [withOwn_yes ⟨i, ds, h1, z1⟩]
        exact z4
      · cases e
    | tp => cases e
    | new ds => cases e
mutual
theorem dq_less {G G' : Hp} (hg : ∀ b xs, Rd G b (.tup xs) → Rd G' b (.tup xs)) : ∀ {d : D} {v : V}, Dq K G v d → noLst d = true → Dq K G' v d
  | .none, _, h, _ => by cases h; exact .non
  | .bool b, _, h, _ => by cases h; exact .bl b
  | .int i, _, h, _ => by cases h; exact .int i
  | .str x, _, h, _ => by cases h; exact .str x
  | .list ds, _, _, e => by cases e
  | .tuple ds, _, h, e => by
    cases h with
    | tup s a =>
      refine .tup ?_ (dqAll_less hg a (by simpa [noLst] using e))
      rcases s with s | s
      · exact .inl (hg _ _ s)
      · exact .inr s
  | .dict _, _, h, _ => by cases h
theorem dqAll_less {G G' : Hp} (hg : ∀ b xs, Rd G b (.tup xs) → Rd G' b (.tup xs)) : ∀ {ds : List D} {vs : List V}, DqAll K G vs ds → noLstAll ds = true → DqAll K G' vs ds
  | [], _, h, _ => by cases h; exact .nil
  | d :: ds, _, h, e => by
    have e : noLst d = true ∧ noLstAll ds = true := by simpa [noLstAll] using e
    cases h with
    | cons a b => exact .cons (dq_less hg a e.1) (dqAll_less hg b e.2)
end
theorem Post.lessOwn (S : Sok K F H t env τ σ) (P : Post K none τ' (withOwn env σ F H) H F' H') {v : V} {d : D} (hd : Dq K F' v d) (hn : noLst d = true) : Post K t τ F H (lessOwn env σ F') H' ∧ Dq K (lessOwn env σ F') v d := by
  have yes : ∀ {b}, OwnAddr env σ b → Ev.lessOwn env σ F' b = none := fun {b} h => by unfold Ev.lessOwn; rw [if_pos h]
  have no : ∀ {b}, ¬ OwnAddr env σ b → Ev.lessOwn env σ F' b = F' b := fun {b} h => by unfold Ev.lessOwn; rw [if_neg h]
  have ext : Same F (Ev.lessOwn env σ F') := fun b o e => by
    have hb : ¬ OwnAddr env σ b := fun h => by
      obtain ⟨_, _, h1, _⟩ := own_at S h
      rw [h1] at e
      cases e
    rw [no hb]
    exact P.ext _ _ (withOwn_ext S _ _ e)
  refine ⟨⟨ext, fun b o e => ?_, fun b e => ?_, fun b o h _ => P.keep b o h (fun z => nomatch z), ?_⟩, ?_⟩
  · by_cases h : OwnAddr env σ b
    · rw [yes h] at e
      cases e
    · rw [no h] at e
      exact P.same _ _ e
  · by_cases h : OwnAddr env σ b
    · rw [yes h] at e
      exact absurd rfl e
    · rw [no h] at e
      have := P.new b e
      rw [withOwn_no h] at this
      exact this
  · have tp := S.tape
    cases t with
    | none => trivial
    | some a =>
      obtain ⟨h1, vs, h2, h3⟩ := tp
      have ha : ¬ OwnAddr env σ a := fun h => by
        obtain ⟨_, _, _, z, _⟩ := own_at S h
        exact z rfl
      have h4 : withOwn env σ F H a = none := by rw [withOwn_no ha]; exact h1
      exact ⟨by rw [no ha]; exact P.none_of h4 h2, vs, P.keep _ _ h2 (fun z => nomatch z), dqAll_mono ext h3⟩
  · refine dq_less (fun b xs h => ?_) hd hn
    by_cases hb : OwnAddr env σ b
    · obtain ⟨_, vs, _, _, z, _⟩ := own_at S hb
      have h5 : F' b = some (.lst vs) := P.ext _ _ (by rw [withOwn_yes hb]; exact z)
      rcases h with h | ⟨o, h⟩
      · rw [h5] at h; cases h
      · rw [h5] at h; cases h
    · unfold Rd
      rw [no hb]
      exact h
end
theorem RwAll.noNew {K : PySem.W.Frag} {F H Hb : Hp} {t : Option Addr} {σ : L2.St} {vs : List V} {ws : List W} (h : ∀ w ∈ ws, ∀ ds, w ≠ .new ds) (r : RwAll K F H Hb t σ vs ws) : True := trivial
section
variable {X : Cx}
/-- the arguments hold no list that was just made -/
def NoNew (f : EvA) : Prop := ∀ env τ ws τ', f env τ = some (ws, τ') → ∀ w ∈ ws, ∀ ds, w ≠ W.new ds
theorem noNew_nil : NoNew aNil := fun env τ ws τ' e w hw => by
  cases e
  cases hw
theorem noNew_cons {a : EvF} {r : EvA} (h : NoNew r) : NoNew (aCons a r) := fun env τ ws τ' e w hw ds z => by
  unfold aCons at e
  split at e
  · rename_i y τ1 e1
    split at e
    · rename_i ws' τ2 e2
      cases e
      rcases List.mem_cons.mp hw with q | q
      · rw [q] at z
        cases y <;> cases z
      · exact h _ _ _ _ e2 w q ds z
    · cases e
  · cases e
theorem call_core {sem : Sem1} {n : Nat} {f : EvA} {E : XK} (hn : NoNew f) (hlen : ∀ env τ ws τ', f env τ = some (ws, τ') → ws.length = n) {σ : L2.St} {H : Hp} {Q : VK} (h : tE X.K (eCall sem f) σ H Q) : tCall (spD X.K n sem) [] E (tA X.K f) σ H Q := by
  obtain ⟨F, t, env, τ, w, τ', S, e, q⟩ := h
  unfold eCall at e
  split at e
  · rename_i ws τ1 e1
    refine ⟨F, t, env, τ, ws, τ1, S, e1, fun F1 vs H1 P1 r1 => ?_⟩
    have S1 := S.post P1
    have hl := hlen _ _ _ _ e1
    show spD X.K n sem (vs ++ []) H1 Q E
    rw [List.append_nil]
    split at e
    · rename_i h1
      have ha := args_of r1 h1 (hn _ _ _ _ e1)
      split at e
      · rename_i h2
        split at e
        · rename_i d τ2 e2
          cases e
          exact ⟨F1, none, ws, [], d, τ2, hl, S1.same, trivial, args_notp ha h2, e2, fun F' v H' P r => q F' v H' (P1.trans (P.untaped S1)) r⟩
        · cases e
      · split at e
        · rename_i d τ2 e2
          cases e
          exact ⟨F1, t, ws, τ1, d, _, hl, S1.same, S1.tape, ha, e2, fun F' v H' P r => q F' v H' (P1.trans P) r⟩
        · cases e
    · split at e
      · rename_i us e2
        split at e
        · rename_i d τ2 e3
          split at e
          · rename_i h3
            cases e
            have ha := seen_ok S1 r1 e2
            have hl2 : us.length = n := by
              rw [← ha.len, ← hl]
              exact (by
                have : ∀ {vs : List V} {ws : List W}, RwAll X.K F1 H1 H t σ vs ws → vs.length = ws.length := fun {vs ws} r => by
                  induction r with
                  | nil => rfl
                  | cons _ _ ih => simp [ih]
                exact this r1)
            refine ⟨_, none, us, [], d, τ2, hl2, withOwn_same S1, trivial, ha, e3, fun F' v H' P r => ?_⟩
            obtain ⟨P', r'⟩ := P.lessOwn S1 r h3
            exact q _ v H' (P1.trans P') r'
          · cases e
        · cases e
      · cases e
  · cases e

def LenIs (f : EvA) (n : Nat) : Prop := ∀ env τ ws τ', f env τ = some (ws, τ') → ws.length = n
theorem lenIs_nil : LenIs aNil 0 := fun env τ ws τ' e => by
  cases e
  rfl
theorem lenIs_cons {a : EvF} {r : EvA} {n : Nat} (h : LenIs r n) : LenIs (aCons a r) (n + 1) := fun env τ ws τ' e => by
  unfold aCons at e
  split at e
  · rename_i y τ1 e1
    split at e
    · rename_i ws' τ2 e2
      cases e
      rw [List.length_cons, h _ _ _ _ e2]
    · cases e
  · cases e
/-- the def x stands in the text and keeps its promise -/
structure FnIn (X : Cx) (k : Nat) (x : Str) (n : Nat) (sem : Sem1) : Prop where
  ex : ∃ (f : Addr) (fd : FuncData) (ps : List Str), X.mg x = some (.ref f) ∧ PySem.W.keepIn X.K (.ref f) = true ∧ Binds X.K fd ps [] ∧ ps.length = n ∧ FnOk X.prog X.w X.K X.mg X.base CX0 k f fd ps (spD X.K n sem)
theorem call_ok {k n : Nat} {x : Str} {sem : Sem1} {f : EvA} {e : Expr} {es : List Expr} {p pos : Pos} (F : FnIn X k x n sem) (hr : Room k X.A) (hg : Gl X x) (ha : PA X (e :: es) (tA X.K f)) (hn : NoNew f) (hl : LenIs f n) (hd : (x == ("__debug__" : Str)) = false) (hs : (e :: es).all nst = true) :
    PE X (.Call (.Name x p) (e :: es) [] pos) (tE X.K (eCall sem f)) := by
  obtain ⟨fa, fd, ps, h1, h2, h3, h4, h5⟩ := F.ex
  rw [List.all_cons, Bool.and_eq_true] at hs
  exact weakE (pe_call h5 hr hg h1 h2 h3 .nil pass0 ha hd (starEach_ns hs.1) (star_plain hs.2)) fun σ H Q h => call_core hn hl h
theorem call0_ok {k : Nat} {x : Str} {sem : Sem1} {p pos : Pos} (F : FnIn X k x 0 sem) (hr : Room k X.A) (hg : Gl X x) (hd : (x == ("__debug__" : Str)) = false) :
    PE X (.Call (.Name x p) [] [] pos) (tE X.K (eCall sem aNil)) := by
  obtain ⟨fa, fd, ps, h1, h2, h3, h4, h5⟩ := F.ex
  refine weakE (pe_call0 h5 hr hg h1 h2 h3 .nil pass0 hd) fun σ H Q h => ?_
  obtain ⟨F, t, env, τ, ws, τ', S, e, q⟩ := call_core (E := E0) noNew_nil lenIs_nil h
  cases e
  exact q F [] H (.refl S) .nil
end

open PySem PySem.Spec PyProof.Rows L2
/-! ### iterators over a list or a tuple (true: a list) -/
def IsSeqB (b : Bool) (h : Heap) (a : Addr) (its : Array Value) : Prop := if b = true then h.IsList a its else h.IsTuple a its
def ItB (b : Bool) (h : Heap) (it a : Addr) (i : Nat) : Prop := if b = true then h.IsListIter it a i else h.IsTupleIter it a i
def objB (b : Bool) (a : Addr) : Obj := if b = true then { cls := .type "list_iterator", data := .fields #[.ref a, .int 0 0] } else { cls := .type "tuple_iterator", data := .fields #[.ref a, .int 0 0] }
def SqB (K : PySem.W.Frag) (b : Bool) (H : Hp) (a : Addr) (xs : List V) : Prop := if b = true then SqL K H a xs else SqT K H a xs
theorem Sq.B {K : PySem.W.Frag} {b : Bool} {H : Hp} {a : Addr} {vs : List V} (h : Sq K b H a vs) : SqB K b H a vs := by
  cases b with
  | true => exact SqL.of h
  | false => exact h
theorem SqB.mono {K : PySem.W.Frag} {b : Bool} {H H' : Hp} {a : Addr} {vs : List V} (h : SqB K b H a vs) (e : Same H H') : SqB K b H' a vs := by
  cases b with
  | true => exact e.seq h
  | false => exact seqT_mono e h
section
variable {X : Cx} {pins : List (Addr × Obj)} {σ : L2.St} {H : Hp} {s : Shared}
theorem seqB (I : Inv X pins σ H s) {b : Bool} {a : Addr} {xs : List V} (h : SqB X.K b H a xs) : ∃ its : List Value, Vals xs its ∧ IsSeqB b s.heap a its.toArray ∧ a < s.heap.objs.size := by
  cases b with
  | true =>
    obtain ⟨its, r, p, _⟩ := I.list h
    exact ⟨its, r, p.isList, p.lt⟩
  | false =>
    obtain ⟨its, r, p, _⟩ := I.tuple h
    obtain ⟨o, ho, _⟩ := id p
    exact ⟨its, r, p, Heap.lt_size ho⟩
theorem seqB_inj (I : Inv X pins σ H s) {b : Bool} {a : Addr} {xs ys : List V} (h : SqB X.K b H a xs) (h' : SqB X.K b H a ys) : xs = ys := by
  cases b with
  | true => exact I.list_inj h h'
  | false => exact I.tuple_inj h h'
end
theorem drawsB {prog : Program} {w : World} {A : Around} (hh : A.handled = none) (b : Bool) (it a : Addr) (hne : a ≠ it) (items : Array Value) :
    Draws prog w A it [it, a] items.size (fun i v => items[i]? = some v) (fun i h => ItB b h it a i ∧ IsSeqB b h a items) := by
  cases b with
  | true => exact Draws.list hh it a hne items
  | false => exact Draws.tuple hh it a hne items
theorem beginsB (b : Bool) (a : Addr) (items : Array Value) : Begins (.ref a) (objB b a) fun h => IsSeqB b h a items := by
  cases b with
  | true => exact begins_list a items
  | false => exact begins_tuple a items
theorem itB_start {b : Bool} {h : Heap} {it a : Addr} (e : h.get? it = some (objB b a)) : ItB b h it a 0 := by
  cases b with
  | true => exact ⟨_, e, rfl, rfl⟩
  | false => exact ⟨_, e, rfl, rfl⟩
theorem itB_at {b : Bool} {h h' : Heap} {it a : Addr} {i : Nat} (x : ItB b h it a i) (k : ∀ o, h.get? it = some o → h'.get? it = some o) : ItB b h' it a i := by
  cases b with
  | true => exact Heap.IsListIter.at (show h.IsListIter it a i from x) k
  | false => exact Heap.IsTupleIter.at (show h.IsTupleIter it a i from x) k
theorem itB_obj {b : Bool} {h : Heap} {it a : Addr} {i : Nat} (x : ItB b h it a i) : ∃ o, h.get? it = some o ∧ ∀ v, o.data ≠ .cell v := by
  cases b with
  | true =>
    obtain ⟨o, e, _, d⟩ := (show h.IsListIter it a i from x)
    exact ⟨o, e, fun v q => by rw [d] at q; cases q⟩
  | false =>
    obtain ⟨o, e, _, d⟩ := (show h.IsTupleIter it a i from x)
    exact ⟨o, e, fun v q => by rw [d] at q; cases q⟩
/-! ### enumerate -/
def JEnum (K : PySem.W.Frag) (b : Bool) (a : Addr) : It :=
  ⟨fun i H => ∃ (xs : List V) (x : V), SqB K b H a xs ∧ xs[i]? = some x, fun i H v H' => ∃ T x, v = .ref T ∧ H T = none ∧ H' = upd H T (.tup [.int (i : Nat), x]) ∧ ∀ xs, SqB K b H a xs → xs[i]? = some x, fun i H => ∃ xs : List V, SqB K b H a xs ∧ xs.length = i⟩
theorem turn_enumB {P : Program} {w : World} {K : PySem.W.Frag} {elts : List Expr} {kk : Nat} {tpos : Pos} (b : Bool) (a e it : Addr) (hai : a ≠ it) (hea : e ≠ a) :
    Turn P w K (.Tuple elts kk tpos) (JEnum K b a) [e, it] e (fun i h => (∃ old, IsEnum h e it ((i : Nat) : Int) old) ∧ ItB b h it a i ∧ e ≠ it) where
  mem := by simp
  obj := fun i h st c hc => by
    obtain ⟨⟨old, he⟩, hi, _⟩ := st
    have e' : c = e ∨ c = it := by simpa using hc
    rcases e' with z | z
    · rw [z]; exact ⟨_, he, fun v q => nomatch q⟩
    · rw [z]; exact itB_obj hi
  keep := fun i h h' st k => let ⟨⟨old, he⟩, hi, hne⟩ := st; ⟨⟨old, k e (by simp) _ he⟩, itB_at hi fun o q => k it (by simp) o q, hne⟩
  item := by
    intro X hP hw hK hc i pins s σ H E I hf st hg
    subst hP hw hK
    obtain ⟨⟨old, he⟩, hit, hne⟩ := st
    obtain ⟨xs, x, hq, hx⟩ := hg
    obtain ⟨its, rv, p, _⟩ := seqB I hq
    obtain ⟨u, hu, ru⟩ := rv.get hx
    have hel : e < s.heap.objs.size := Heap.lt_size he
    have hil : it < s.heap.objs.size := by obtain ⟨_, q, _⟩ := itB_obj hit; exact Heap.lt_size q
    have hlt : i < its.toArray.size := by
      have := (List.getElem?_eq_some_iff.mp hu).1
      simpa using this
    refine wpAny_pyNext_enum_itemC (drawsB (A := X.A.in1) (I.ok.hd hc) b it a hai its.toArray) he ⟨hit, p⟩ hlt hne (by simp [hne, hea]) fun y h' tk hy ho hit' hT hsz hk => ?_
    have hyu : y = u := by
      have : its.toArray[i]? = some u := by simpa using hu
      rw [this] at hy
      exact (Option.some.inj hy).symm
    subst hyu
    refine ⟨_, rfl, wpAny_letOwnedTupleGo_enum (s := { s with heap := h', toks := tk + 1 }) ho fun h'' he' sb => ?_⟩
    have hT2 : h''.get? s.heap.objs.size = some { cls := .type "tuple", data := .seq #[.int i tk, y] } := (sb.2 _ (Nat.ne_of_gt hel)).trans hT
    have new : ObjOk X.prog X.w (upd H s.heap.objs.size (.tup [.int (i : Nat), x])) h'' s.heap.objs.size (.tup [.int (i : Nat), x]) :=
      ⟨by show 2 ≤ sizeLine; decide, [.int i tk, y], .cons ⟨_, rfl⟩ (.cons ru .nil), ⟨_, hT2, rfl, _, rfl⟩⟩
    have I1 : Inv X pins σ (upd H s.heap.objs.size (.tup [.int (i : Nat), x])) { s with heap := h'', toks := tk + 1 } :=
      I.turnedNew (ch := [e, it]) (fun c ob hb q => (sb.2 c (fun z => hb (by simp [z]))).trans (hk c ob (fun z => hb (by simp [z])) (fun z => hb (by simp [z])) q)) hf (Nat.le_refl _) new
    refine ⟨.ref s.heap.objs.size, _, I1, rfl, ⟨_, x, rfl, I.hok.fresh (Nat.le_refl _), rfl, fun ys hy => by rw [seqB_inj I hy hq]; exact hx⟩, ⟨⟨y, ?_⟩, itB_at hit'.1 fun o q => (sb.2 it (Ne.symm hne)).trans q, hne⟩, fun c hb => ?_⟩
    · have e1 : ((i + 1 : Nat) : Int) = (i : Int) + 1 := by omega
      rw [e1]; exact he'
    · have hb' : c < s.heap.objs.size := by
        have e' : c = e ∨ c = it := by simpa using hb
        rcases e' with z | z
        · rw [z]; exact hel
        · rw [z]; exact hil
      rw [upd_ne (Nat.ne_of_lt hb')]
      exact (hf c hb).1
  done := by
    intro X hP hw hK hc i pins s σ H E I hf st hg
    subst hP hw hK
    obtain ⟨⟨old, he⟩, hit, hne⟩ := st
    obtain ⟨xs, hq, hx⟩ := hg
    obtain ⟨its, rv, p, _⟩ := seqB I hq
    obtain ⟨f0, f1, f2, f3, f4, f5⟩ := hf it (by simp)
    have hl := rv.length
    have hi : i = its.toArray.size := by simp; omega
    subst hi
    exact wpAny_pyNext_enum_endD (drawsB (A := X.A.in1) (I.ok.hd hc) b it a hai its.toArray) he ⟨hit, p⟩ fun h' eb => ⟨rfl, I.turned (t' := s.toks) (fun c o hb q => eb c o hb q) f0 f1 f3 f4 f5⟩
  self := fun A i s Q E st h => let ⟨⟨_, he⟩, _⟩ := st; wpAny_pyIter_enum he h
set_option maxHeartbeats 1000000 in
theorem enum_new1 {v : Value} {o : Obj} {H : Heap → Prop} (B : Begins v o H) :
    Meets (Builtin.«enumerate.__new__» ⟨[.type "enumerate", v], []⟩) (fun _ R s => H s.heap ∧
      R (.ok (.ret (.ref (s.heap.push o).objs.size))) { s with heap := (s.heap.push o).push { cls := .type "enumerate", data := .fields #[.none, .bool false, .ref s.heap.objs.size, rawInt 0, .none, .none] } }) :=
  .of_wp fun prog w A R s h => by
    obtain ⟨hp, g, d, tk, os⟩ := s; obtain ⟨h1, h⟩ := h
    have hsub := sub_enumerate
    have q1 : ∀ {A' : Around} {E : Value → Shared → Prop} {Q : Value → Shared → Prop}, Q (.ref hp.objs.size) ⟨hp.push o, g, d, tk, os⟩ → wpAny (model prog w) A' (pyIter v) Q E ⟨hp, g, d, tk, os⟩ :=
      fun q => B.iter prog w _ _ ⟨hp, g, d, tk, os⟩ _ h1 q
    wp_walk using q1
    refine wpAny_stack_any fun st => wpAny_pure ?_
    split
    · rename_i c _ _ _ _ _
      cases (c == Value.type "enumerate")
      · wp_walk using q1
        exact ⟨_, rfl, h⟩
      · wp_walk using q1
        exact ⟨_, rfl, h⟩
    · wp_walk using q1
      exact ⟨_, rfl, h⟩
section
variable {prog : Program} {w : World} {A : Around} {E : Value → Shared → Prop} {s : Shared}
theorem enum_begins1 {v : Value} {o : Obj} {H : Heap → Prop} {Q : Value → Shared → Prop} (B : Begins v o H) (h1 : H s.heap)
    (h : ∀ h', IsEnum h' (s.heap.objs.size + 1) s.heap.objs.size 0 .none → h'.get? s.heap.objs.size = some o → h'.objs.size = s.heap.objs.size + 2 →
      (∀ b o, s.heap.get? b = some o → h'.get? b = some o) → Q (.ref (s.heap.objs.size + 1)) { s with heap := h' }) :
    wpAny (model prog w) A (call (.type "enumerate") [v]) Q E s := by
  refine callType_new F.called_enumerate (by decide) (F.typeCall_enumerate_1 _) (F.newCall_enumerate_1 _) (fun obj => F.args_object_init_2 obj _) F.entry_enumerate_new
    (enum_new1 B) ⟨h1, ?_⟩
  have hz : (s.heap.push o).objs.size = s.heap.objs.size + 1 := Heap.size_push ..
  show _ ∧ _
  rw [hz]
  have he : IsEnum ((s.heap.push o).push { cls := .type "enumerate", data := .fields #[.none, .bool false, .ref s.heap.objs.size, rawInt 0, .none, .none] }) (s.heap.objs.size + 1) s.heap.objs.size 0 .none := by
    have := Heap.get?_push_size (s.heap.push o) (o := { cls := .type "enumerate", data := .fields #[.none, .bool false, .ref s.heap.objs.size, rawInt 0, .none, .none] }) rfl
    rw [hz] at this; exact this
  refine ⟨⟨_, he, rfl⟩, h _ he (Heap.get?_push_of_some _ (Heap.get?_push_size _ B.free)) (by rw [Heap.size_push, hz]) fun b o x => Heap.get?_push_of_some _ (Heap.get?_push_of_some _ x)⟩
end
def iEnumB (K : PySem.W.Frag) (ta : TA) : TI := fun σ H R => ta σ H fun vs H1 => ∃ b a xs, vs = [.ref a] ∧ SqB K b H1 a xs ∧ R (JEnum K b a) H1
theorem pi_enumB {X : Cx} {e : Expr} {ta : TA} {p pos tpos : Pos} {elts : List Expr} {kk : Nat} (hg : Gl X "enumerate") (hm : X.mg "enumerate" = none) (ha : PA X [e] ta) (hs : starEach [e] X.env = [(false, eval e X.env)]) :
    PI X (.Tuple elts kk tpos) (.Call (.Name "enumerate" p) [e] [] pos) (iEnumB X.K ta) := by
  refine ⟨fun pins s σ H R I h => ?_⟩
  refine Call_ (ld_blt I hg hm boot_enumerate (PyProof.Rows.callWith_type1 (thn (ha.run pos pins s σ H _ I h) fun us s1 ⟨vs, H1, I1, r1, q1⟩ => ?_) hs rfl))
  obtain ⟨b, a, xs, ex, hq, q⟩ := q1
  subst ex
  cases r1 with
  | cons r rr =>
    cases rr
    cases r
    obtain ⟨its, rv, p', hal⟩ := seqB I1 hq
    refine enum_begins1 (beginsB b a its.toArray) p' fun h' he hit hsz hk => wpAny_pyIter_enum he ?_
    have I2 : Inv X pins σ H1 { s1 with heap := h' } := I1.kept (t' := s1.toks) hk
    refine ⟨s1.heap.objs.size + 1, [s1.heap.objs.size + 1, s1.heap.objs.size], _, _, H1, rfl, I2, turn_enumB b a (s1.heap.objs.size + 1) s1.heap.objs.size (Nat.ne_of_lt hal) (Nat.ne_of_gt (Nat.lt_succ_of_lt hal)), ⟨⟨.none, he⟩, itB_start hit, Nat.succ_ne_self _⟩, fun c hb => ?_, q⟩
    have e' : c = s1.heap.objs.size + 1 ∨ c = s1.heap.objs.size := by simpa using hb
    have hle : s1.heap.objs.size ≤ c := by
      rcases e' with z | z
      · rw [z]; exact Nat.le_add_right _ _
      · rw [z]; exact Nat.le_refl _
    exact I1.fpOk hle (I1.hok.fresh hle)
/-! ### zip of two -/
def JZip (K : PySem.W.Frag) (b c : Bool) (a1 a2 : Addr) : It :=
  ⟨fun i H => ∃ (xs ys : List V) (x y : V), SqB K b H a1 xs ∧ SqB K c H a2 ys ∧ xs[i]? = some x ∧ ys[i]? = some y,
    fun i H v H' => ∃ T x y, v = .ref T ∧ H T = none ∧ H' = upd H T (.tup [x, y]) ∧ (∀ xs, SqB K b H a1 xs → xs[i]? = some x) ∧ ∀ ys, SqB K c H a2 ys → ys[i]? = some y,
    fun i H => ∃ xs ys : List V, SqB K b H a1 xs ∧ SqB K c H a2 ys ∧ i ≤ xs.length ∧ i ≤ ys.length ∧ (i = xs.length ∨ i = ys.length)⟩
theorem turn_zipB {P : Program} {w : World} {K : PySem.W.Frag} {elts : List Expr} {kk : Nat} {tpos : Pos} (b c : Bool) {a1 a2 z TI TO i1 i2 : Addr} (S : ZipSep2 z TI TO i1 i2 [i1, a1] [i2, a2]) (h1i : a1 ≠ i1) (h2i : a2 ≠ i2) :
    Turn P w K (.Tuple elts kk tpos) (JZip K b c a1 a2) [z, TI, TO, i1, i2] z (fun i h => IsZip h z TI TO .none ∧ IsTupOf2 h TI (.ref i1) (.ref i2) ∧ (∃ x y, IsTupOf2 h TO x y) ∧ ItB b h i1 a1 i ∧ ItB c h i2 a2 i) where
  mem := by simp
  obj := fun i h st d hc => by
    obtain ⟨hz, hTI, ⟨x, y, hTO⟩, h1, h2⟩ := st
    have e' : d = z ∨ d = TI ∨ d = TO ∨ d = i1 ∨ d = i2 := by simpa using hc
    rcases e' with q | q | q | q | q
    · rw [q]; exact ⟨_, hz, fun v q => nomatch q⟩
    · rw [q]; exact ⟨_, hTI, fun v q => nomatch q⟩
    · rw [q]; exact ⟨_, hTO, fun v q => nomatch q⟩
    · rw [q]; exact itB_obj h1
    · rw [q]; exact itB_obj h2
  keep := fun i h h' st k => by
    obtain ⟨hz, hTI, ⟨x, y, hTO⟩, h1, h2⟩ := st
    exact ⟨k z (by simp) _ hz, k TI (by simp) _ hTI, ⟨x, y, k TO (by simp) _ hTO⟩, itB_at h1 fun o q => k i1 (by simp) o q, itB_at h2 fun o q => k i2 (by simp) o q⟩
  item := by
    intro X hP hw hK hc i pins s σ H E I hf st hg
    subst hP hw hK
    obtain ⟨hz, hTI, ⟨x0, y0, hTO⟩, h1, h2⟩ := st
    obtain ⟨xs, ys, x, y, hqx, hqy, hx, hy⟩ := hg
    obtain ⟨its, rv, p, _⟩ := seqB I hqx
    obtain ⟨its2, rv2, p2, _⟩ := seqB I hqy
    obtain ⟨u, hu, ru⟩ := rv.get hx
    obtain ⟨u2, hu2, ru2⟩ := rv2.get hy
    have hzl : z < s.heap.objs.size := Heap.lt_size hz
    have hl1 : i < its.toArray.size := by
      have := (List.getElem?_eq_some_iff.mp hu).1
      simpa using this
    have hl2 : i < its2.toArray.size := by
      have := (List.getElem?_eq_some_iff.mp hu2).1
      simpa using this
    have hh := I.ok.hd hc
    refine wpAny_pyNext_zipD2_item S (drawsB (A := X.A.in1) hh b i1 a1 h1i its.toArray) (drawsB (A := X.A.in1) hh c i2 a2 h2i its2.toArray) hz hTI hTO ⟨h1, p⟩ ⟨h2, p2⟩ hl1 hl2 fun y1 y2 h' tk hy1 hy2 z' TO' h1' h2' hT hsz hk => ?_
    have e1 : y1 = u := by
      have : its.toArray[i]? = some u := by simpa using hu
      rw [this] at hy1
      exact (Option.some.inj hy1).symm
    have e2 : y2 = u2 := by
      have : its2.toArray[i]? = some u2 := by simpa using hu2
      rw [this] at hy2
      exact (Option.some.inj hy2).symm
    subst e1 e2
    refine ⟨_, rfl, wpAny_letOwnedTupleGo_zip (s := { s with heap := h', toks := tk }) z' fun h'' z'' sb => ?_⟩
    have hT2 : h''.get? s.heap.objs.size = some { cls := .type "tuple", data := .seq #[y1, y2] } := (sb.2 _ (Nat.ne_of_gt hzl)).trans hT
    have new : ObjOk X.prog X.w (upd H s.heap.objs.size (.tup [x, y])) h'' s.heap.objs.size (.tup [x, y]) :=
      ⟨by show 2 ≤ sizeLine; decide, [y1, y2], .cons ru (.cons ru2 .nil), ⟨_, hT2, rfl, _, rfl⟩⟩
    have I1 : Inv X pins σ (upd H s.heap.objs.size (.tup [x, y])) { s with heap := h'', toks := tk } :=
      I.turnedNew (ch := [z, TI, TO, i1, i2]) (fun d o hb q => (sb.2 d (fun q' => hb (by simp [q']))).trans (hk d o (fun q' => hb (by simp [q'])) (fun q' => hb (by simp [q'])) (fun q' => hb (by simp [q'])) (fun q' => hb (by simp [q'])) q)) hf (Nat.le_refl _) new
    refine ⟨.ref s.heap.objs.size, _, I1, rfl, ⟨_, x, y, rfl, I.hok.fresh (Nat.le_refl _), rfl, fun l hl => by rw [seqB_inj I hl hqx]; exact hx, fun l hl => by rw [seqB_inj I hl hqy]; exact hy⟩, ⟨z'', ?_, ⟨y1, y2, ?_⟩, ?_, ?_⟩, fun d hcm => ?_⟩
    · exact (sb.2 _ S.TIz).trans (hk _ _ S.TIz S.TITO S.TIi1 S.TIi2 hTI)
    · exact (sb.2 _ S.TOz).trans TO'
    · exact itB_at h1'.1 fun o q => (sb.2 _ (Ne.symm S.zi1)).trans q
    · exact itB_at h2'.1 fun o q => (sb.2 _ (Ne.symm S.zi2)).trans q
    · have hlt : d < s.heap.objs.size := by
        have e' : d = z ∨ d = TI ∨ d = TO ∨ d = i1 ∨ d = i2 := by simpa using hcm
        rcases e' with q | q | q | q | q
        · rw [q]; exact hzl
        · rw [q]; exact Heap.lt_size hTI
        · rw [q]; exact Heap.lt_size hTO
        · rw [q]; obtain ⟨_, e1, _⟩ := itB_obj h1; exact Heap.lt_size e1
        · rw [q]; obtain ⟨_, e2, _⟩ := itB_obj h2; exact Heap.lt_size e2
      rw [upd_ne (Nat.ne_of_lt hlt)]
      exact (hf d hcm).1
  done := by
    intro X hP hw hK hc i pins s σ H E I hf st hg
    subst hP hw hK
    obtain ⟨hz, hTI, ⟨x0, y0, hTO⟩, h1, h2⟩ := st
    obtain ⟨xs, ys, hqx, hqy, l1, l2, hend⟩ := hg
    obtain ⟨its, rv, p, _⟩ := seqB I hqx
    obtain ⟨its2, rv2, p2, _⟩ := seqB I hqy
    have m1 := rv.length
    have m2 := rv2.length
    have hh := I.ok.hd hc
    refine wpAny_pyNext_zipD2_end S (drawsB (A := X.A.in1) hh b i1 a1 h1i its.toArray) (drawsB (A := X.A.in1) hh c i2 a2 h2i its2.toArray) hz hTI hTO ⟨h1, p⟩ ⟨h2, p2⟩ (by simp; omega) (by simp; omega) (by simp; omega) fun h' tk hk => ⟨rfl, I.turnedL (t' := tk) (ch := [z, TI, TO, i1, i2]) (fun d o hb q =>
      hk d o (fun q' => hb (by simp [q'])) (fun q' => hb (by simp [q'])) (fun q' => hb (by simp [q'])) (fun q' => hb (by simp [q'])) q) hf⟩
  self := fun A i s Q E st h => wpAny_pyIter_zip st.1 h
def iZipB (K : PySem.W.Frag) (ta : TA) : TI := fun σ H R => ta σ H fun vs H1 => ∃ b c a1 a2 xs ys, vs = [.ref a1, .ref a2] ∧ SqB K b H1 a1 xs ∧ SqB K c H1 a2 ys ∧ R (JZip K b c a1 a2) H1
theorem pi_zipB {X : Cx} {e e2 : Expr} {ta : TA} {p pos tpos : Pos} {elts : List Expr} {kk : Nat} (hg : Gl X "zip") (hm : X.mg "zip" = none) (ha : PA X [e, e2] ta)
    (hs : starEach [e, e2] X.env = (false, eval e X.env) :: starEach [e2] X.env) (hpl : (backTo pos (starEach [e2] X.env)).any (·.1) = false) :
    PI X (.Tuple elts kk tpos) (.Call (.Name "zip" p) [e, e2] [] pos) (iZipB X.K ta) := by
  refine ⟨fun pins s σ H R I h => ?_⟩
  refine Call_ (ld_blt I hg hm PyProof.Rows.boot_zip (PyProof.Rows.callWith_type1 (thn (ha.run pos pins s σ H _ I h) fun us s1 ⟨vs, H1, I1, r1, q1⟩ => ?_) hs hpl))
  obtain ⟨b, c, a1, a2, xs, ys, ex, hqx, hqy, q⟩ := q1
  subst ex
  cases r1 with
  | cons r rr =>
    cases rr with
    | cons r' rr =>
      cases rr
      cases r
      cases r'
      obtain ⟨its, rv, p1, l1⟩ := seqB I1 hqx
      obtain ⟨its2, rv2, p2, l2⟩ := seqB I1 hqy
      refine zip_begins2 (beginsB b a1 its.toArray) (beginsB c a2 its2.toArray) p1 p2 fun h' hz hTI hTO h1 h2 hsz hk => wpAny_pyIter_zip hz ?_
      have I2 : Inv X pins σ H1 { s1 with heap := h' } := I1.kept (t' := s1.toks) hk
      refine ⟨s1.heap.objs.size + 4, [s1.heap.objs.size + 4, s1.heap.objs.size + 2, s1.heap.objs.size + 3, s1.heap.objs.size, s1.heap.objs.size + 1], _, _, H1, rfl, I2,
        turn_zipB b c (zip_sep2 (N := s1.heap.objs.size) (fp1 := [a1]) (fp2 := [a2]) (fun d hd => by rw [List.mem_singleton.mp hd]; exact l1) fun d hd => by rw [List.mem_singleton.mp hd]; exact l2) (Nat.ne_of_lt l1) (Nat.ne_of_lt (Nat.lt_succ_of_lt l2)),
        ⟨hz, hTI, ⟨_, _, hTO⟩, itB_start h1, itB_start h2⟩, fun d hcm => ?_, q⟩
      have e' : d = s1.heap.objs.size + 4 ∨ d = s1.heap.objs.size + 2 ∨ d = s1.heap.objs.size + 3 ∨ d = s1.heap.objs.size ∨ d = s1.heap.objs.size + 1 := by simpa using hcm
      have hle : s1.heap.objs.size ≤ d := by
        rcases e' with z | z | z | z | z
        · rw [z]; exact Nat.le_add_right _ _
        · rw [z]; exact Nat.le_add_right _ _
        · rw [z]; exact Nat.le_add_right _ _
        · rw [z]; exact Nat.le_refl _
        · rw [z]; exact Nat.le_add_right _ _
      exact I1.fpOk hle (I1.hok.fresh hle)

open PySem PySem.Spec PyProof.Rows L2
/-! ### a, b = a list -/
section
variable {prog : Program} {w : World} {A : Around} {E : Value → Shared → Prop} {s : Shared}
theorem drawL {it t : Addr} {items : Array Value} (hne : t ≠ it) : ∀ (n i : Nat) (s : Shared) (Q : List Value → Shared → Prop), s.heap.IsListIter it t i → s.heap.IsList t items → i + n ≤ items.size →
    (∀ h', h'.IsListIter it t (i + n) → Heap.SameBut it s.heap h' → Q ((items.toList.drop i).take n) { s with heap := h' }) → wpAny (model prog w) A (draw (.ref it) n) Q E s
  | 0, i, s, Q, hit, _, _, hQ => by
    show wpAny _ _ (pure []) Q E s
    exact wpAny_pure (by simpa using hQ s.heap hit (Heap.SameBut.refl ..))
  | n + 1, i, s, Q, hit, ht, hle, hQ => by
    have hlt : i < items.size := by omega
    show wpAny _ _ (pyNext (.ref it) >>= _) Q E s
    refine wpAny_bind (wpAny_pyNext_list_item hit ht (x := items[i]) (by simp [hlt]) fun h₁ hit₁ hs₁ => ?_)
    refine wpAny_bind (wpAny_holding (drawL hne n (i + 1) _ _ hit₁ (ht.extBut hs₁.extBut hne) (by omega) fun h₂ hit₂ hs₂ => wpAny_pure ?_))
    have hd : items.toList.drop i = items[i] :: items.toList.drop (i + 1) := by simp [List.drop_eq_getElem_cons, hlt]
    have := hQ h₂ (by rw [show i + (n + 1) = i + 1 + n by omega]; exact hit₂) (hs₁.trans hs₂)
    rw [hd, List.take_succ_cons] at this
    exact this
theorem unpackL {t : Addr} {items : Array Value} {Q : List Value → Shared → Prop} (hh : A.handled = none) (ht : s.heap.IsList t items)
    (hQ : ∀ h', Heap.ExtBut s.heap.objs.size s.heap h' → Q items.toList { s with heap := h' }) : wpAny (model prog w) A (unpackItems (.ref t) items.size none) Q E s := by
  have hlt : t ≠ s.heap.objs.size := by obtain ⟨o, ho, _⟩ := ht; exact Nat.ne_of_lt (Heap.lt_size ho)
  unfold unpackItems
  refine wpAny_bind ?_
  · unfold notIterableAtAll
    refine wpAny_bind (wpAny_specialOf ht.typeIs F.slot_list_iter.lookup ?_)
    refine wpAny_pure ?_
    simp only [Bool.false_eq_true, if_false]
    refine wpAny_bind (wpAny_holding (wpAny_pyIter_list ht ?_))
    refine wpAny_bind (wpAny_holding (drawL hlt items.size 0 _ _ ⟨_, Heap.get?_push_size _ rfl, rfl, rfl⟩ (ht.push _) (by omega) fun h₁ hit₁ hs₁ => ?_))
    have hall : List.take items.size (List.drop 0 items.toList) = items.toList := by
      rw [List.drop_zero]; exact List.take_of_length_le (by simp)
    rw [hall]
    rw [if_neg (by simp)]
    have ht₁ : h₁.IsList t items := (ht.push _).extBut hs₁.extBut hlt
    refine wpAny_bind (wpAny_holding (wpAny_pyNext_list_end hh hit₁ ht₁ (by simp) fun h₂ he₂ => ?_))
    simp only [Option.isSome_none, Bool.false_eq_true, if_false]
    refine wpAny_pure (hQ h₂ fun b o hb e => he₂ b o hb (hs₁.extBut b o hb (Heap.get?_push_of_some _ e)))
theorem assign_tupL {env : Env} {elts : List Expr} {x1} {pos : Pos} {t : Addr} {items : Array Value} {Q : Unit → Shared → Prop} (hh : A.handled = none) (ht : s.heap.IsList t items)
    (hn : (assignEach elts env).length = items.size) (hstar : (assignEach elts env).findIdx? (·.1) = none)
    (h : ∀ h', Heap.ExtBut s.heap.objs.size s.heap h' → wpAny (model prog w) A (assignInOrder ((assignEach elts env).map (·.2)) items.toList) Q E { s with heap := h' }) :
    wpAny (model prog w) A (assign (.Tuple elts x1 pos) env (.ref t)) Q E s := by
  rw [assign_Tuple]
  refine wpAny_bind (wpAny_standAt ?_)
  unfold unpack
  rw [hn, hstar]
  exact wpAny_bind (wpAny_holding (unpackL hh ht h))
end
theorem assignEach_ns : ∀ {es : List Expr} {env : Env}, es.all nst = true → (assignEach es env).length = es.length ∧ (assignEach es env).findIdx? (·.1) = none
  | [], _, _ => ⟨rfl, rfl⟩
  | e :: r, env, h => by
    rw [List.all_cons, Bool.and_eq_true] at h
    obtain ⟨h1, h2⟩ := assignEach_ns (env := env) h.2
    have he : assignEach (e :: r) env = (false, assign e env) :: assignEach r env := by
      have h0 := h.1
      cases e <;> first | rfl | cases h0
    rw [he]
    refine ⟨by rw [List.length_cons, List.length_cons, h1], ?_⟩
    rw [List.findIdx?_cons, h2]
    rfl
theorem assignEach_cons {e : Expr} {r : List Expr} {env : Env} (h : nst e = true) : (assignEach (e :: r) env).map (·.2) = assign e env :: (assignEach r env).map (·.2) := by
  cases e <;> first | rfl | cases h
section
variable {X : Cx}
def gSeq (K : PySem.W.Frag) (n : Nat) (t : TGs) : TG := fun v σ H Q => ∃ b a xs, v = .ref a ∧ SqB K b H a xs ∧ xs.length = n ∧ t xs σ H Q
theorem pg_seq {es : List Expr} {k : Nat} {pos : Pos} {t : TGs} {n : Nat} (hc : X.calm = true) (h : PGs X es t) (hn : es.length = n) (hs : es.all nst = true) : PG X (.Tuple es k pos) (gSeq X.K n t) := by
  refine ⟨fun pins s σ H v u Q I r hw => ?_⟩
  obtain ⟨b, a, xs, e1, hq, hl, hw⟩ := hw
  subst e1
  cases r
  obtain ⟨h1, h2⟩ := assignEach_ns (env := X.env) hs
  obtain ⟨its, rv, ht, hz⟩ := seqB I hq
  have fin : ∀ h', Heap.ExtBut s.heap.objs.size s.heap h' → wpAny (model X.prog X.w) X.A (assignInOrder ((assignEach es X.env).map (·.2)) its.toArray.toList) (fun _ s' => ∃ σ' H', Inv X pins σ' H' s' ∧ Q σ' H') X.xe { s with heap := h' } := fun h' hx => by
    have I1 : Inv X pins σ H { s with heap := h' } := I.kept (t' := s.toks) fun b o e => hx b o (Nat.ne_of_lt (Heap.lt_size e)) e
    exact h.run pins _ σ H xs _ Q I1 (by simpa using rv) hw
  have hsz : (assignEach es X.env).length = its.toArray.size := by rw [h1, hn, ← hl, List.size_toArray, rv.length]
  cases b with
  | true => exact assign_tupL (I.ok.hd hc) ht hsz h2 fin
  | false => exact assign_Tuple_tuple (I.ok.hd hc) ht hsz h2 fin
/-! ## targets -/
inductive Tg where
  | nm (i : Nat) | nl | cn (a b : Tg) | tu (l : Tg)
mutual
def bindT : Tg → D → En → Option En
  | .nm i, d, env => if i < env.length then some (env.set i (.d d)) else none
  | .tu l, .tuple ds, env => bindTs l ds env
  | .tu l, .list ds, env => bindTs l ds env
  | _, _, _ => none
def bindTs : Tg → List D → En → Option En
  | .nl, [], env => some env
  | .cn a b, d :: ds, env => match bindT a d env with
    | some env' => bindTs b ds env'
    | none => none
  | _, _, _ => none
end
/-- the slots that a target stores -/
def Tg.slots : Tg → List Nat
  | .nm i => [i]
  | .nl => []
  | .cn a b => a.slots ++ b.slots
  | .tu l => l.slots
structure Off (l : List Nat) (σ σ' : L2.St) : Prop where
  len : σ'.length = σ.length
  at_ : ∀ j, j ∉ l → σ'[j]? = σ[j]?
structure OffE (l : List Nat) (env env' : En) : Prop where
  own : ∀ (j : Nat) (ds : List D), env'[j]? = some (Sl.own ds) → env[j]? = some (Sl.own ds) ∧ j ∉ l
theorem Off.refl (σ : L2.St) : Off [] σ σ := ⟨rfl, fun _ _ => rfl⟩
theorem Off.trans {l m : List Nat} {σ σ1 σ2 : L2.St} (a : Off l σ σ1) (b : Off m σ1 σ2) : Off (l ++ m) σ σ2 :=
  ⟨b.len.trans a.len, fun j h => by rw [List.mem_append, not_or] at h; exact (b.at_ j h.2).trans (a.at_ j h.1)⟩
theorem OffE.trans {l m : List Nat} {σ σ1 σ2 : En} (a : OffE l σ σ1) (b : OffE m σ1 σ2) : OffE (l ++ m) σ σ2 :=
  ⟨fun j ds h => by
    obtain ⟨h1, h2⟩ := b.own j ds h
    obtain ⟨h3, h4⟩ := a.own j ds h1
    exact ⟨h3, by rw [List.mem_append, not_or]; exact ⟨h4, h2⟩⟩⟩
def tG (K : PySem.W.Frag) (T : Tg) : TG := fun v σ H Q => ∃ F t env τ d env', Sok K F H t env τ σ ∧ Dq K F v d ∧ bindT T d env = some env' ∧ ∀ σ', Sok K F H t env' τ σ' → Off T.slots σ σ' → OffE T.slots env env' → Q σ' H
def tGs (K : PySem.W.Frag) (T : Tg) : TGs := fun vs σ H Q => ∃ F t env τ ds env', Sok K F H t env τ σ ∧ DqAll K F vs ds ∧ bindTs T ds env = some env' ∧ ∀ σ', Sok K F H t env' τ σ' → Off T.slots σ σ' → OffE T.slots env env' → Q σ' H
theorem weakG {e : Expr} {t t' : TG} (h : PG X e t) (w : ∀ v σ H Q, t' v σ H Q → t v σ H Q) : PG X e t' := ⟨fun pins s σ H v u Q I r q => h.run pins s σ H v u Q I r (w _ _ _ _ q)⟩
theorem weakGs {e : List Expr} {t t' : TGs} (h : PGs X e t) (w : ∀ v σ H Q, t' v σ H Q → t v σ H Q) : PGs X e t' := ⟨fun pins s σ H v u Q I r q => h.run pins s σ H v u Q I r (w _ _ _ _ q)⟩
theorem Sok.setD {K : PySem.W.Frag} {F H : Hp} {t : Option Addr} {env : En} {τ : Tp} {σ : L2.St} {i : Nat} {v : V} {d : D} (S : Sok K F H t env τ σ) (hi : i < env.length) (h : Dq K F v d) : Sok K F H t (env.set i (.d d)) τ (σ.set i (some v)) := by
  refine ⟨S.same, by rw [List.length_set, List.length_set, S.len], fun j s e => ?_, fun j k ds es h1 h2 hne => ?_, S.tape⟩
  · by_cases hj : i = j
    · subst hj
      rw [List.getElem?_set_self hi] at e
      cases e
      exact ⟨v, List.getElem?_set_self (by rw [← S.len]; exact hi), h⟩
    · rw [List.getElem?_set_ne hj] at e
      have so := S.slot j s e
      cases s with
      | no => trivial
      | d x =>
        obtain ⟨u, z1, z2⟩ := so
        exact ⟨u, by rw [List.getElem?_set_ne hj]; exact z1, z2⟩
      | own ds =>
        obtain ⟨a, vs, z1, z2⟩ := so
        exact ⟨a, vs, by rw [List.getElem?_set_ne hj]; exact z1, z2⟩
      | tp =>
        obtain ⟨a, z1, z2⟩ := so
        exact ⟨a, z1, by rw [List.getElem?_set_ne hj]; exact z2⟩
  · have hj : i ≠ j := fun q => by
      subst q
      rw [List.getElem?_set_self hi] at h1
      cases h1
    have hk : i ≠ k := fun q => by
      subst q
      rw [List.getElem?_set_self hi] at h2
      cases h2
    rw [List.getElem?_set_ne hj] at h1 ⊢
    rw [List.getElem?_set_ne hk] at h2 ⊢
    exact S.dis j k ds es h1 h2 hne
theorem off_set {σ : L2.St} {i : Nat} {v : Option V} : Off [i] σ (σ.set i v) := ⟨by rw [List.length_set], fun j hj => by
  rw [List.mem_singleton] at hj
  rw [List.getElem?_set_ne (Ne.symm hj)]⟩
theorem offE_set {env : En} {i : Nat} {d : D} (hi : i < env.length) : OffE [i] env (env.set i (.d d)) := ⟨fun j ds h => by
  by_cases hj : i = j
  · subst hj
    rw [List.getElem?_set_self hi] at h
    cases h
  · rw [List.getElem?_set_ne hj] at h
    exact ⟨h, by rw [List.mem_singleton]; exact Ne.symm hj⟩⟩
theorem tgNm_ok {i : Nat} {x : Str} {pos : Pos} (hN : X.N.Nodup) (hi : X.N[i]? = some x) (hx : Loc X.env.scope x) (hf : X.fn x = true ∨ X.env.scope.names.lookup x = some .local) : PG X (.Name x pos) (tG X.K (.nm i)) := by
  refine weakG (pg_name hN hi hx hf) fun v σ H Q ⟨F, t, env, τ, d, env', S, hd, e, q⟩ => ?_
  unfold bindT at e
  split at e
  · rename_i hl
    cases e
    exact q _ (S.setD hl hd) off_set (offE_set hl)
  · cases e
theorem tgNl_ok : PGs X [] (tGs X.K .nl) := weakGs pgs_nil fun v σ H Q ⟨F, t, env, τ, ds, env', S, hd, e, q⟩ => by
  cases ds with
  | cons d ds => unfold bindTs at e; cases e
  | nil =>
    unfold bindTs at e
    cases e
    cases hd
    exact ⟨rfl, q σ S (Off.refl σ) ⟨fun j ds h => ⟨h, by simp [Tg.slots]⟩⟩⟩
theorem tgCn_ok {a b : Tg} {e : Expr} {es : List Expr} (ha : PG X e (tG X.K a)) (hb : PGs X es (tGs X.K b)) (hs : nst e = true) : PGs X (e :: es) (tGs X.K (.cn a b)) := by
  refine weakGs (pgs_cons ha hb (assignEach_cons hs)) fun v σ H Q ⟨F, t, env, τ, ds, env', S, hd, e, q⟩ => ?_
  cases ds with
  | nil => unfold bindTs at e; cases e
  | cons d ds =>
    unfold bindTs at e
    split at e
    · rename_i env1 e1
      cases hd with
      | cons h1 h2 =>
        refine ⟨_, _, rfl, F, t, env, τ, d, env1, S, h1, e1, fun σ1 S1 o1 oe1 => ?_⟩
        exact ⟨F, t, env1, τ, ds, env', S1, h2, e, fun σ2 S2 o2 oe2 => q σ2 S2 (o1.trans o2) (oe1.trans oe2)⟩
    · cases e
def Tg.len : Tg → Nat
  | .cn _ b => b.len + 1
  | _ => 0
theorem bind_len : ∀ (l : Tg) {ds : List D} {env env' : En}, bindTs l ds env = some env' → ds.length = l.len
  | .nl, [], _, _, _ => rfl
  | .nl, _ :: _, _, _, e => by unfold bindTs at e; cases e
  | .cn a b, [], _, _, e => by unfold bindTs at e; cases e
  | .cn a b, d :: ds, _, _, e => by
    unfold bindTs at e
    split at e
    · rw [List.length_cons, bind_len b e]
      rfl
    · cases e
  | .nm _, _, _, _, e => by unfold bindTs at e; cases e
  | .tu _, _, _, _, e => by unfold bindTs at e; cases e
theorem tgTu_ok {l : Tg} {es : List Expr} {k : Nat} {pos : Pos} (hc : X.calm = true) (h : PGs X es (tGs X.K l)) (hs : es.all nst = true) (hl : es.length = l.len) : PG X (.Tuple es k pos) (tG X.K (.tu l)) := by
  refine weakG (pg_seq hc h hl hs) fun v σ H Q ⟨F, t, env, τ, d, env', S, hd, e, q⟩ => ?_
  cases hd with
  | tup s a =>
    rename_i ad xs ds _
    have e' : bindTs l ds env = some env' := by unfold bindT at e; exact e
    exact ⟨false, ad, xs, rfl, seqT_mono S.same s, by rw [dqAll_len a]; exact bind_len l e', F, t, env, τ, ds, env', S, a, e', q⟩
  | lst s a =>
    rename_i ad xs ds _
    have e' : bindTs l ds env = some env' := by unfold bindT at e; exact e
    exact ⟨true, ad, xs, rfl, SqL.of (S.same _ _ s), by rw [dqAll_len a]; exact bind_len l e', F, t, env, τ, ds, env', S, a, e', q⟩
  | _ => unfold bindT at e; cases e
end

open PySem PySem.Spec PyProof.Rows L2
/-! ### sources of iteration -/
theorem pi_seqB {X : Cx} {tg l : Expr} {tl : TE} (hl : PE X l tl) : PI X tg l (fun σ H R => tl σ H fun x H1 => ∃ b a xs, x = .ref a ∧ SqB X.K b H1 a xs ∧ R (if b = true then Itl X.K a else Itt X.K a) H1) := by
  refine ⟨fun pins s σ H R I h => ?_⟩
  refine thn (hl.run pins s σ H _ I h) fun v s1 ⟨x, H1, I1, r1, q1⟩ => ?_
  obtain ⟨b, a, xs, e, hq, q⟩ := q1
  subst e
  cases r1
  cases b with
  | true =>
    obtain ⟨its, rv, p, hz⟩ := I1.list hq
    refine wpAny_pyIter_list p.isList ?_
    refine ⟨s1.heap.objs.size, [s1.heap.objs.size], _, _, H1, rfl, I1.kept (t' := s1.toks) fun b o e => Heap.get?_push_of_some _ e, turn_list a _, ⟨_, Heap.get?_push_size _ rfl, rfl, rfl⟩, fun b hb => ?_, q⟩
    have e : b = s1.heap.objs.size := by simpa using hb
    subst e
    exact I1.fpOk (Nat.le_refl _) (I1.hok.fresh (Nat.le_refl _))
  | false =>
    obtain ⟨its, rv, p, hz⟩ := I1.tuple hq
    refine wpAny_pyIter_tuple (show s1.heap.IsTuple a its.toArray from p) ?_
    refine ⟨s1.heap.objs.size, [s1.heap.objs.size], _, _, H1, rfl, I1.kept (t' := s1.toks) fun b o e => Heap.get?_push_of_some _ e, turn_tuple a _, ⟨_, Heap.get?_push_size _ rfl, rfl, rfl⟩, fun b hb => ?_, q⟩
    have e : b = s1.heap.objs.size := by simpa using hb
    subst e
    exact I1.fpOk (Nat.le_refl _) (I1.hok.fresh (Nat.le_refl _))

/-- the iterator gives the items its, as long as F grows and G stays -/
structure ItOk (K : PySem.W.Frag) (t : Option Addr) (F G : Hp) (J : It) (its : List D) : Prop where
  go : ∀ F1 H1 env τ σ i, Same F F1 → Same G H1 → Sok K F1 H1 t env τ σ → i < its.length → J.go i H1
  yld : ∀ F1 H1 env τ σ i d, Same F F1 → Same G H1 → Sok K F1 H1 t env τ σ → its[i]? = some d → ∀ x H2, J.yld i H1 x H2 → ∃ F2, Post K t τ F1 H1 F2 H2 ∧ Dq K F2 x d
  stop : ∀ F1 H1 env τ σ, Same F F1 → Same G H1 → Sok K F1 H1 t env τ σ → J.stop its.length H1
section
variable {K : PySem.W.Frag} {t : Option Addr} {F G : Hp}
theorem Sq.mono {b : Bool} {H H' : Hp} {a : Addr} {vs : List V} (h : Sq K b H a vs) (e : Same H H') : Sq K b H' a vs := by
  cases b with
  | true => exact e _ _ h
  | false => exact seqT_mono e h
theorem itOk_seq {b : Bool} {a : Addr} {vs : List V} {ds : List D} (d : DqAll K F vs ds) (s : Sq K b G a vs) : ItOk K t F G (if b = true then Itl K a else Itt K a) ds := by
  have hl := dqAll_len d
  cases b with
  | true =>
    have sq : ∀ {H1}, Same G H1 → SqL K H1 a vs := fun e => SqL.of (e _ _ s)
    refine ⟨fun F1 H1 env τ σ i hF hG S hi => ?_, fun F1 H1 env τ σ i d1 hF hG S hi x H2 hy => ?_, fun F1 H1 env τ σ hF hG S => ?_⟩
    · exact ⟨vs, vs[i]'(by omega), sq hG, by simp [hl, hi]⟩
    · obtain ⟨e1, e2⟩ := hy
      subst e1
      obtain ⟨v, h1, h2⟩ := dqAll_at d hi
      have := e2 vs (sq hG)
      rw [h1] at this
      cases this
      exact ⟨F1, .refl S, dq_mono hF h2⟩
    · exact ⟨vs, sq hG, by omega⟩
  | false =>
    have sq : ∀ {H1}, Same G H1 → SqT K H1 a vs := fun e => seqT_mono e s
    refine ⟨fun F1 H1 env τ σ i hF hG S hi => ?_, fun F1 H1 env τ σ i d1 hF hG S hi x H2 hy => ?_, fun F1 H1 env τ σ hF hG S => ?_⟩
    · exact ⟨vs, vs[i]'(by omega), sq hG, by simp [hl, hi]⟩
    · obtain ⟨e1, e2⟩ := hy
      subst e1
      obtain ⟨v, h1, h2⟩ := dqAll_at d hi
      have := e2 vs (sq hG)
      rw [h1] at this
      cases this
      exact ⟨F1, .refl S, dq_mono hF h2⟩
    · exact ⟨vs, sq hG, by omega⟩
def rangeD (lo : Int) (n : Nat) : List D := (List.range n).map fun i => .int (lo + (i : Nat))
theorem itOk_range (lo : Int) (n : Nat) : ItOk K t F G (Itr lo n) (rangeD lo n) := by
  have hl : (rangeD lo n).length = n := by simp [rangeD]
  refine ⟨fun F1 H1 env τ σ i hF hG S hi => ?_, fun F1 H1 env τ σ i d1 hF hG S hi x H2 hy => ?_, fun F1 H1 env τ σ hF hG S => ?_⟩
  · rw [hl] at hi; exact hi
  · obtain ⟨e1, e2⟩ := hy
    subst e1 e2
    have hi' : i < n := by
      have := (List.getElem?_eq_some_iff.mp hi).1
      omega
    have : d1 = .int (lo + (i : Nat)) := by
      simp [rangeD, hi'] at hi
      exact hi.symm
    subst this
    exact ⟨F1, .refl S, .int _⟩
  · rw [hl]; exact Nat.le_refl _
def enumFrom (k : Nat) : List D → List D
  | [] => []
  | d :: r => .tuple [.int (k : Nat), d] :: enumFrom (k + 1) r
theorem enumFrom_len : ∀ (ds : List D) (k : Nat), (enumFrom k ds).length = ds.length
  | [], _ => rfl
  | d :: r, k => by simp [enumFrom, enumFrom_len r]
theorem enumFrom_at : ∀ (ds : List D) (k i : Nat) (d : D), (enumFrom k ds)[i]? = some d → ∃ x, ds[i]? = some x ∧ d = .tuple [.int ((k + i : Nat) : Int), x]
  | [], _, i, _, h => by simp [enumFrom] at h
  | e :: r, k, 0, d, h => by
    simp [enumFrom] at h
    exact ⟨e, rfl, by simp [← h]⟩
  | e :: r, k, i + 1, d, h => by
    obtain ⟨x, h1, h2⟩ := enumFrom_at r (k + 1) i d (by simpa [enumFrom] using h)
    exact ⟨x, by simpa using h1, by rw [h2]; simp; omega⟩
theorem itOk_enum {b : Bool} {a : Addr} {vs : List V} {ds : List D} (d : DqAll K F vs ds) (s : Sq K b G a vs) : ItOk K t F G (JEnum K b a) (enumFrom 0 ds) := by
  have hl := dqAll_len d
  have sq : ∀ {H1}, Same G H1 → SqB K b H1 a vs := fun e => (s.mono e).B
  refine ⟨fun F1 H1 env τ σ i hF hG S hi => ?_, fun F1 H1 env τ σ i d1 hF hG S hi x H2 hy => ?_, fun F1 H1 env τ σ hF hG S => ?_⟩
  · rw [enumFrom_len] at hi
    exact ⟨vs, vs[i]'(by omega), sq hG, by simp [hl, hi]⟩
  · obtain ⟨T, y, rfl, hT, rfl, e2⟩ := hy
    obtain ⟨z, h1, rfl⟩ := enumFrom_at _ _ _ _ hi
    obtain ⟨v, h2, h3⟩ := dqAll_at d h1
    have := e2 vs (sq hG)
    rw [h2] at this
    cases this
    obtain ⟨P, r⟩ := S.newTup (vs := [.int (i : Nat), y]) (ds := [.int (i : Nat), z]) hT (.cons (.int _) (.cons (dq_mono hF h3) .nil))
    exact ⟨_, P, by simpa using r⟩
  · exact ⟨vs, sq hG, by rw [enumFrom_len]; exact hl⟩
def zipD : List D → List D → List D
  | a :: r, b :: s => .tuple [a, b] :: zipD r s
  | _, _ => []
theorem zipD_len : ∀ (ds es : List D), (zipD ds es).length = min ds.length es.length
  | [], _ => by simp [zipD]
  | _ :: _, [] => by simp [zipD]
  | a :: r, b :: s => by simp [zipD, zipD_len r s]
theorem zipD_at : ∀ (ds es : List D) (i : Nat) (d : D), (zipD ds es)[i]? = some d → ∃ x y, ds[i]? = some x ∧ es[i]? = some y ∧ d = .tuple [x, y]
  | [], _, i, _, h => by simp [zipD] at h
  | _ :: _, [], i, _, h => by simp [zipD] at h
  | a :: r, b :: s, 0, d, h => by
    simp [zipD] at h
    exact ⟨a, b, rfl, rfl, h.symm⟩
  | a :: r, b :: s, i + 1, d, h => by
    obtain ⟨x, y, h1, h2, h3⟩ := zipD_at r s i d (by simpa [zipD] using h)
    exact ⟨x, y, by simpa using h1, by simpa using h2, h3⟩
theorem itOk_zip {b c : Bool} {a1 a2 : Addr} {vs us : List V} {ds es : List D} (d : DqAll K F vs ds) (s : Sq K b G a1 vs) (d2 : DqAll K F us es) (s2 : Sq K c G a2 us) : ItOk K t F G (JZip K b c a1 a2) (zipD ds es) := by
  have hl := dqAll_len d
  have hl2 := dqAll_len d2
  have sq : ∀ {H1}, Same G H1 → SqB K b H1 a1 vs := fun e => (s.mono e).B
  have sq2 : ∀ {H1}, Same G H1 → SqB K c H1 a2 us := fun e => (s2.mono e).B
  refine ⟨fun F1 H1 env τ σ i hF hG S hi => ?_, fun F1 H1 env τ σ i d1 hF hG S hi x H2 hy => ?_, fun F1 H1 env τ σ hF hG S => ?_⟩
  · rw [zipD_len] at hi
    exact ⟨vs, us, vs[i]'(by omega), us[i]'(by omega), sq hG, sq2 hG, by simp, by simp⟩
  · obtain ⟨T, y1, y2, rfl, hT, rfl, e1, e2⟩ := hy
    obtain ⟨z1, z2, h1, h2, rfl⟩ := zipD_at _ _ _ _ hi
    obtain ⟨v, h3, h4⟩ := dqAll_at d h1
    obtain ⟨u, h5, h6⟩ := dqAll_at d2 h2
    have := e1 vs (sq hG)
    rw [h3] at this
    cases this
    have := e2 us (sq2 hG)
    rw [h5] at this
    cases this
    obtain ⟨P, r⟩ := S.newTup (vs := [y1, y2]) (ds := [z1, z2]) hT (.cons (dq_mono hF h4) (.cons (dq_mono hF h6) .nil))
    exact ⟨_, P, r⟩
  · exact ⟨vs, us, sq hG, sq2 hG, by rw [zipD_len]; omega, by rw [zipD_len]; omega, by rw [zipD_len]; omega⟩
end

open PySem PySem.Spec PyProof.Rows L2
/-! ### iterators by sources -/
abbrev EvI := En → Tp → Option (List D × List W × Tp)
def SrcOk (K : PySem.W.Frag) (F G : Hp) (env : En) (τ : Tp) (v : V) (w : W) : Prop := ∀ b ds, seqOf env τ w = some (b, ds) → ∃ a vs, v = .ref a ∧ DqAll K F vs ds ∧ Sq K b G a vs
inductive SrcAll (K : PySem.W.Frag) (F G : Hp) (env : En) (τ : Tp) : List V → List W → Prop
  | nil : SrcAll K F G env τ [] []
  | cons {v : V} {vs : List V} {w : W} {ws : List W} : SrcOk K F G env τ v w → SrcAll K F G env τ vs ws → SrcAll K F G env τ (v :: vs) (w :: ws)
def tI (K : PySem.W.Frag) (f : EvI) : TI := fun σ H R => ∃ F t env τ its ws τ', Sok K F H t env τ σ ∧ f env τ = some (its, ws, τ') ∧ ∀ F' H' J vs, Post K t τ' F H F' H' → RwAll K F' H' H t σ vs ws →
  (∀ F2 G, Same F' F2 → SrcAll K F2 G env τ' vs ws → ItOk K t F2 G J its) → R J H'
theorem weakI {X : Cx} {tg e : Expr} {t t' : TI} (h : PI X tg e t) (w : ∀ σ H R, t' σ H R → t σ H R) : PI X tg e t' := ⟨fun pins s σ H R I q => h.run pins s σ H R I (w _ _ _ q)⟩
def iSeq (a : EvF) : EvI := fun env τ => match a env τ with
  | some (w, τ1) => (match seqOf env τ1 w with
    | some (_, ds) => some (ds, [w], τ1)
    | none => none)
  | none => none
def iEnum (f : EvA) : EvI := fun env τ => match f env τ with
  | some ([w], τ1) => (match seqOf env τ1 w with
    | some (_, ds) => some (enumFrom 0 ds, [w], τ1)
    | none => none)
  | _ => none
def iZip (f : EvA) : EvI := fun env τ => match f env τ with
  | some ([w, u], τ1) => (match seqOf env τ1 w, seqOf env τ1 u with
    | some (_, ds), some (_, es) => some (zipD ds es, [w, u], τ1)
    | _, _ => none)
  | _ => none
def inR (j : Int) : Bool := decide (-(2 ^ 62) ≤ j) && decide (j < 2 ^ 62)
def iRng (f : EvA) : EvI := fun env τ => match f env τ with
  | some ([.d (.int j)], τ1) => if inR j = true then some (rangeD 0 j.toNat, [], τ1) else none
  | some ([.d (.int i), .d (.int j)], τ1) => if (inR i && inR j) = true then some (rangeD i (j - i).toNat, [], τ1) else none
  | _ => none
theorem inR_ok {j : Int} (h : inR j = true) : -(2 ^ 62) ≤ j ∧ j < 2 ^ 62 := by
  unfold inR at h
  rw [Bool.and_eq_true] at h
  exact ⟨of_decide_eq_true h.1, of_decide_eq_true h.2⟩
section
variable {X : Cx} {tg e : Expr}
theorem iSeq_ok {a : EvF} (h : PE X e (tE X.K a)) : PI X tg e (tI X.K (iSeq a)) :=
  weakI (pi_seqB h) fun σ H R ⟨F, t, env, τ, its, ws, τ', S, e1, q⟩ => by
    unfold iSeq at e1
    split at e1
    · rename_i w τ1 e2
      split at e1
      · rename_i b ds e3
        cases e1
        refine ⟨F, t, env, τ, w, _, S, e2, fun F1 v1 H1 P1 r1 => ?_⟩
        obtain ⟨a, vs, rfl, d, s⟩ := deref (S.post P1) r1 e3
        refine ⟨b, a, vs, rfl, s.B, q F1 H1 _ _ P1 (.cons r1 .nil) fun F2 G hs hG => ?_⟩
        cases hG with
        | cons h1 h2 =>
          obtain ⟨a', vs', z, d', s'⟩ := h1 _ _ e3
          cases z
          exact itOk_seq d' s'
      · cases e1
    · cases e1
theorem iEnum_ok {a : EvA} {p pos tpos : Pos} {elts : List Expr} {kk : Nat} {x : Str} (hx : x = "enumerate") (hg : Gl X x) (hm : X.mg x = none) (ha : PA X [e] (tA X.K a)) (hs : nst e = true) : PI X (.Tuple elts kk tpos) (.Call (.Name x p) [e] [] pos) (tI X.K (iEnum a)) := by
  subst hx
  refine weakI (pi_enumB hg hm ha (starEach_ns hs)) fun σ H R ⟨F, t, env, τ, its, ws, τ', S, e1, q⟩ => ?_
  unfold iEnum at e1
  split at e1
  · rename_i w τ1 e2
    split at e1
    · rename_i b ds e3
      cases e1
      refine ⟨F, t, env, τ, [w], _, S, e2, fun F1 vs H1 P1 r1 => ?_⟩
      cases r1 with
      | cons r r0 =>
        cases r0
        obtain ⟨a, vs, rfl, d, s⟩ := deref (S.post P1) r e3
        refine ⟨b, a, vs, rfl, s.B, q F1 H1 _ _ P1 (.cons r .nil) fun F2 G hs hG => ?_⟩
        cases hG with
        | cons h1 h2 =>
          obtain ⟨a', vs', z, d', s'⟩ := h1 _ _ e3
          cases z
          exact itOk_enum d' s'
    · cases e1
  · cases e1
theorem iZip_ok {a : EvA} {e2 : Expr} {p pos tpos : Pos} {elts : List Expr} {kk : Nat} {x : Str} (hx : x = "zip") (hg : Gl X x) (hm : X.mg x = none) (ha : PA X [e, e2] (tA X.K a)) (hs : nst e = true) (hs2 : nst e2 = true) : PI X (.Tuple elts kk tpos) (.Call (.Name x p) [e, e2] [] pos) (tI X.K (iZip a)) := by
  subst hx
  refine weakI (pi_zipB hg hm ha (starEach_ns hs) (star_plain (es := [e2]) (by rw [List.all_cons, hs2]; rfl))) fun σ H R ⟨F, t, env, τ, its, ws, τ', S, e1, q⟩ => ?_
  unfold iZip at e1
  split at e1
  · rename_i w u τ1 e2
    split at e1
    · rename_i b ds c es e3 e4
      cases e1
      refine ⟨F, t, env, τ, [w, u], _, S, e2, fun F1 vs H1 P1 r1 => ?_⟩
      cases r1 with
      | cons r r0 =>
        cases r0 with
        | cons r' r00 =>
          cases r00
          obtain ⟨a, vs, rfl, d, s⟩ := deref (S.post P1) r e3
          obtain ⟨a2, us, rfl, d2, s2⟩ := deref (S.post P1) r' e4
          refine ⟨b, c, a, a2, vs, us, rfl, s.B, s2.B, q F1 H1 _ _ P1 (.cons r (.cons r' .nil)) fun F2 G hs hG => ?_⟩
          cases hG with
          | cons h1 h2 =>
            cases h2 with
            | cons h2 h3 =>
              obtain ⟨a', vs', z, d', s'⟩ := h1 _ _ e3
              cases z
              obtain ⟨a2', us', z, d2', s2'⟩ := h2 _ _ e4
              cases z
              exact itOk_zip d' s' d2' s2'
    · cases e1
  · cases e1
theorem iRng1_ok {a : EvA} {p pos : Pos} {x : Str} (hx : x = "range") (hg : Gl X x) (hm : X.mg x = none) (ha : PA X [e] (tA X.K a)) (hs : nst e = true) (hl : LenIs a 1) : PI X tg (.Call (.Name x p) [e] [] pos) (tI X.K (iRng a)) := by
  subst hx
  refine weakI (pi_range1 hg hm ha (starEach_ns hs)) fun σ H R ⟨F, t, env, τ, its, ws, τ', S, e1, q⟩ => ?_
  unfold iRng at e1
  split at e1
  · rename_i j τ1 e2
    split at e1
    · rename_i hj
      cases e1
      refine ⟨F, t, env, τ, _, _, S, e2, fun F1 vs H1 P1 r1 => ?_⟩
      cases r1 with
      | cons r r0 =>
        cases r0
        cases r
        exact ⟨j, rfl, (inR_ok hj).1, (inR_ok hj).2, q F1 H1 _ [] P1 .nil fun F2 G hs hG => itOk_range 0 _⟩
    · cases e1
  · rename_i i j τ1 e2
    have := hl _ _ _ _ e2
    cases this
  · cases e1
theorem iRng2_ok {a : EvA} {e2 : Expr} {p pos : Pos} {x : Str} (hx : x = "range") (hg : Gl X x) (hm : X.mg x = none) (ha : PA X [e, e2] (tA X.K a)) (hs : nst e = true) (hs2 : nst e2 = true) (hl : LenIs a 2) : PI X tg (.Call (.Name x p) [e, e2] [] pos) (tI X.K (iRng a)) := by
  subst hx
  refine weakI (pi_range2 hg hm ha (by rw [starEach_ns hs, starEach_ns hs2]; rfl) (starEach_ns hs2)) fun σ H R ⟨F, t, env, τ, its, ws, τ', S, e1, q⟩ => ?_
  unfold iRng at e1
  split at e1
  · rename_i j τ1 e2
    have := hl _ _ _ _ e2
    cases this
  · rename_i i j τ1 e2
    split at e1
    · rename_i hj
      rw [Bool.and_eq_true] at hj
      cases e1
      refine ⟨F, t, env, τ, _, _, S, e2, fun F1 vs H1 P1 r1 => ?_⟩
      cases r1 with
      | cons r r0 =>
        cases r0 with
        | cons r' r00 =>
          cases r00
          cases r
          cases r'
          exact ⟨i, j, rfl, ⟨(inR_ok hj.1).1, (inR_ok hj.1).2, (inR_ok hj.2).1, (inR_ok hj.2).2⟩, q F1 H1 _ [] P1 .nil fun F2 G hs hG => itOk_range _ _⟩
    · cases e1
  · cases e1
end

/-! ### sources in a comprehension -/
def offT (t : Option Addr) (H : Hp) : Hp := fun b => if t = some b then none else H b
def notTp : W → Bool
  | .tp => false
  | _ => true
section
variable {K : PySem.W.Frag} {F H Hb : Hp} {t : Option Addr} {env : En} {τ : Tp} {σ : L2.St}
theorem offT_ne {b : Addr} (h : t ≠ some b) : offT t H b = H b := by unfold offT; rw [if_neg h]
theorem src_c (S : Sok K F H t env τ σ) : ∀ {vs : List V} {ws : List W}, RwAll K F H Hb t σ vs ws → ws.all notTp = true → SrcAll K F (offT t H) env τ vs ws
  | _, _, .nil, _ => .nil
  | _, _, .cons (v := v) (w := w) r r0, h => by
    rw [List.all_cons, Bool.and_eq_true] at h
    refine .cons (fun b ds e => ?_) (src_c S r0 h.2)
    obtain ⟨a, vs, rfl, d, s⟩ := deref S r e
    refine ⟨a, vs, rfl, d, ?_⟩
    by_cases ht : t = some a
    · have tp := S.tape
      rw [ht] at tp
      obtain ⟨t1, us, t2, t3⟩ := tp
      cases w with
      | d x =>
        cases b with
        | true =>
          cases x with
          | list es =>
            cases r with
            | lst s' _ => rw [t1] at s'; cases s'
          | tuple es => cases e
          | _ => cases e
        | false =>
          rcases s with (s | ⟨o, s⟩) | s
          · rw [t2] at s; cases s
          · rw [t2] at s; cases s
          · exact .inr s
      | new es =>
        obtain ⟨a', vs', h1, h2, h3, _⟩ := r
        cases h1
        exact absurd ht h3
      | loc i =>
        obtain ⟨c, hc⟩ : ∃ es, env[i]? = some (Sl.own es) := by
          change (match env[i]? with | some (.own ds) => some (true, ds) | _ => none) = _ at e
          split at e
          · rename_i es he; exact ⟨es, he⟩
          · cases e
        obtain ⟨a', vs', h1, h2, h3, _⟩ := S.slot i _ hc
        have : σ[i]? = some (some (.ref a)) := r
        rw [h1] at this
        cases this
        exact absurd ht h3
      | tp => cases h.1
    · cases b with
      | true => show offT t H a = _; rw [offT_ne ht]; exact s
      | false =>
        rcases s with s | s
        · refine .inl ?_
          unfold Rd
          rw [offT_ne ht]
          exact s
        · exact .inr s
end

open PySem PySem.Spec PyProof.Rows L2
/-! ### slots wiped -/
def wipeE (env : En) : List Nat → En
  | [] => env
  | v :: vs => (wipeE env vs).set v .no
section
variable {K : PySem.W.Frag} {F H F' H' Hb : Hp} {t : Option Addr} {env : En} {τ τ' : Tp} {σ : L2.St}
theorem Sok.setNo {i : Nat} (S : Sok K F H t env τ σ) : Sok K F H t (env.set i .no) τ (σ.set i none) := by
  refine ⟨S.same, by rw [List.length_set, List.length_set, S.len], fun j s e => ?_, fun j k ds es h1 h2 hne => ?_, S.tape⟩
  · by_cases hj : i = j
    · subst hj
      by_cases hi : i < env.length
      · rw [List.getElem?_set_self hi] at e
        cases e
        trivial
      · rw [List.getElem?_eq_none (by rw [List.length_set]; omega)] at e
        cases e
    · rw [List.getElem?_set_ne hj] at e
      have h := S.slot j s e
      cases s with
      | no => trivial
      | d x =>
        obtain ⟨v, h1, h2⟩ := h
        exact ⟨v, by rw [List.getElem?_set_ne hj]; exact h1, h2⟩
      | own ds =>
        obtain ⟨a, vs, h1, h2⟩ := h
        exact ⟨a, vs, by rw [List.getElem?_set_ne hj]; exact h1, h2⟩
      | tp =>
        obtain ⟨a, h1, h2⟩ := h
        exact ⟨a, h1, by rw [List.getElem?_set_ne hj]; exact h2⟩
  · have f : ∀ {j ds}, (env.set i Sl.no)[j]? = some (Sl.own ds) → i ≠ j ∧ env[j]? = some (Sl.own ds) := fun {j ds} h => by
      by_cases hj : i = j
      · subst hj
        by_cases hi : i < env.length
        · rw [List.getElem?_set_self hi] at h
          cases h
        · rw [List.getElem?_eq_none (by rw [List.length_set]; omega)] at h
          cases h
      · rw [List.getElem?_set_ne hj] at h
        exact ⟨hj, h⟩
    obtain ⟨n1, h1⟩ := f h1
    obtain ⟨n2, h2⟩ := f h2
    rw [List.getElem?_set_ne n1, List.getElem?_set_ne n2]
    exact S.dis _ _ _ _ h1 h2 hne
theorem Sok.wipe (S : Sok K F H t env τ σ) : ∀ vs : List Nat, Sok K F H t (wipeE env vs) τ (L2.wipe σ vs)
  | [] => S
  | v :: vs => (Sok.wipe S vs).setNo
theorem wipe_in {j : Nat} : ∀ {vs : List Nat}, j ∈ vs → (L2.wipe σ vs)[j]? = if j < σ.length then some none else none
  | [], h => by cases h
  | v :: vs, h => by
    unfold L2.wipe
    by_cases hv : v = j
    · subst hv
      by_cases hl : v < σ.length
      · rw [List.getElem?_set_self (by rw [wipe_length]; exact hl), if_pos hl]
      · rw [List.getElem?_eq_none (by rw [List.length_set, wipe_length]; omega), if_neg hl]
    · rw [List.getElem?_set_ne hv]
      rcases List.mem_cons.mp h with q | q
      · exact absurd q.symm hv
      · exact wipe_in q
theorem wipe_off {l vs : List Nat} {σ2 : L2.St} (o : Off l (L2.wipe σ vs) σ2) (h : ∀ j ∈ l, j ∈ vs) : L2.wipe σ2 vs = L2.wipe σ vs := by
  have hl : σ2.length = σ.length := by rw [o.len, wipe_length]
  apply List.ext_getElem?
  intro j
  by_cases hj : j ∈ vs
  · rw [wipe_in hj, wipe_in hj, hl]
  · rw [wipe_out hj, o.at_ j (fun z => hj (h j z))]
theorem Post.updNew {F1 H1 : Hp} {D : Addr} {o : HO} (P : Post K t τ F1 H1 F H) (h1 : H1 D = none) (h2 : F D = none) (h3 : t ≠ some D) : Post K t τ F1 H1 F (upd H D o) := by
  refine ⟨P.ext, fun b u e => ?_, P.new, fun b u e k => ?_, ?_⟩
  · rw [upd_ne (ne_of_none e h2)]
    exact P.same _ _ e
  · rw [upd_ne (ne_of_none e h1)]
    exact P.keep _ _ e k
  · have tp := P.tape
    cases t with
    | none => trivial
    | some a =>
      obtain ⟨t1, us, t2, t3⟩ := tp
      have hc : a ≠ D := fun z => h3 (by rw [z])
      exact ⟨t1, us, by rw [upd_ne hc]; exact t2, t3⟩
end
/-! ### comprehensions -/
def lcGo (tg : Tg) (tt te : EvF) (env : En) : List D → Tp → Option (List D × Tp)
  | [], τ => some ([], τ)
  | d :: r, τ => match bindT tg d env with
    | some env1 => (match tt env1 τ with
      | some (.d (.bool true), τ1) => (match te env1 τ1 with
        | some (w, τ2) => (match toD w with
          | some x => (match lcGo tg tt te env r τ2 with
            | some (l, τ3) => some (x :: l, τ3)
            | none => none)
          | none => none)
        | none => none)
      | some (.d (.bool false), τ1) => lcGo tg tt te env r τ1
      | _ => none)
    | none => none
def eLc (fi : EvI) (tg : Tg) (tt te : EvF) (vs : List Nat) : EvF := fun env τ => match fi env τ with
  | some (its, ws, τ1) => if (ws.all notTp && decide (its.length ≤ 1000000)) = true then (match lcGo tg tt te (wipeE env vs) its τ1 with
      | some (l, τ2) => some (.new l, τ2)
      | none => none)
    else none
  | none => none
theorem line_big : 1000000 < sizeLine := by decide
section
variable {K : PySem.W.Frag}
theorem same_offT {F1 H1 F' H' : Hp} {t : Option Addr} {τ : Tp} (P : Post K t τ F1 H1 F' H') : Same (offT t H1) H' := fun b o e => by
  unfold offT at e
  split at e
  · cases e
  · rename_i h
    exact P.keep _ _ e h
theorem lc_sem {fi : EvI} {tg : Tg} {tt te : EvF} {vs : List Nat} {tt' : TT} (ht : ∀ σ H Q, tT K tt σ H Q → tt' σ H Q) (hv : ∀ j ∈ tg.slots, j ∈ vs) {σ : L2.St} {H : Hp} {Q : VK} (h : tE K (eLc fi tg tt te vs) σ H Q) :
    tLc (tI K fi) (tG K tg) tt' (tE K te) vs σ H Q := by
  obtain ⟨F, t, env, τ, w, τ', S, e, q⟩ := h
  unfold eLc at e
  split at e
  · rename_i its ws τ1 e1
    split at e
    · rename_i hg
      rw [Bool.and_eq_true] at hg
      have hlen := of_decide_eq_true hg.2
      split at e
      · rename_i l τ2 e2
        cases e
        refine ⟨F, t, env, τ, its, ws, τ1, S, e1, fun F1 H1 J us P1 r1 it => ?_⟩
        intro D hD
        have S1 := S.post P1
        have IT := it F1 (offT t H1) (.refl _) (src_c S1 r1 hg.1)
        have tD := S1.tne hD
        refine ⟨fun i m H' => m = its.length - i ∧ i ≤ its.length ∧ ∃ F' τi acc accd rest, Post K t τi F1 H1 F' H' ∧ H' D = some (.lst acc) ∧ F' D = none ∧ DqAll K F' acc accd ∧ lcGo tg tt te (wipeE env vs) (its.drop i) τi = some (rest, τ') ∧ l = accd ++ rest ∧ acc.length ≤ i,
          ⟨its.length, by simp, Nat.zero_le _, F1, τ1, [], [], l, S1.laid hD, upd_same, S1.fnone hD, .nil, by simpa using e2, rfl, Nat.le_refl _⟩, ?_⟩
        rintro i m H' ⟨rfl, hi, F', τi, acc, accd, rest, P, hHD, hFD, dacc, hgo, hl, hacc⟩
        have S2 := S1.post P
        by_cases hlt : i < its.length
        · refine .inr ⟨IT.go F' H' env τi σ i P.ext (same_offT P) S2 hlt, fun H'' => ∃ F' τi acc accd rest, Post K t τi F1 H1 F' H'' ∧ H'' D = some (.lst acc) ∧ F' D = none ∧ DqAll K F' acc accd ∧ lcGo tg tt te (wipeE env vs) (its.drop (i + 1)) τi = some (rest, τ') ∧ l = accd ++ rest ∧ acc.length ≤ i + 1,
            fun H'' n => ⟨its.length - (i + 1), by omega, rfl, hlt, n⟩, fun x H2 y => ?_⟩
          obtain ⟨F2, P2, dx⟩ := IT.yld F' H' env τi σ i its[i] P.ext (same_offT P) S2 (by simp [hlt]) x H2 y
          rw [List.drop_eq_getElem_cons hlt] at hgo
          unfold lcGo at hgo
          split at hgo
          · rename_i env1 hb
            refine ⟨F2, t, wipeE env vs, τi, its[i], env1, (S2.post P2).wipe vs, dx, hb, fun σ2 S3 o oe => ⟨wipe_off o hv, ?_⟩⟩
            split at hgo
            · rename_i τ3 h3
              refine ht _ _ _ ⟨F2, t, env1, τi, true, τ3, S3, h3, fun F3 H3 P3 => ?_⟩
              show ite _ _ _
              rw [if_pos rfl]
              split at hgo
              · rename_i w4 τ4 h4
                refine ⟨F3, t, env1, τ3, w4, τ4, S3.post P3, h4, fun F4 v4 H4 P4 r4 => ?_⟩
                split at hgo
                · rename_i x4 hx4
                  obtain ⟨F5, P5, s5, S5, d5⟩ := freeze (S3.post P3) ((S3.post P3).post P4) P4 r4 hx4
                  split at hgo
                  · rename_i l' τ5 h5
                    cases hgo
                    have Pz := P2.trans (P3.trans P5)
                    have Pa := P.trans Pz
                    have hD4 : H4 D = some (.lst acc) := Pz.keep _ _ hHD tD
                    have hF5 : F5 D = none := Pz.none_of hFD hHD
                    refine ⟨acc, hD4, by have := line_big; omega, F5, τ4, acc ++ [v4], accd ++ [x4], l', Pa.updNew hD hF5 tD, upd_same, hF5, dqAll_snoc (dqAll_mono Pz.ext dacc) d5, h5, by rw [hl]; simp, by simp; omega⟩
                  · cases hgo
                · cases hgo
              · cases hgo
            · rename_i τ3 h3
              refine ht _ _ _ ⟨F2, t, env1, τi, false, τ3, S3, h3, fun F3 H3 P3 => ?_⟩
              show ite _ _ _
              rw [if_neg Bool.false_ne_true]
              have Pz := P2.trans P3
              exact ⟨F3, τ3, acc, accd, rest, P.trans Pz, Pz.keep _ _ hHD tD, Pz.none_of hFD hHD, dqAll_mono Pz.ext dacc, hgo, hl, by omega⟩
            · cases hgo
          · cases hgo
        · have hi' : i = its.length := by omega
          subst hi'
          rw [List.drop_length] at hgo
          unfold lcGo at hgo
          cases hgo
          rw [List.append_nil] at hl
          subst hl
          exact .inl ⟨IT.stop F' H' env _ σ P.ext (same_offT P) S2, q F' _ H' (P1.trans P) ⟨D, acc, rfl, hFD, tD, P1.bnone hD tD, hHD, dacc⟩⟩
      · cases e
    · cases e
  · cases e
end

open PySem PySem.Spec PyProof.Rows L2
/-! ### comprehensions with two clauses -/
def isDW : W → Bool
  | .d _ => true
  | _ => false
theorem src_f {K : PySem.W.Frag} {F H Hb : Hp} {t : Option Addr} {env : En} {τ : Tp} {σ : L2.St} : ∀ {vs : List V} {ws : List W}, RwAll K F H Hb t σ vs ws → ws.all isDW = true → SrcAll K F F env τ vs ws
  | _, _, .nil, _ => .nil
  | _, _, .cons (v := v) (w := w) r r0, h => by
    rw [List.all_cons, Bool.and_eq_true] at h
    refine .cons (fun b ds e => ?_) (src_f r0 h.2)
    cases w with
    | d x =>
      cases x with
      | list es =>
        cases e
        cases r with
        | lst s a => exact ⟨_, _, rfl, a, s⟩
      | tuple es =>
        cases e
        cases r with
        | tup s a => exact ⟨_, _, rfl, a, s⟩
      | _ => cases e
    | _ => cases h.1
theorem wipeE_own {env : En} {j : Nat} {ds : List D} : ∀ {vs : List Nat}, (wipeE env vs)[j]? = some (Sl.own ds) → env[j]? = some (Sl.own ds) ∧ j ∉ vs
  | [], h => ⟨h, by simp⟩
  | v :: vs, h => by
    unfold wipeE at h
    by_cases hv : v = j
    · subst hv
      by_cases hl : v < (wipeE env vs).length
      · rw [List.getElem?_set_self hl] at h; cases h
      · rw [List.getElem?_eq_none (by rw [List.length_set]; omega)] at h; cases h
    · rw [List.getElem?_set_ne hv] at h
      obtain ⟨h1, h2⟩ := wipeE_own h
      exact ⟨h1, by rw [List.mem_cons, not_or]; exact ⟨Ne.symm hv, h2⟩⟩
theorem Sok.rebase {K : PySem.W.Frag} {F2 H2 F' H' : Hp} {t : Option Addr} {env env1 : En} {τ τ' : Tp} {σ σ2 : L2.St} {l vs : List Nat} (S3 : Sok K F2 H2 t env1 τ σ2) (S' : Sok K F' H' t env τ' σ) (e : Same F2 F') (o : Off l (L2.wipe σ vs) σ2) (oe : OffE l (wipeE env vs) env1) : Sok K F' H' t env1 τ' σ2 := by
  refine ⟨S'.same, S3.len, fun j s h => ?_, S3.dis, S'.tape⟩
  cases s with
  | no => trivial
  | d x =>
    obtain ⟨v, h1, h2⟩ := S3.slot j _ h
    exact ⟨v, h1, dq_mono e h2⟩
  | own ds =>
    obtain ⟨h1, h2⟩ := oe.own j ds h
    obtain ⟨h3, h4⟩ := wipeE_own h1
    obtain ⟨a, us, z1, z2⟩ := S'.slot j _ h3
    exact ⟨a, us, by rw [o.at_ j h2, wipe_out h4]; exact z1, z2⟩
  | tp => exact S3.slot j _ h
def lc2Go (tg : Tg) (tt : EvF) (fi1 : EvI) (tg1 : Tg) (tt1 te : EvF) (vs1 : List Nat) (env : En) : List D → Tp → Option (List D × Tp)
  | [], τ => some ([], τ)
  | d :: r, τ => match bindT tg d env with
    | some env1 => (match tt env1 τ with
      | some (.d (.bool true), τ1) => (match fi1 env1 τ1 with
        | some (its, ws, τ2) => if (ws.all isDW && decide (its.length ≤ 1000)) = true then (match lcGo tg1 tt1 te (wipeE env1 vs1) its τ2 with
            | some (l, τ3) => (match lc2Go tg tt fi1 tg1 tt1 te vs1 env r τ3 with
              | some (l2, τ4) => some (l ++ l2, τ4)
              | none => none)
            | none => none)
          else none
        | none => none)
      | some (.d (.bool false), τ1) => lc2Go tg tt fi1 tg1 tt1 te vs1 env r τ1
      | _ => none)
    | none => none
def eLc2 (fi : EvI) (tg : Tg) (tt : EvF) (fi1 : EvI) (tg1 : Tg) (tt1 te : EvF) (vs vs1 : List Nat) : EvF := fun env τ => match fi env τ with
  | some (its, ws, τ1) => if (ws.all notTp && decide (its.length ≤ 1000)) = true then (match lc2Go tg tt fi1 tg1 tt1 te vs1 (wipeE env vs) its τ1 with
      | some (l, τ2) => some (.new l, τ2)
      | none => none)
    else none
  | none => none
theorem line_big2 : 1000000 + 1000 < sizeLine := by decide
section
variable {K : PySem.W.Frag}
theorem lc2_sem {fi : EvI} {tg : Tg} {tt : EvF} {fi1 : EvI} {tg1 : Tg} {tt1 te : EvF} {vs vs1 : List Nat} {tt' tt1' : TT} (ht : ∀ σ H Q, tT K tt σ H Q → tt' σ H Q) (ht1 : ∀ σ H Q, tT K tt1 σ H Q → tt1' σ H Q) (hv : ∀ j ∈ tg.slots, j ∈ vs) (hv1 : ∀ j ∈ tg1.slots, j ∈ vs1)
    {σ : L2.St} {H : Hp} {Q : VK} (h : tE K (eLc2 fi tg tt fi1 tg1 tt1 te vs vs1) σ H Q) :
    tLc2 (tI K fi) (tG K tg) tt' (tI K fi1) (tG K tg1) tt1' (tE K te) vs vs1 σ H Q := by
  obtain ⟨F, t, env, τ, w, τ', S, e, q⟩ := h
  unfold eLc2 at e
  split at e
  · rename_i its ws τ1 e1
    split at e
    · rename_i hg
      rw [Bool.and_eq_true] at hg
      have hlen := of_decide_eq_true hg.2
      split at e
      · rename_i l τ2 e2
        cases e
        refine ⟨F, t, env, τ, its, ws, τ1, S, e1, fun F1 H1 J us P1 r1 it => ?_⟩
        intro D hD
        have S1 := S.post P1
        have IT := it F1 (offT t H1) (.refl _) (src_c S1 r1 hg.1)
        have tD := S1.tne hD
        refine ⟨fun i m H' => m = its.length - i ∧ i ≤ its.length ∧ ∃ F' τi acc accd rest, Post K t τi F1 H1 F' H' ∧ H' D = some (.lst acc) ∧ F' D = none ∧ DqAll K F' acc accd ∧ lc2Go tg tt fi1 tg1 tt1 te vs1 (wipeE env vs) (its.drop i) τi = some (rest, τ') ∧ l = accd ++ rest ∧ acc.length ≤ i * 1000,
          ⟨its.length, by simp, Nat.zero_le _, F1, τ1, [], [], l, S1.laid hD, upd_same, S1.fnone hD, .nil, by simpa using e2, rfl, Nat.zero_le _⟩, ?_⟩
        rintro i m H' ⟨rfl, hi, F', τi, acc, accd, rest, P, hHD, hFD, dacc, hgo, hl, hacc⟩
        have S2 := S1.post P
        by_cases hlt : i < its.length
        · refine .inr ⟨IT.go F' H' env τi σ i P.ext (same_offT P) S2 hlt, fun H'' => ∃ F' τi acc accd rest, Post K t τi F1 H1 F' H'' ∧ H'' D = some (.lst acc) ∧ F' D = none ∧ DqAll K F' acc accd ∧ lc2Go tg tt fi1 tg1 tt1 te vs1 (wipeE env vs) (its.drop (i + 1)) τi = some (rest, τ') ∧ l = accd ++ rest ∧ acc.length ≤ (i + 1) * 1000,
            fun H'' n => ⟨its.length - (i + 1), by omega, rfl, hlt, n⟩, fun x H2 y => ?_⟩
          obtain ⟨F2, P2, dx⟩ := IT.yld F' H' env τi σ i its[i] P.ext (same_offT P) S2 (by simp [hlt]) x H2 y
          rw [List.drop_eq_getElem_cons hlt] at hgo
          unfold lc2Go at hgo
          split at hgo
          · rename_i env1 hb
            refine ⟨F2, t, wipeE env vs, τi, its[i], env1, (S2.post P2).wipe vs, dx, hb, fun σ2 S3 o oe => ⟨wipe_off o hv, ?_⟩⟩
            split at hgo
            · rename_i τ3 h3
              refine ht _ _ _ ⟨F2, t, env1, τi, true, τ3, S3, h3, fun F3 H3 P3 => ?_⟩
              show ite _ _ _
              rw [if_pos rfl]
              split at hgo
              · rename_i its1 ws1 τ4 h4
                split at hgo
                · rename_i hg1
                  rw [Bool.and_eq_true] at hg1
                  have hlen1 := of_decide_eq_true hg1.2
                  split at hgo
                  · rename_i l1 τ5 h5
                    split at hgo
                    · rename_i l2 τ6 h6
                      cases hgo
                      refine ⟨F3, t, env1, τ3, its1, ws1, τ4, S3.post P3, h4, fun F4 H4 J1 us1 P4 r4 it1 => ?_⟩
                      have S4 := (S3.post P3).post P4
                      have IT1 := it1 F4 F4 (.refl _) (src_f r4 hg1.1)
                      have Pz := P2.trans (P3.trans P4)
                      have hHD4 : H4 D = some (.lst acc) := Pz.keep _ _ hHD tD
                      have hFD4 : F4 D = none := Pz.none_of hFD hHD
                      refine ⟨fun j k H6 => k = its1.length - j ∧ j ≤ its1.length ∧ ∃ F' τi acc2 accd2 rest, Post K t τi F1 H1 F' H6 ∧ Same F4 F' ∧ H6 D = some (.lst acc2) ∧ F' D = none ∧ DqAll K F' acc2 accd2 ∧ lcGo tg1 tt1 te (wipeE env1 vs1) (its1.drop j) τi = some (rest, τ5) ∧ accd ++ l1 = accd2 ++ rest ∧ acc2.length ≤ i * 1000 + j,
                        ⟨its1.length, by simp, Nat.zero_le _, F4, τ4, acc, accd, l1, P.trans Pz, .refl _, hHD4, hFD4, dqAll_mono Pz.ext dacc, by simpa using h5, rfl, by omega⟩, ?_⟩
                      rintro j k H6 ⟨rfl, hj, F6, τj, acc6, accd6, rest6, P6, sF6, hHD6, hFD6, dacc6, hgo6, hl6, hacc6⟩
                      have S6 : Sok K F6 H6 t env1 τj σ2 := S4.rebase (S1.post P6) sF6 o oe
                      have sH6 : Same F4 H6 := sF6.trans S6.same
                      by_cases hlt6 : j < its1.length
                      · refine .inr ⟨IT1.go F6 H6 env1 τj σ2 j sF6 sH6 S6 hlt6, fun H7 => ∃ F' τi acc2 accd2 rest, Post K t τi F1 H1 F' H7 ∧ Same F4 F' ∧ H7 D = some (.lst acc2) ∧ F' D = none ∧ DqAll K F' acc2 accd2 ∧ lcGo tg1 tt1 te (wipeE env1 vs1) (its1.drop (j + 1)) τi = some (rest, τ5) ∧ accd ++ l1 = accd2 ++ rest ∧ acc2.length ≤ i * 1000 + (j + 1),
                          fun H7 n => ⟨its1.length - (j + 1), by omega, rfl, hlt6, n⟩, fun x1 H7 y1 => ?_⟩
                        obtain ⟨F7, P7, dx7⟩ := IT1.yld F6 H6 env1 τj σ2 j its1[j] sF6 sH6 S6 (by simp [hlt6]) x1 H7 y1
                        rw [List.drop_eq_getElem_cons hlt6] at hgo6
                        unfold lcGo at hgo6
                        split at hgo6
                        · rename_i env7 hb7
                          refine ⟨F7, t, wipeE env1 vs1, τj, its1[j], env7, (S6.post P7).wipe vs1, dx7, hb7, fun σ7 S7 o7 oe7 => ⟨wipe_off o7 hv1, ?_⟩⟩
                          have offD : ∀ {F8 H8 τ8}, Post K t τ8 F7 H7 F8 H8 → H8 D = some (.lst acc6) ∧ F8 D = none := fun {F8 H8 τ8} P8 => ⟨(P7.trans P8).keep _ _ hHD6 tD, (P7.trans P8).none_of hFD6 hHD6⟩
                          split at hgo6
                          · rename_i τ8 h8
                            refine ht1 _ _ _ ⟨F7, t, env7, τj, true, τ8, S7, h8, fun F8 H8 P8 => ?_⟩
                            show ite _ _ _
                            rw [if_pos rfl]
                            split at hgo6
                            · rename_i w9 τ9 h9
                              refine ⟨F8, t, env7, τ8, w9, τ9, S7.post P8, h9, fun F9 v9 H9 P9 r9 => ?_⟩
                              split at hgo6
                              · rename_i x9 hx9
                                obtain ⟨Fa, Pa, sa, Sa, da⟩ := freeze (S7.post P8) ((S7.post P8).post P9) P9 r9 hx9
                                split at hgo6
                                · rename_i l' τb hb'
                                  cases hgo6
                                  have Pq := P8.trans Pa
                                  have Pw := P7.trans Pq
                                  obtain ⟨hD9, hFa⟩ := offD Pq
                                  have Pn : Post K t τ9 F1 H1 Fa (upd H9 D (.lst (acc6 ++ [v9]))) := (P6.trans Pw).updNew hD hFa tD
                                  refine ⟨acc6, hD9, by have := line_big2; omega, Fa, τ9, acc6 ++ [v9], accd6 ++ [x9], l', Pn, sF6.trans Pw.ext, upd_same, hFa, dqAll_snoc (dqAll_mono Pw.ext dacc6) da, hb', by rw [hl6]; simp, by simp; omega⟩
                                · cases hgo6
                              · cases hgo6
                            · cases hgo6
                          · rename_i τ8 h8
                            refine ht1 _ _ _ ⟨F7, t, env7, τj, false, τ8, S7, h8, fun F8 H8 P8 => ?_⟩
                            show ite _ _ _
                            rw [if_neg Bool.false_ne_true]
                            have Pw := P7.trans P8
                            exact ⟨F8, τ8, acc6, accd6, rest6, P6.trans Pw, sF6.trans Pw.ext, (offD P8).1, (offD P8).2, dqAll_mono Pw.ext dacc6, hgo6, hl6, by omega⟩
                          · cases hgo6
                        · cases hgo6
                      · have hj' : j = its1.length := by omega
                        subst hj'
                        rw [List.drop_length] at hgo6
                        unfold lcGo at hgo6
                        cases hgo6
                        rw [List.append_nil] at hl6
                        refine .inl ⟨IT1.stop F6 H6 env1 _ σ2 sF6 sH6 S6, F6, _, acc6, accd6, l2, P6, hHD6, hFD6, dacc6, h6, ?_, by omega⟩
                        rw [hl, ← List.append_assoc, hl6]
                    · cases hgo
                  · cases hgo
                · cases hgo
              · cases hgo
            · rename_i τ3 h3
              refine ht _ _ _ ⟨F2, t, env1, τi, false, τ3, S3, h3, fun F3 H3 P3 => ?_⟩
              show ite _ _ _
              rw [if_neg Bool.false_ne_true]
              have Pz := P2.trans P3
              exact ⟨F3, τ3, acc, accd, rest, P.trans Pz, Pz.keep _ _ hHD tD, Pz.none_of hFD hHD, dqAll_mono Pz.ext dacc, hgo, hl, by omega⟩
            · cases hgo
          · cases hgo
        · have hi' : i = its.length := by omega
          subst hi'
          rw [List.drop_length] at hgo
          unfold lc2Go at hgo
          cases hgo
          rw [List.append_nil] at hl
          subst hl
          exact .inl ⟨IT.stop F' H' env _ σ P.ext (same_offT P) S2, q F' _ H' (P1.trans P) ⟨D, acc, rfl, hFD, tD, P1.bnone hD tD, hHD, dacc⟩⟩
      · cases e
    · cases e
  · cases e
end

open PySem PySem.Spec PyProof.Rows L2
/-! ### the state between statements -/
structure SI (K : PySem.W.Frag) (F0 H0 F H : Hp) (t : Option Addr) (env : En) (τ : Tp) (σ : L2.St) : Prop where
  ok : Sok K F H t env τ σ
  post : Post K t τ F0 H0 F H
  own : ∀ (i : Nat) (ds : List D) (a : Addr), env[i]? = some (Sl.own ds) → σ[i]? = some (some (V.ref a)) → H0 a = none
section
variable {K : PySem.W.Frag} {F0 H0 F H F' H' Hb : Hp} {t : Option Addr} {env env' : En} {τ τ' : Tp} {σ : L2.St}
theorem SI.step (I : SI K F0 H0 F H t env τ σ) (P : Post K t τ' F H F' H') : SI K F0 H0 F' H' t env τ' σ := ⟨I.ok.post P, I.post.trans P, I.own⟩
theorem SI.fz (I : SI K F0 H0 F H t env τ σ) {a : Addr} {vs : List V} {ds : List D} (h3 : t ≠ some a) (h0 : H0 a = none) (hH : H a = some (.lst vs)) (hd : ∀ (i : Nat) (es : List D), env[i]? = some (Sl.own es) → σ[i]? ≠ some (some (V.ref a))) :
    ∃ F2, Same F F2 ∧ SI K F0 H0 F2 H t env τ σ ∧ F2 a = some (.lst vs) ∧ ∀ b, b ≠ a → F2 b = F b := by
  cases hF : F a with
  | some o =>
    have := I.ok.same _ _ hF
    rw [hH] at this
    cases this
    exact ⟨F, .refl _, I, hF, fun _ _ => rfl⟩
  | none =>
    have e1 : Same F (upd F a (.lst vs)) := fun b o q => by
      rw [upd_ne (ne_of_none q hF)]
      exact q
    have e2 : Same (upd F a (.lst vs)) H := fun b o q => by
      by_cases hb : b = a
      · subst hb
        rw [upd_same] at q
        rw [hH, ← q]
      · rw [upd_ne hb] at q
        exact I.ok.same _ _ q
    have tp : TapeOk K (upd F a (.lst vs)) H t τ := by
      have tp := I.ok.tape
      cases t with
      | none => trivial
      | some c =>
        obtain ⟨t1, us, t2, t3⟩ := tp
        have hc : c ≠ a := fun z => h3 (by rw [z])
        exact ⟨by rw [upd_ne hc]; exact t1, us, t2, dqAll_mono e1 t3⟩
    refine ⟨_, e1, ⟨⟨e2, I.ok.len, fun i s q => ?_, I.ok.dis, tp⟩, ⟨I.post.ext.trans e1, e2, fun b q => ?_, I.post.keep, tp⟩, I.own⟩, upd_same, fun b hb => upd_ne hb⟩
    · have h := I.ok.slot i s q
      cases s with
      | no => trivial
      | d x =>
        obtain ⟨v, z1, z2⟩ := h
        exact ⟨v, z1, dq_mono e1 z2⟩
      | own es =>
        obtain ⟨c, us, z1, z2, z3, z4, z5⟩ := h
        have hc : c ≠ a := fun z => hd i es q (by rw [z1, z])
        exact ⟨c, us, z1, by rw [upd_ne hc]; exact z2, z3, z4, dqAll_mono e1 z5⟩
      | tp => exact h
    · by_cases hb : b = a
      · subst hb
        exact .inr h0
      · rw [upd_ne hb] at q
        exact I.post.new b q
theorem SI.dropOwn (I : SI K F0 H0 F H t env τ σ) (i : Nat) : SI K F0 H0 F H t (env.set i .no) τ σ := by
  have f : ∀ {j : Nat} {s : Sl}, (env.set i Sl.no)[j]? = some s → s = .no ∨ (i ≠ j ∧ env[j]? = some s) := fun {j s} h => by
    by_cases hj : i = j
    · subst hj
      by_cases hi : i < env.length
      · rw [List.getElem?_set_self hi] at h
        cases h
        exact .inl rfl
      · rw [List.getElem?_eq_none (by rw [List.length_set]; omega)] at h
        cases h
    · rw [List.getElem?_set_ne hj] at h
      exact .inr ⟨hj, h⟩
  refine ⟨⟨I.ok.same, by rw [List.length_set, I.ok.len], fun j s h => ?_, fun j k ds es h1 h2 hne => ?_, I.ok.tape⟩, I.post, fun j ds a h e => ?_⟩
  · rcases f h with q | ⟨_, q⟩
    · subst q; trivial
    · exact I.ok.slot j s q
  · rcases f h1 with q | ⟨_, q⟩
    · cases q
    · rcases f h2 with q' | ⟨_, q'⟩
      · cases q'
      · exact I.ok.dis _ _ _ _ q q' hne
  · rcases f h with q | ⟨_, q⟩
    · cases q
    · exact I.own j ds a q e
/-- a slot's value is told as data -/
theorem SI.tell (I : SI K F0 H0 F H t env τ σ) {i : Nat} {v : V} {d : D} (hi : σ[i]? = some (some v)) (hd : Dq K F v d) : SI K F0 H0 F H t (env.set i (.d d)) τ σ := by
  have hl : i < env.length := by rw [I.ok.len]; exact (List.getElem?_eq_some_iff.mp hi).1
  refine ⟨⟨I.ok.same, by rw [List.length_set, I.ok.len], fun j s h => ?_, fun j k ds es h1 h2 hne => ?_, I.ok.tape⟩, I.post, fun j ds a h e => ?_⟩
  · by_cases hj : i = j
    · subst hj
      rw [List.getElem?_set_self hl] at h
      cases h
      exact ⟨v, hi, hd⟩
    · rw [List.getElem?_set_ne hj] at h
      exact I.ok.slot j s h
  · have n1 : i ≠ j := fun z => by subst z; rw [List.getElem?_set_self hl] at h1; cases h1
    have n2 : i ≠ k := fun z => by subst z; rw [List.getElem?_set_self hl] at h2; cases h2
    rw [List.getElem?_set_ne n1] at h1
    rw [List.getElem?_set_ne n2] at h2
    exact I.ok.dis _ _ _ _ h1 h2 hne
  · have n1 : i ≠ j := fun z => by subst z; rw [List.getElem?_set_self hl] at h; cases h
    rw [List.getElem?_set_ne n1] at h
    exact I.own j ds a h e
/-- an own list is given away: from now on it stays -/
theorem SI.freezeLoc (I : SI K F0 H0 F H t env τ σ) {i : Nat} {ds : List D} (h : env[i]? = some (Sl.own ds)) :
    ∃ a vs F2, σ[i]? = some (some (.ref a)) ∧ Same F F2 ∧ F2 a = some (.lst vs) ∧ DqAll K F2 vs ds ∧ SI K F0 H0 F2 H t (env.set i (.d (.list ds))) τ σ := by
  obtain ⟨a, vs, h1, h2, h3, h4, h5⟩ := I.ok.slot i _ h
  have hl : i < env.length := (List.getElem?_eq_some_iff.mp h).1
  obtain ⟨F2, e1, I2, f2, _⟩ := (I.dropOwn i).fz (ds := ds) h3 (I.own i ds a h h1) h4 (fun j es hj z => by
    have n1 : i ≠ j := fun z => by subst z; rw [List.getElem?_set_self hl] at hj; cases hj
    rw [List.getElem?_set_ne n1] at hj
    exact I.ok.dis i j _ _ h hj n1 (h1.trans z.symm))
  have d2 := dqAll_mono e1 h5
  have I3 := I2.tell h1 (.lst f2 d2)
  rw [List.set_set] at I3
  exact ⟨a, vs, F2, h1, e1, f2, d2, I3⟩

/-! ### sources given away -/
def freezeS (env : En) : List W → En
  | [] => env
  | .loc i :: ws => match env[i]? with
    | some (.own ds) => freezeS (env.set i (.d (.list ds))) ws
    | _ => freezeS env ws
  | _ :: ws => freezeS env ws
theorem SrcAll.mono {F2 : Hp} {vs : List V} {ws : List W} (h : SrcAll K F F env τ vs ws) (e : Same F F2) : SrcAll K F2 F2 env τ vs ws := by
  induction h with
  | nil => exact .nil
  | cons a b ih =>
    refine .cons (fun b ds q => ?_) ih
    obtain ⟨c, us, z1, z2, z3⟩ := a b ds q
    exact ⟨c, us, z1, dqAll_mono e z2, z3.mono e⟩
theorem src_s {F1 H1 Fb : Hp} {τb τ1 : Tp} (Ib : SI K F0 H0 Fb Hb t env τb σ) (S1 : Sok K F1 H1 t env τ1 σ) (P1 : Post K t τ1 Fb Hb F1 H1) : ∀ {vs : List V} {ws : List W} {env' : En} {F' : Hp}, SI K F0 H0 F' H1 t env' τ1 σ → Same F1 F' →
    (∀ (i : Nat) (ds : List D), env[i]? = some (Sl.own ds) → env'[i]? = some (Sl.own ds) ∨ env'[i]? = some (Sl.d (.list ds))) → (∀ (i : Nat) (ds : List D), env'[i]? = some (Sl.own ds) → env[i]? = some (Sl.own ds)) → RwAll K F1 H1 Hb t σ vs ws → ws.all notTp = true →
    ∃ F2, Same F' F2 ∧ SI K F0 H0 F2 H1 t (freezeS env' ws) τ1 σ ∧ SrcAll K F2 F2 env τ1 vs ws
  | _, _, env', F', I, e, hr, hr', .nil, _ => ⟨F', .refl _, I, .nil⟩
  | _, _, env', F', I, e, hr, hr', .cons (v := v) (vs := vs) (w := w) (ws := ws) r r0, h => by
    rw [List.all_cons, Bool.and_eq_true] at h
    cases w with
    | d x =>
      obtain ⟨F2, e2, I2, A2⟩ := src_s Ib S1 P1 I e hr hr' r0 h.2
      refine ⟨F2, e2, I2, .cons (fun b ds q => ?_) A2⟩
      have r2 := dq_mono (e.trans e2) r
      cases x with
      | list es =>
        cases q
        cases r2 with
        | lst s a => exact ⟨_, _, rfl, a, s⟩
      | tuple es =>
        cases q
        cases r2 with
        | tup s a => exact ⟨_, _, rfl, a, s⟩
      | _ => cases q
    | new ds =>
      obtain ⟨a, us, rfl, h2, h3, h4, h5, h6⟩ := r
      have h0 : H0 a = none := Ib.post.bnone h4 h3
      obtain ⟨F3, e3, I3, f3, _⟩ := I.fz (ds := ds) h3 h0 h5 (fun j es hj z => by
        obtain ⟨b, us', z1, z2, z3, z4, z5⟩ := Ib.ok.slot j _ (hr' j es hj)
        rw [z] at z1
        cases z1
        rw [h4] at z4
        cases z4)
      obtain ⟨F2, e2, I2, A2⟩ := src_s Ib S1 P1 I3 (e.trans e3) hr hr' r0 h.2
      refine ⟨F2, e3.trans e2, I2, .cons (fun b ds' q => ?_) A2⟩
      cases q
      exact ⟨a, us, rfl, dqAll_mono ((e.trans e3).trans e2) h6, e2 _ _ f3⟩
    | loc i =>
      -- the slot is own still, or given away already
      cases hown : env[i]? with
      | none =>
        have z : freezeS env' (.loc i :: ws) = freezeS env' ws := by
          have : ∀ ds, env'[i]? ≠ some (Sl.own ds) := fun ds q => by rw [hr' i ds q] at hown; cases hown
          show (match env'[i]? with | some (.own ds) => freezeS (env'.set i (.d (.list ds))) ws | _ => freezeS env' ws) = _
          split
          · rename_i ds q; exact absurd q (this ds)
          · rfl
        rw [z]
        obtain ⟨F2, e2, I2, A2⟩ := src_s Ib S1 P1 I e hr hr' r0 h.2
        refine ⟨F2, e2, I2, .cons (fun b ds q => ?_) A2⟩
        change (match env[i]? with | some (.own ds) => some (true, ds) | _ => none) = _ at q
        rw [hown] at q
        cases q
      | some s =>
        cases s with
        | own ds =>
          rcases hr i ds hown with k | k
          · have z : freezeS env' (.loc i :: ws) = freezeS (env'.set i (.d (.list ds))) ws := by
              show (match env'[i]? with | some (.own ds) => freezeS (env'.set i (.d (.list ds))) ws | _ => freezeS env' ws) = _
              rw [k]
            rw [z]
            have hl : i < env'.length := (List.getElem?_eq_some_iff.mp k).1
            obtain ⟨a, us, F3, s1, e3, f3, d3, I3⟩ := I.freezeLoc k
            obtain ⟨F2, e2, I2, A2⟩ := src_s Ib S1 P1 I3 (e.trans e3) (fun j es hj => by
              by_cases hij : i = j
              · subst hij
                rw [hown] at hj
                cases hj
                exact .inr (List.getElem?_set_self hl)
              · rw [List.getElem?_set_ne hij]
                exact hr j es hj) (fun j es hj => by
              by_cases hij : i = j
              · subst hij
                rw [List.getElem?_set_self hl] at hj
                cases hj
              · rw [List.getElem?_set_ne hij] at hj
                exact hr' j es hj) r0 h.2
            refine ⟨F2, e3.trans e2, I2, .cons (fun b ds' q => ?_) A2⟩
            change (match env[i]? with | some (.own ds) => some (true, ds) | _ => none) = _ at q
            rw [hown] at q
            cases q
            have : σ[i]? = some (some v) := r
            rw [s1] at this
            cases this
            exact ⟨a, us, rfl, dqAll_mono e2 d3, e2 _ _ f3⟩
          · have z : freezeS env' (.loc i :: ws) = freezeS env' ws := by
              show (match env'[i]? with | some (.own ds) => freezeS (env'.set i (.d (.list ds))) ws | _ => freezeS env' ws) = _
              rw [k]
            rw [z]
            obtain ⟨v', k1, k2⟩ := I.ok.slot i _ k
            obtain ⟨F2, e2, I2, A2⟩ := src_s Ib S1 P1 I e hr hr' r0 h.2
            refine ⟨F2, e2, I2, .cons (fun b ds' q => ?_) A2⟩
            change (match env[i]? with | some (.own ds) => some (true, ds) | _ => none) = _ at q
            rw [hown] at q
            cases q
            have : σ[i]? = some (some v) := r
            rw [k1] at this
            cases this
            cases k2 with
            | lst s a => exact ⟨_, _, rfl, dqAll_mono e2 a, e2 _ _ s⟩
        | _ =>
          have z : freezeS env' (.loc i :: ws) = freezeS env' ws := by
            have : ∀ ds, env'[i]? ≠ some (Sl.own ds) := fun ds q => by rw [hr' i ds q] at hown; cases hown
            show (match env'[i]? with | some (.own ds) => freezeS (env'.set i (.d (.list ds))) ws | _ => freezeS env' ws) = _
            split
            · rename_i ds q; exact absurd q (this ds)
            · rfl
          rw [z]
          obtain ⟨F2, e2, I2, A2⟩ := src_s Ib S1 P1 I e hr hr' r0 h.2
          refine ⟨F2, e2, I2, .cons (fun b ds q => ?_) A2⟩
          change (match env[i]? with | some (.own ds) => some (true, ds) | _ => none) = _ at q
          rw [hown] at q
          cases q
    | tp => cases h.1
/-! ### a slot is set -/
def setW (own : Bool) (i : Nat) (w : W) (env : En) : Option En := if i < env.length then (match w with
  | .d x => some (env.set i (.d x))
  | .new ds => some (env.set i (if own = true then .own ds else .d (.list ds)))
  | _ => none) else none
theorem SI.setD (I : SI K F0 H0 F H t env τ σ) {i : Nat} {v : V} {d : D} (hi : i < env.length) (h : Dq K F v d) : SI K F0 H0 F H t (env.set i (.d d)) τ (σ.set i (some v)) :=
  ⟨I.ok.setD hi h, I.post, fun j ds a e1 e2 => by
    have n1 : i ≠ j := fun z => by subst z; rw [List.getElem?_set_self hi] at e1; cases e1
    rw [List.getElem?_set_ne n1] at e1 e2
    exact I.own j ds a e1 e2⟩
theorem SI.setOwn (I : SI K F0 H0 F H t env τ σ) {i : Nat} {a : Addr} {vs : List V} {ds : List D} (hi : i < env.length) (h1 : F a = none) (h2 : t ≠ some a) (h0 : H0 a = none) (h3 : H a = some (.lst vs)) (h4 : DqAll K F vs ds)
    (hd : ∀ (j : Nat) (es : List D), env[j]? = some (Sl.own es) → j ≠ i → σ[j]? ≠ some (some (V.ref a))) : SI K F0 H0 F H t (env.set i (.own ds)) τ (σ.set i (some (.ref a))) := by
  have hl : i < σ.length := by rw [← I.ok.len]; exact hi
  refine ⟨⟨I.ok.same, by rw [List.length_set, List.length_set, I.ok.len], fun j s h => ?_, fun j k es fs e1 e2 hne => ?_, I.ok.tape⟩, I.post, fun j es b e1 e2 => ?_⟩
  · by_cases hj : i = j
    · subst hj
      rw [List.getElem?_set_self hi] at h
      cases h
      exact ⟨a, vs, List.getElem?_set_self hl, h1, h2, h3, h4⟩
    · rw [List.getElem?_set_ne hj] at h
      have q := I.ok.slot j s h
      cases s with
      | no => trivial
      | d x =>
        obtain ⟨v, z1, z2⟩ := q
        exact ⟨v, by rw [List.getElem?_set_ne hj]; exact z1, z2⟩
      | own es =>
        obtain ⟨c, us, z1, z2⟩ := q
        exact ⟨c, us, by rw [List.getElem?_set_ne hj]; exact z1, z2⟩
      | tp =>
        obtain ⟨c, z1, z2⟩ := q
        exact ⟨c, z1, by rw [List.getElem?_set_ne hj]; exact z2⟩
  · by_cases hj : i = j
    · subst hj
      rw [List.getElem?_set_ne hne] at e2
      rw [List.getElem?_set_self hl, List.getElem?_set_ne hne]
      exact fun z => hd k fs e2 (Ne.symm hne) z.symm
    · by_cases hk : i = k
      · subst hk
        rw [List.getElem?_set_ne hj] at e1
        rw [List.getElem?_set_self hl, List.getElem?_set_ne hj]
        exact hd j es e1 hne
      · rw [List.getElem?_set_ne hj] at e1
        rw [List.getElem?_set_ne hk] at e2
        rw [List.getElem?_set_ne hj, List.getElem?_set_ne hk]
        exact I.ok.dis _ _ _ _ e1 e2 hne
  · by_cases hj : i = j
    · subst hj
      rw [List.getElem?_set_self hl] at e2
      cases e2
      exact h0
    · rw [List.getElem?_set_ne hj] at e1 e2
      exact I.own j es b e1 e2
end

open PySem PySem.Spec PyProof.Rows L2
/-! ### what statements come to -/
inductive Out where
  | nx (env : En) (τ : Tp) | bk (env : En) (τ : Tp) | ct (env : En) (τ : Tp) | rt (d : D) (τ : Tp)
abbrev EvS := En → Tp → Option Out
def Kont (K : PySem.W.Frag) (F0 H0 F : Hp) (t : Option Addr) (E : Ends) : Out → Prop
  | .nx e τ => ∀ F' H' σ', Same F F' → SI K F0 H0 F' H' t e τ σ' → E.nx σ' H'
  | .bk e τ => ∀ F' H' σ', Same F F' → SI K F0 H0 F' H' t e τ σ' → E.bk σ' H'
  | .ct e τ => ∀ F' H' σ', Same F F' → SI K F0 H0 F' H' t e τ σ' → E.ct σ' H'
  | .rt d τ => ∀ F' H' v, Post K t τ F0 H0 F' H' → Dq K F' v d → E.rt v H'
def tS (K : PySem.W.Frag) (f : EvS) : TS := fun E σ H => ∃ F0 H0 F t env τ o, SI K F0 H0 F H t env τ σ ∧ f env τ = some o ∧ Kont K F0 H0 F t E o
theorem Kont.mono {K : PySem.W.Frag} {F0 H0 F F2 : Hp} {t : Option Addr} {E : Ends} {o : Out} (h : Kont K F0 H0 F t E o) (e : Same F F2) : Kont K F0 H0 F2 t E o := by
  cases o with
  | nx a b => exact fun F' H' σ' s => h F' H' σ' (e.trans s)
  | bk a b => exact fun F' H' σ' s => h F' H' σ' (e.trans s)
  | ct a b => exact fun F' H' σ' s => h F' H' σ' (e.trans s)
  | rt a b => exact h
section
variable {K : PySem.W.Frag} {F0 H0 F H F' H' Hb : Hp} {t : Option Addr} {env env' : En} {τ τ' : Tp} {σ : L2.St}
theorem SI.fresh (I : SI K F0 H0 F H t env τ σ) {a : Addr} (h : H a = none) : ∀ (j : Nat) (es : List D), env[j]? = some (Sl.own es) → σ[j]? ≠ some (some (V.ref a)) := fun j es hj z => by
  obtain ⟨b, us, z1, z2, z3, z4, z5⟩ := I.ok.slot j _ hj
  rw [z] at z1
  cases z1
  rw [h] at z4
  cases z4
theorem SI.setW {own : Bool} {i : Nat} {v : V} {w : W} (I : SI K F0 H0 F H t env τ σ) (P : Post K t τ' F H F' H') (r : Rw K F' H' H t σ v w) (e : setW own i w env = some env') :
    ∃ F2, Same F' F2 ∧ SI K F0 H0 F2 H' t env' τ' (σ.set i (some v)) := by
  unfold Ev.setW at e
  split at e
  · rename_i hi
    cases w with
    | d x => cases e; exact ⟨F', .refl _, (I.step P).setD hi r⟩
    | new ds =>
      obtain ⟨a, us, rfl, h2, h3, h4, h5, h6⟩ := r
      have h0 : H0 a = none := I.post.bnone h4 h3
      have hd := I.fresh h4
      cases own with
      | true =>
        cases e
        exact ⟨F', .refl _, (I.step P).setOwn hi h2 h3 h0 h5 h6 fun j es hj _ => hd j es hj⟩
      | false =>
        cases e
        obtain ⟨F2, e2, I2, f2, _⟩ := (I.step P).fz (ds := ds) h3 h0 h5 hd
        exact ⟨F2, e2, I2.setD hi (.lst f2 (dqAll_mono e2 h6))⟩
    | loc j => cases e
    | tp => cases e
  · cases e
/-- an own list is written -/
theorem SI.updOwn {i : Nat} {a : Addr} {ds ds' : List D} {vs' : List V} (I : SI K F0 H0 F H t env τ σ) (h : env[i]? = some (Sl.own ds)) (hs : σ[i]? = some (some (V.ref a))) (d : DqAll K F vs' ds') :
    SI K F0 H0 F (upd H a (.lst vs')) t (env.set i (.own ds')) τ σ := by
  obtain ⟨b, us, z1, z2, z3, z4, z5⟩ := I.ok.slot i _ h
  rw [hs] at z1
  cases z1
  have hl : i < env.length := (List.getElem?_eq_some_iff.mp h).1
  have h0 := I.own i ds a h hs
  have e2 : Same F (upd H a (.lst vs')) := fun b o q => by
    rw [upd_ne (ne_of_none q z2)]
    exact I.ok.same _ _ q
  have tp : TapeOk K F (upd H a (.lst vs')) t τ := by
    have tp := I.ok.tape
    cases t with
    | none => trivial
    | some c =>
      obtain ⟨t1, us, t2, t3⟩ := tp
      have hc : c ≠ a := fun z => z3 (by rw [z])
      exact ⟨t1, us, by rw [upd_ne hc]; exact t2, t3⟩
  refine ⟨⟨e2, by rw [List.length_set, I.ok.len], fun j s q => ?_, fun j k es fs q1 q2 hne => ?_, tp⟩, ⟨I.post.ext, e2, I.post.new, fun b o q k => ?_, tp⟩, fun j es b q1 q2 => ?_⟩
  · by_cases hj : i = j
    · subst hj
      rw [List.getElem?_set_self hl] at q
      cases q
      exact ⟨a, vs', hs, z2, z3, upd_same, d⟩
    · rw [List.getElem?_set_ne hj] at q
      have r := I.ok.slot j s q
      cases s with
      | no => trivial
      | d x => exact r
      | own es =>
        obtain ⟨c, us', y1, y2, y3, y4, y5⟩ := r
        have hc : c ≠ a := fun z => I.ok.dis i j _ _ h q hj (by rw [hs, y1, z])
        exact ⟨c, us', y1, y2, y3, by rw [upd_ne hc]; exact y4, y5⟩
      | tp => exact r
  · have f : ∀ {j : Nat} {es : List D}, (env.set i (Sl.own ds'))[j]? = some (Sl.own es) → ∃ gs, env[j]? = some (Sl.own gs) := fun {j es} q => by
      by_cases hj : i = j
      · subst hj; exact ⟨_, h⟩
      · rw [List.getElem?_set_ne hj] at q; exact ⟨_, q⟩
    obtain ⟨_, q1⟩ := f q1
    obtain ⟨_, q2⟩ := f q2
    exact I.ok.dis _ _ _ _ q1 q2 hne
  · rw [upd_ne (ne_of_none q h0)]
    exact I.post.keep _ _ q k
  · by_cases hj : i = j
    · subst hj; rw [hs] at q2; cases q2; exact h0
    · rw [List.getElem?_set_ne hj] at q1; exact I.own j es b q1 q2
/-- the tape is written -/
theorem SI.updTape {a : Addr} {ds' : List D} {vs' : List V} (I : SI K F0 H0 F H t env τ σ) (ht : t = some a) (d : DqAll K F vs' ds') : SI K F0 H0 F (upd H a (.lst vs')) t env ds' σ := by
  have tp := I.ok.tape
  rw [ht] at tp
  obtain ⟨t1, us, t2, t3⟩ := tp
  have e2 : Same F (upd H a (.lst vs')) := fun b o q => by
    rw [upd_ne (ne_of_none q t1)]
    exact I.ok.same _ _ q
  have tp' : TapeOk K F (upd H a (.lst vs')) t ds' := by rw [ht]; exact ⟨t1, vs', upd_same, d⟩
  refine ⟨⟨e2, I.ok.len, fun j s q => ?_, I.ok.dis, tp'⟩, ⟨I.post.ext, e2, I.post.new, fun b o q k => ?_, tp'⟩, I.own⟩
  · have r := I.ok.slot j s q
    cases s with
    | no => trivial
    | d x => exact r
    | own es =>
      obtain ⟨c, us', y1, y2, y3, y4, y5⟩ := r
      have hc : c ≠ a := fun z => y3 (by rw [ht, z])
      exact ⟨c, us', y1, y2, y3, by rw [upd_ne hc]; exact y4, y5⟩
    | tp => exact r
  · rw [upd_ne (fun z => k (by rw [ht, z]))]
    exact I.post.keep _ _ q k
end
section
variable {X : Cx} {st : Stmt} {rest : List Stmt}
/-! ### small statements -/
def sNext : EvS := fun env τ => some (.nx env τ)
def sSeq (f g : EvS) : EvS := fun env τ => match f env τ with
  | some (.nx e t) => g e t
  | some o => some o
  | none => none
theorem next_ok {D : Ends} {σ : L2.St} {H : Hp} (h : tS X.K sNext D σ H) : tNext D σ H := by
  obtain ⟨F0, H0, F, t, env, τ, o, I, e, q⟩ := h
  cases e
  exact q F H σ (.refl _) I
theorem nil_ok : PSs X [] (tS X.K sNext) := weakSs pss_nil fun D σ H h => next_ok h
theorem pass_ok {pos : Pos} : PS X (.Pass pos) (tS X.K sNext) := weakS ps_pass fun D σ H h => next_ok h
theorem cons_ok {f g : EvS} (h1 : PS X st (tS X.K f)) (h2 : PSs X rest (tS X.K g)) : PSs X (st :: rest) (tS X.K (sSeq f g)) :=
  weakSs (pss_cons h1 h2) fun D σ H ⟨F0, H0, F, t, env, τ, o, I, e, q⟩ => by
    unfold sSeq at e
    split at e
    · rename_i e1 t1 h1
      refine ⟨F0, H0, F, t, env, τ, _, I, h1, fun F' H' σ' s I' => ?_⟩
      exact ⟨F0, H0, F', t, e1, t1, o, I', e, q.mono s⟩
    · rename_i o' hn h1
      cases e
      refine ⟨F0, H0, F, t, env, τ, _, I, h1, ?_⟩
      cases o with
      | nx a b => exact absurd rfl (hn a b)
      | bk a b => exact q
      | ct a b => exact q
      | rt a b => exact q
    · cases e
def sBreak : EvS := fun env τ => some (.bk env τ)
def sCont : EvS := fun env τ => some (.ct env τ)
theorem break_ok {pos : Pos} : PS X (.Break pos) (tS X.K sBreak) := weakS ps_break fun D σ H ⟨F0, H0, F, t, env, τ, o, I, e, q⟩ => by
  cases e
  exact q F H σ (.refl _) I
theorem cont_ok {pos : Pos} : PS X (.Continue pos) (tS X.K sCont) := weakS ps_continue fun D σ H ⟨F0, H0, F, t, env, τ, o, I, e, q⟩ => by
  cases e
  exact q F H σ (.refl _) I
/-! ### name = e -/
def sSet (own : Bool) (i : Nat) (f : EvF) : EvS := fun env τ => match f env τ with
  | some (w, τ1) => (match setW own i w env with
    | some env' => some (.nx env' τ1)
    | none => none)
  | none => none
theorem set_core {own : Bool} {i : Nat} {f : EvF} {D : Ends} {σ : L2.St} {H : Hp} (h : tS X.K (sSet own i f) D σ H) : tAsg (tE X.K f) (gName i) D σ H := by
  obtain ⟨F0, H0, F, t, env, τ, o, I, e, q⟩ := h
  unfold sSet at e
  split at e
  · rename_i w τ1 e1
    split at e
    · rename_i env' e2
      cases e
      refine ⟨F, t, env, τ, w, _, I.ok, e1, fun F' v H' P r => ?_⟩
      obtain ⟨F2, s2, I2⟩ := I.setW P r e2
      exact q F2 H' _ (P.ext.trans s2) I2
    · cases e
  · cases e
/-! ### return -/
def retD (env : En) : W → Option D
  | .d x => some x
  | .new ds => some (.list ds)
  | .loc i => match env[i]? with
    | some (.own ds) => some (.list ds)
    | _ => none
  | .tp => none
def sRet (f : EvF) : EvS := fun env τ => match f env τ with
  | some (w, τ1) => (match retD env w with
    | some d => some (.rt d τ1)
    | none => none)
  | none => none
theorem ret_ok {f : EvF} {e : Expr} {pos : Pos} (h : PE X e (tE X.K f)) : PS X (.Return (some e) pos) (tS X.K (sRet f)) :=
  weakS (ps_ret h) fun D σ H ⟨F0, H0, F, t, env, τ, o, I, e, q⟩ => by
    unfold sRet at e
    split at e
    · rename_i w τ1 e1
      split at e
      · rename_i d e2
        cases e
        refine ⟨F, t, env, τ, w, _, I.ok, e1, fun F' v H' P r => ?_⟩
        have I1 := I.step P
        cases w with
        | d x => cases e2; exact q F' H' v I1.post r
        | new ds =>
          cases e2
          obtain ⟨a, us, rfl, h2, h3, h4, h5, h6⟩ := r
          obtain ⟨F2, s2, I2, f2, _⟩ := I1.fz (ds := ds) h3 (I.post.bnone h4 h3) h5 (I.fresh h4)
          exact q F2 H' _ I2.post (.lst f2 (dqAll_mono s2 h6))
        | loc i =>
          change (match env[i]? with | some (.own ds) => some (PyData.list ds) | _ => none) = _ at e2
          split at e2
          · rename_i ds hd
            cases e2
            obtain ⟨a, us, F2, s1, s2, f2, d2, I2⟩ := I1.freezeLoc hd
            have : σ[i]? = some (some v) := r
            rw [s1] at this
            cases this
            exact q F2 H' _ I2.post (.lst f2 d2)
          · cases e2
        | tp => cases e2
      · cases e
    · cases e
/-! ### an expression whose value is dropped -/
def sDrop (f : EvF) : EvS := fun env τ => match f env τ with
  | some (_, τ1) => some (.nx env τ1)
  | none => none
theorem drop_ok {f : EvF} {e : Expr} {pos : Pos} (h : PE X e (tE X.K f)) (hs : swapsWith e none pos.line X.env = pure false) : PS X (.Expr e pos) (tS X.K (sDrop f)) :=
  weakS (ps_expr h hs) fun D σ H ⟨F0, H0, F, t, env, τ, o, I, e, q⟩ => by
    unfold sDrop at e
    split at e
    · rename_i w τ1 e1
      cases e
      exact ⟨F, t, env, τ, w, _, I.ok, e1, fun F' v H' P r => q F' H' σ P.ext (I.step P)⟩
    · cases e
/-! ### if -/
def sIf (c : EvF) (f g : EvS) : EvS := fun env τ => match c env τ with
  | some (.d (.bool true), τ1) => f env τ1
  | some (.d (.bool false), τ1) => g env τ1
  | _ => none
theorem if_ok {c : EvF} {f g : EvS} {e : Expr} {a b : List Stmt} {pos : Pos} (hc : PT X e (tT X.K c)) (ha : PSs X a (tS X.K f)) (hb : PSs X b (tS X.K g)) : PS X (.If e a b pos) (tS X.K (sIf c f g)) :=
  weakS (ps_if hc ha hb) fun D σ H ⟨F0, H0, F, t, env, τ, o, I, e, q⟩ => by
    unfold sIf at e
    split at e
    · rename_i τ1 e1
      refine ⟨F, t, env, τ, _, _, I.ok, e1, fun F' H' P => ?_⟩
      show ite _ _ _
      rw [if_pos rfl]
      exact ⟨F0, H0, F', t, env, τ1, o, I.step P, e, q.mono P.ext⟩
    · rename_i τ1 e1
      refine ⟨F, t, env, τ, _, _, I.ok, e1, fun F' H' P => ?_⟩
      show ite _ _ _
      rw [if_neg Bool.false_ne_true]
      exact ⟨F0, H0, F', t, env, τ1, o, I.step P, e, q.mono P.ext⟩
    · cases e
/-! ### for -/
def forGo (tg : Tg) (body : EvS) : List D → En → Tp → Option Out
  | [], env, τ => some (.nx env τ)
  | d :: r, env, τ => match bindT tg d env with
    | some env1 => (match body env1 τ with
      | some (.nx e t) => forGo tg body r e t
      | some (.ct e t) => forGo tg body r e t
      | some (.bk e t) => some (.nx e t)
      | some (.rt d t) => some (.rt d t)
      | none => none)
    | none => none
def sFor (fi : EvI) (tg : Tg) (body : EvS) : EvS := fun env τ => match fi env τ with
  | some (its, ws, τ1) => if ws.all notTp = true then forGo tg body its (freezeS env ws) τ1 else none
  | none => none
theorem for_sem {K : PySem.W.Frag} {fi : EvI} {tg : Tg} {body : EvS} {D : Ends} {σ : L2.St} {H : Hp} (h : tS K (sFor fi tg body) D σ H) : tFor (tI K fi) (tG K tg) (tS K body) D σ H := by
  obtain ⟨F0, H0, F, t, env, τ, o, I, e, q⟩ := h
  unfold sFor at e
  split at e
  · rename_i its ws τ1 e1
    split at e
    · rename_i hall
      refine ⟨F, t, env, τ, its, ws, τ1, I.ok, e1, fun F1 H1 J vs P1 r1 it => ?_⟩
      obtain ⟨F2, s2, I2, A2⟩ := src_s I (I.ok.post P1) P1 (I.step P1) (.refl _) (fun i ds h => .inl h) (fun i ds h => h) r1 hall
      have IT := it F2 F2 s2 A2
      refine ⟨fun i m σ' H' => m = its.length - i ∧ i ≤ its.length ∧ ∃ F' env' τ', SI K F0 H0 F' H' t env' τ' σ' ∧ Same F2 F' ∧ forGo tg body (its.drop i) env' τ' = some o,
        ⟨its.length, by simp, Nat.zero_le _, F2, _, τ1, I2, .refl _, by simpa using e⟩, ?_⟩
      rintro i m σ' H' ⟨rfl, hi, F', env', τ', I', s', hgo⟩
      have sH : Same F2 H' := s'.trans I'.ok.same
      by_cases hlt : i < its.length
      · refine .inr ⟨IT.go F' H' env' τ' σ' i s' sH I'.ok hlt, fun σ'' H'' => ∃ F' env' τ', SI K F0 H0 F' H'' t env' τ' σ'' ∧ Same F2 F' ∧ forGo tg body (its.drop (i + 1)) env' τ' = some o, fun σ'' H'' n => ⟨its.length - (i + 1), by omega, rfl, hlt, n⟩, fun x H'' y => ?_⟩
        obtain ⟨F3, P3, dx⟩ := IT.yld F' H' env' τ' σ' i its[i] s' sH I'.ok (by simp [hlt]) x H'' y
        rw [List.drop_eq_getElem_cons hlt] at hgo
        unfold forGo at hgo
        split at hgo
        · rename_i env1 hb
          have I3 := I'.step P3
          refine ⟨F3, t, env', τ', its[i], env1, I3.ok, dx, hb, fun σ2 S2 o2 oe2 => ?_⟩
          have I4 : SI K F0 H0 F3 H'' t env1 τ' σ2 := ⟨S2, I3.post, fun j ds a q1 q2 => by
            obtain ⟨z1, z2⟩ := oe2.own j ds q1
            exact I'.own j ds a z1 (by rw [← o2.at_ j z2]; exact q2)⟩
          have s3 : Same F2 F3 := s'.trans P3.ext
          split at hgo
          · rename_i e5 t5 h5
            exact ⟨F0, H0, F3, t, env1, τ', _, I4, h5, fun F5 H5 σ5 s5 I5 => ⟨F5, e5, t5, I5, s3.trans s5, hgo⟩⟩
          · rename_i e5 t5 h5
            exact ⟨F0, H0, F3, t, env1, τ', _, I4, h5, fun F5 H5 σ5 s5 I5 => ⟨F5, e5, t5, I5, s3.trans s5, hgo⟩⟩
          · rename_i e5 t5 h5
            cases hgo
            exact ⟨F0, H0, F3, t, env1, τ', _, I4, h5, fun F5 H5 σ5 s5 I5 => q F5 H5 σ5 ((P1.ext.trans s2).trans (s3.trans s5)) I5⟩
          · rename_i d5 t5 h5
            cases hgo
            exact ⟨F0, H0, F3, t, env1, τ', _, I4, h5, fun F5 H5 v5 P5 d5 => q F5 H5 v5 P5 d5⟩
          · cases hgo
        · cases hgo
      · have hi' : i = its.length := by omega
        subst hi'
        rw [List.drop_length] at hgo
        unfold forGo at hgo
        cases hgo
        exact .inl ⟨IT.stop F' H' env' τ' σ' s' sH I'.ok, q F' H' σ' ((P1.ext.trans s2).trans s') I'⟩
    · cases e
  · cases e
/-! ### while -/
def whM (c : EvF) (body : EvS) : Nat → En → Tp → Option Out
  | 0, _, _ => none
  | m + 1, env, τ => match c env τ with
    | some (.d (.bool true), τ1) => (match body env τ1 with
      | some (.nx e t) => whM c body m e t
      | some (.ct e t) => whM c body m e t
      | some (.bk e t) => some (.nx e t)
      | some (.rt d t) => some (.rt d t)
      | none => none)
    | some (.d (.bool false), τ1) => some (.nx env τ1)
    | _ => none
open Classical in
noncomputable def sWhile (c : EvF) (body : EvS) : EvS := fun env τ => if h : ∃ m o, whM c body m env τ = some o then some (Classical.choose (Classical.choose_spec h)) else none
theorem whM_mono {c : EvF} {body : EvS} : ∀ {m : Nat} {env : En} {τ : Tp} {o : Out}, whM c body m env τ = some o → ∀ n, whM c body (m + n) env τ = some o
  | 0, _, _, _, h, _ => by cases h
  | m + 1, env, τ, o, h, n => by
    rw [show m + 1 + n = (m + n) + 1 by omega]
    unfold whM at h ⊢
    cases hc : c env τ with
    | none => rw [hc] at h; exact h
    | some r =>
      obtain ⟨w, τ1⟩ := r
      rw [hc] at h
      cases w with
      | d x =>
        cases x with
        | bool b =>
          cases b with
          | true =>
            dsimp only at h ⊢
            cases hb : body env τ1 with
            | none => rw [hb] at h; exact h
            | some o1 =>
              rw [hb] at h
              cases o1 with
              | nx e t => exact whM_mono h n
              | ct e t => exact whM_mono h n
              | bk e t => exact h
              | rt e t => exact h
          | false => exact h
        | _ => exact h
      | _ => exact h
theorem sWhile_eq {c : EvF} {body : EvS} {m : Nat} {env : En} {τ : Tp} {o : Out} (h : whM c body m env τ = some o) : sWhile c body env τ = some o := by
  have hx : ∃ m o, whM c body m env τ = some o := ⟨m, o, h⟩
  unfold sWhile
  rw [dif_pos hx]
  have h2 := Classical.choose_spec (Classical.choose_spec hx)
  have h3 := whM_mono h (Classical.choose hx)
  have h4 := whM_mono h2 m
  rw [Nat.add_comm] at h4
  rw [h4] at h3
  exact h3
theorem sWhile_ex {c : EvF} {body : EvS} {env : En} {τ : Tp} {o : Out} (h : sWhile c body env τ = some o) : ∃ m, whM c body m env τ = some o := by
  unfold sWhile at h
  split at h
  · rename_i hx
    have h2 := Classical.choose_spec (Classical.choose_spec hx)
    cases h
    exact ⟨_, h2⟩
  · cases h
theorem while_sem {K : PySem.W.Frag} {c : EvF} {body : EvS} {D : Ends} {σ : L2.St} {H : Hp} (h : tS K (sWhile c body) D σ H) : tWhile (tT K c) (tS K body) D σ H := by
  obtain ⟨F0, H0, F, t, env, τ, o, I, e, q⟩ := h
  obtain ⟨m0, e⟩ := sWhile_ex e
  refine ⟨fun m σ' H' => ∃ F' env' τ', SI K F0 H0 F' H' t env' τ' σ' ∧ Same F F' ∧ whM c body m env' τ' = some o, ⟨m0, F, env, τ, I, .refl _, e⟩, ?_⟩
  rintro m σ' H' ⟨F', env', τ', I', s', hgo⟩
  cases m with
  | zero => cases hgo
  | succ m =>
    unfold whM at hgo
    split at hgo
    · rename_i τ1 h1
      refine ⟨F', t, env', τ', _, _, I'.ok, h1, fun F1 H1 P1 => ?_⟩
      show ite _ _ _
      rw [if_pos rfl]
      refine ⟨fun σ' H' => ∃ F' env' τ', SI K F0 H0 F' H' t env' τ' σ' ∧ Same F F' ∧ whM c body m env' τ' = some o, fun σ'' H'' n => ⟨m, Nat.lt_succ_self _, n⟩, ?_⟩
      have I1 := I'.step P1
      have s1 := s'.trans P1.ext
      split at hgo
      · rename_i e5 t5 h5
        exact ⟨F0, H0, F1, t, env', τ1, _, I1, h5, fun F5 H5 σ5 s5 I5 => ⟨F5, e5, t5, I5, s1.trans s5, hgo⟩⟩
      · rename_i e5 t5 h5
        exact ⟨F0, H0, F1, t, env', τ1, _, I1, h5, fun F5 H5 σ5 s5 I5 => ⟨F5, e5, t5, I5, s1.trans s5, hgo⟩⟩
      · rename_i e5 t5 h5
        cases hgo
        exact ⟨F0, H0, F1, t, env', τ1, _, I1, h5, fun F5 H5 σ5 s5 I5 => q F5 H5 σ5 (s1.trans s5) I5⟩
      · rename_i d5 t5 h5
        cases hgo
        exact ⟨F0, H0, F1, t, env', τ1, _, I1, h5, fun F5 H5 v5 P5 d5 => q F5 H5 v5 P5 d5⟩
      · cases hgo
    · rename_i τ1 h1
      cases hgo
      refine ⟨F', t, env', τ', _, _, I'.ok, h1, fun F1 H1 P1 => ?_⟩
      show ite _ _ _
      rw [if_neg Bool.false_ne_true]
      exact q F1 H1 σ' (s'.trans P1.ext) (I'.step P1)
    · cases hgo
end

open PySem PySem.Spec PyProof.Rows L2
section
variable {K : PySem.W.Frag} {F0 H0 F H F' H' Hb : Hp} {t : Option Addr} {env env' : En} {τ τ' : Tp} {σ : L2.St}
/-- a value given away, between statements -/
theorem SI.give {v : V} {w : W} {d : D} (I : SI K F0 H0 F H t env τ σ) (P : Post K t τ' F H F' H') (r : Rw K F' H' H t σ v w) (e : toD w = some d) : ∃ F2, Post K t τ' F H F2 H' ∧ Same F' F2 ∧ SI K F0 H0 F2 H' t env τ' σ ∧ Dq K F2 v d := by
  obtain ⟨F2, P2, s2, S2, d2⟩ := freeze I.ok (I.ok.post P) P r e
  exact ⟨F2, P2, s2, I.step P2, d2⟩
end
section
variable {X : Cx}
/-! ### a, b = a value -/
def sTg (tg : Tg) (f : EvF) : EvS := fun env τ => match f env τ with
  | some (w, τ1) => (match toD w with
    | some d => (match bindT tg d env with
      | some env' => some (.nx env' τ1)
      | none => none)
    | none => none)
  | none => none
theorem tg_core {tg : Tg} {f : EvF} {D : Ends} {σ : L2.St} {H : Hp} (h : tS X.K (sTg tg f) D σ H) : tAsg (tE X.K f) (tG X.K tg) D σ H := by
  obtain ⟨F0, H0, F, t, env, τ, o, I, e, q⟩ := h
  unfold sTg at e
  split at e
  · rename_i w τ1 e1
    split at e
    · rename_i d e2
      split at e
      · rename_i env' e3
        cases e
        refine ⟨F, t, env, τ, w, _, I.ok, e1, fun F' v H' P r => ?_⟩
        obtain ⟨F2, P2, s2, I2, d2⟩ := I.give P r e2
        refine ⟨F2, t, env, τ1, d, env', I2.ok, d2, e3, fun σ2 S2 o2 oe2 => ?_⟩
        exact q F2 H' σ2 P2.ext ⟨S2, I2.post, fun j ds a q1 q2 => by
            obtain ⟨z1, z2⟩ := oe2.own j ds q1
            exact I2.own j ds a z1 (by rw [← o2.at_ j z2]; exact q2)⟩
      · cases e
    · cases e
  · cases e
/-! ### x[i] = e -/
def setSub (i : Nat) (d : D) (k : Int) (env : En) (τ : Tp) : Option Out := match env[i]? with
  | some (.own ds) => (match ixN ds.length k with
    | some j => some (.nx (env.set i (.own (ds.set j d))) τ)
    | none => none)
  | some .tp => (match ixN τ.length k with
    | some j => some (.nx env (τ.set j d))
    | none => none)
  | _ => none
def sSub (i : Nat) (fi f : EvF) : EvS := fun env τ => match f env τ with
  | some (w, τ1) => (match toD w with
    | some d => (match fi env τ1 with
      | some (.d (.int k), τ2) => setSub i d k env τ2
      | _ => none)
    | none => none)
  | none => none
theorem sub_core {i : Nat} {fi f : EvF} {D : Ends} {σ : L2.St} {H : Hp} (h : tS X.K (sSub i fi f) D σ H) : tAsg (tE X.K f) (L2.gSub (tE X.K (eVar i)) (tE X.K fi) rSetL) D σ H := by
  obtain ⟨F0, H0, F, t, env, τ, o, I, e, q⟩ := h
  unfold sSub at e
  split at e
  · rename_i w τ1 e1
    split at e
    · rename_i d e2
      split at e
      · rename_i k τ2 e3
        refine ⟨F, t, env, τ, w, _, I.ok, e1, fun F' v H' P r => ?_⟩
        obtain ⟨F2, P2, s2, I2, d2⟩ := I.give P r e2
        unfold setSub at e
        split at e
        · rename_i ds hs
          split at e
          · rename_i j hj
            cases e
            refine ⟨F2, t, env, τ1, .loc i, τ1, I2.ok, by unfold eVar; rw [hs], fun F3 v3 H3 P3 r3 => ?_⟩
            have I3 := I2.step P3
            refine ⟨F3, t, env, τ1, _, τ2, I3.ok, e3, fun F4 v4 H4 P4 r4 => ?_⟩
            have I4 := I3.step P4
            cases r4
            obtain ⟨a, us, z1, z2, z3, z4, z5⟩ := I4.ok.slot i _ hs
            have : σ[i]? = some (some v3) := r3
            rw [z1] at this
            cases this
            refine ⟨a, us, k, j, rfl, rfl, z4, by rw [dqAll_len z5]; exact hj, ?_⟩
            have I5 := I4.updOwn hs z1 (dqAll_set j z5 (dq_mono (P3.ext.trans P4.ext) d2))
            exact q F4 _ σ ((P2.ext.trans P3.ext).trans P4.ext) I5
          · cases e
        · rename_i hs
          split at e
          · rename_i j hj
            cases e
            refine ⟨F2, t, env, τ1, .tp, τ1, I2.ok, by unfold eVar; rw [hs], fun F3 v3 H3 P3 r3 => ?_⟩
            have I3 := I2.step P3
            refine ⟨F3, t, env, τ1, _, τ2, I3.ok, e3, fun F4 v4 H4 P4 r4 => ?_⟩
            have I4 := I3.step P4
            cases r4
            obtain ⟨a, ht, rfl⟩ := r3
            have tp := I4.ok.tape
            rw [ht] at tp
            obtain ⟨t1, us, t2, t3⟩ := tp
            refine ⟨a, us, k, j, rfl, rfl, t2, by rw [dqAll_len t3]; exact hj, ?_⟩
            have I5 := I4.updTape ht (dqAll_set j t3 (dq_mono (P3.ext.trans P4.ext) d2))
            exact q F4 _ σ ((P2.ext.trans P3.ext).trans P4.ext) I5
          · cases e
        · cases e
      · cases e
    · cases e
  · cases e
/-! ### x.append(e), x.insert(k, e), x.pop(k), y = x.pop() -/
def sApp (i : Nat) (f : EvA) : EvS := fun env τ => match env[i]? with
  | some (.own ds) => (match f env τ with
    | some ([.d d], τ1) => if ds.length < 1000000 then some (.nx (env.set i (.own (ds ++ [d]))) τ1) else none
    | _ => none)
  | _ => none
def sIns (i : Nat) (f : EvA) : EvS := fun env τ => match env[i]? with
  | some (.own ds) => (match f env τ with
    | some ([.d (.int k), .d d], τ1) => if ds.length < 1000000 ∧ 0 ≤ k ∧ k < 1000000 then some (.nx (env.set i (.own (ds.take k.toNat ++ [d] ++ ds.drop k.toNat))) τ1) else none
    | _ => none)
  | _ => none
def sPopAt (i : Nat) (f : EvA) : EvS := fun env τ => match env[i]? with
  | some (.own ds) => (match f env τ with
    | some ([.d (.int k)], τ1) => if 0 ≤ k ∧ k < ds.length ∧ k < 1000000 then some (.nx (env.set i (.own (ds.eraseIdx k.toNat))) τ1) else none
    | _ => none)
  | _ => none
def sPopSet (y i : Nat) : EvS := fun env τ => match env[i]? with
  | some (.own ds) => (match ds[ds.length - 1]? with
    | some d => if y < env.length then some (.nx ((env.set i (.own ds.dropLast)).set y (.d d)) τ) else none
    | none => none)
  | _ => none
theorem dqAll_ins {K : PySem.W.Frag} {F : Hp} {vs : List V} {ds : List D} {k : Nat} {v : V} {d : D} (h : DqAll K F vs ds) (g : Dq K F v d) : DqAll K F (vs.take k ++ [v] ++ vs.drop k) (ds.take k ++ [d] ++ ds.drop k) :=
  dqAll_append (dqAll_snoc (dqAll_take k h) g) (dqAll_drop k h)
theorem dqAll_dropLast {K : PySem.W.Frag} {F : Hp} {vs : List V} {ds : List D} (h : DqAll K F vs ds) : DqAll K F vs.dropLast ds.dropLast := by
  rw [List.dropLast_eq_take, List.dropLast_eq_take, dqAll_len h]
  exact dqAll_take _ h
theorem own_loc {K : PySem.W.Frag} {F H Hb : Hp} {t : Option Addr} {env : En} {τ : Tp} {σ : L2.St} {v : V} {i : Nat} {ds : List D} (S : Sok K F H t env τ σ) (r : Rw K F H Hb t σ v (.loc i)) (hs : env[i]? = some (Sl.own ds)) :
    ∃ a vs, v = .ref a ∧ σ[i]? = some (some (.ref a)) ∧ H a = some (.lst vs) ∧ DqAll K F vs ds := by
  obtain ⟨a, us, z1, z2, z3, z4, z5⟩ := S.slot i _ hs
  have : σ[i]? = some (some v) := r
  rw [z1] at this
  cases this
  exact ⟨a, us, rfl, z1, z4, z5⟩
theorem app_core {i : Nat} {f : EvA} {D : Ends} {σ : L2.St} {H : Hp} (h : tS X.K (sApp i f) D σ H) : tDrop (tBM X.K "list" rAppend (tE X.K (eVar i)) (tA X.K f)) D σ H := by
  obtain ⟨F0, H0, F, t, env, τ, o, I, e, q⟩ := h
  unfold sApp at e
  split at e
  · rename_i ds hs
    split at e
    · rename_i d τ1 e1
      split at e
      · rename_i hz
        cases e
        refine ⟨F, t, env, τ, .loc i, τ, I.ok, by unfold eVar; rw [hs], fun F1 v1 H1 P1 r1 => ?_⟩
        have I1 := I.step P1
        obtain ⟨a, us, rfl, z1, z4, z5⟩ := own_loc I1.ok r1 hs
        refine ⟨.inl ⟨rfl, us, SqL.of z4⟩, F1, t, env, τ, _, τ1, I1.ok, e1, fun F2 vs2 H2 P2 r2 => ?_⟩
        have I2 := I1.step P2
        cases r2 with
        | cons r r0 =>
          cases r0
          obtain ⟨a', us2, e2, y1, y4, y5⟩ := own_loc I2.ok (r1.post P2) hs
          cases e2
          refine ⟨a, us2, _, rfl, rfl, y4, by rw [dqAll_len y5]; have := line_big; omega, ?_⟩
          exact q F2 _ σ (P1.ext.trans P2.ext) (I2.updOwn hs y1 (dqAll_snoc y5 r))
      · cases e
    · cases e
  · cases e
theorem ins_core {i : Nat} {f : EvA} {D : Ends} {σ : L2.St} {H : Hp} (h : tS X.K (sIns i f) D σ H) : tDrop (tBM X.K "list" (fun x vs H Q => ∃ (l : Addr) (xs : List V) (i : Int) (y : V), x = .ref l ∧ vs = [.int i, y] ∧ H l = some (.lst xs) ∧ xs.length < sizeLine ∧ 0 ≤ i ∧ i < 2 ^ 63 ∧
    Q .non (upd H l (.lst (xs.take i.toNat ++ [y] ++ xs.drop i.toNat)))) (tE X.K (eVar i)) (tA X.K f)) D σ H := by
  obtain ⟨F0, H0, F, t, env, τ, o, I, e, q⟩ := h
  unfold sIns at e
  split at e
  · rename_i ds hs
    split at e
    · rename_i k d τ1 e1
      split at e
      · rename_i hz
        cases e
        refine ⟨F, t, env, τ, .loc i, τ, I.ok, by unfold eVar; rw [hs], fun F1 v1 H1 P1 r1 => ?_⟩
        have I1 := I.step P1
        obtain ⟨a, us, rfl, z1, z4, z5⟩ := own_loc I1.ok r1 hs
        refine ⟨.inl ⟨rfl, us, SqL.of z4⟩, F1, t, env, τ, _, τ1, I1.ok, e1, fun F2 vs2 H2 P2 r2 => ?_⟩
        have I2 := I1.step P2
        cases r2 with
        | cons r r0 =>
          cases r0 with
          | cons r' r00 =>
            cases r00
            cases r
            obtain ⟨a', us2, e2, y1, y4, y5⟩ := own_loc I2.ok (r1.post P2) hs
            cases e2
            refine ⟨a, us2, k, _, rfl, rfl, y4, by rw [dqAll_len y5]; have := line_big; omega, hz.2.1, by omega, ?_⟩
            exact q F2 _ σ (P1.ext.trans P2.ext) (I2.updOwn hs y1 (dqAll_ins y5 r'))
      · cases e
    · cases e
  · cases e
theorem popAt_core {i : Nat} {f : EvA} {D : Ends} {σ : L2.St} {H : Hp} (h : tS X.K (sPopAt i f) D σ H) : tDrop (tBM X.K "list" rPopAt (tE X.K (eVar i)) (tA X.K f)) D σ H := by
  obtain ⟨F0, H0, F, t, env, τ, o, I, e, q⟩ := h
  unfold sPopAt at e
  split at e
  · rename_i ds hs
    split at e
    · rename_i k τ1 e1
      split at e
      · rename_i hz
        cases e
        refine ⟨F, t, env, τ, .loc i, τ, I.ok, by unfold eVar; rw [hs], fun F1 v1 H1 P1 r1 => ?_⟩
        have I1 := I.step P1
        obtain ⟨a, us, rfl, z1, z4, z5⟩ := own_loc I1.ok r1 hs
        refine ⟨.inl ⟨rfl, us, SqL.of z4⟩, F1, t, env, τ, _, τ1, I1.ok, e1, fun F2 vs2 H2 P2 r2 => ?_⟩
        have I2 := I1.step P2
        cases r2 with
        | cons r r0 =>
          cases r0
          cases r
          obtain ⟨a', us2, e2, y1, y4, y5⟩ := own_loc I2.ok (r1.post P2) hs
          cases e2
          have hl := dqAll_len y5
          have hk : k.toNat < us2.length := by omega
          refine ⟨a, us2, k, k.toNat, us2[k.toNat], rfl, rfl, y4, by omega, by omega, ?_, by simp [hk], ?_⟩
          · exact (ixN_seq (by unfold ixN; rw [if_pos hz.1, if_pos (by omega)])).1
          · exact q F2 _ σ (P1.ext.trans P2.ext) (I2.updOwn hs y1 (dqAll_erase _ y5))
      · cases e
    · cases e
  · cases e
theorem popSet_core {y i : Nat} {D : Ends} {σ : L2.St} {H : Hp} (h : tS X.K (sPopSet y i) D σ H) : tAsg (tBM0 X.K "list" rPop (tE X.K (eVar i))) (gName y) D σ H := by
  obtain ⟨F0, H0, F, t, env, τ, o, I, e, q⟩ := h
  unfold sPopSet at e
  split at e
  · rename_i ds hs
    split at e
    · rename_i d hd
      split at e
      · rename_i hy
        cases e
        refine ⟨F, t, env, τ, .loc i, τ, I.ok, by unfold eVar; rw [hs], fun F1 v1 H1 P1 r1 => ?_⟩
        have I1 := I.step P1
        obtain ⟨a, us, rfl, z1, z4, z5⟩ := own_loc I1.ok r1 hs
        obtain ⟨v, hv, dv⟩ := dqAll_at z5 hd
        refine ⟨.inl ⟨rfl, us, SqL.of z4⟩, a, us, v, rfl, rfl, z4, by rw [dqAll_len z5]; exact hv, ?_⟩
        have I2 := I1.updOwn hs z1 (dqAll_dropLast z5)
        exact q F1 _ _ P1.ext (I2.setD (by rw [List.length_set]; exact hy) dv)
      · cases e
    · cases e
  · cases e
end

open PySem PySem.Spec PyProof.Rows L2
/-! ### values for several names at once: lists just made stay lists just made -/
inductive RwD (K : PySem.W.Frag) (F H Hb : Hp) (t : Option Addr) (σ : L2.St) : List V → List W → Prop
  | nil : RwD K F H Hb t σ [] []
  | cons {v : V} {vs : List V} {w : W} {ws : List W} : Rw K F H Hb t σ v w → (∀ ds ds' u w', w = .new ds → (u, w') ∈ vs.zip ws → w' = W.new ds' → u ≠ v) → RwD K F H Hb t σ vs ws → RwD K F H Hb t σ (v :: vs) (w :: ws)
section
variable {K : PySem.W.Frag} {F0 H0 F H F' H' Hb : Hp} {t : Option Addr} {env env' : En} {τ τ' : Tp} {σ σ' : L2.St}
theorem RwD.mem {vs : List V} {ws : List W} (r : RwD K F H Hb t σ vs ws) : ∀ {u w}, (u, w) ∈ vs.zip ws → Rw K F H Hb t σ u w := by
  induction r with
  | nil => intro u w h; simp at h
  | cons a _ b ih =>
    intro u w h
    rw [List.zip_cons_cons, List.mem_cons] at h
    rcases h with q | q
    · cases q; exact a
    · exact ih q
theorem RwD.len {vs : List V} {ws : List W} (r : RwD K F H Hb t σ vs ws) : vs.length = ws.length := by
  induction r with
  | nil => rfl
  | cons a _ b ih => simp [ih]
theorem RwD.base {F2 H2 : Hp} {vs : List V} {ws : List W} (r : RwD K F' H' H t σ vs ws) (P : Post K t τ' F2 H2 F H) : RwD K F' H' H2 t σ vs ws := by
  induction r with
  | nil => exact .nil
  | cons a d b ih => exact .cons (a.base P) d ih
def tAd (K : PySem.W.Frag) (f : EvA) : TA := fun σ H Q => ∃ F t env τ ws τ', Sok K F H t env τ σ ∧ f env τ = some (ws, τ') ∧ ∀ F' vs H', Post K t τ' F H F' H' → RwD K F' H' H t σ vs ws → Q vs H'
def dCons (a : EvF) (r : EvA) : EvA := fun env τ => match a env τ with
  | some (w, τ1) => (match r env τ1 with
    | some (ws, τ2) => some (w :: ws, τ2)
    | none => none)
  | none => none
theorem dNil_ok {X : Cx} : PA X [] (tAd X.K aNil) := weakA pa_nil fun σ H Q ⟨F, t, env, τ, ws, τ', S, e, q⟩ => by
  cases e
  exact q F [] H (.refl S) .nil
theorem dCons_ok {X : Cx} {a : EvF} {r : EvA} {ea : Expr} {es : List Expr} (ha : PE X ea (tE X.K a)) (hr : PA X es (tAd X.K r)) (hs : nst ea = true) : PA X (ea :: es) (tAd X.K (dCons a r)) :=
  weakA (pa_cons ha hr (starEach_ns hs)) fun σ H Q ⟨F, t, env, τ, ws, τ', S, e, q⟩ => by
    unfold dCons at e
    split at e
    · rename_i w τ1 e1
      split at e
      · rename_i ws' τ2 e2
        cases e
        refine ⟨F, t, env, τ, w, τ1, S, e1, fun F1 v1 H1 P1 r1 => ?_⟩
        refine ⟨F1, t, env, τ1, ws', _, S.post P1, e2, fun F2 vs H2 P2 r2 => q F2 _ H2 (P1.trans P2) (.cons (r1.post P2) (fun ds ds' u w' hw hm hw' => ?_) (r2.base P1))⟩
        subst hw hw'
        obtain ⟨a1, us1, rfl, _, _, _, z1, _⟩ := r1
        obtain ⟨a2, us2, rfl, _, _, z2, _, _⟩ := r2.mem hm
        intro z
        cases z
        rw [z1] at z2
        cases z2
      · cases e
    · cases e
/-! ### the names are set -/
def setWs (own : Nat → Bool) : List Nat → List W → En → Option En
  | [], [], env => some env
  | i :: is, w :: ws, env => match setW (own i) i w env with
    | some env' => setWs own is ws env'
    | none => none
  | _, _, _ => none
def setVs : List Nat → List V → L2.St → L2.St
  | i :: is, v :: vs, σ => setVs is vs (σ.set i (some v))
  | _, _, σ => σ
theorem setWs_len {own : Nat → Bool} : ∀ {is : List Nat} {ws : List W} {env env' : En}, setWs own is ws env = some env' → is.length = ws.length
  | [], [], _, _, _ => rfl
  | [], _ :: _, _, _, e => by cases e
  | _ :: _, [], _, _, e => by cases e
  | i :: is, w :: ws, env, env', e => by
    unfold setWs at e
    split at e
    · rw [List.length_cons, List.length_cons, setWs_len e]
    · cases e
theorem SI.setWs {own : Nat → Bool} {σ0 : L2.St} (h0 : ∀ a, t ≠ some a → Hb a = none → H0 a = none) : ∀ {is : List Nat} {vs : List V} {ws : List W} {F : Hp} {env : En} {σ : L2.St}, SI K F0 H0 F H t env τ σ → RwD K F H Hb t σ0 vs ws →
    (∀ (j : Nat) es b, env[j]? = some (Sl.own es) → σ[j]? = some (some (V.ref b)) → ∀ u ds, (u, W.new ds) ∈ vs.zip ws → u ≠ .ref b) → Ev.setWs own is ws env = some env' → ∃ F2, Same F F2 ∧ SI K F0 H0 F2 H t env' τ (setVs is vs σ)
  | [], vs, ws, F, env, σ, I, r, hd, e => by
    cases r with
    | nil => cases e; exact ⟨F, .refl _, I⟩
    | cons => cases e
  | i :: is, vs, ws, F, env, σ, I, r, hd, e => by
    cases r with
    | nil => cases e
    | @cons v vs w ws r1 d1 r0 =>
      unfold Ev.setWs at e
      split at e
      · rename_i env1 e1
        unfold Ev.setW at e1
        split at e1
        · rename_i hi
          cases w with
          | d x =>
            cases e1
            refine SI.setWs (is := is) (vs := vs) (σ := σ.set i (some v)) h0 (I.setD hi r1) r0 (fun j es b hj hb u ds hu => ?_) e
            have n1 : i ≠ j := fun z => by subst z; rw [List.getElem?_set_self hi] at hj; cases hj
            rw [List.getElem?_set_ne n1] at hj hb
            exact hd j es b hj hb u ds (by rw [List.zip_cons_cons]; exact List.mem_cons_of_mem _ hu)
          | new ds =>
            obtain ⟨a, us, rfl, h2, h3, h4, h5, h6⟩ := r1
            have hda : ∀ (j : Nat) (es : List D), env[j]? = some (Sl.own es) → σ[j]? ≠ some (some (V.ref a)) := fun j es hj z => hd j es a hj z (.ref a) ds (by rw [List.zip_cons_cons]; exact List.mem_cons_self) rfl
            dsimp only at e1
            cases ho : own i with
            | true =>
              rw [ho] at e1
              cases e1
              refine SI.setWs (is := is) (vs := vs) (σ := σ.set i (some (.ref a))) h0 (I.setOwn hi h2 h3 (h0 a h3 h4) h5 h6 fun j es hj _ => hda j es hj) r0 (fun j es b hj hb u ds' hu => ?_) e
              by_cases n1 : i = j
              · subst n1
                rw [List.getElem?_set_self (by rw [← I.ok.len]; exact hi)] at hb
                cases hb
                exact d1 ds ds' u _ rfl hu rfl
              · rw [List.getElem?_set_ne n1] at hj hb
                exact hd j es b hj hb u ds' (by rw [List.zip_cons_cons]; exact List.mem_cons_of_mem _ hu)
            | false =>
              rw [ho] at e1
              cases e1
              obtain ⟨F2, e2, I2, f2, k2⟩ := I.fz (ds := ds) h3 (h0 a h3 h4) h5 hda
              have r2 : RwD K F2 H Hb t σ0 vs ws := by
                clear e hd
                induction r0 with
                | nil => exact .nil
                | @cons v' vs' w' ws' q1 q2 q3 ih =>
                  refine .cons ?_ q2 (ih (fun ds1 ds' u w'' hw hm hw' => d1 ds1 ds' u w'' hw (by rw [List.zip_cons_cons]; exact List.mem_cons_of_mem _ hm) hw'))
                  cases w' with
                  | d x => exact dq_mono e2 q1
                  | loc j => exact q1
                  | tp => exact q1
                  | new es =>
                    obtain ⟨a', us', rfl, y2, y3, y4, y5, y6⟩ := q1
                    have hne : a' ≠ a := fun z => d1 ds es (.ref a') _ rfl (by rw [List.zip_cons_cons]; exact List.mem_cons_self) rfl (by rw [z])
                    exact ⟨a', us', rfl, by rw [k2 _ hne]; exact y2, y3, y4, y5, dqAll_mono e2 y6⟩
              obtain ⟨F3, e3, I3⟩ := SI.setWs (is := is) (vs := vs) (σ := σ.set i (some (.ref a))) h0 (I2.setD hi (.lst f2 (dqAll_mono e2 h6))) r2 (fun j es b hj hb u ds' hu => by
                have n1 : i ≠ j := fun z => by subst z; rw [List.getElem?_set_self hi] at hj; cases hj
                rw [List.getElem?_set_ne n1] at hj hb
                exact hd j es b hj hb u ds' (by rw [List.zip_cons_cons]; exact List.mem_cons_of_mem _ hu)) e
              exact ⟨F3, e2.trans e3, I3⟩
          | loc j => cases e1
          | tp => cases e1
        · cases e1
      · cases e
def sPar (own : Nat → Bool) (is : List Nat) (f : EvA) : EvS := fun env τ => match f env τ with
  | some (ws, τ1) => (match setWs own is ws env with
    | some env' => some (.nx env' τ1)
    | none => none)
  | none => none
theorem par_sem {own : Nat → Bool} {is : List Nat} {f : EvA} {E : Ends} {σ : L2.St} {H : Hp} (h : tS K (sPar own is f) E σ H) : tAd K f σ H fun vs H' => is.length = vs.length ∧ vs.length = vs.length ∧ ∀ H2, (∀ b o, H' b = some o → H2 b = some o) → (∀ b, H' b = none → H2 b = none ∨ True) → (H2 = H' ∨ ∃ p o, H' p = none ∧ H2 = upd H' p o) → E.nx (setVs is vs σ) H2 := by
  obtain ⟨F0, H0, F, t, env, τ, o, I, e, q⟩ := h
  unfold sPar at e
  split at e
  · rename_i ws τ1 e1
    split at e
    · rename_i env' e2
      cases e
      refine ⟨F, t, env, τ, ws, τ1, I.ok, e1, fun F' vs H' P r => ⟨by rw [r.len]; exact setWs_len e2, rfl, fun H2 h1 _ h2 => ?_⟩⟩
      have I1 := I.step P
      have hh : ∀ a, t ≠ some a → H a = none → H0 a = none := fun a k z => I.post.bnone z k
      have hd : ∀ (j : Nat) es b, env[j]? = some (Sl.own es) → σ[j]? = some (some (V.ref b)) → ∀ u ds, (u, W.new ds) ∈ vs.zip ws → u ≠ .ref b := fun j es b hj hb u ds hu z => by
        obtain ⟨a, us, z1, _, _, z4, _⟩ := r.mem hu
        rw [z1] at z
        cases z
        exact I.fresh z4 j es hj hb
      rcases h2 with h2 | ⟨p, ob, hp, h2⟩
      · subst h2
        obtain ⟨F2, s2, I2⟩ := I1.setWs hh r hd e2
        exact q F2 H2 _ (P.ext.trans s2) I2
      · have PL := I1.ok.laid (o := ob) hp
        have I1' := I1.step PL
        rw [← h2] at I1'
        have r' : RwD K F' H2 H t σ vs ws := by
          clear hd e2 e1
          induction r with
          | nil => exact .nil
          | @cons v vs w ws a d b ih =>
            refine .cons ?_ d ih
            cases w with
            | d x => exact a
            | loc j => exact a
            | tp => exact a
            | new es =>
              obtain ⟨a', us', rfl, y2, y3, y4, y5, y6⟩ := a
              exact ⟨a', us', rfl, y2, y3, y4, h1 _ _ y5, y6⟩
        obtain ⟨F2, s2, I2⟩ := I1'.setWs hh r' hd e2
        exact q F2 H2 _ (P.ext.trans s2) I2
    · cases e
  · cases e
end
section
variable {X : Cx}
def gNames : List Nat → TGs
  | [] => gNil
  | i :: is => gCons (gName i) (gNames is)
theorem gNames_of : ∀ {is : List Nat} {vs : List V} {σ : L2.St} {H : Hp} {Q : L2.St → Hp → Prop}, is.length = vs.length → Q (setVs is vs σ) H → gNames is vs σ H Q
  | [], [], _, _, _, _, q => ⟨rfl, q⟩
  | [], _ :: _, _, _, _, h, _ => by cases h
  | _ :: _, [], _, _, _, h, _ => by cases h
  | i :: is, v :: vs, σ, H, Q, h, q => ⟨v, vs, rfl, gNames_of (is := is) (by simpa using h) q⟩
theorem par2_core {own : Nat → Bool} {i j : Nat} {f : EvA} {E : Ends} {σ : L2.St} {H : Hp} (h : tS X.K (sPar own [i, j] f) E σ H) : tPar i j (tAd X.K f) E σ H := by
  obtain ⟨F, t, env, τ, ws, τ', S, e, q⟩ := par_sem h
  refine ⟨F, t, env, τ, ws, τ', S, e, fun F' vs H' P r => ?_⟩
  obtain ⟨h1, _, h2⟩ := q F' vs H' P r
  match vs, h1 with
  | [v, w], _ => exact ⟨v, w, rfl, h2 H' (fun _ _ e => e) (fun _ _ => .inr trivial) (.inl rfl)⟩
theorem par3_core {own : Nat → Bool} {i j l : Nat} {f : EvA} {E : Ends} {σ : L2.St} {H : Hp} (h : tS X.K (sPar own [i, j, l] f) E σ H) : tPar3 i j l (tAd X.K f) E σ H := by
  obtain ⟨F, t, env, τ, ws, τ', S, e, q⟩ := par_sem h
  refine ⟨F, t, env, τ, ws, τ', S, e, fun F' vs H' P r => ?_⟩
  obtain ⟨h1, _, h2⟩ := q F' vs H' P r
  match vs, h1 with
  | [u, v, w], _ => exact ⟨u, v, w, rfl, h2 H' (fun _ _ e => e) (fun _ _ => .inr trivial) (.inl rfl)⟩
theorem parT_core {own : Nat → Bool} {is : List Nat} {f : EvA} {E : Ends} {σ : L2.St} {H : Hp} (hl : is.length ≤ sizeLine) (h : tS X.K (sPar own is f) E σ H) : tAsg (tTup (tAd X.K f)) (gTup X.K is.length (gNames is)) E σ H := by
  obtain ⟨F, t, env, τ, ws, τ', S, e, q⟩ := par_sem h
  refine ⟨F, t, env, τ, ws, τ', S, e, fun F' vs H' P r => ?_⟩
  obtain ⟨h1, _, h2⟩ := q F' vs H' P r
  refine ⟨by rw [← h1]; exact hl, fun p hp => ⟨p, vs, rfl, SqT.of upd_same, h1.symm, gNames_of h1 (h2 _ (fun b o e => ?_) (fun _ _ => .inr trivial) (.inr ⟨p, _, hp, rfl⟩))⟩⟩
  rw [upd_ne (ne_of_none e hp)]
  exact e
end

open PySem PySem.Spec PyProof.Rows L2
open PySem.W (minD maxD)
/-! # the evaluator over the program's own text -/
structure FnS where
  n : Nat
  sem : Sem1
structure Ct where
  N : List Str
  sc : Scope
  fnc : Str → Bool
  fns : List (Str × FnS)
  gl : List (Str × D)
def fail : EvF := fun _ _ => none
def ixOf : List Str → Str → Option Nat
  | [], _ => none
  | y :: r, x => if y == x then some 0 else match ixOf r x with
    | some i => some (i + 1)
    | none => none
theorem ixOf_ok : ∀ {N : List Str} {x : Str} {i : Nat}, ixOf N x = some i → N[i]? = some x
  | [], _, _, h => by cases h
  | y :: r, x, i, h => by
    unfold ixOf at h
    split at h
    · rename_i e
      cases h
      rw [eq_of_beq e]
      rfl
    · split at h
      · rename_i j e
        cases h
        simpa using ixOf_ok e
      · cases h
def dbg (x : Str) : Bool := x == ("__debug__" : Str) || x == ("__classdict__" : Str) || x == ("__name__" : Str)
def visB (c : Ct) (x : Str) : Bool := match c.sc.names.lookup x with
  | some .local => true
  | some .cell => true
  | some .free => true
  | _ => false
def slot (c : Ct) (x : Str) : Option Nat := if (visB c x && !dbg x) = true then ixOf c.N x else none
def slotT (c : Ct) (x : Str) : Option Nat := match c.sc.names.lookup x with
  | some .local => ixOf c.N x
  | some .cell => if c.fnc x = true then ixOf c.N x else none
  | _ => none
def isGl (c : Ct) (x : Str) : Bool := (match c.sc.names.lookup x with
  | some .globalImplicit => true
  | _ => false) && !dbg x
def conD : Const → Option D
  | .none => some .none
  | .bool b => some (.bool b)
  | .int i => some (.int i)
  | .str x => some (.str x)
  | _ => none
def gBin : Operator → Option G2
  | .Add => some gAdd
  | .Sub => some gSub
  | .Mult => some gMul
  | .FloorDiv => some (gI dDiv)
  | .Mod => some (gI dMod)
  | .Pow => some (gI dPow)
  | _ => none
def gCmp : CmpOp → Option G2
  | .Eq => some (gEqD false)
  | .NotEq => some (gEqD true)
  | .Lt => some gLt
  | .LtE => some gLe
  | .Gt => some (gI fun i j => some (.bool (decide (j < i))))
  | .GtE => some (gI fun i j => some (.bool (decide (j ≤ i))))
  | .Is => some (gIs false)
  | .IsNot => some (gIs true)
  | .In => some (gIn false)
  | .NotIn => some (gIn true)
def evBool (f : Expr → EvF) : BoolOp → List Expr → EvF
  | _, [] => fail
  | _, [a] => f a
  | .And, a :: b :: r => eAnd (f a) (evBool f .And (b :: r))
  | .Or, a :: b :: r => eOr (f a) (evBool f .Or (b :: r))
def evA (f : Expr → EvF) : List Expr → EvA
  | [] => aNil
  | e :: r => aCons (f e) (evA f r)
def evD (f : Expr → EvF) : List Expr → EvA
  | [] => aNil
  | e :: r => dCons (f e) (evD f r)
def evO (f : Expr → EvF) : Option Expr → EvO
  | none => oNone
  | some e => oSome (f e)
def evSub (f : Expr → EvF) (a : Expr) : Expr → EvF
  | .Slice none none (some (.UnaryOp .USub (.Constant (.int i) _ _) _)) _ => if i = 1 then f1 gRev (f a) else fail
  | .Slice lo hi none _ => eSl (f a) (evO f lo) (evO f hi)
  | .Slice _ _ _ _ => fail
  | s => f2 gIx (f a) (f s)
def b1 (x : Str) : Option G1 :=
  if x == ("len" : Str) then some gLen else
  if x == ("abs" : Str) then some gAbs else
  if x == ("tuple" : Str) then some gTuple else
  if x == ("list" : Str) then some gList else
  if x == ("all" : Str) then some gAll else
  if x == ("any" : Str) then some gAny else
  if x == ("sorted" : Str) then some gSorted else
  if x == ("min" : Str) then some gMin else
  if x == ("max" : Str) then some gMax else
  if x == ("int" : Str) then some gInt else none
def b2 (x : Str) : Option G2 :=
  if x == ("max" : Str) then some (gMM2 maxD) else
  if x == ("min" : Str) then some (gMM2 minD) else none
def btOf (c : Ct) (x : Str) : Option BT := if isGl c x = true then (
  if x == ("int" : Str) then some .int else
  if x == ("bool" : Str) then some .bool else
  if x == ("tuple" : Str) then some .tuple else
  if x == ("list" : Str) then some .list else
  if x == ("str" : Str) then some .str else none) else none
def evIsi (c : Ct) (f : EvF) : Expr → EvF
  | .Name ty _ => (match btOf c ty with
    | some b => f1 (gIsi b) f
    | none => fail)
  | .Tuple [.Name ty _, .Name tz _] _ _ => (match btOf c ty, btOf c tz with
    | some b, some d => f1 (gIsi2 b d) f
    | _, _ => fail)
  | _ => fail
def evCallB (f : Expr → EvF) (c : Ct) (x : Str) : List Expr → EvF
  | [a] => (match b1 x with
    | some g => f1 g (f a)
    | none => fail)
  | [a, b] => if x == ("isinstance" : Str) then evIsi c (f a) b else (match b2 x with
    | some g => f2 g (f a) (f b)
    | none => fail)
  | _ => fail
def evCall (f : Expr → EvF) (c : Ct) (x : Str) (args : List Expr) : EvF := if (isGl c x && args.all nst) = true then (match c.fns.lookup x with
    | some s => if (args.length == s.n) = true then eCall s.sem (evA f args) else fail
    | none => evCallB f c x args)
  else fail
def plainSet : Expr → Bool
  | .Set .. => false
  | _ => true
def isTupE : Expr → Bool
  | .Tuple .. => true
  | _ => false
def failI : EvI := fun _ _ => none
def evIB (f : Expr → EvF) (tg : Expr) (x : Str) (args : List Expr) (other : EvI) : EvI :=
  if x == ("range" : Str) then (match args with
    | [a] => iRng (evA f [a])
    | [a, b] => iRng (evA f [a, b])
    | _ => failI)
  else if x == ("enumerate" : Str) then (if isTupE tg = true then (match args with
    | [a] => iEnum (evA f [a])
    | _ => failI) else failI)
  else if x == ("zip" : Str) then (if isTupE tg = true then (match args with
    | [a, b] => iZip (evA f [a, b])
    | _ => failI) else failI)
  else other
def evI (f : Expr → EvF) (c : Ct) (tg : Expr) : Expr → EvI
  | .Call (.Name x p) args [] pos => if (isGl c x && args.all nst && (c.fns.lookup x).isNone) = true then evIB f tg x args (iSeq (f (.Call (.Name x p) args [] pos))) else iSeq (f (.Call (.Name x p) args [] pos))
  | e => if plainSet e = true then iSeq (f e) else failI
mutual
def evTg (c : Ct) : Nat → Expr → Option Tg
  | 0, _ => none
  | n + 1, e => match e with
    | .Name x _ => (match slotT c x with
      | some i => some (.nm i)
      | none => none)
    | .Tuple es _ _ => if es.all nst = true then (match evTgs c n es with
      | some l => some (.tu l)
      | none => none) else none
    | _ => none
def evTgs (c : Ct) : Nat → List Expr → Option Tg
  | _, [] => some .nl
  | 0, _ :: _ => none
  | n + 1, e :: r => match evTg c n e, evTgs c n r with
    | some a, some b => some (.cn a b)
    | _, _ => none
end
/-! comprehensions -/
def ownOf (N : List Str) : List (Str × NameKind) → List (Str × Nat)
  | [] => []
  | (y, k) :: r => if (k == .local || k == .cell) = true then (match ixOf N y with
    | some i => (y, i) :: ownOf N r
    | none => ownOf N r) else ownOf N r
def blkB (c : Ct) (scope : Scope) : Bool := (scope.kind == .function) && scope.names.all (fun y => scope.names.lookup y.1 == some y.2) && scope.names.all (fun y => if (y.2 == .free) = true then c.sc.names.lookup y.1 == some .cell || c.sc.names.lookup y.1 == some .free else true)
def Ct.blk (c : Ct) (scope : Scope) : Ct := { c with sc := relS scope c.sc, fnc := fun x => scope.names.lookup x == some .cell }
def inAll (a b : List Nat) : Bool := a.all fun i => b.contains i
def tYesF : EvF := eCon (.bool true)
def evIfs (f : Expr → EvF) : List Expr → Option EvF
  | [] => some tYesF
  | [e] => some (f e)
  | _ => none
def evLc (F : Ct → Expr → EvF) (c : Ct) (elt : Expr) (scope : Scope) : List Comprehension → EvF
  | [⟨tg, it, ifs, 0⟩] => if blkB c scope = true then (match evTg (c.blk scope) 9 tg, evIfs (F (c.blk scope)) ifs with
      | some T, some tt => if (inAll T.slots ((ownOf c.N scope.names).map (·.2)) && plainSet it) = true then eLc (evI (F c) c tg it) T tt (F (c.blk scope) elt) ((ownOf c.N scope.names).map (·.2)) else fail
      | _, _ => fail) else fail
  | [⟨tg, it, ifs, 0⟩, ⟨tg1, it1, ifs1, 0⟩] => if blkB c scope = true then (match evTg (c.blk scope) 9 tg, evIfs (F (c.blk scope)) ifs, evTg (c.blk scope) 9 tg1, evIfs (F (c.blk scope)) ifs1 with
      | some T, some tt, some T1, some tt1 => if (inAll T.slots ((ownOf c.N scope.names).map (·.2)) && inAll T1.slots ((ownOf c.N scope.names).map (·.2)) && plainSet it1 && plainSet it) = true then
          eLc2 (evI (F c) c tg it) T tt (evI (F (c.blk scope)) (c.blk scope) tg1 it1) T1 tt1 (F (c.blk scope) elt) ((ownOf c.N scope.names).map (·.2)) T1.slots else fail
      | _, _, _, _ => fail) else fail
  | _ => fail
def evE1 (F : Ct → Expr → EvF) (c : Ct) : Expr → EvF
  | .Name x _ => (match slot c x with
    | some i => eVar i
    | none => if isGl c x = true then (match c.gl.lookup x with
      | some d => eCon d
      | none => fail) else fail)
  | .Constant v _ _ => (match conD v with
    | some d => eCon d
    | none => fail)
  | .BinOp a op b _ => (match gBin op with
    | some g => f2 g (F c a) (F c b)
    | none => fail)
  | .UnaryOp op a _ => (match op with
    | .USub => f1 gNeg (F c a)
    | .Not => f1 gNot (F c a)
    | _ => fail)
  | .BoolOp op es _ => evBool (F c) op es
  | .IfExp t a b _ => eIf (F c t) (F c a) (F c b)
  | .Compare a [op] [b] _ => if behindInMarks op b = true then fail else (match gCmp op with
    | some g => f2 g (F c a) (F c b)
    | none => fail)
  | .Compare a [o, o'] [b, d] _ => if lastMarks [o, o'] [b, d] = true then fail else (match gCmp o, gCmp o' with
    | some g, some g' => eChn g g' (F c a) (F c b) (F c d)
    | _, _ => fail)
  | .Subscript a s _ => evSub (F c) a s
  | .List es _ => if es.all nst = true then eLst (evA (F c) es) else fail
  | .Tuple es _ _ => if es.all nst = true then eTup (evA (F c) es) else fail
  | .Call (.Name x _) args [] _ => evCall (F c) c x args
  | .ListComp elt gens scope _ => evLc F c elt scope gens
  | _ => fail
def evE : Nat → Ct → Expr → EvF
  | 0, _, _ => fail
  | n + 1, c, e => evE1 (evE n) c e

open PySem PySem.Spec PyProof.Rows L2
open PySem.W (minD maxD)
/-! # the evaluator is right -/
def bltNames : List Str := ["len", "abs", "tuple", "list", "all", "any", "sorted", "min", "max", "int", "bool", "str", "isinstance", "range", "enumerate", "zip"]
structure Mat (X : Cx) (k : Nat) (c : Ct) : Prop where
  calm : X.calm = true
  nd : X.N.Nodup
  N : X.N = c.N
  sc : X.env.scope = c.sc
  fn : ∀ x, c.fnc x = true → X.fn x = true
  xe : X.xe = fun _ _ => False
  room : Room k X.A
  fns : ∀ x s, c.fns.lookup x = some s → FnIn X k x s.n s.sem
  gl : ∀ x d, c.gl.lookup x = some d → ∃ v u, X.mg x = some u ∧ RelV v u ∧ ∀ F, Dq X.K F v d
  blt : ∀ x, x ∈ bltNames → X.mg x = none
section
variable {X : Cx} {k : Nat} {c : Ct}
theorem Mat.un (M : Mat X k c) : X.A.units + 65 < cLine := by have := M.room.un; omega
theorem Mat.un64 (M : Mat X k c) : X.A.units + 64 < cLine := by have := M.room.un; omega
theorem pe_fail {e : Expr} : PE X e (tE X.K fail) := ⟨fun pins s σ H Q I ⟨F, t, env, τ, w, τ', S, e, q⟩ => by cases e⟩
theorem pt_fail {e : Expr} : PT X e (tT X.K fail) := ⟨fun pins s σ H Q I ⟨F, t, env, τ, w, τ', S, e, q⟩ => by cases e⟩
theorem pw_fail {e : Expr} : PW X e (tT X.K fail) := ⟨fun w pins s σ H Q I ⟨F, t, env, τ, b, τ', S, e, q⟩ => by cases e⟩
theorem pi_fail {tg e : Expr} : PI X tg e (tI X.K failI) := ⟨fun pins s σ H R I ⟨F, t, env, τ, its, ws, τ', S, e, q⟩ => by cases e⟩
theorem vis_of (M : Mat X k c) {x : Str} (h : visB c x = true) : Vis X.env.scope x := by
  unfold visB at h
  unfold Vis
  rw [M.sc]
  split at h
  · exact .inl ‹_›
  · exact .inr (.inl ‹_›)
  · exact .inr (.inr ‹_›)
  · cases h
theorem dbg_of {x : Str} (h : (!dbg x) = true) : (x == ("__debug__" : Str)) = false ∧ (x == ("__classdict__" : Str)) = false ∧ x ≠ "__name__" := by
  unfold dbg at h
  rw [Bool.not_eq_true', Bool.or_eq_false_iff, Bool.or_eq_false_iff] at h
  exact ⟨h.1.1, h.1.2, fun e => by rw [e] at h; exact absurd h.2 (by simp)⟩
theorem slot_of (M : Mat X k c) {x : Str} {i : Nat} (h : slot c x = some i) : X.N[i]? = some x ∧ Vis X.env.scope x ∧ (x == ("__debug__" : Str)) = false ∧ (x == ("__classdict__" : Str)) = false := by
  unfold slot at h
  split at h
  · rename_i e
    rw [Bool.and_eq_true] at e
    have d := dbg_of e.2
    exact ⟨by rw [M.N]; exact ixOf_ok h, vis_of M e.1, d.1, d.2.1⟩
  · cases h
theorem slotT_of (M : Mat X k c) {x : Str} {i : Nat} (h : slotT c x = some i) : X.N[i]? = some x ∧ L2.Loc X.env.scope x ∧ (X.fn x = true ∨ X.env.scope.names.lookup x = some .local) := by
  unfold slotT at h
  unfold L2.Loc
  rw [M.sc]
  split at h
  · exact ⟨by rw [M.N]; exact ixOf_ok h, .inl ‹_›, .inr ‹_›⟩
  · split at h
    · rename_i e
      exact ⟨by rw [M.N]; exact ixOf_ok h, .inr ‹_›, .inl (M.fn _ e)⟩
    · cases h
  · cases h
theorem gl_of (M : Mat X k c) {x : Str} (h : isGl c x = true) : Gl X x ∧ (x == ("__debug__" : Str)) = false ∧ x ≠ "__name__" := by
  unfold isGl at h
  rw [Bool.and_eq_true] at h
  have d := dbg_of h.2
  refine ⟨?_, d.1, d.2.2⟩
  show X.env.scope.names.lookup x = _
  rw [M.sc]
  have h1 := h.1
  split at h1
  · assumption
  · cases h1
theorem gBin_ok {op : Operator} {g : G2} (h : gBin op = some g) : OpOk X (binaryOp op) g := by
  cases op <;> first
    | (cases h; exact ok_add)
    | (cases h; exact ok_sub)
    | (cases h; exact ok_mul)
    | (cases h; exact ok_div)
    | (cases h; exact ok_mod)
    | (cases h; exact ok_pow)
    | cases h
theorem gCmp_ok (M : Mat X k c) {op : CmpOp} {g : G2} (h : gCmp op = some g) : OpOk X (compareOp op) g := by
  cases op
  · cases h; exact ok_eq M.un64
  · cases h; exact ok_ne M.un64
  · cases h; exact ok_lt M.un64
  · cases h; exact ok_le M.un64
  · cases h; exact ok_gt
  · cases h; exact ok_ge
  · cases h; exact ok_is
  · cases h; exact ok_isNot
  · cases h; exact ok_in M.un
  · cases h; exact ok_notIn M.un
theorem evA_ok {f : Expr → EvF} (hf : ∀ e, PE X e (tE X.K (f e))) : ∀ {es : List Expr}, es.all nst = true → PA X es (tA X.K (evA f es))
  | [], _ => aNil_ok
  | e :: r, h => by
    rw [List.all_cons, Bool.and_eq_true] at h
    exact aCons_ok (hf e) (evA_ok hf h.2) h.1
theorem evD_ok {f : Expr → EvF} (hf : ∀ e, PE X e (tE X.K (f e))) : ∀ {es : List Expr}, es.all nst = true → PA X es (tAd X.K (evD f es))
  | [], _ => dNil_ok
  | e :: r, h => by
    rw [List.all_cons, Bool.and_eq_true] at h
    exact dCons_ok (hf e) (evD_ok hf h.2) h.1
theorem evA_new (f : Expr → EvF) : ∀ es : List Expr, NoNew (evA f es)
  | [] => noNew_nil
  | e :: r => noNew_cons (evA_new f r)
theorem evA_len (f : Expr → EvF) : ∀ es : List Expr, LenIs (evA f es) es.length
  | [] => lenIs_nil
  | e :: r => lenIs_cons (evA_len f r)
theorem evO_ok {f : Expr → EvF} (hf : ∀ e, PE X e (tE X.K (f e))) : ∀ o : Option Expr, PO X o (tO X.K (evO f o))
  | none => oNone_ok
  | some e => oSome_ok (hf e)
theorem evBool_ok {f : Expr → EvF} (hf : ∀ e, PE X e (tE X.K (f e))) {op : BoolOp} {pos : Pos} : ∀ {es : List Expr}, PE X (.BoolOp op es pos) (tE X.K (evBool f op es))
  | [] => by unfold evBool; exact pe_fail
  | [a] => by unfold evBool; exact pe_one (hf a)
  | a :: b :: r => by
    cases op
    · unfold evBool; exact and_ok (hf a) (evBool_ok hf)
    · unfold evBool; exact or_ok (hf a) (evBool_ok hf)
theorem evBoolW_ok {f : Expr → EvF} (hf : ∀ e, PT X e (tT X.K (f e))) {op : BoolOp} {pos : Pos} : ∀ {es : List Expr}, PW X (.BoolOp op es pos) (tT X.K (evBool f op es))
  | [] => by unfold evBool; exact pw_fail
  | [a] => by
    unfold evBool
    cases op
    · exact pw_and1 (hf a)
    · exact pw_or1 (hf a)
  | a :: b :: r => by
    cases op
    · unfold evBool; exact andW_ok (hf a) (evBoolW_ok hf)
    · unfold evBool; exact orW_ok (hf a) (evBoolW_ok hf)
theorem evSub_ok {f : Expr → EvF} (hf : ∀ e, PE X e (tE X.K (f e))) {a s : Expr} {pos : Pos} : PE X (.Subscript a s pos) (tE X.K (evSub f a s)) := by
  unfold evSub
  split
  · split
    · rename_i h
      subst h
      exact rev_ok (hf a)
    · exact pe_fail
  · exact sl_ok (hf a) (evO_ok hf _) (evO_ok hf _)
  · exact pe_fail
  · rename_i h1 h2 h3
    refine ix_ok (hf a) (hf s) ?_
    cases s with
    | Slice lo hi st p => exact (h3 lo hi st p rfl).elim
    | _ => rfl
theorem boot_len' : bootBuiltins ("len" : Str) = some (.builtin "len") := boot_len
theorem star1 {a b : Expr} {env : Env} (h : nst a = true) : starEach [a, b] env = (false, eval a env) :: starEach [b] env := starEach_ns h
theorem bt_of (M : Mat X k c) {x : Str} {b : BT} (h : btOf c x = some b) : x = Str.ofString b.name ∧ Gl X x ∧ X.mg x = none := by
  unfold btOf at h
  split at h
  · rename_i hg
    have g := (gl_of M hg).1
    have done : ∀ {b' : BT} {y : Str}, x = y → y = Str.ofString b'.name → y ∈ bltNames → some b' = some b → x = Str.ofString b.name ∧ Gl X x ∧ X.mg x = none := fun {b' y} e1 e2 e3 e4 => by
      cases e4
      exact ⟨e1.trans e2, g, M.blt x (by rw [e1]; exact e3)⟩
    split at h
    · exact done (eq_of_beq ‹_›) rfl (by decide) h
    · split at h
      · exact done (eq_of_beq ‹_›) rfl (by decide) h
      · split at h
        · exact done (eq_of_beq ‹_›) rfl (by decide) h
        · split at h
          · exact done (eq_of_beq ‹_›) rfl (by decide) h
          · split at h
            · exact done (eq_of_beq ‹_›) rfl (by decide) h
            · cases h
  · cases h
end

open PySem PySem.Spec PyProof.Rows L2
open PySem.W (minD maxD)
section
variable {X : Cx} {k : Nat} {c : Ct}
theorem gl_mg (M : Mat X k c) {x y : Str} (h : isGl c x = true) (e : x = y) (hy : y ∈ bltNames) : Gl X y ∧ X.mg y = none ∧ (y == ("__debug__" : Str)) = false ∧ y ≠ "__name__" := by
  subst e
  obtain ⟨h1, h2, h3⟩ := gl_of M h
  exact ⟨h1, M.blt _ hy, h2, h3⟩
theorem b1_ok (M : Mat X k c) {x : Str} {g : G1} {a : EvF} {ea : Expr} {p pos : Pos} (hg : isGl c x = true) (h : b1 x = some g) (ha : PE X ea (tE X.K a)) (hs : nst ea = true) : PE X (.Call (.Name x p) [ea] [] pos) (tE X.K (f1 g a)) := by
  unfold b1 at h
  split at h
  · rename_i e
    cases h
    obtain ⟨h1, h2, h3, h4⟩ := gl_mg M hg (eq_of_beq e) (by decide)
    rw [eq_of_beq e]
    exact c1_ok ok_len ha h1 h2 boot_len h4 h3 hs
  split at h
  · rename_i e
    cases h
    obtain ⟨h1, h2, h3, h4⟩ := gl_mg M hg (eq_of_beq e) (by decide)
    rw [eq_of_beq e]
    exact c1_ok ok_abs ha h1 h2 PyProof.Rows.boot_abs h4 h3 hs
  split at h
  · rename_i e
    cases h
    obtain ⟨h1, h2, h3, h4⟩ := gl_mg M hg (eq_of_beq e) (by decide)
    rw [eq_of_beq e]
    exact c1T_ok ok_tuple ha h1 h2 PyProof.Rows.boot_tuple h4 h3 hs
  split at h
  · rename_i e
    cases h
    obtain ⟨h1, h2, h3, h4⟩ := gl_mg M hg (eq_of_beq e) (by decide)
    rw [eq_of_beq e]
    exact c1T_ok ok_list ha h1 h2 PyProof.Rows.boot_list h4 h3 hs
  split at h
  · rename_i e
    cases h
    obtain ⟨h1, h2, h3, h4⟩ := gl_mg M hg (eq_of_beq e) (by decide)
    rw [eq_of_beq e]
    exact c1_ok (ok_all M.calm) ha h1 h2 PyProof.Rows.boot_all h4 h3 hs
  split at h
  · rename_i e
    cases h
    obtain ⟨h1, h2, h3, h4⟩ := gl_mg M hg (eq_of_beq e) (by decide)
    rw [eq_of_beq e]
    exact c1_ok (ok_any M.calm) ha h1 h2 PyProof.Rows.boot_any h4 h3 hs
  split at h
  · rename_i e
    cases h
    obtain ⟨h1, h2, h3, h4⟩ := gl_mg M hg (eq_of_beq e) (by decide)
    rw [eq_of_beq e]
    exact c1_ok (ok_sorted M.un64) ha h1 h2 PyProof.Rows.boot_sorted h4 h3 hs
  split at h
  · rename_i e
    cases h
    obtain ⟨h1, h2, h3, h4⟩ := gl_mg M hg (eq_of_beq e) (by decide)
    rw [eq_of_beq e]
    exact c1_ok (ok_min M.calm M.un64) ha h1 h2 PyProof.Rows.boot_min h4 h3 hs
  split at h
  · rename_i e
    cases h
    obtain ⟨h1, h2, h3, h4⟩ := gl_mg M hg (eq_of_beq e) (by decide)
    rw [eq_of_beq e]
    exact c1_ok (ok_max M.calm M.un64) ha h1 h2 PyProof.Rows.boot_max h4 h3 hs
  split at h
  · rename_i e
    cases h
    obtain ⟨h1, h2, h3, h4⟩ := gl_mg M hg (eq_of_beq e) (by decide)
    rw [eq_of_beq e]
    exact c1T_ok ok_intB ha h1 h2 PyProof.Rows.boot_int h4 h3 hs
  · cases h
theorem b2_ok (M : Mat X k c) {x : Str} {g : G2} {a b : EvF} {ea eb : Expr} {p pos : Pos} (hg : isGl c x = true) (h : b2 x = some g) (ha : PE X ea (tE X.K a)) (hb : PE X eb (tE X.K b)) (hs : nst ea = true) (hs2 : nst eb = true) : PE X (.Call (.Name x p) [ea, eb] [] pos) (tE X.K (f2 g a b)) := by
  unfold b2 at h
  split at h
  · rename_i e
    cases h
    obtain ⟨h1, h2, h3, h4⟩ := gl_mg M hg (eq_of_beq e) (by decide)
    rw [eq_of_beq e]
    exact c2_ok (ok_max2 M.calm M.un64) ha hb h1 h2 PyProof.Rows.boot_max h4 h3 hs hs2
  split at h
  · rename_i e
    cases h
    obtain ⟨h1, h2, h3, h4⟩ := gl_mg M hg (eq_of_beq e) (by decide)
    rw [eq_of_beq e]
    exact c2_ok (ok_min2 M.calm M.un64) ha hb h1 h2 PyProof.Rows.boot_min h4 h3 hs hs2
  · cases h
theorem evIsi_ok (M : Mat X k c) {x : Str} {a : EvF} {ea b : Expr} {p pos : Pos} (hg : isGl c x = true) (hx : (x == ("isinstance" : Str)) = true) (ha : PE X ea (tE X.K a)) (hs : nst ea = true) : PE X (.Call (.Name x p) [ea, b] [] pos) (tE X.K (evIsi c a b)) := by
  obtain ⟨h1, h2, h3, h4⟩ := gl_mg M hg (eq_of_beq hx) (by decide)
  have e := eq_of_beq hx
  unfold evIsi
  split
  · split
    · rename_i b hb
      obtain ⟨z1, z2, z3⟩ := bt_of M hb
      rw [e]
      exact isi_ok ha rfl h1 h2 z1 z2 z3 (starEach_ns hs)
    · exact pe_fail
  · split
    · rename_i b d hb hd
      obtain ⟨z1, z2, z3⟩ := bt_of M hb
      obtain ⟨y1, y2, y3⟩ := bt_of M hd
      rw [e]
      exact isi2_ok ha rfl h1 h2 z1 z2 z3 y1 y2 y3 (starEach_ns hs)
    · exact pe_fail
  · exact pe_fail
theorem evCallB_ok (M : Mat X k c) {f : Expr → EvF} (hf : ∀ e, PE X e (tE X.K (f e))) {x : Str} {args : List Expr} {p pos : Pos} (hg : isGl c x = true) (hs : args.all nst = true) : PE X (.Call (.Name x p) args [] pos) (tE X.K (evCallB f c x args)) := by
  unfold evCallB
  split
  · rename_i a
    split
    · rename_i g h
      exact b1_ok M hg h (hf _) (by simpa using hs)
    · exact pe_fail
  · rename_i a b
    have hs' : nst a = true ∧ nst b = true := by simpa using hs
    split
    · rename_i hx
      exact evIsi_ok M hg hx (hf _) hs'.1
    · split
      · rename_i g h
        exact b2_ok M hg h (hf _) (hf _) hs'.1 hs'.2
      · exact pe_fail
  · exact pe_fail
theorem evCall_ok (M : Mat X k c) {f : Expr → EvF} (hf : ∀ e, PE X e (tE X.K (f e))) {x : Str} {args : List Expr} {p pos : Pos} : PE X (.Call (.Name x p) args [] pos) (tE X.K (evCall f c x args)) := by
  unfold evCall
  split
  · rename_i h
    rw [Bool.and_eq_true] at h
    obtain ⟨g1, g2, g3⟩ := gl_of M h.1
    split
    · rename_i s hs
      split
      · rename_i hl
        have hl : args.length = s.n := eq_of_beq hl
        have F := M.fns _ _ hs
        cases args with
        | nil =>
          have hl : 0 = s.n := hl
          rw [← hl] at F
          exact call0_ok F M.room g1 g2
        | cons e es =>
          rw [← hl] at F
          exact call_ok F M.room g1 (evA_ok hf h.2) (evA_new f _) (evA_len f _) g2 h.2
      · exact pe_fail
    · exact evCallB_ok M hf h.1 h.2
  · exact pe_fail
/-! ### iterators -/
theorem evIB_ok (M : Mat X k c) {f : Expr → EvF} (hf : ∀ e, PE X e (tE X.K (f e))) {tg : Expr} {x : Str} {args : List Expr} {p pos : Pos} {other : EvI} (hg : isGl c x = true) (hs : args.all nst = true) (ho : PI X tg (.Call (.Name x p) args [] pos) (tI X.K other)) :
    PI X tg (.Call (.Name x p) args [] pos) (tI X.K (evIB f tg x args other)) := by
  unfold evIB
  split
  · rename_i e
    obtain ⟨h1, h2, h3, h4⟩ := gl_mg M hg (eq_of_beq e) (by decide)
    have e := eq_of_beq e
    subst e
    split
    · rename_i a
      have hs : nst a = true := by simpa using hs
      exact iRng1_ok rfl h1 h2 (evA_ok hf (by simpa using hs)) hs (evA_len f _)
    · rename_i a b
      have hs' : nst a = true ∧ nst b = true := by simpa using hs
      exact iRng2_ok rfl h1 h2 (evA_ok hf hs) hs'.1 hs'.2 (evA_len f _)
    · exact pi_fail
  split
  · rename_i e
    obtain ⟨h1, h2, h3, h4⟩ := gl_mg M hg (eq_of_beq e) (by decide)
    have e := eq_of_beq e
    subst e
    split
    · rename_i ht
      split
      · rename_i a
        have hs : nst a = true := by simpa using hs
        cases tg with
        | Tuple es j q => exact iEnum_ok rfl h1 h2 (evA_ok hf (by simpa using hs)) hs
        | _ => cases ht
      · exact pi_fail
    · exact pi_fail
  split
  · rename_i e
    obtain ⟨h1, h2, h3, h4⟩ := gl_mg M hg (eq_of_beq e) (by decide)
    have e := eq_of_beq e
    subst e
    split
    · rename_i ht
      split
      · rename_i a b
        have hs' : nst a = true ∧ nst b = true := by simpa using hs
        cases tg with
        | Tuple es j q => exact iZip_ok rfl h1 h2 (evA_ok hf hs) hs'.1 hs'.2
        | _ => cases ht
      · exact pi_fail
    · exact pi_fail
  · exact ho
theorem evI_ok (M : Mat X k c) {f : Expr → EvF} (hf : ∀ e, PE X e (tE X.K (f e))) {tg e : Expr} : PI X tg e (tI X.K (evI f c tg e)) := by
  unfold evI
  split
  · split
    · rename_i h
      rw [Bool.and_eq_true, Bool.and_eq_true] at h
      exact evIB_ok M hf h.1.1 h.1.2 (iSeq_ok (hf _))
    · exact iSeq_ok (hf _)
  · split
    · exact iSeq_ok (hf _)
    · exact pi_fail
theorem evI_fold {f : Expr → EvF} {c : Ct} {tg e : Expr} {env : Env} {x : Value} (h : plainSet e = true) : foldedSetIterable e env x = pure x := by
  cases e <;> first | rfl | cases h
/-! ### targets -/
mutual
theorem evTg_ok (M : Mat X k c) : ∀ {n : Nat} {e : Expr} {T : Tg}, evTg c n e = some T → PG X e (tG X.K T)
  | 0, _, _, h => by unfold evTg at h; cases h
  | n + 1, e, T, h => by
    unfold evTg at h
    split at h
    · split at h
      · rename_i i hi
        cases h
        obtain ⟨h1, h2, h3⟩ := slotT_of M hi
        exact tgNm_ok M.nd h1 h2 h3
      · cases h
    · split at h
      · rename_i hs
        split at h
        · rename_i l hl
          cases h
          exact tgTu_ok M.calm (evTgs_ok M hs hl).1 hs (evTgs_ok M hs hl).2
        · cases h
      · cases h
    · cases h
theorem evTgs_ok (M : Mat X k c) : ∀ {n : Nat} {es : List Expr} {T : Tg}, es.all nst = true → evTgs c n es = some T → PGs X es (tGs X.K T) ∧ es.length = T.len
  | n, [], T, _, h => by
    have : T = .nl := by
      cases n <;> (unfold evTgs at h; cases h; rfl)
    subst this
    exact ⟨tgNl_ok, rfl⟩
  | 0, _ :: _, _, _, h => by unfold evTgs at h; cases h
  | n + 1, e :: r, T, hs, h => by
    rw [List.all_cons, Bool.and_eq_true] at hs
    unfold evTgs at h
    split at h
    · rename_i a b ha hb
      cases h
      obtain ⟨h1, h2⟩ := evTgs_ok M hs.2 hb
      exact ⟨tgCn_ok (evTg_ok M ha) h1 hs.1, by rw [List.length_cons, h2]; rfl⟩
    · cases h
end
end

open PySem PySem.Spec PyProof.Rows L2
open PySem.W (minD maxD)
section
variable {X : Cx} {k : Nat} {c : Ct}
theorem ownOf_ix {N : List Str} : ∀ {l : List (Str × NameKind)}, ∀ p ∈ ownOf N l, N[p.2]? = some p.1
  | [], p, h => by cases h
  | (y, kd) :: r, p, h => by
    unfold ownOf at h
    split at h
    · split at h
      · rename_i i hi
        rcases List.mem_cons.mp h with q | q
        · subst q; exact ixOf_ok hi
        · exact ownOf_ix p q
      · exact ownOf_ix p h
    · exact ownOf_ix p h
theorem ixOf_none : ∀ {N : List Str} {x : Str}, ixOf N x = none → x ∉ N
  | [], _, _ => by simp
  | y :: r, x, h => by
    unfold ixOf at h
    split at h
    · cases h
    · rename_i e
      split at h
      · cases h
      · rename_i h2
        rw [List.mem_cons, not_or]
        exact ⟨fun z => e (by rw [z]; exact beq_self_eq_true y), ixOf_none h2⟩
theorem ownOf_own {N : List Str} : ∀ {l : List (Str × NameKind)}, ∀ y ∈ l, y.2 = .local ∨ y.2 = .cell → y.1 ∈ (ownOf N l).map (·.1) ∨ y.1 ∉ N
  | [], y, h, _ => by cases h
  | (z, kd) :: r, y, h, hk => by
    unfold ownOf
    rcases List.mem_cons.mp h with q | q
    · subst q
      rw [if_pos (by rcases hk with q | q <;> (simp only at q; subst q; rfl))]
      split
      · exact .inl (by simp)
      · exact .inr (ixOf_none ‹_›)
    · have ih := ownOf_own (N := N) y q hk
      split
      · split
        · rcases ih with t | t
          · exact .inl (by rw [List.map_cons]; exact List.mem_cons_of_mem _ t)
          · exact .inr t
        · exact ih
      · exact ih
theorem blk_ok (M : Mat X k c) {scope : Scope} (h : blkB c scope = true) : BlkOk X.N X.env.scope scope (ownOf c.N scope.names) := by
  unfold blkB at h
  rw [Bool.and_eq_true, Bool.and_eq_true, List.all_eq_true, List.all_eq_true] at h
  obtain ⟨⟨h1, h2⟩, h3⟩ := h
  refine ⟨eq_of_beq h1, fun y hy => eq_of_beq (h2 y hy), fun p hp => by rw [M.N]; exact ownOf_ix p hp, fun y hy e => ?_, fun y hy e => by rw [M.N]; exact ownOf_own y hy e⟩
  have := h3 y hy
  rw [e] at this
  rw [if_pos (by rfl), Bool.or_eq_true] at this
  rw [M.sc]
  rcases this with q | q
  · exact .inl (eq_of_beq q)
  · exact .inr (eq_of_beq q)
theorem Mat.blk (M : Mat X k c) (s : Shared) (H : Hp) (scope : Scope) (cl : List (Str × Addr)) (C : Addr) (fp : List Addr) : Mat (X.blk s H scope (compEnvC scope cl C X.env) fp) k (c.blk scope) where
  calm := M.calm
  nd := M.nd
  N := M.N
  sc := by
    show relS scope X.env.scope = relS scope c.sc
    rw [M.sc]
  fn := fun x h => h
  xe := rfl
  room := M.room
  fns := fun x s h => ⟨(M.fns x s h).ex⟩
  gl := M.gl
  blt := M.blt
theorem inAll_ok {a b : List Nat} (h : inAll a b = true) : ∀ j ∈ a, j ∈ b := fun j hj => by
  unfold inAll at h
  rw [List.all_eq_true] at h
  have := h j hj
  simpa using this
theorem evIfs_ok {f : Expr → EvF} (hf : ∀ e, PT X e (tT X.K (f e))) {ifs : List Expr} {tt : EvF} (h : evIfs f ifs = some tt) : PTs X ifs (if ifs.isEmpty = true then tYes else tT X.K tt) := by
  unfold evIfs at h
  split at h
  · cases h; exact pts_nil
  · cases h; exact pts_one (hf _)
  · cases h
theorem evIfs_tt {f : Expr → EvF} {ifs : List Expr} {tt : EvF} {K : PySem.W.Frag} (h : evIfs f ifs = some tt) : ∀ σ H Q, tT K tt σ H Q → (if ifs.isEmpty = true then tYes else tT K tt) σ H Q := by
  unfold evIfs at h
  split at h
  · cases h
    intro σ H Q ⟨F, t, env, τ, b, τ', S, e, q⟩
    cases e
    exact q F H (.refl S)
  · cases h
    intro σ H Q q
    exact q
  · cases h
/-- what the evaluator promises of every expression -/
structure Good (k : Nat) (F : Ct → Expr → EvF) : Prop where
  pe : ∀ {X : Cx} {c : Ct}, Mat X k c → ∀ e, PE X e (tE X.K (F c e))
  pt : ∀ {X : Cx} {c : Ct}, Mat X k c → ∀ e, PT X e (tT X.K (F c e))
theorem evLc_both {F : Ct → Expr → EvF} (G : Good k F) (M : Mat X k c) {elt : Expr} {scope : Scope} {gens : List Comprehension} {pos : Pos} :
    ∃ t : TE, PE X (.ListComp elt gens scope pos) t ∧ (∀ (i : Nat) (y : Str) (py spos : Pos), X.N[i]? = some y → X.env.scope.names.lookup y = some .local → swapsWith (.ListComp elt gens scope pos) (some (.Name y py)) spos.line X.env = pure true →
      PS X (.Assign [.Name y py] (.ListComp elt gens scope pos) spos) (tAsg t (gName i))) ∧ ∀ σ H Q, tE X.K (evLc F c elt scope gens) σ H Q → t σ H Q := by
  have bad : ∀ gens : List Comprehension, ∃ t : TE, PE X (.ListComp elt gens scope pos) t ∧ (∀ (i : Nat) (y : Str) (py spos : Pos), X.N[i]? = some y → X.env.scope.names.lookup y = some .local → swapsWith (.ListComp elt gens scope pos) (some (.Name y py)) spos.line X.env = pure true →
      PS X (.Assign [.Name y py] (.ListComp elt gens scope pos) spos) (tAsg t (gName i))) ∧ ∀ σ H Q, tE X.K fail σ H Q → t σ H Q := fun gens =>
    ⟨_, pe_fail, fun i y py spos _ _ _ => ⟨fun pins s σ H D I ⟨F, t, env, τ, w, τ', S, e, q⟩ => by cases e⟩, fun σ H Q h => h⟩
  unfold evLc
  split
  · rename_i tg it ifs
    split
    · rename_i hb
      split
      · rename_i T tt hT ht
        split
        · rename_i hv
          rw [Bool.and_eq_true] at hv
          have a1 := evI_ok (tg := tg) (e := it) M (G.pe M)
          have a2 := fun s H C cl fp => evTg_ok (M.blk s H scope cl C fp) hT
          have a3 := fun s H C cl fp => evIfs_ok (G.pt (M.blk s H scope cl C fp)) ht
          have a4 := fun s H C cl fp => G.pe (M.blk s H scope cl C fp) elt
          refine ⟨_, pe_lc (own := ownOf c.N scope.names) M.calm M.nd a1 (blk_ok M hb) a2 a3 a4 (fun x => evI_fold (f := F c) (c := c) (tg := tg) hv.2), fun i y py spos hi hl hw => ?_, fun σ H Q h => lc_sem (evIfs_tt ht) (inAll_ok hv.1) h⟩
          exact ps_setLc (own := ownOf c.N scope.names) M.calm M.nd hi hl hw a1 (blk_ok M hb) a2 a3 a4 (fun x => evI_fold (f := F c) (c := c) (tg := tg) hv.2)
        · exact bad _
      · exact bad _
    · exact bad _
  · rename_i tg it ifs tg1 it1 ifs1
    split
    · rename_i hb
      split
      · rename_i T tt T1 tt1 hT ht hT1 ht1
        split
        · rename_i hv
          rw [Bool.and_eq_true, Bool.and_eq_true, Bool.and_eq_true] at hv
          obtain ⟨⟨⟨hv, hv1⟩, hp⟩, hp0⟩ := hv
          have a1 := evI_ok (tg := tg) (e := it) M (G.pe M)
          have a2 := fun s H C cl fp => evTg_ok (M.blk s H scope cl C fp) hT
          have a3 := fun s H C cl fp => evIfs_ok (G.pt (M.blk s H scope cl C fp)) ht
          have a4 := fun s H C cl fp => G.pe (M.blk s H scope cl C fp) elt
          have b1 := fun s H C cl fp => evI_ok (tg := tg1) (e := it1) (M.blk s H scope cl C fp) (G.pe (M.blk s H scope cl C fp))
          have b2 := fun s H C cl fp => evTg_ok (M.blk s H scope cl C fp) hT1
          have b3 := fun s H C cl fp => evIfs_ok (G.pt (M.blk s H scope cl C fp)) ht1
          have f0 : ∀ x, foldedSetIterable it X.env x = pure x := fun x => evI_fold (f := F c) (c := c) (tg := tg) hp0
          have f1 : ∀ env x, foldedSetIterable it1 env x = pure x := fun env x => evI_fold (f := F c) (c := c) (tg := tg) hp
          refine ⟨_, pe_lc2 (own := ownOf c.N scope.names) (vs1 := T1.slots) M.calm M.nd a1 (blk_ok M hb) (inAll_ok hv1) a2 a3 b1 b2 b3 a4 f0 f1, fun i y py spos hi hl hw => ?_, fun σ H Q h => lc2_sem (evIfs_tt ht) (evIfs_tt ht1) (inAll_ok hv) (fun j h => h) h⟩
          exact ps_setLc2 (own := ownOf c.N scope.names) (vs1 := T1.slots) M.calm M.nd hi hl hw a1 (blk_ok M hb) (inAll_ok hv1) a2 a3 b1 b2 b3 a4 f0 f1
        · exact bad _
      · exact bad _
    · exact bad _
  · exact bad _
theorem evLc_ok {F : Ct → Expr → EvF} (G : Good k F) (M : Mat X k c) {elt : Expr} {scope : Scope} {gens : List Comprehension} {pos : Pos} : PE X (.ListComp elt gens scope pos) (tE X.K (evLc F c elt scope gens)) := by
  obtain ⟨t, h, _, w⟩ := evLc_both G M (elt := elt) (scope := scope) (gens := gens) (pos := pos)
  exact weakE h w
/-! ### all expressions -/
theorem ifeT_ok {fc a b : EvF} {ec ea eb : Expr} {pos : Pos} (hc : PT X ec (tT X.K fc)) (ha : PT X ea (tT X.K a)) (hb : PT X eb (tT X.K b)) : PT X (.IfExp ec ea eb pos) (tT X.K (eIf fc a b)) := by
  refine ⟨fun pins s σ H Q I h => ?_⟩
  obtain ⟨F, t, env, τ, w, τ', S, e, q⟩ := h
  unfold eIf at e
  split at e
  · rename_i τ1 e1
    refine PyProof.Rows.isTrue_IfExp (thn (hc.run pins s σ H (fun k H1 => k = true ∧ tT X.K a σ H1 Q) I ⟨F, t, env, τ, true, τ1, S, e1, fun F1 H1 P1 => ⟨rfl, F1, t, env, τ1, w, τ', S.post P1, e, fun F2 H2 P2 => q F2 H2 (P1.trans P2)⟩⟩) fun k s1 ⟨H1, I1, hk, q1⟩ => ?_)
    subst hk
    exact ha.run pins s1 σ H1 Q I1 q1
  · rename_i τ1 e1
    refine PyProof.Rows.isTrue_IfExp (thn (hc.run pins s σ H (fun k H1 => k = false ∧ tT X.K b σ H1 Q) I ⟨F, t, env, τ, false, τ1, S, e1, fun F1 H1 P1 => ⟨rfl, F1, t, env, τ1, w, τ', S.post P1, e, fun F2 H2 P2 => q F2 H2 (P1.trans P2)⟩⟩) fun k s1 ⟨H1, I1, hk, q1⟩ => ?_)
    subst hk
    exact hb.run pins s1 σ H1 Q I1 q1
  · cases e
def plainT : Expr → Bool
  | .BoolOp .. => false
  | .Compare .. => false
  | .UnaryOp .Not _ _ => false
  | .IfExp .. => false
  | _ => true
theorem plainT_ok {e : Expr} {env : Env} (h : plainT e = true) : ∀ whole, isTrue e env whole = (do let v ← whole; standAt e.pos; PySem.holding [v] (truthy v)) := by
  intro whole
  cases e with
  | UnaryOp op a p => cases op <;> first | rfl | cases h
  | _ => first | rfl | cases h
theorem evE1_pe {F : Ct → Expr → EvF} (G : Good k F) (M : Mat X k c) (e : Expr) : PE X e (tE X.K (evE1 F c e)) := by
  unfold evE1
  split
  · split
    · rename_i i hi
      obtain ⟨h1, h2, h3, h4⟩ := slot_of M hi
      exact var_ok h1 h2 h3 h4
    · split
      · rename_i hg
        obtain ⟨g1, g2, g3⟩ := gl_of M hg
        split
        · rename_i d hd
          obtain ⟨v, u, m, r, dv⟩ := M.gl _ _ hd
          exact con_ok (pe_glob g1 m r g2) dv
        · exact pe_fail
      · exact pe_fail
  · split
    · rename_i hd
      unfold conD at hd
      split at hd
      · cases hd; exact con_ok pe_non fun F => .non
      · cases hd; exact con_ok pe_bl fun F => .bl _
      · cases hd; exact con_ok pe_int fun F => .int _
      · cases hd; exact con_ok pe_str fun F => .str _
      · cases hd
    · exact pe_fail
  · split
    · exact bin_ok (gBin_ok ‹_›) (G.pe M _) (G.pe M _)
    · exact pe_fail
  · split
    · exact neg_ok (G.pe M _)
    · exact not_ok (G.pe M _)
    · exact pe_fail
  · exact evBool_ok (G.pe M)
  · exact ife_ok (G.pt M _) (G.pe M _) (G.pe M _)
  · split
    · exact pe_fail
    · rename_i hm
      split
      · exact cmp_ok (gCmp_ok M ‹_›) (G.pe M _) (G.pe M _) (by simpa using hm)
      · exact pe_fail
  · split
    · exact pe_fail
    · rename_i hm
      split
      · rename_i g g' h1 h2
        exact chn_ok (gCmp_ok M h1) (gCmp_ok M h2) (G.pe M _) (G.pe M _) (G.pe M _) (by simpa using hm)
      · exact pe_fail
  · exact evSub_ok (G.pe M)
  · split
    · exact lst_ok (evA_ok (G.pe M) ‹_›)
    · exact pe_fail
  · split
    · exact tup_ok (evA_ok (G.pe M) ‹_›)
    · exact pe_fail
  · exact evCall_ok M (G.pe M)
  · exact evLc_ok G M
  · exact pe_fail
theorem evE1_pt {F : Ct → Expr → EvF} (G : Good k F) (M : Mat X k c) (e : Expr) : PT X e (tT X.K (evE1 F c e)) := by
  by_cases hp : plainT e = true
  · exact tT_of (evE1_pe G M e) (plainT_ok hp)
  · unfold evE1
    split <;> first
      | exact absurd rfl hp
      | skip
    · split
      · exact absurd rfl hp
      · exact notT_ok (G.pt M _)
      · exact pt_fail
    · exact (evBoolW_ok (G.pt M)).pt
    · exact ifeT_ok (G.pt M _) (G.pt M _) (G.pt M _)
    · split
      · exact pt_fail
      · rename_i hm
        split
        · exact cmpT_ok (gCmp_ok M ‹_›) (G.pe M _) (G.pe M _) (by simpa using hm)
        · exact pt_fail
    · split
      · exact pt_fail
      · rename_i hm
        split
        · rename_i g g' h1 h2
          exact chnT_ok (gCmp_ok M h1) (gCmp_ok M h2) (G.pe M _) (G.pe M _) (G.pe M _) (by simpa using hm)
        · exact pt_fail
    · exact pt_fail
theorem evE_good : ∀ n : Nat, Good k (evE n)
  | 0 => ⟨fun M e => pe_fail, fun M e => pt_fail⟩
  | n + 1 => ⟨fun M e => evE1_pe (evE_good n) M e, fun M e => evE1_pt (evE_good n) M e⟩
end

open PySem PySem.Spec PyProof.Rows L2
open PySem.W (minD maxD)
/-! # statements -/
def failS : EvS := fun _ _ => none
/-- how two or three names are stored at once: some (some names) from the right, some none as a tuple, none: not told -/
def swKind (c : Ct) (ts vs : List Expr) : Option (Option (List Str)) :=
  if (!(ts.length == 2 || ts.length == 3) || vs.length != ts.length) = true then some none else
  if (vs.any fun | .Starred .. => true | _ => false) = true then some none else
  if ((ts.filterMap fun | .Name id pos => if (c.sc.names.lookup id == some .local && pos.line == (ts.head?.map (·.pos.line)).getD 0) = true then some id else none | _ => none).length != ts.length || (ts.filterMap fun | .Name id pos => if (c.sc.names.lookup id == some .local && pos.line == (ts.head?.map (·.pos.line)).getD 0) = true then some id else none | _ => none).eraseDups.length != (ts.filterMap fun | .Name id pos => if (c.sc.names.lookup id == some .local && pos.line == (ts.head?.map (·.pos.line)).getD 0) = true then some id else none | _ => none).length) = true then some none else
  if vs.all (foldedForSure 8) = true then some none else
  if vs.all (constantsAlone 8) = true then none else
  some (some (ts.filterMap fun | .Name id pos => if (c.sc.names.lookup id == some .local && pos.line == (ts.head?.map (·.pos.line)).getD 0) = true then some id else none | _ => none))
theorem swKind_ok {X : Cx} {k : Nat} {c : Ct} (M : Mat X k c) (hk : c.sc.kind = .function) {ts vs : List Expr} {kt kv : Nat} {pt pv : Pos} {r : Option (List Str)} (h : swKind c ts vs = some r) : swappedStores [.Tuple ts kt pt] (.Tuple vs kv pv) X.env = pure r := by
  have hb : (X.env.blockKind != .function) = false := by
    unfold Env.blockKind
    rw [M.sc, hk]
    rfl
  have hk2 : ∀ id, X.env.kindOf id = c.sc.names.lookup id := fun id => by
    show X.env.scope.names.lookup id = _
    rw [M.sc]
  unfold swKind at h
  unfold swappedStores
  simp only [hb, hk2, Bool.or_false]
  split at h
  · rename_i h1
    cases h
    simp only [h1, if_true]
  rename_i h1
  simp only [h1, if_false, Bool.false_eq_true]
  split at h
  · rename_i h2
    cases h
    exact if_pos h2
  rename_i h2
  refine (if_neg h2).trans ?_
  split at h
  · rename_i h3
    cases h
    exact if_pos h3
  rename_i h3
  refine (if_neg h3).trans ?_
  split at h
  · rename_i h4
    cases h
    exact if_pos h4
  rename_i h4
  refine (if_neg h4).trans ?_
  split at h
  · cases h
  · rename_i h5
    cases h
    exact if_neg h5
def tgNames (c : Ct) : List Expr → Option (List Nat)
  | [] => some []
  | .Name x _ :: r => (match slotT c x, tgNames c r with
    | some i, some l => some (i :: l)
    | _, _ => none)
  | _ => none
def locB (c : Ct) (x : Str) : Bool := match c.sc.names.lookup x with
  | some .local => true
  | _ => false
def parOk (c : Ct) (ns : List Str) : List Expr → List Nat → Bool
  | [.Name x _, .Name y _], [i, j] => (ns == [x, y]) && locB c x && locB c y && !(i == j)
  | [.Name x _, .Name y _, .Name z _], [i, j, l] => (ns == [x, y, z]) && locB c x && locB c y && locB c z && !(i == j) && !(i == l) && !(j == l)
  | _, _ => false
def evPar (own : Nat → Bool) (F : Expr → EvF) (c : Ct) (ts vs : List Expr) : EvS := if (vs.all nst && ts.all nst && (vs.length == ts.length)) = true then (match tgNames c ts with
    | some is => if is.length ≤ 9 then (match swKind c ts vs with
      | some none => sPar own is (evD F vs)
      | some (some ns) => if parOk c ns ts is = true then sPar own is (evD F vs) else failS
      | none => failS) else failS
    | none => failS) else failS
def notComp : Expr → Bool
  | .SetComp .. => false
  | .DictComp .. => false
  | .ListComp .. => false
  | _ => true
def evNm (own : Nat → Bool) (F : Expr → EvF) (c : Ct) (i : Nat) : Expr → EvS
  | .Call (.Attribute (.Name y _) m ap) [] [] cp => if (m == ("pop" : Str) && ap.endLine == cp.line) = true then (match slot c y with
      | some j => sPopSet i j
      | none => failS) else failS
  | .SetComp .. => failS
  | .DictComp .. => failS
  | e => sSet (own i) i (F e)
def evAsg (own : Nat → Bool) (F : Expr → EvF) (c : Ct) : Expr → Expr → EvS
  | .Name x _, e => (match slotT c x with
    | some i => evNm own F c i e
    | none => failS)
  | .Subscript (.Name x _) idx _, e => if plainIx idx = true then (match slot c x with
    | some i => sSub i (F idx) (F e)
    | none => failS) else failS
  | .Tuple ts _ _, .Tuple vs _ _ => evPar own F c ts vs
  | .Tuple ts k p, e => (match evTg c 9 (.Tuple ts k p) with
    | some T => sTg T (F e)
    | none => failS)
  | _, _ => failS
def evX (F : Expr → EvF) (c : Ct) : Expr → EvS
  | .Call (.Attribute (.Name x _) m ap) args [] cp => if (ap.endLine == cp.line && args.all nst) = true then (match slot c x with
      | some i => if m == ("append" : Str) then (match args with
          | [a] => sApp i (evA F [a])
          | _ => failS)
        else if m == ("insert" : Str) then (match args with
          | [a, b] => sIns i (evA F [a, b])
          | _ => failS)
        else if m == ("pop" : Str) then (match args with
          | [a] => sPopAt i (evA F [a])
          | _ => failS)
        else failS
      | none => failS) else failS
  | e => if notComp e = true then sDrop (F e) else failS
noncomputable def evS1 (G : List Stmt → EvS) (own : Nat → Bool) (F : Expr → EvF) (c : Ct) : Stmt → EvS
  | .Return (some e) _ => sRet (F e)
  | .If t a b _ => sIf (F t) (G a) (G b)
  | .While t b [] _ => sWhile (F t) (G b)
  | .For tg it b [] _ => if plainSet it = true then (match evTg c 9 tg with
    | some T => sFor (evI F c tg it) T (G b)
    | none => failS) else failS
  | .Assign [tg] e _ => evAsg own F c tg e
  | .Expr e _ => evX F c e
  | .Pass _ => sNext
  | .Break _ => sBreak
  | .Continue _ => sCont
  | _ => failS
noncomputable def evB (g : Stmt → EvS) : List Stmt → EvS
  | [] => sNext
  | s :: r => sSeq (g s) (evB g r)
noncomputable def evS (own : Nat → Bool) (F : Expr → EvF) (c : Ct) : Nat → Stmt → EvS
  | 0, _ => failS
  | n + 1, st => evS1 (evB (evS own F c n)) own F c st
section
variable {X : Cx} {k : Nat} {c : Ct} {own : Nat → Bool} {F : Expr → EvF}
theorem ps_fail {st : Stmt} : PS X st (tS X.K failS) := ⟨fun pins s σ H D I ⟨F0, H0, F, t, env, τ, o, I', e, q⟩ => by cases e⟩
theorem locB_of (M : Mat X k c) {x : Str} (h : locB c x = true) : X.env.scope.names.lookup x = some .local := by
  unfold locB at h
  rw [M.sc]
  split at h
  · assumption
  · cases h
theorem tgNames_ok (M : Mat X k c) : ∀ {ts : List Expr} {is : List Nat}, tgNames c ts = some is → PGs X ts (gNames is) ∧ ts.length = is.length
  | [], is, h => by
    unfold tgNames at h
    cases h
    exact ⟨pgs_nil, rfl⟩
  | e :: r, is, h => by
    unfold tgNames at h
    split at h
    · rename_i h0
      cases h0
    · rename_i x p r' e0
      cases e0
      split at h
      · rename_i i l hi hl
        cases h
        obtain ⟨h1, h2, h3⟩ := slotT_of M hi
        obtain ⟨g1, g2⟩ := tgNames_ok M hl
        exact ⟨pgs_cons (pg_name M.nd h1 h2 h3) g1 rfl, by rw [List.length_cons, g2]; rfl⟩
      · cases h
    · cases h
theorem evPar_ok (M : Mat X k c) (hk : c.sc.kind = .function) (hF : ∀ e, PE X e (tE X.K (F e))) {ts vs : List Expr} {kt kv : Nat} {pt pv pos : Pos} : PS X (.Assign [.Tuple ts kt pt] (.Tuple vs kv pv) pos) (tS X.K (evPar own F c ts vs)) := by
  unfold evPar
  split
  · rename_i hg
    rw [Bool.and_eq_true, Bool.and_eq_true] at hg
    obtain ⟨⟨hv, ht⟩, hl⟩ := hg
    have hl : vs.length = ts.length := eq_of_beq hl
    split
    · rename_i is hi
      split
      · rename_i h9
        obtain ⟨g1, g2⟩ := tgNames_ok M hi
        split
        · rename_i hw
          obtain ⟨a1, a2⟩ := assignEach_ns (env := X.env) ht
          have := ps_asg (pos := pos) (pe_tup (x1 := kv) (pos := pv) (evD_ok hF hv)) (pg_tup (k := kt) (pos := pt) (n := is.length) M.calm g1 (by rw [a1, g2]) a2) rfl (swKind_ok M hk hw) rfl
          exact weakS this fun D σ H h => parT_core (by have := line_big; omega) h
        · rename_i ns hw
          split
          · rename_i hp
            have hsw := swKind_ok M hk (kt := kt) (kv := kv) (pt := pt) (pv := pv) hw
            unfold parOk at hp
            split at hp
            · rename_i x px y py i j _
              simp only [Bool.and_eq_true] at hp
              obtain ⟨⟨⟨h1, h2⟩, h3⟩, h4⟩ := hp
              have h1 : ns = [x, y] := eq_of_beq h1
              subst h1
              have hij : i ≠ j := fun z => by subst z; simp at h4
              match vs, hl with
              | [a, b], _ =>
                obtain ⟨si, sj⟩ : X.N[i]? = some x ∧ X.N[j]? = some y := by
                  unfold tgNames at hi
                  split at hi
                  · rename_i i' l' hi' hl'
                    cases hi
                    unfold tgNames at hl'
                    split at hl'
                    · rename_i j' l'' hj' hl''
                      cases hl'
                      exact ⟨(slotT_of M hi').1, (slotT_of M hj').1⟩
                    · cases hl'
                  · cases hi
                exact weakS (ps_par M.calm M.nd si sj hij (locB_of M h2) (locB_of M h3) (evD_ok hF hv) hsw rfl) fun D σ H h => par2_core h
            · rename_i x px y py z pz i j l _
              simp only [Bool.and_eq_true] at hp
              obtain ⟨⟨⟨⟨⟨⟨h1, h2⟩, h3⟩, h4⟩, h5⟩, h6⟩, h7⟩ := hp
              have h1 : ns = [x, y, z] := eq_of_beq h1
              subst h1
              have hij : i ≠ j := fun z => by subst z; simp at h5
              have hil : i ≠ l := fun z => by subst z; simp at h6
              have hjl : j ≠ l := fun z => by subst z; simp at h7
              match vs, hl with
              | [a, b, d], _ =>
                obtain ⟨si, sj, sl⟩ : X.N[i]? = some x ∧ X.N[j]? = some y ∧ X.N[l]? = some z := by
                  unfold tgNames at hi
                  split at hi
                  · rename_i i' l' hi' hl'
                    cases hi
                    unfold tgNames at hl'
                    split at hl'
                    · rename_i j' l'' hj' hl''
                      cases hl'
                      unfold tgNames at hl''
                      split at hl''
                      · rename_i k' l''' hk' hl'''
                        cases hl''
                        exact ⟨(slotT_of M hi').1, (slotT_of M hj').1, (slotT_of M hk').1⟩
                      · cases hl''
                    · cases hl'
                  · cases hi
                exact weakS (ps_par3 M.calm M.nd si sj sl hij hil hjl (locB_of M h2) (locB_of M h3) (locB_of M h4) (evD_ok hF hv) hsw rfl) fun D σ H h => par3_core h
            · cases hp
          · exact ps_fail
        · exact ps_fail
      · exact ps_fail
    · exact ps_fail
  · exact ps_fail
end

open PySem PySem.Spec PyProof.Rows L2
open PySem.W (minD maxD)
section
variable {X : Cx} {k : Nat} {c : Ct} {own : Nat → Bool}
theorem sw_name {e : Expr} {t : Expr} {l : Nat} {env : Env} (h : notComp e = true) : swapsWith e (some t) l env = pure false := by
  cases e <;> first | rfl | cases h
theorem sw_none {e : Expr} {l : Nat} {env : Env} (h : notComp e = true) : swapsWith e none l env = pure false := by
  cases e <;> first | rfl | cases h
theorem sw_sub {e a b : Expr} {p : Pos} {l : Nat} {env : Env} : swapsWithSole [.Subscript a b p] e l env = pure false := by
  cases e <;> rfl
theorem sw_tup {e : Expr} {ts : List Expr} {j : Nat} {p : Pos} {l : Nat} {env : Env} : swapsWithSole [.Tuple ts j p] e l env = pure false := by
  cases e <;> rfl
theorem evNm_ok {n : Nat} (M : Mat X k c) {x : Str} {px pos : Pos} {i : Nat} (hi : slotT c x = some i) (e : Expr) : PS X (.Assign [.Name x px] e pos) (tS X.K (evNm own (evE (n + 1) c) c i e)) := by
  obtain ⟨h1, h2, h3⟩ := slotT_of M hi
  have gen : ∀ e, notComp e = true → PS X (.Assign [.Name x px] e pos) (tS X.K (sSet (own i) i (evE (n + 1) c e))) := fun e hn =>
    weakS (ps_set M.nd h1 h2 ((evE_good (n + 1)).pe M e) (sw_name hn) h3) fun D σ H h => set_core h
  unfold evNm
  split
  · split
    · rename_i y py m ap cp hm
      rw [Bool.and_eq_true] at hm
      split
      · rename_i j hj
        have hp : m = ("pop" : Str) := eq_of_beq hm.1
        subst hp
        obtain ⟨s1, s2, s3, s4⟩ := slot_of M hj
        have he := pe_bm0 (X := X) (apos := ap) (cpos := cp) (name := ("pop" : Str)) PySem.F.plainAttrs_list PySem.F.slot_list_pop PySem.F.type_list_pop mt_pop (var_ok (pos := py) s1 s2 s3 s4) rfl hm.2
        exact weakS (ps_set M.nd h1 h2 he rfl h3) fun D σ H h => popSet_core h
      · exact ps_fail
    · exact ps_fail
  · exact ps_fail
  · exact ps_fail
  · rename_i n1 n2 n3
    cases e with
    | SetComp => exact (n2 _ _ _ _ rfl).elim
    | DictComp => exact (n3 _ _ _ _ _ rfl).elim
    | ListComp elt gens scope p =>
      have hb : swapsWith (.ListComp elt gens scope p) (some (.Name x px)) pos.line X.env = pure (X.env.blockKind == .function && X.env.kindOf x == some .local && px.line == p.line && !(scope.names.any fun (n, k) => n == x && (k == .local || k == .cell))) := rfl
      cases hs : (X.env.blockKind == .function && X.env.kindOf x == some .local && px.line == p.line && !(scope.names.any fun (n, k) => n == x && (k == .local || k == .cell))) with
      | false =>
        rw [hs] at hb
        exact weakS (ps_set M.nd h1 h2 ((evE_good (n + 1)).pe M _) hb h3) fun D σ H h => set_core h
      | true =>
        rw [hs] at hb
        rw [Bool.and_eq_true, Bool.and_eq_true, Bool.and_eq_true] at hs
        have hl : X.env.scope.names.lookup x = some .local := eq_of_beq hs.1.1.2
        obtain ⟨t, p1, p2, p3⟩ := evLc_both (evE_good n) M (elt := elt) (scope := scope) (gens := gens) (pos := p)
        refine weakS (p2 i x px pos h1 hl hb) fun D σ H h => p3 _ _ _ ?_
        exact set_core h
    | _ => exact gen _ rfl
theorem asg_sub {o i : Expr} {pos : Pos} {env : Env} (h : plainIx i = true) : ∀ v, assign (.Subscript o i pos) env v = (do
      let ov ← PySem.holding [v] (eval o env)
      let iv ← PySem.holding [v, ov] (eval i env)
      standAt pos
      PySem.holding [v, ov, iv] (setItem ov iv v)
      release [v, ov, iv] []) := fun v => by
  cases i <;> first | rfl | cases h
theorem evAsg_ok {n : Nat} (M : Mat X k c) (hk : c.sc.kind = .function) (tg e : Expr) {pos : Pos} : PS X (.Assign [tg] e pos) (tS X.K (evAsg own (evE (n + 1) c) c tg e)) := by
  have hF := (evE_good (k := k) (n + 1)).pe M
  unfold evAsg
  split
  · split
    · exact evNm_ok M ‹_› _
    · exact ps_fail
  · split
    · rename_i hp
      split
      · rename_i i hi
        obtain ⟨s1, s2, s3, s4⟩ := slot_of M hi
        exact weakS (ps_asg (hF _) (pg_sub (var_ok s1 s2 s3 s4) (hF _) set_list (asg_sub hp)) sw_sub rfl rfl) fun D σ H h => sub_core h
      · exact ps_fail
    · exact ps_fail
  · exact evPar_ok M hk hF
  · rename_i ts j p hn
    split
    · rename_i T hT
      refine weakS (ps_asg (hF _) (evTg_ok M hT) sw_tup ?_ rfl) fun D σ H h => tg_core h
      cases e <;> first | rfl | exact (hn _ _ _ rfl).elim
    · exact ps_fail
  · exact ps_fail
theorem few1 {a : Expr} {env : Env} {cp : Pos} (h : nst a = true) : ((backTo cp (starEach [a] env)).all (fun x => !x.1) && (backToKw cp (keywordEach [] env)).all (fun x => x.1.isSome)
      && decide ([a].length + ([] : List Keyword).length + (if ([] : List Keyword).isEmpty then 0 else 1) < 30)) = true := by
  rw [starEach_ns h]
  rfl
theorem few2 {a b : Expr} {env : Env} {cp : Pos} (h : nst a = true) (h2 : nst b = true) : ((backTo cp (starEach [a, b] env)).all (fun x => !x.1) && (backToKw cp (keywordEach [] env)).all (fun x => x.1.isSome)
      && decide ([a, b].length + ([] : List Keyword).length + (if ([] : List Keyword).isEmpty then 0 else 1) < 30)) = true := by
  rw [starEach_ns h, starEach_ns h2]
  rfl
theorem evX_ok {F : Expr → EvF} (M : Mat X k c) (hF : ∀ e, PE X e (tE X.K (F e))) (e : Expr) {pos : Pos} : PS X (.Expr e pos) (tS X.K (evX F c e)) := by
  unfold evX
  split
  · split
    · rename_i x px m ap args cp hg
      rw [Bool.and_eq_true] at hg
      obtain ⟨hl, hs⟩ := hg
      split
      · rename_i i hi
        obtain ⟨s1, s2, s3, s4⟩ := slot_of M hi
        have hv := var_ok (pos := px) s1 s2 s3 s4
        split
        · rename_i hm
          have hm : m = ("append" : Str) := eq_of_beq hm
          subst hm
          split
          · rename_i a
            have ha : nst a = true := by simpa using hs
            exact weakS (ps_expr (pe_bm (T := "list") PySem.F.plainAttrs_list PySem.F.slot_list_append PySem.F.type_list_append mt_append hv (evA_ok hF hs) rfl (few1 ha) hl (starEach_ns ha) (star_plain (es := []) rfl)) rfl) fun D σ H h => app_core h
          · exact ps_fail
        · split
          · rename_i hm
            have hm : m = ("insert" : Str) := eq_of_beq hm
            subst hm
            split
            · rename_i a b
              have hs' : nst a = true ∧ nst b = true := by simpa using hs
              exact weakS (ps_expr (pe_bm (T := "list") PySem.F.plainAttrs_list PySem.F.slot_list_insert PySem.F.type_list_insert L2.mt_insert hv (evA_ok hF hs) rfl (few2 hs'.1 hs'.2) hl (starEach_ns hs'.1) (star_plain (es := [b]) (by rw [List.all_cons, hs'.2]; rfl))) rfl) fun D σ H h => ins_core h
            · exact ps_fail
          · split
            · rename_i hm
              have hm : m = ("pop" : Str) := eq_of_beq hm
              subst hm
              split
              · rename_i a
                have ha : nst a = true := by simpa using hs
                exact weakS (ps_expr (pe_bm (T := "list") PySem.F.plainAttrs_list PySem.F.slot_list_pop PySem.F.type_list_pop mt_popAt hv (evA_ok hF hs) rfl (few1 ha) hl (starEach_ns ha) (star_plain (es := []) rfl)) rfl) fun D σ H h => popAt_core h
              · exact ps_fail
            · exact ps_fail
      · exact ps_fail
    · exact ps_fail
  · split
    · exact drop_ok (hF _) (sw_none ‹_›)
    · exact ps_fail
theorem evS_ok {m : Nat} (M : Mat X k c) (hk : c.sc.kind = .function) : ∀ n : Nat, ∀ st : Stmt, PS X st (tS X.K (evS own (evE (m + 1) c) c n st))
  | 0, st => ps_fail
  | n + 1, st => by
    have hF := (evE_good (k := k) (m + 1)).pe M
    have hT := (evE_good (k := k) (m + 1)).pt M
    have hp : PassesOwn (model X.prog X.w) X.A X.env X.xe := by rw [M.xe]; exact .never
    have hB : ∀ l : List Stmt, PSs X l (tS X.K (evB (evS own (evE (m + 1) c) c n) l)) := fun l => by
      induction l with
      | nil => exact nil_ok
      | cons s r ih => exact cons_ok (evS_ok M hk n s) ih
    unfold evS evS1
    split
    · exact ret_ok (hF _)
    · exact if_ok (hT _) (hB _) (hB _)
    · exact weakS (ps_while hp (hT _) (hB _)) fun D σ H h => while_sem h
    · split
      · rename_i hpl
        split
        · rename_i T hTg
          exact weakS (ps_for hp M.calm (evI_ok M hF) (evTg_ok M hTg) (hB _) (fun x => evI_fold (f := evE 0 c) (c := c) (tg := .Name "x" ⟨0, 0, 0, 0⟩) hpl)) fun D σ H h => for_sem h
        · exact ps_fail
      · exact ps_fail
    · exact evAsg_ok M hk _ _
    · exact evX_ok M hF _
    · exact pass_ok
    · exact break_ok
    · exact cont_ok
    · exact ps_fail
theorem evB_ok {m n : Nat} (M : Mat X k c) (hk : c.sc.kind = .function) (l : List Stmt) : PSs X l (tS X.K (evB (evS own (evE (m + 1) c) c n) l)) := by
  induction l with
  | nil => exact nil_ok
  | cons s r ih => exact cons_ok (evS_ok M hk n s) ih
end

open PySem PySem.Spec PyProof.Rows L2
/-! # defs -/
def toSl : W → Sl
  | .d x => .d x
  | .tp => .tp
  | _ => .no
def startE (N : List Str) (ws : List W) : En := ws.map toSl ++ List.replicate (N.length - ws.length) Sl.no
def runB (f : EvS) (N : List Str) : Sem1 := fun ws τ => match f (startE N ws) τ with
  | some (.rt d τ') => some (d, τ')
  | some (.nx _ τ') => some (.none, τ')
  | _ => none
/-- the def stands in the text and keeps its promise -/
structure FnB (P : Program) (w : World) (K : PySem.W.Frag) (mg : Str → Option Value) (base : Heap) (k : Nat) (x : Str) (n : Nat) (sem : Sem1) : Prop where
  ex : ∃ (f : Addr) (fd : FuncData) (ps : List Str), mg x = some (.ref f) ∧ PySem.W.keepIn K (.ref f) = true ∧ Binds K fd ps [] ∧ ps.length = n ∧ FnOk P w K mg base CX0 k f fd ps (spD K n sem)
/-- what a def's body may lean on -/
structure Tab (P : Program) (w : World) (K : PySem.W.Frag) (mg : Str → Option Value) (base : Heap) (k : Nat) (fns : List (Str × FnS)) (gl : List (Str × D)) : Prop where
  fns : ∀ x s, fns.lookup x = some s → FnB P w K mg base k x s.n s.sem
  gl : ∀ x d, gl.lookup x = some d → ∃ v u, mg x = some u ∧ RelV v u ∧ ∀ F, Dq K F v d
  blt : ∀ x, x ∈ bltNames → mg x = none
section
variable {P : Program} {w : World} {K : PySem.W.Frag} {mg : Str → Option Value} {base : Heap} {k : Nat}
theorem FnB.mono {j : Nat} {x : Str} {n : Nat} {sem : Sem1} (h : FnB P w K mg base j x n sem) (hj : j ≤ k) : FnB P w K mg base k x n sem := by
  obtain ⟨f, fd, ps, h1, h2, h3, h4, h5⟩ := h.ex
  exact ⟨f, fd, ps, h1, h2, h3, h4, h5.mono hj⟩
theorem spD_imp {n : Nat} {sem sem' : Sem1} (hs : ∀ ws τ r, sem' ws τ = some r → sem ws τ = some r) : ∀ vs H Q E, spD K n sem' vs H Q E → spD K n sem vs H Q E := fun vs H Q E ⟨F, t, ws, τ, d, τ', h1, h2, h3, h4, h5, h6⟩ => ⟨F, t, ws, τ, d, τ', h1, h2, h3, h4, hs _ _ _ h5, h6⟩
theorem FnB.imp {x : Str} {n : Nat} {sem sem' : Sem1} (h : FnB P w K mg base k x n sem) (hs : ∀ ws τ r, sem' ws τ = some r → sem ws τ = some r) : FnB P w K mg base k x n sem' := by
  obtain ⟨f, fd, ps, h1, h2, h3, h4, h5⟩ := h.ex
  exact ⟨f, fd, ps, h1, h2, h3, h4, h5.imp (spD_imp hs)⟩
theorem Tab.nil (h : ∀ x, x ∈ bltNames → mg x = none) {gl : List (Str × D)} (hg : ∀ x d, gl.lookup x = some d → ∃ v u, mg x = some u ∧ RelV v u ∧ ∀ F, Dq K F v d) : Tab P w K mg base k [] gl := ⟨fun x s e => (by cases e), hg, h⟩
theorem Tab.cons {fns : List (Str × FnS)} {gl : List (Str × D)} {x : Str} {s : FnS} (T : Tab P w K mg base k fns gl) (h : FnB P w K mg base k x s.n s.sem) : Tab P w K mg base k ((x, s) :: fns) gl := by
  refine ⟨fun y t e => ?_, T.gl, T.blt⟩
  rw [List.lookup_cons] at e
  split at e
  · rename_i hy
    cases e
    rw [eq_of_beq hy]
    exact h
  · exact T.fns y t e
theorem Tab.mono {j : Nat} {fns : List (Str × FnS)} {gl : List (Str × D)} (T : Tab P w K mg base j fns gl) (h : j ≤ k) : Tab P w K mg base k fns gl := ⟨fun x s e => (T.fns x s e).mono h, T.gl, T.blt⟩
theorem argAll_start {F H : Hp} {t : Option Addr} {vs : List V} {ws : List W} (a : ArgAll K F t vs ws) : ∀ (σ0 : L2.St) (i : Nat) (s : Sl), (ws.map toSl)[i]? = some s → SlOk K F H t (vs.map some ++ σ0) i s := by
  induction a with
  | nil => intro σ0 i s h; simp at h
  | @d v vs x ws dx _ ih =>
    intro σ0 i s h
    cases i with
    | zero =>
      simp [toSl] at h
      subst h
      exact ⟨v, rfl, dx⟩
    | succ i =>
      have := ih σ0 i s (by simpa using h)
      cases s with
      | no => trivial
      | d y => obtain ⟨u, z1, z2⟩ := this; exact ⟨u, by simpa using z1, z2⟩
      | own ds => obtain ⟨b, us, z1, z2⟩ := this; exact ⟨b, us, by simpa using z1, z2⟩
      | tp => obtain ⟨b, z1, z2⟩ := this; exact ⟨b, z1, by simpa using z2⟩
  | @tp a vs ws ht _ ih =>
    intro σ0 i s h
    cases i with
    | zero =>
      simp [toSl] at h
      subst h
      exact ⟨a, ht, rfl⟩
    | succ i =>
      have := ih σ0 i s (by simpa using h)
      cases s with
      | no => trivial
      | d y => obtain ⟨u, z1, z2⟩ := this; exact ⟨u, by simpa using z1, z2⟩
      | own ds => obtain ⟨b, us, z1, z2⟩ := this; exact ⟨b, us, by simpa using z1, z2⟩
      | tp => obtain ⟨b, z1, z2⟩ := this; exact ⟨b, z1, by simpa using z2⟩
theorem startE_no {N : List Str} {F : Hp} {t : Option Addr} {vs : List V} {ws : List W} (a : ArgAll K F t vs ws) : ∀ {i : Nat} {ds : List D}, (startE N ws)[i]? ≠ some (Sl.own ds) := by
  intro i ds h
  unfold startE at h
  have h1 : ∀ {i : Nat}, (ws.map toSl)[i]? ≠ some (Sl.own ds) := by
    clear h
    induction a with
    | nil => intro i z; simp at z
    | d _ _ ih =>
      intro i z
      cases i with
      | zero => simp [toSl] at z
      | succ i => exact ih (by simpa using z)
    | tp _ _ ih =>
      intro i z
      cases i with
      | zero => simp [toSl] at z
      | succ i => exact ih (by simpa using z)
  rw [List.getElem?_append] at h
  split at h
  · exact h1 h
  · rw [List.getElem?_replicate] at h
    split at h
    · cases h
    · cases h
theorem start_si {N : List Str} {F H : Hp} {t : Option Addr} {τ : Tp} {vs : List V} {ws : List W} (a : ArgAll K F t vs ws) (hs : Same F H) (ht : TapeOk K F H t τ) : SI K F H F H t (startE N ws) τ (L2.start N vs) := by
  have hl := a.len
  have S : Sok K F H t (startE N ws) τ (L2.start N vs) := by
    refine ⟨hs, by unfold startE L2.start; simp [hl], fun i s h => ?_, fun i j ds es h1 h2 hne => (startE_no a h1).elim, ht⟩
    unfold startE at h
    rw [List.getElem?_append] at h
    split at h
    · exact argAll_start a _ i s h
    · rw [List.getElem?_replicate] at h
      split at h
      · cases h; trivial
      · cases h
  exact ⟨S, .refl S, fun i ds b h1 h2 => (startE_no a h1).elim⟩
/-- the context of a def's body -/
def ctOf (N : List Str) (sc : Scope) (fns : List (Str × FnS)) (gl : List (Str × D)) : Ct := ⟨N, sc, fun _ => true, fns, gl⟩
/-- the meaning of a def's body -/
noncomputable def semOf (own : Nat → Bool) (N : List Str) (fns : List (Str × FnS)) (gl : List (Str × D)) (st : Stmt) : Sem1 := runB (evB (evS own (evE 41 (ctOf N (defScope st) fns gl)) (ctOf N (defScope st) fns gl) 40) (defBody st)) N
theorem fn_ev {x : Str} {st : Stmt} {f : Addr} {fd : FuncData} {N ps : List Str} {fns : List (Str × FnS)} {gl : List (Str × D)} (own : Nat → Bool) (T : Tab P w K mg base k fns gl) (F : L2.Fun K x x st f fd) (S : FnScope N ps (defScope st)) :
    FnOk P w K mg base CX0 (k + 1) f fd ps (spD K ps.length (semOf own N fns gl st)) := by
  refine F.ok S (fun vs H Q E h => spD_len h) fun cdv A outer s H vs Q E hr ⟨F1, t, ws, τ, d, τ', h1, h2, h3, h4, h5, h6⟩ => ?_
  have M : Mat (cxOf CX0 P w K mg base N x (defScope st) f cdv A outer s H E).nox k (ctOf N (defScope st) fns gl) := ⟨rfl, S.nd, rfl, rfl, fun _ _ => rfl, rfl, hr, fun y s' e => ⟨(T.fns y s' e).ex⟩, T.gl, T.blt⟩
  refine ⟨_, evB_ok (own := own) (m := 40) (n := 40) M S.kind (defBody st), ?_⟩
  unfold semOf runB at h5
  split at h5
  · rename_i d' t' e
    cases h5
    exact ⟨F1, H, F1, t, startE N ws, τ, _, start_si h4 h2 h3, e, fun F' H' v P r => h6 F' v H' P r⟩
  · rename_i e' t' e
    cases h5
    exact ⟨F1, H, F1, t, startE N ws, τ, _, start_si h4 h2 h3, e, fun F' H' σ' s I => h6 F' .non H' I.post .non⟩
  · cases h5
end

open PySem PySem.Spec PyProof.Rows L2
/-! # the law's own body: its first statement makes the tape -/
/-- a list just made becomes the tape, kept in slot i -/
def tTape (i : Nat) (f : EvF) (g : EvS) : EvS := fun env _ => match f env [] with
  | some (.new ds, _) => if i < env.length then g (env.set i .tp) ds else none
  | _ => none
theorem tape_ok {X : Cx} {i : Nat} {f : EvF} {g : EvS} {e : Expr} {st : Stmt} {rest : List Stmt} (h1 : PE X e (tE X.K f)) (h2 : PS X st (tAsg (tE X.K f) (gName i))) (hr : PSs X rest (tS X.K g))
    {E : Ends} {F H : Hp} {env : En} {σ : L2.St} {o : Out} (S : Sok X.K F H none env [] σ) (ho : ∀ (j : Nat) ds, env[j]? ≠ some (Sl.own ds)) (e1 : tTape i f g env [] = some o)
    (q : ∀ F0 H0 F t, Kont X.K F0 H0 F t E o) : ∃ t, PSs X (st :: rest) t ∧ t E σ H := by
  refine ⟨_, pss_cons h2 hr, ?_⟩
  unfold tTape at e1
  split at e1
  · rename_i ds t1 hf
    split at e1
    · rename_i hi
      refine ⟨F, none, env, [], .new ds, t1, S, hf, fun F' v H' P r => ?_⟩
      obtain ⟨a, us, rfl, y2, y3, y4, y5, y6⟩ := r
      have S' := S.post P
      have hl : i < σ.length := by rw [← S.len]; exact hi
      have ts : TapeOk X.K F' H' (some a) ds := ⟨y2, us, y5, y6⟩
      have S2 : Sok X.K F' H' (some a) (env.set i .tp) ds (σ.set i (some (.ref a))) := by
        refine ⟨S'.same, by rw [List.length_set, List.length_set, S.len], fun j s h => ?_, fun j k d1 d2 k1 k2 hne => ?_, ts⟩
        · by_cases hj : i = j
          · subst hj
            rw [List.getElem?_set_self hi] at h
            cases h
            exact ⟨a, rfl, List.getElem?_set_self hl⟩
          · rw [List.getElem?_set_ne hj] at h
            have z := S'.slot j s h
            cases s with
            | no => trivial
            | d x => obtain ⟨v, z1, z2⟩ := z; exact ⟨v, by rw [List.getElem?_set_ne hj]; exact z1, z2⟩
            | own ds => exact (ho j ds h).elim
            | tp => obtain ⟨b, z1, z2⟩ := z; cases z1
        · by_cases hj : i = j
          · subst hj
            rw [List.getElem?_set_self hi] at k1
            cases k1
          · rw [List.getElem?_set_ne hj] at k1
            exact (ho _ _ k1).elim
      refine ⟨F', H', F', some a, env.set i .tp, ds, o, ⟨S2, .refl S2, fun j d1 b k1 => ?_⟩, e1, q _ _ _ _⟩
      by_cases hj : i = j
      · subst hj
        rw [List.getElem?_set_self hi] at k1
        cases k1
      · rw [List.getElem?_set_ne hj] at k1
        exact (ho _ _ k1).elim
    · cases e1
  · cases e1

open PySem PySem.Spec PyProof.Rows L2
/-! # the law: its first statement, then the evaluator -/
def spScript (K : PySem.W.Frag) : Sp := fun vs H Q _ => ∃ (a : Addr) (ns : List Int), vs = [.ref a] ∧ SqL K H a (ns.map V.int) ∧ ns.length ≤ 63 ∧ ∀ H', Q (.bl true) H'
theorem dq_of_ints {K : PySem.W.Frag} {F : Hp} : ∀ ns : List Int, DqAll K F (ns.map V.int) (ns.map PyData.int)
  | [] => .nil
  | n :: r => .cons (.int n) (dq_of_ints r)
/-- the rest of the law's body, from the tape on -/
def lawRun (f : EvS) (N : List Str) (ns : List Int) : Option Out := f (.no :: .tp :: List.replicate (N.length - 2) Sl.no) [.list (ns.map PyData.int), .int 0, .int 0]
section
variable {P : Program} {w : World} {K : PySem.W.Frag} {mg : Str → Option Value} {base : Heap} {k : Nat}
theorem law_ev {st : Stmt} {f : Addr} {fd : FuncData} {N : List Str} {fns : List (Str × FnS)} {gl : List (Str × D)} (own : Nat → Bool) (T : Tab P w K mg base k fns gl) (F : L2.Fun K "law" "law" st f fd) (S : FnScope N ["script"] (defScope st))
    {rest : List Stmt} {x : Str} {px p1 p2 p3 p4 p5 pos : Pos} {j1 j2 : Nat} {y : Str}
    (hb : defBody st = .Assign [.Name x px] (.List [.Call (.Name "list" p1) [.Name y p2] [] p3, .Constant (.int 0) j1 p4, .Constant (.int 0) j2 p5] pos) px :: rest) : True := trivial
end

open PySem PySem.Spec PyProof.Rows L2
theorem first_core {K : PySem.W.Frag} {g : EvS} {E : Ends} {N : List Str} {H : Hp} {a : Addr} {ns : List Int} (hN : 2 ≤ N.length) (hs : SqL K H a (ns.map V.int)) {o : Out} (ho : lawRun g N ns = some o) (q : ∀ F0 H0 F t, Kont K F0 H0 F t E o) :
    tAsg (tLst (tCons (tCB (fun xs H Q => ∃ p ys, xs = [V.ref p] ∧ (SqL K H p ys ∨ SqT K H p ys) ∧ ∀ l, H l = none → Q (.ref l) (upd H l (.lst ys))) (tCons (tVar 0) tNil)) (tCons (tC (.int 0)) (tCons (tC (.int 0)) tNil)))) (gName 1) { E with nx := tS K g E } (L2.start N [.ref a]) H := by
  refine ⟨.ref a, rfl, a, ns.map V.int, rfl, .inl hs, fun p hp => ⟨by show 3 ≤ sizeLine; decide, fun p2 hp2 => ?_⟩⟩
  have hne : p ≠ p2 := fun z => by rw [z, upd_same] at hp2; cases hp2
  let F : Hp := fun b => if b = p then some (.lst (ns.map V.int)) else none
  have hF : F p = some (.lst (ns.map V.int)) := if_pos rfl
  have hF2 : F p2 = none := if_neg (Ne.symm hne)
  have same : Same F (upd (upd H p (.lst (ns.map V.int))) p2 (.lst [.ref p, .int 0, .int 0])) := fun b u e => by
    by_cases hb : b = p
    · subst hb
      rw [hF] at e
      rw [upd_ne hne, upd_same]
      exact e
    · have : F b = none := if_neg hb
      rw [this] at e
      cases e
  have tp : TapeOk K F (upd (upd H p (.lst (ns.map V.int))) p2 (.lst [.ref p, .int 0, .int 0])) (some p2) [.list (ns.map PyData.int), .int 0, .int 0] :=
    ⟨hF2, _, upd_same, .cons (.lst hF (dq_of_ints ns)) (.cons (.int 0) (.cons (.int 0) .nil))⟩
  have S2 : Sok K F (upd (upd H p (.lst (ns.map V.int))) p2 (.lst [.ref p, .int 0, .int 0])) (some p2) (.no :: .tp :: List.replicate (N.length - 2) Sl.no) [.list (ns.map PyData.int), .int 0, .int 0] ((L2.start N [.ref a]).set 1 (some (.ref p2))) := by
    refine ⟨same, by simp [L2.start]; omega, fun j s h => ?_, fun j k d1 d2 k1 k2 hne => ?_, tp⟩
    · cases j with
      | zero => simp at h; subst h; trivial
      | succ j =>
        cases j with
        | zero =>
          simp at h
          subst h
          refine ⟨p2, rfl, List.getElem?_set_self ?_⟩
          simp [L2.start]
          omega
        | succ j =>
          simp [List.getElem?_replicate] at h
          obtain ⟨_, h⟩ := h
          subst h
          trivial
    · cases j with
      | zero => simp at k1
      | succ j =>
        cases j with
        | zero => simp at k1
        | succ j => simp [List.getElem?_replicate] at k1
  refine ⟨F, _, F, some p2, _, _, o, ⟨S2, .refl S2, fun j d1 b k1 => ?_⟩, ho, q _ _ _ _⟩
  cases j with
  | zero => simp at k1
  | succ j =>
    cases j with
    | zero => simp at k1
    | succ j => simp [List.getElem?_replicate] at k1

open PySem PySem.Spec PyProof.Rows L2
section
variable {P : Program} {w : World} {K : PySem.W.Frag} {mg : Str → Option Value} {base : Heap} {k : Nat}
theorem law_fn {st : Stmt} {f : Addr} {fd : FuncData} {N : List Str} {fns : List (Str × FnS)} {gl : List (Str × D)} (own : Nat → Bool) (T : Tab P w K mg base k fns gl) (F : L2.Fun K "law" "law" st f fd) (S : FnScope N ["script"] (defScope st))
    {rest : List Stmt} {px p1 p2 p3 p4 p5 pos pq : Pos} {j1 j2 : Nat}
    (hb : defBody st = .Assign [.Name "tape" px] (.List [.Call (.Name "list" p1) [.Name "script" p2] [] p3, .Constant (.int 0) j1 p4, .Constant (.int 0) j2 p5] pos) pq :: rest)
    (hN : 2 ≤ N.length) (h0 : N[0]? = some ("script" : Str)) (h1 : N[1]? = some ("tape" : Str)) (v0 : Vis (defScope st) "script") (v1 : (defScope st).names.lookup ("tape" : Str) = some .local) (gl' : (defScope st).names.lookup ("list" : Str) = some .globalImplicit)
    (plain : ∀ ns : List Int, ns.length ≤ 63 → ∃ τ, lawRun (evB (evS own (evE 41 (ctOf N (defScope st) fns gl)) (ctOf N (defScope st) fns gl) 40) rest) N ns = some (.rt (.bool true) τ)) :
    FnOk P w K mg base CX0 (k + 1) f fd ["script"] (spScript K) := by
  refine F.ok S (fun vs H Q E ⟨a, ns, e, _⟩ => by rw [e]; rfl) fun cdv A outer s H vs Q E hr ⟨a, ns, e, hs, hl, hq⟩ => ?_
  subst e
  have M : Mat (cxOf CX0 P w K mg base N "law" (defScope st) f cdv A outer s H E).nox k (ctOf N (defScope st) fns gl) := ⟨rfl, S.nd, rfl, rfl, fun _ _ => rfl, rfl, hr, fun y s' e => ⟨(T.fns y s' e).ex⟩, T.gl, T.blt⟩
  obtain ⟨τ, hp⟩ := plain ns hl
  rw [hb]
  refine ⟨_, pss_cons (ps_set (i := 1) S.nd h1 (.inl v1) (pe_lst (pa_cons (pe_callTy call_list_of gl' (T.blt _ (by decide)) PyProof.Rows.boot_list (pa_cons (pe_var h0 v0) pa_nil)) (pa_cons pe_int (pa_cons pe_int pa_nil)))) rfl (.inr v1)) (evB_ok (own := own) (m := 40) (n := 40) M S.kind rest), ?_⟩
  exact first_core hN hs hp fun F0 H0 F t F' H' v P r => by
    cases r
    exact hq H'
end

open PySem PySem.Spec PyProof.Rows L2
/-! # what the top has written -/
structure DefAt (K : PySem.W.Frag) (mg : Str → Option Value) (x : Str) (st : Stmt) : Prop where
  ex : ∃ f fd, mg x = some (.ref f) ∧ PySem.W.keepIn K (.ref f) = true ∧ L2.Fun K x x st f fd
section
variable {P : Program} {w : World} {K : PySem.W.Frag} {mg : Str → Option Value} {base : Heap} {k : Nat} {h : Heap}
theorem def_at {x : Str} {st : Stmt} {f : Addr} {oc : Value} {od an : Option Addr} {sl : Array (Option Value)} {kV dc pm cd ct : Value} (X : K.In h) (G : h.Ns mainGlobals mg)
    (a : PySem.W.nsIn K mainGlobals x = some (some (.ref f))) (l : K.lookup f = some ⟨oc, od, .func (PySem.W.fnOf x x (defArgs st) (defBody st) (defScope st) .none kV dc pm an cd ct), sl⟩) (c : PySem.W.codeIn K cd x = true) (k : PySem.W.keepIn K (.ref f) = true) : DefAt K mg x st :=
  ⟨f, _, PySem.W.mg_of X G a, k, fun_mk l c k⟩
theorem have_def {R : Prop} {x : Str} {st : Stmt} {f : Addr} {oc : Value} {od an : Option Addr} {sl : Array (Option Value)} {kV dc pm cd ct : Value} (X : K.In h) (G : h.Ns mainGlobals mg)
    (a : PySem.W.nsIn K mainGlobals x = some (some (.ref f))) (l : K.lookup f = some ⟨oc, od, .func (PySem.W.fnOf x x (defArgs st) (defBody st) (defScope st) .none kV dc pm an cd ct), sl⟩) (c : PySem.W.codeIn K cd x = true) (k : PySem.W.keepIn K (.ref f) = true) (r : DefAt K mg x st → R) : R :=
  r (def_at X G a l c k)
theorem fnB_of {x : Str} {st : Stmt} {N ps : List Str} {fns : List (Str × FnS)} {gl : List (Str × D)} {n : Nat} {sem : Sem1} (own : Nat → Bool) (D : DefAt K mg x st) (T : Tab P w K mg base k fns gl) (S : FnScope N ps (defScope st))
    (hb : ∀ f fd, L2.Fun K x x st f fd → Binds K fd ps []) (hn : ps.length = n) (hs : semOf own N fns gl st = sem) : FnB P w K mg base (k + 1) x n sem := by
  obtain ⟨f, fd, h1, h2, F⟩ := D.ex
  subst hs
  subst hn
  exact ⟨f, fd, ps, h1, h2, hb f fd F, rfl, fn_ev own T F S⟩
theorem fnB_none {x : Str} {st : Stmt} {ps : List Str} {n : Nat} (D : DefAt K mg x st) (hb : ∀ f fd, L2.Fun K x x st f fd → Binds K fd ps []) (hn : ps.length = n) : FnB P w K mg base k x n fun _ _ => none := by
  obtain ⟨f, fd, h1, h2, F⟩ := D.ex
  refine ⟨f, fd, ps, h1, h2, hb f fd F, hn, fun vs H Q E ⟨_, _, _, _, _, _, _, _, _, _, h5, _⟩ => (by cases h5), fun A outer s H args us vs Q E _ _ _ _ ⟨_, _, _, _, _, _, _, _, _, _, h5, _⟩ => (by cases h5)⟩
/-- a constant of the top -/
def ConAt (K : PySem.W.Frag) (mg : Str → Option Value) (x : Str) (d : D) : Prop := ∃ v u, mg x = some u ∧ RelV v u ∧ ∀ F, Dq K F v d
def GlOk (K : PySem.W.Frag) (mg : Str → Option Value) (gl : List (Str × D)) : Prop := ∀ x d, gl.lookup x = some d → ConAt K mg x d
theorem gl_nil : GlOk K mg [] := fun _ _ e => by cases e
theorem gl_cons {x : Str} {d : D} {gl : List (Str × D)} (h : ConAt K mg x d) (r : GlOk K mg gl) : GlOk K mg ((x, d) :: gl) := fun y e h2 => by
  rw [List.lookup_cons] at h2
  split at h2
  · rename_i hy
    cases h2
    rw [eq_of_beq hy]
    exact h
  · exact r y e h2
theorem have_int {R : Prop} {x : Str} {i : Int} {t : Tok} (X : K.In h) (G : h.Ns mainGlobals mg) (a : PySem.W.nsIn K mainGlobals x = some (some (.int i t))) (r : ConAt K mg x (.int i) → R) : R :=
  r ⟨.int i, _, PySem.W.mg_of X G a, ⟨t, rfl⟩, fun F => .int i⟩
theorem have_tup2 {R : Prop} {x : Str} {i j : Int} {t u : Tok} {a : Addr} {od : Option Addr} {n : Nat} {sl : Array (Option Value)} (X : K.In h) (G : h.Ns mainGlobals mg) (q : PySem.W.nsIn K mainGlobals x = some (some (.ref a)))
    (l : K.lookup a = some ⟨.type "tuple", od, .seq #[.int i t, .int j u] n, sl⟩) (r : ConAt K mg x (.tuple [.int i, .int j]) → R) : R :=
  r ⟨.ref a, _, PySem.W.mg_of X G q, rfl, fun F => .tup (xs := [.int i, .int j]) (.inr ⟨_, _, _, l, rfl, rfl, (show (2 : Nat) ≤ sizeLine by decide), .cons ⟨t, rfl⟩ (.cons ⟨u, rfl⟩ .nil)⟩) (.cons (.int i) (.cons (.int j) .nil))⟩
theorem law_top {st : Stmt} {fa : Addr} (hmg : mg "law" = some (.ref fa)) (D : DefAt K mg "law" st)
    (hb : ∀ (kV doc pm : Value) (an : Option Addr) (cdv ct u : Value), bindArgs (PySem.W.fnOf "law" "law" (defArgs st) (defBody st) (defScope st) .none kV doc pm an cdv ct) ⟨[u], []⟩ = pure [(("script" : Str), u)])
    (ok : ∀ (base : Heap) (fd : FuncData), L2.Fun K "law" "law" st fa fd → FnOk P w K mg base CX0 k fa fd ["script"] (spScript K)) :
    ∃ fd : FuncData, (∀ (s : Shared) (u : Value), BindsTo s fd ⟨[u], []⟩ [("script", u)]) ∧ ∀ base : Heap, K.In base → base.Ns mainGlobals mg → FnOk P w K mg base CX0 k fa fd ["script"] (spScript K) := by
  obtain ⟨f, fd, h1, h2, F⟩ := D.ex
  have e := hmg.symm.trans h1
  cases e
  refine ⟨fd, fun s u => ?_, fun base _ _ => ok base fd F⟩
  obtain ⟨oc, od, kV, doc, pm, an, cdv, ct, osl, rfl, lk, hcd⟩ := F.ex
  exact .of_eq (hb _ _ _ _ _ _ _)
end

open PySem PySem.Spec PyProof.Rows L2
open PySem.W (minD maxD)
/-! # the plain side: what the meanings come to -/
abbrev gGt : G2 := gI fun i j => some (.bool (decide (j < i)))
abbrev gGe : G2 := gI fun i j => some (.bool (decide (j ≤ i)))
def ownL (l : List Nat) : Nat → Bool := fun i => l.contains i
@[irreducible] def wpO {α : Type} (o : Option α) (Q : α → Prop) : Prop := match o with
  | some a => Q a
  | none => False
theorem wpO_some {α : Type} {a : α} {Q : α → Prop} : wpO (some a) Q = Q a := by unfold wpO; rfl
theorem wpO_none {α : Type} {Q : α → Prop} : wpO none Q = False := by unfold wpO; rfl
theorem wpO_eq {α : Type} {o : Option α} {a : α} (h : wpO o fun x => x = a) : o = some a := by
  unfold wpO at h
  cases o with
  | none => cases h
  | some b => exact congrArg some h
theorem wpO_of {α : Type} {o : Option α} {Q : α → Prop} {a : α} (e : o = some a) (h : Q a) : wpO o Q := by rw [e, wpO_some]; exact h
theorem wpO_mono {α : Type} {o : Option α} {Q Q' : α → Prop} (h : wpO o Q) (w : ∀ a, Q a → Q' a) : wpO o Q' := by
  unfold wpO at h ⊢
  cases o with
  | none => exact h
  | some a => exact w a h
theorem wpO_ex {α : Type} {o : Option α} {Q : α → Prop} (h : wpO o Q) : ∃ a, o = some a ∧ Q a := by
  unfold wpO at h
  cases o with
  | none => cases h
  | some a => exact ⟨a, rfl, h⟩
@[irreducible] def wpE (f : EvF) (env : En) (τ : Tp) (Q : W → Tp → Prop) : Prop := wpO (f env τ) fun p => Q p.1 p.2
@[irreducible] def wpA (f : EvA) (env : En) (τ : Tp) (Q : List W → Tp → Prop) : Prop := wpO (f env τ) fun p => Q p.1 p.2
@[irreducible] def wpI (f : EvI) (env : En) (τ : Tp) (Q : List D → List W → Tp → Prop) : Prop := wpO (f env τ) fun p => Q p.1 p.2.1 p.2.2
@[irreducible] def wpS (f : EvS) (env : En) (τ : Tp) (Q : Out → Prop) : Prop := wpO (f env τ) Q
@[irreducible] def wpC (s : Sem1) (ws : List W) (τ : Tp) (Q : D → Tp → Prop) : Prop := wpO (s ws τ) fun p => Q p.1 p.2
def wpB (w : W) (Q : Bool → Prop) : Prop := match w with
  | .d (.bool b) => Q b
  | _ => False
theorem wpB_d {b : Bool} {Q : Bool → Prop} : wpB (.d (.bool b)) Q = Q b := rfl
theorem wpC_eq {s : Sem1} {ws : List W} {τ τ' : Tp} {d : D} (h : wpC s ws τ fun x t => x = d ∧ t = τ') : s ws τ = some (d, τ') := wpO_eq (wpO_mono (by unfold wpC at h; exact h) fun a h => by
  obtain ⟨a1, a2⟩ := a
  obtain ⟨h1, h2⟩ := h
  simp only at h1 h2
  rw [h1, h2])
theorem wpC_of {s : Sem1} {ws : List W} {τ τ' : Tp} {d : D} {Q : D → Tp → Prop} (e : s ws τ = some (d, τ')) (h : Q d τ') : wpC s ws τ Q := by
  unfold wpC
  exact wpO_of e h
section
variable {env : En} {τ : Tp} {Q : W → Tp → Prop}
theorem w_con {d : D} : wpE (eCon d) env τ Q = Q (.d d) τ := by
  unfold wpE wpO
  rfl
theorem w_var {i : Nat} : wpE (eVar i) env τ Q = match env[i]? with
  | some (.d x) => Q (.d x) τ
  | some (.own _) => Q (.loc i) τ
  | some .tp => Q .tp τ
  | _ => False := by
  unfold wpE eVar
  unfold wpO
  cases env[i]? with
  | none => rfl
  | some s => cases s <;> rfl
theorem w_f1 {g : G1} {a : EvF} : wpE (f1 g a) env τ Q = wpE a env τ fun x τ1 => wpO (g env τ1 x) fun w => Q w τ1 := by
  unfold wpE f1
  unfold wpO
  cases a env τ with
  | none => rfl
  | some p =>
    obtain ⟨x, t⟩ := p
    dsimp only
    cases g env t x <;> rfl
theorem w_f2 {g : G2} {a b : EvF} : wpE (f2 g a b) env τ Q = wpE a env τ fun x τ1 => wpE b env τ1 fun y τ2 => wpO (g env τ2 x y) fun w => Q w τ2 := by
  unfold wpE f2
  unfold wpO
  cases a env τ with
  | none => rfl
  | some p =>
    obtain ⟨x, t⟩ := p
    dsimp only
    cases b env t with
    | none => rfl
    | some p =>
      obtain ⟨y, t⟩ := p
      dsimp only
      cases g env t x y <;> rfl
theorem w_and {a b : EvF} : wpE (eAnd a b) env τ Q = wpE a env τ fun x τ1 => wpB x fun k => if k = true then wpE b env τ1 Q else Q (.d (.bool false)) τ1 := by
  unfold wpE eAnd
  unfold wpO
  cases a env τ with
  | none => rfl
  | some p =>
    obtain ⟨x, t⟩ := p
    dsimp only
    cases x with
    | d x =>
      cases x with
      | bool k => cases k <;> rfl
      | _ => rfl
    | _ => rfl
theorem w_or {a b : EvF} : wpE (eOr a b) env τ Q = wpE a env τ fun x τ1 => wpB x fun k => if k = true then Q (.d (.bool true)) τ1 else wpE b env τ1 Q := by
  unfold wpE eOr
  unfold wpO
  cases a env τ with
  | none => rfl
  | some p =>
    obtain ⟨x, t⟩ := p
    dsimp only
    cases x with
    | d x =>
      cases x with
      | bool k => cases k <;> rfl
      | _ => rfl
    | _ => rfl
theorem w_if {c a b : EvF} : wpE (eIf c a b) env τ Q = wpE c env τ fun x τ1 => wpB x fun k => if k = true then wpE a env τ1 Q else wpE b env τ1 Q := by
  unfold wpE eIf
  unfold wpO
  cases c env τ with
  | none => rfl
  | some p =>
    obtain ⟨x, t⟩ := p
    dsimp only
    cases x with
    | d x =>
      cases x with
      | bool k => cases k <;> rfl
      | _ => rfl
    | _ => rfl
theorem w_chn {g g' : G2} {a b c : EvF} : wpE (eChn g g' a b c) env τ Q = wpE a env τ fun x τ1 => wpE b env τ1 fun y τ2 => wpO (g env τ2 x y) fun w => wpB w fun k => if k = true then wpE c env τ2 fun z τ3 => wpO (g' env τ3 y z) fun w => Q w τ3 else Q (.d (.bool false)) τ2 := by
  unfold wpE eChn
  unfold wpO
  cases a env τ with
  | none => rfl
  | some p =>
    obtain ⟨x, t⟩ := p
    dsimp only
    cases b env t with
    | none => rfl
    | some p =>
      obtain ⟨y, t⟩ := p
      dsimp only
      cases g env t x y with
      | none => rfl
      | some w =>
        cases w with
        | d w =>
          cases w with
          | bool k =>
            cases k with
            | true =>
              dsimp only [wpB]
              rw [if_pos rfl]
              cases c env t with
              | none => rfl
              | some p =>
                obtain ⟨z, t⟩ := p
                dsimp only
                cases g' env t y z <;> rfl
            | false => rfl
          | _ => rfl
        | _ => rfl
theorem w_anil {Q : List W → Tp → Prop} : wpA aNil env τ Q = Q [] τ := by
  unfold wpA wpO
  rfl
theorem w_acons {a : EvF} {r : EvA} {Q : List W → Tp → Prop} : wpA (aCons a r) env τ Q = wpE a env τ fun x τ1 => wpA r env τ1 fun xs τ2 => Q (nf x :: xs) τ2 := by
  unfold wpA wpE aCons
  unfold wpO
  cases a env τ with
  | none => rfl
  | some p =>
    obtain ⟨x, t⟩ := p
    dsimp only
    cases r env t <;> rfl
theorem w_dcons {a : EvF} {r : EvA} {Q : List W → Tp → Prop} : wpA (dCons a r) env τ Q = wpE a env τ fun x τ1 => wpA r env τ1 fun xs τ2 => Q (x :: xs) τ2 := by
  unfold wpA wpE dCons
  unfold wpO
  cases a env τ with
  | none => rfl
  | some p =>
    obtain ⟨x, t⟩ := p
    dsimp only
    cases r env t <;> rfl
theorem w_tup {f : EvA} : wpE (eTup f) env τ Q = wpA f env τ fun ws τ1 => wpO (dsOf ws) fun ds => ds.length ≤ sizeLine ∧ Q (.d (.tuple ds)) τ1 := by
  unfold wpE wpA eTup
  unfold wpO
  cases f env τ with
  | none => rfl
  | some p =>
    obtain ⟨ws, t⟩ := p
    dsimp only
    cases dsOf ws with
    | none => rfl
    | some ds =>
      dsimp only
      by_cases h : ds.length ≤ sizeLine
      · rw [if_pos h]; simp [h]
      · rw [if_neg h]; simp [h]
theorem w_lst {f : EvA} : wpE (eLst f) env τ Q = wpA f env τ fun ws τ1 => wpO (dsOf ws) fun ds => ds.length ≤ sizeLine ∧ Q (.new ds) τ1 := by
  unfold wpE wpA eLst
  unfold wpO
  cases f env τ with
  | none => rfl
  | some p =>
    obtain ⟨ws, t⟩ := p
    dsimp only
    cases dsOf ws with
    | none => rfl
    | some ds =>
      dsimp only
      by_cases h : ds.length ≤ sizeLine
      · rw [if_pos h]; simp [h]
      · rw [if_neg h]; simp [h]
/-- how a call goes by its arguments -/
def callW (sem : Sem1) (env : En) (ws : List W) (τ1 : Tp) (Q : W → Tp → Prop) : Prop :=
  if noLoc ws = true then (if noTp ws = true then wpC sem ws [] (fun d _ => Q (.d d) τ1) else wpC sem ws τ1 fun d t => Q (.d d) t)
  else wpO (seen env ws) fun us => wpC sem us [] fun d _ => noLst d = true ∧ Q (.d d) τ1
theorem w_call {sem : Sem1} {f : EvA} : wpE (eCall sem f) env τ Q = wpA f env τ fun ws τ1 => callW sem env ws τ1 Q := by
  unfold wpE wpA eCall
  unfold wpO
  cases f env τ with
  | none => rfl
  | some p =>
    obtain ⟨ws, t⟩ := p
    dsimp only
    unfold callW wpC
    unfold wpO
    by_cases h1 : noLoc ws = true
    · rw [if_pos h1, if_pos h1]
      by_cases h2 : noTp ws = true
      · rw [if_pos h2, if_pos h2]
        cases sem ws [] with
        | none => rfl
        | some p => rfl
      · rw [if_neg h2, if_neg h2]
        cases sem ws t with
        | none => rfl
        | some p => rfl
    · rw [if_neg h1, if_neg h1]
      cases seen env ws with
      | none => rfl
      | some us =>
        dsimp only
        cases sem us [] with
        | none => rfl
        | some p =>
          obtain ⟨d, t'⟩ := p
          dsimp only
          by_cases h : noLst d = true
          · rw [if_pos h]; simp [h]
          · rw [if_neg h]; simp [h]
theorem call_d {sem : Sem1} {ws : List W} (h1 : noLoc ws = true) (h2 : noTp ws = true) : callW sem env ws τ Q = wpC sem ws [] fun d _ => Q (.d d) τ := by
  unfold callW
  rw [if_pos h1, if_pos h2]
theorem call_t {sem : Sem1} {ws : List W} (h1 : noLoc ws = true) (h2 : noTp ws = false) : callW sem env ws τ Q = wpC sem ws τ fun d t => Q (.d d) t := by
  unfold callW
  rw [if_pos h1, if_neg (by rw [h2]; exact Bool.false_ne_true)]
theorem w_sl {a : EvF} {lo hi : EvO} : wpE (eSl a lo hi) env τ Q = wpE a env τ fun w τ1 => wpO (lo env τ1) fun l => wpO (hi env l.2) fun h => wpO (gSl env h.2 w l.1 h.1) fun r => Q r h.2 := by
  unfold wpE eSl
  unfold wpO
  cases a env τ with
  | none => rfl
  | some p =>
    obtain ⟨x, t⟩ := p
    dsimp only
    cases lo env t with
    | none => rfl
    | some p =>
      obtain ⟨l, t⟩ := p
      dsimp only
      cases hi env t with
      | none => rfl
      | some p =>
        obtain ⟨h, t⟩ := p
        dsimp only
        cases gSl env t x l h <;> rfl
theorem o_none : oNone env τ = some (none, τ) := rfl
theorem w_osome {a : EvF} {Q : Option Int × Tp → Prop} : wpO (oSome a env τ) Q = wpE a env τ fun w τ1 => match w with
  | .d (.int i) => Q (some i, τ1)
  | _ => False := by
  unfold wpE oSome
  unfold wpO
  cases a env τ with
  | none => rfl
  | some p =>
    obtain ⟨x, t⟩ := p
    dsimp only
    cases x with
    | d x => cases x <;> rfl
    | _ => rfl
theorem w_lc {fi : EvI} {tg : Tg} {tt te : EvF} {vs : List Nat} : wpE (eLc fi tg tt te vs) env τ Q = wpI fi env τ fun its ws τ1 => (ws.all notTp = true ∧ its.length ≤ 1000000) ∧ wpO (lcGo tg tt te (wipeE env vs) its τ1) fun p => Q (.new p.1) p.2 := by
  unfold wpE wpI eLc
  unfold wpO
  cases fi env τ with
  | none => rfl
  | some p =>
    obtain ⟨its, ws, t⟩ := p
    dsimp only
    by_cases h : (ws.all notTp && decide (its.length ≤ 1000000)) = true
    · rw [if_pos h]
      rw [Bool.and_eq_true, decide_eq_true_iff] at h
      simp only [h, true_and, and_self]
      cases lcGo tg tt te (wipeE env vs) its t <;> rfl
    · rw [if_neg h]
      rw [Bool.and_eq_true, decide_eq_true_iff] at h
      simp only [h, false_and]
theorem w_iseq {a : EvF} {Q : List D → List W → Tp → Prop} : wpI (iSeq a) env τ Q = wpE a env τ fun w τ1 => wpO (seqOf env τ1 w) fun p => Q p.2 [w] τ1 := by
  unfold wpE wpI iSeq
  unfold wpO
  cases a env τ with
  | none => rfl
  | some p =>
    obtain ⟨w, t⟩ := p
    dsimp only
    cases seqOf env t w <;> rfl
theorem w_irng {f : EvA} {Q : List D → List W → Tp → Prop} : wpI (iRng f) env τ Q = wpA f env τ fun ws τ1 => match ws with
  | [.d (.int j)] => inR j = true ∧ Q (rangeD 0 j.toNat) [] τ1
  | [.d (.int i), .d (.int j)] => (inR i && inR j) = true ∧ Q (rangeD i (j - i).toNat) [] τ1
  | _ => False := by
  unfold wpA wpI iRng
  unfold wpO
  cases f env τ with
  | none => rfl
  | some p =>
    obtain ⟨ws, t⟩ := p
    dsimp only
    split
    · rename_i h
      split at h
      · rename_i j _ e
        cases e
        split at h
        · rename_i hj
          cases h
          simp [hj]
        · cases h
      · rename_i i j _ e
        cases e
        split at h
        · rename_i hj
          cases h
          simp [hj]
        · cases h
      · cases h
    · rename_i h
      split at h
      · rename_i j _ e
        cases e
        split at h
        · cases h
        · rename_i hj
          simp [hj]
      · rename_i i j _ e
        cases e
        split at h
        · cases h
        · rename_i hj
          simp [hj]
      · rename_i n1 n2
        split
        · rename_i j; exact absurd rfl (n1 j t)
        · rename_i i j; exact absurd rfl (n2 i j t)
        · rfl
end
section
variable {env : En} {τ : Tp} {Q : Out → Prop}
theorem s_next : wpS sNext env τ Q = Q (.nx env τ) := by
  unfold wpS wpO
  rfl
theorem s_seq {f g : EvS} : wpS (sSeq f g) env τ Q = wpS f env τ fun o => match o with
  | .nx e t => wpS g e t Q
  | .bk e t => Q (.bk e t)
  | .ct e t => Q (.ct e t)
  | .rt d t => Q (.rt d t) := by
  unfold wpS sSeq
  unfold wpO
  cases f env τ with
  | none => rfl
  | some o => cases o <;> rfl
theorem s_set {own : Bool} {i : Nat} {f : EvF} : wpS (sSet own i f) env τ Q = wpE f env τ fun w τ1 => wpO (setW own i w env) fun e => Q (.nx e τ1) := by
  unfold wpS wpE sSet
  unfold wpO
  cases f env τ with
  | none => rfl
  | some p =>
    obtain ⟨w, t⟩ := p
    dsimp only
    cases setW own i w env <;> rfl
theorem s_ret {f : EvF} : wpS (sRet f) env τ Q = wpE f env τ fun w τ1 => wpO (retD env w) fun d => Q (.rt d τ1) := by
  unfold wpS wpE sRet
  unfold wpO
  cases f env τ with
  | none => rfl
  | some p =>
    obtain ⟨w, t⟩ := p
    dsimp only
    cases retD env w <;> rfl
theorem s_if {c : EvF} {f g : EvS} : wpS (sIf c f g) env τ Q = wpE c env τ fun w τ1 => wpB w fun k => if k = true then wpS f env τ1 Q else wpS g env τ1 Q := by
  unfold wpS wpE sIf
  unfold wpO
  cases c env τ with
  | none => rfl
  | some p =>
    obtain ⟨x, t⟩ := p
    dsimp only
    cases x with
    | d x =>
      cases x with
      | bool k => cases k <;> rfl
      | _ => rfl
    | _ => rfl
theorem s_par {own : Nat → Bool} {is : List Nat} {f : EvA} : wpS (sPar own is f) env τ Q = wpA f env τ fun ws τ1 => wpO (setWs own is ws env) fun e => Q (.nx e τ1) := by
  unfold wpS wpA sPar
  unfold wpO
  cases f env τ with
  | none => rfl
  | some p =>
    obtain ⟨w, t⟩ := p
    dsimp only
    cases setWs own is w env <;> rfl
theorem s_tg {tg : Tg} {f : EvF} : wpS (sTg tg f) env τ Q = wpE f env τ fun w τ1 => wpO (toD w) fun d => wpO (bindT tg d env) fun e => Q (.nx e τ1) := by
  unfold wpS wpE sTg
  unfold wpO
  cases f env τ with
  | none => rfl
  | some p =>
    obtain ⟨w, t⟩ := p
    dsimp only
    cases toD w with
    | none => rfl
    | some d =>
      dsimp only
      cases bindT tg d env <;> rfl
theorem s_sub {i : Nat} {fi f : EvF} : wpS (sSub i fi f) env τ Q = wpE f env τ fun w τ1 => wpO (toD w) fun d => wpE fi env τ1 fun x τ2 => match x with
  | .d (.int k) => wpO (setSub i d k env τ2) Q
  | _ => False := by
  unfold wpS wpE sSub
  unfold wpO
  cases f env τ with
  | none => rfl
  | some p =>
    obtain ⟨w, t⟩ := p
    dsimp only
    cases toD w with
    | none => rfl
    | some d =>
      dsimp only
      cases fi env t with
      | none => rfl
      | some p =>
        obtain ⟨x, t⟩ := p
        cases x with
        | d x => cases x <;> rfl
        | _ => rfl
theorem s_for {fi : EvI} {tg : Tg} {body : EvS} : wpS (sFor fi tg body) env τ Q = wpI fi env τ fun its ws τ1 => ws.all notTp = true ∧ wpO (forGo tg body its (freezeS env ws) τ1) Q := by
  unfold wpS wpI sFor
  unfold wpO
  cases fi env τ with
  | none => rfl
  | some p =>
    obtain ⟨its, ws, t⟩ := p
    dsimp only
    by_cases h : ws.all notTp = true
    · rw [if_pos h]; simp [h]
    · rw [if_neg h]; simp [h]
theorem c_run {f : EvS} {N : List Str} {ws : List W} {Q : D → Tp → Prop} : wpC (runB f N) ws τ Q = wpS f (startE N ws) τ fun o => match o with
  | .rt d t => Q d t
  | .nx _ t => Q .none t
  | _ => False := by
  unfold wpC wpS runB
  unfold wpO
  cases f (startE N ws) τ with
  | none => rfl
  | some o => cases o <;> rfl
end

open PySem PySem.Spec PyProof.Rows L2
open PySem.W (minD maxD)
abbrev g_NOUGHT : D := .tuple [.int 0, .int 1]
abbrev g_ONE : D := .tuple [.int 1, .int 1]
abbrev g_HALF : D := .tuple [.int 1, .int 2]
abbrev g_MOST_STICKS : D := .int 5
abbrev g_FAR : D := .int 12
section
variable {env : En} {τ : Tp}
/-! ### more rules -/
theorem w_lc2 {fi : EvI} {tg : Tg} {tt : EvF} {fi1 : EvI} {tg1 : Tg} {tt1 te : EvF} {vs vs1 : List Nat} {Q : W → Tp → Prop} : wpE (eLc2 fi tg tt fi1 tg1 tt1 te vs vs1) env τ Q = wpI fi env τ fun its ws τ1 => (ws.all notTp = true ∧ its.length ≤ 1000) ∧ wpO (lc2Go tg tt fi1 tg1 tt1 te vs1 (wipeE env vs) its τ1) fun p => Q (.new p.1) p.2 := by
  unfold wpE wpI eLc2
  unfold wpO
  cases fi env τ with
  | none => rfl
  | some p =>
    obtain ⟨its, ws, t⟩ := p
    dsimp only
    by_cases h : (ws.all notTp && decide (its.length ≤ 1000)) = true
    · rw [if_pos h]
      rw [Bool.and_eq_true, decide_eq_true_iff] at h
      simp only [h, true_and, and_self]
      cases lc2Go tg tt fi1 tg1 tt1 te vs1 (wipeE env vs) its t <;> rfl
    · rw [if_neg h]
      rw [Bool.and_eq_true, decide_eq_true_iff] at h
      simp only [h, false_and]
theorem w_ienum {f : EvA} {Q : List D → List W → Tp → Prop} : wpI (iEnum f) env τ Q = wpA f env τ fun ws τ1 => match ws with
  | [w] => wpO (seqOf env τ1 w) fun p => Q (enumFrom 0 p.2) [w] τ1
  | _ => False := by
  unfold wpA wpI iEnum
  unfold wpO
  cases f env τ with
  | none => rfl
  | some p =>
    obtain ⟨ws, t⟩ := p
    match ws with
    | [] => rfl
    | [w] =>
      dsimp only
      cases seqOf env t w <;> rfl
    | _ :: _ :: _ => rfl
theorem w_izip {f : EvA} {Q : List D → List W → Tp → Prop} : wpI (iZip f) env τ Q = wpA f env τ fun ws τ1 => match ws with
  | [w, u] => wpO (seqOf env τ1 w) fun p => wpO (seqOf env τ1 u) fun r => Q (zipD p.2 r.2) [w, u] τ1
  | _ => False := by
  unfold wpA wpI iZip
  unfold wpO
  cases f env τ with
  | none => rfl
  | some p =>
    obtain ⟨ws, t⟩ := p
    match ws with
    | [] => rfl
    | [w] => rfl
    | [w, u] =>
      dsimp only
      cases seqOf env t w with
      | none => rfl
      | some p =>
        dsimp only
        cases seqOf env t u <;> rfl
    | _ :: _ :: _ :: _ => rfl
theorem s_app {i : Nat} {f : EvA} {Q : Out → Prop} : wpS (sApp i f) env τ Q = match env[i]? with
  | some (.own ds) => wpA f env τ fun ws τ1 => (match ws with
    | [.d d] => ds.length < 1000000 ∧ Q (.nx (env.set i (.own (ds ++ [d]))) τ1)
    | _ => False)
  | _ => False := by
  unfold wpS wpA sApp
  unfold wpO
  cases env[i]? with
  | none => rfl
  | some s =>
    cases s with
    | own ds =>
      dsimp only
      cases f env τ with
      | none => rfl
      | some p =>
        obtain ⟨ws, t⟩ := p
        match ws with
        | [] => rfl
        | [w] =>
          cases w with
          | d d =>
            dsimp only
            by_cases h : ds.length < 1000000
            · rw [if_pos h]; simp [h]
            · rw [if_neg h]; simp [h]
          | _ => rfl
        | w :: _ :: _ => cases w <;> rfl
    | _ => rfl
theorem s_drop {f : EvF} {Q : Out → Prop} : wpS (sDrop f) env τ Q = wpE f env τ fun _ τ1 => Q (.nx env τ1) := by
  unfold wpS wpE sDrop
  unfold wpO
  cases f env τ with
  | none => rfl
  | some p => rfl
/-! ### the operations at known shapes -/
theorem wpO_map {α β : Type} {f : α → β} {o : Option α} {Q : β → Prop} : wpO (o.map f) Q = wpO o fun a => Q (f a) := by with_unfolding_all cases o <;> rfl
theorem wpO_ite {α : Type} {c : Prop} [Decidable c] {a : α} {Q : α → Prop} : wpO (if c then some a else none) Q = (c ∧ Q a) := by
  by_cases h : c
  · rw [if_pos h]; simp [h, wpO]
  · rw [if_neg h]; simp [h, wpO]
theorem sq_t {ds : List D} : seqOf env τ (.d (.tuple ds)) = some (false, ds) := rfl
theorem sq_l {ds : List D} : seqOf env τ (.d (.list ds)) = some (true, ds) := rfl
theorem sq_n {ds : List D} : seqOf env τ (.new ds) = some (true, ds) := rfl
theorem sq_p : seqOf env τ .tp = some (true, τ) := rfl
theorem sq_o {i : Nat} : seqOf env τ (.loc i) = match env[i]? with | some (.own ds) => some (true, ds) | _ => none := rfl
theorem g_ix {w : W} {k : Int} : gIx env τ w (.d (.int k)) = (match seqOf env τ w with | some p => (atI p.2 k).map .d | none => none) := by
  unfold gIx
  cases seqOf env τ w <;> rfl
theorem g_add {i j : Int} : gAdd env τ (.d (.int i)) (.d (.int j)) = some (.d (.int (i + j))) := rfl
theorem g_sub {i j : Int} : gSub env τ (.d (.int i)) (.d (.int j)) = some (.d (.int (i - j))) := rfl
theorem g_lt {i j : Int} : gLt env τ (.d (.int i)) (.d (.int j)) = some (.d (.bool (decide (i < j)))) := rfl
theorem g_le {i j : Int} : gLe env τ (.d (.int i)) (.d (.int j)) = some (.d (.bool (decide (i ≤ j)))) := rfl
theorem g_gi {g : Int → Int → Option D} {i j : Int} : gI g env τ (.d (.int i)) (.d (.int j)) = (g i j).map .d := rfl
theorem g_mul {i j : Int} {Q : W → Prop} : wpO (gMul env τ (.d (.int i)) (.d (.int j))) Q = (i.natAbs.log2 + j.natAbs.log2 < 1000000 ∧ Q (.d (.int (i * j)))) := by
  unfold gMul
  rw [g_gi]
  unfold dMul
  by_cases h : i.natAbs.log2 + j.natAbs.log2 < 1000000
  · rw [if_pos h]; simp [h, wpO]
  · rw [if_neg h]; simp [h, wpO, gRep, gRepT, seqOf]
theorem eqv_int {i j : Int} : PyData.eqv (.int i) (.int j) = (i == j) := by unfold PyData.eqv; rfl
theorem eqv_str {i j : Str} : PyData.eqv (.str i) (.str j) = (i == j) := by unfold PyData.eqv; rfl
theorem g_eq_i {i j : Int} {n : Bool} : gEqD n env τ (.d (.int i)) (.d (.int j)) = some (.d (.bool (if n = true then !(i == j) else i == j))) := by
  have h : gEqD n env τ (.d (.int i)) (.d (.int j)) = some (.d (.bool (if n = true then !PyData.eqv (.int i) (.int j) else PyData.eqv (.int i) (.int j)))) := rfl
  rw [h, eqv_int]
theorem g_eq_s {i j : Str} {n : Bool} (h1 : SeqAt.shaped (.str i) = true) (h2 : SeqAt.shaped (.str j) = true) : gEqD n env τ (.d (.str i)) (.d (.str j)) = some (.d (.bool (if n = true then !(i == j) else i == j))) := by
  have h : gEqD n env τ (.d (.str i)) (.d (.str j)) = (if SeqAt.shaped (.str i) = true ∧ SeqAt.shaped (.str j) = true then some (.d (.bool (if n = true then !PyData.eqv (.str i) (.str j) else PyData.eqv (.str i) (.str j)))) else none) := rfl
  rw [h, eqv_str, if_pos ⟨h1, h2⟩]
theorem g_not {b : Bool} : gNot env τ (.d (.bool b)) = some (.d (.bool (!b))) := rfl
theorem g_neg {i : Int} : gNeg env τ (.d (.int i)) = some (.d (.int (-i))) := rfl
theorem g_abs {i : Int} : gAbs env τ (.d (.int i)) = some (.d (.int (if i < 0 then -i else i))) := rfl
theorem g_len {w : W} {ds : List D} {b : Bool} (h : seqOf env τ w = some (b, ds)) : gLen env τ w = some (.d (.int ds.length)) := by
  cases w with
  | d x => cases x <;> first | (cases h; rfl) | cases h
  | new ds => cases h; rfl
  | loc i =>
    show (match seqOf env τ (.loc i) with | some (_, ds) => some (W.d (.int ds.length)) | none => none) = _
    rw [h]
  | tp => cases h; rfl
theorem g_len_t {ds : List D} : gLen env τ (.d (.tuple ds)) = some (.d (.int ds.length)) := rfl
theorem g_len_l {ds : List D} : gLen env τ (.d (.list ds)) = some (.d (.int ds.length)) := rfl
theorem g_len_n {ds : List D} : gLen env τ (.new ds) = some (.d (.int ds.length)) := rfl
theorem g_len_p : gLen env τ .tp = some (.d (.int τ.length)) := rfl
theorem g_is_none {x : D} {n : Bool} : gIs n env τ (.d x) (.d .none) = some (.d (.bool (if n = true then !(match x with | .none => true | _ => false) else (match x with | .none => true | _ => false)))) := by
  cases x <;> rfl
theorem g_tuple {w : W} : gTuple env τ w = (match seqOf env τ w with | some p => some (.d (.tuple p.2)) | none => none) := by
  unfold gTuple
  cases seqOf env τ w <;> rfl
theorem g_list {w : W} : gList env τ w = (match seqOf env τ w with | some p => some (.new p.2) | none => none) := by
  unfold gList
  cases seqOf env τ w <;> rfl
theorem g_rev_t {ds : List D} : gRev env τ (.d (.tuple ds)) = some (.d (.tuple ds.reverse)) := rfl
theorem at_nat {α : Type} {l : List α} {k : Nat} (h : k < l.length) : atI l (k : Int) = l[k]? := by
  unfold atI ixN
  rw [if_pos (by omega), if_pos (by omega)]
  rfl
theorem at_0 {α : Type} {x : α} {r : List α} : atI (x :: r) 0 = some x := at_nat (k := 0) (by simp)
theorem at_1 {α : Type} {x y : α} {r : List α} : atI (x :: y :: r) 1 = some y := at_nat (k := 1) (by simp)
theorem at_2 {α : Type} {x y z : α} {r : List α} : atI (x :: y :: z :: r) 2 = some z := at_nat (k := 2) (by simp)
theorem at_3 {α : Type} {x y z u : α} {r : List α} : atI (x :: y :: z :: u :: r) 3 = some u := at_nat (k := 3) (by simp)
end
/-! ### step by step -/
section
variable {env : En} {τ : Tp} {Q : W → Tp → Prop} {R : Out → Prop}
def slV (i : Nat) : Sl → Option W
  | .d x => some (.d x)
  | .own _ => some (.loc i)
  | .tp => some .tp
  | .no => none
theorem k_var {i : Nat} {w : W} (e : (env[i]?).bind (slV i) = some w) (h : Q w τ) : wpE (eVar i) env τ Q := by
  rw [w_var]
  cases hs : env[i]? with
  | none => rw [hs] at e; cases e
  | some s =>
    rw [hs] at e
    cases s <;> first | (cases e; exact h) | cases e
theorem len_ok {ds : List D} (h : Nat.ble ds.length 60 = true) : ds.length ≤ sizeLine := Nat.le_trans (Nat.le_of_ble_eq_true h) (by decide)
theorem k_con {d : D} (h : Q (.d d) τ) : wpE (eCon d) env τ Q := by with_unfolding_all exact h
def seqK (g : EvS) (R : Out → Prop) : Out → Prop
  | .nx e t => wpS g e t R
  | .bk e t => R (.bk e t)
  | .ct e t => R (.ct e t)
  | .rt d t => R (.rt d t)
theorem k_seq {f g : EvS} (h : wpS f env τ (seqK g R)) : wpS (sSeq f g) env τ R := by with_unfolding_all
  rw [s_seq]
  exact wpO_mono h fun o q => by cases o <;> exact q
theorem k_nx {g : EvS} {e : En} {t : Tp} (h : wpS g e t R) : seqK g R (.nx e t) := h
theorem k_rt {g : EvS} {d : D} {t : Tp} (h : R (.rt d t)) : seqK g R (.rt d t) := h
theorem k_bk {g : EvS} {e : En} {t : Tp} (h : R (.bk e t)) : seqK g R (.bk e t) := h
theorem k_ct {g : EvS} {e : En} {t : Tp} (h : R (.ct e t)) : seqK g R (.ct e t) := h
def runK (Q : D → Tp → Prop) : Out → Prop
  | .rt d t => Q d t
  | .nx _ t => Q .none t
  | _ => False
theorem k_run {f : EvS} {N : List Str} {ws : List W} {Q : D → Tp → Prop} (h : wpS f (startE N ws) τ (runK Q)) : wpC (runB f N) ws τ Q := by with_unfolding_all
  rw [c_run]
  exact wpO_mono h fun o q => by cases o <;> exact q
theorem k_rrt {Q : D → Tp → Prop} {d : D} {t : Tp} (h : Q d t) : runK Q (.rt d t) := h
theorem k_rnx {Q : D → Tp → Prop} {e : En} {t : Tp} (h : Q .none t) : runK Q (.nx e t) := h
theorem k_bool {b : Bool} {Q : Bool → Prop} (h : Q b) : wpB (.d (.bool b)) Q := h
theorem k_some {α : Type} {o : Option α} {a : α} {Q : α → Prop} (e : o = some a) (h : Q a) : wpO o Q := wpO_of e h
theorem k_t {b : Bool} {A B : Prop} (e : b = true) (h : A) : (if b = true then A else B) := by rw [if_pos e]; exact h
theorem k_f {b : Bool} {A B : Prop} (e : b = false) (h : B) : (if b = true then A else B) := by rw [if_neg (by rw [e]; exact Bool.false_ne_true)]; exact h
theorem k_d {P : Prop} [Decidable P] {A B : Prop} (h1 : P → A) (h2 : ¬ P → B) : (if decide P = true then A else B) := by
  by_cases h : P
  · rw [if_pos (decide_eq_true h)]; exact h1 h
  · rw [if_neg (fun z => h (of_decide_eq_true z))]; exact h2 h
theorem k_nd {P : Prop} [Decidable P] {A B : Prop} (h1 : ¬ P → A) (h2 : P → B) : (if (!decide P) = true then A else B) := by
  by_cases h : P
  · rw [if_neg (by simp [h])]; exact h2 h
  · rw [if_pos (by simp [h])]; exact h1 h
theorem k_eq {α : Type} [BEq α] [LawfulBEq α] {a b : α} {A B : Prop} (h1 : a = b → A) (h2 : a ≠ b → B) : (if (a == b) = true then A else B) := by
  by_cases h : a = b
  · rw [if_pos (by simp [h])]; exact h1 h
  · rw [if_neg (by simp [h])]; exact h2 h
theorem k_neq {α : Type} [BEq α] [LawfulBEq α] {a b : α} {A B : Prop} (h1 : a ≠ b → A) (h2 : a = b → B) : (if (!(a == b)) = true then A else B) := by
  by_cases h : a = b
  · rw [if_neg (by simp [h])]; exact h2 h
  · rw [if_pos (by simp [h])]; exact h1 h
theorem k_mul {i j : Int} {Q : W → Prop} (h : i.natAbs.log2 + j.natAbs.log2 < 1000000) (q : Q (.d (.int (i * j)))) : wpO (gMul env τ (.d (.int i)) (.d (.int j))) Q := by
  rw [g_mul]
  exact ⟨h, q⟩
theorem k_mod {i j : Int} {Q : W → Prop} (h : 0 < j) (q : Q (.d (.int (i % j)))) : wpO (gI dMod env τ (.d (.int i)) (.d (.int j))) Q := by with_unfolding_all
  rw [g_gi]
  unfold dMod
  rw [if_pos h]
  exact q
theorem k_div {i j : Int} {Q : W → Prop} (h : 0 < j) (h2 : j.natAbs.log2 < 9000) (q : Q (.d (.int (i / j)))) : wpO (gI dDiv env τ (.d (.int i)) (.d (.int j))) Q := by with_unfolding_all
  rw [g_gi]
  unfold dDiv
  rw [if_pos ⟨h, h2⟩]
  exact q
theorem k_eqi {i j : Int} {Q : W → Prop} (q : Q (.d (.bool (i == j)))) : wpO (gEqD false env τ (.d (.int i)) (.d (.int j))) Q := by with_unfolding_all
  rw [g_eq_i]
  exact q
theorem k_nei {i j : Int} {Q : W → Prop} (q : Q (.d (.bool (!(i == j))))) : wpO (gEqD true env τ (.d (.int i)) (.d (.int j))) Q := by with_unfolding_all
  rw [g_eq_i]
  exact q
theorem k_calld {sem : Sem1} {ws : List W} (h1 : noLoc ws = true) (h2 : noTp ws = true) (q : wpC sem ws [] fun d _ => Q (.d d) τ) : callW sem env ws τ Q := by
  rw [call_d h1 h2]
  exact q
theorem k_callt {sem : Sem1} {ws : List W} (h1 : noLoc ws = true) (h2 : noTp ws = false) (q : wpC sem ws τ fun d t => Q (.d d) t) : callW sem env ws τ Q := by
  rw [call_t h1 h2]
  exact q
end
/-! iterators, comprehensions and loops by hand -/
section
variable {env : En} {τ : Tp}
def seqI (env : En) (τ : Tp) (w : W) (Q : List D → List W → Tp → Prop) : Prop := wpO (seqOf env τ w) fun p => Q p.2 [w] τ
theorem k_iseq {a : EvF} {Q : List D → List W → Tp → Prop} (h : wpE a env τ fun w τ1 => seqI env τ1 w Q) : wpI (iSeq a) env τ Q := by
  rw [w_iseq]
  exact h
theorem k_seqI {w : W} {b : Bool} {ds : List D} {Q : List D → List W → Tp → Prop} (e : seqOf env τ w = some (b, ds)) (h : Q ds [w] τ) : seqI env τ w Q := by with_unfolding_all
  unfold seqI
  rw [e]
  exact h
def enumI (env : En) (τ : Tp) (Q : List D → List W → Tp → Prop) : List W → Prop
  | [w] => wpO (seqOf env τ w) fun p => Q (enumFrom 0 p.2) [w] τ
  | _ => False
theorem k_ienum {f : EvA} {Q : List D → List W → Tp → Prop} (h : wpA f env τ fun ws τ1 => enumI env τ1 Q ws) : wpI (iEnum f) env τ Q := by with_unfolding_all
  rw [w_ienum]
  exact wpO_mono h fun p q => by
    obtain ⟨ws, t⟩ := p
    match ws, q with
    | [w], q => exact q
theorem k_enumI {w : W} {b : Bool} {ds : List D} {Q : List D → List W → Tp → Prop} (e : seqOf env τ w = some (b, ds)) (h : Q (enumFrom 0 ds) [w] τ) : enumI env τ Q [w] := by with_unfolding_all
  show wpO (seqOf env τ w) _
  rw [e]
  exact h
def zipI (env : En) (τ : Tp) (Q : List D → List W → Tp → Prop) : List W → Prop
  | [w, u] => wpO (seqOf env τ w) fun p => wpO (seqOf env τ u) fun r => Q (zipD p.2 r.2) [w, u] τ
  | _ => False
theorem k_izip {f : EvA} {Q : List D → List W → Tp → Prop} (h : wpA f env τ fun ws τ1 => zipI env τ1 Q ws) : wpI (iZip f) env τ Q := by with_unfolding_all
  rw [w_izip]
  exact wpO_mono h fun p q => by
    obtain ⟨ws, t⟩ := p
    match ws, q with
    | [w, u], q => exact q
theorem k_zipI {w u : W} {b c : Bool} {ds es : List D} {Q : List D → List W → Tp → Prop} (e : seqOf env τ w = some (b, ds)) (e2 : seqOf env τ u = some (c, es)) (h : Q (zipD ds es) [w, u] τ) : zipI env τ Q [w, u] := by with_unfolding_all
  show wpO (seqOf env τ w) _
  rw [e]
  show wpO (seqOf env τ u) _
  rw [e2]
  exact h
def rngI (Q : List D → List W → Tp → Prop) (τ1 : Tp) : List W → Prop
  | [.d (.int j)] => inR j = true ∧ Q (rangeD 0 j.toNat) [] τ1
  | [.d (.int i), .d (.int j)] => (inR i && inR j) = true ∧ Q (rangeD i (j - i).toNat) [] τ1
  | _ => False
theorem k_irng {f : EvA} {Q : List D → List W → Tp → Prop} (h : wpA f env τ fun ws τ1 => rngI Q τ1 ws) : wpI (iRng f) env τ Q := by with_unfolding_all
  rw [w_irng]
  exact wpO_mono h fun p q => by
    obtain ⟨ws, t⟩ := p
    dsimp only at q ⊢
    unfold rngI at q
    split at q
    · exact q
    · exact q
    · exact q.elim
theorem k_rng1 {j : Int} {Q : List D → List W → Tp → Prop} (h1 : -(2 ^ 62) ≤ j) (h2 : j < 2 ^ 62) (h : Q (rangeD 0 j.toNat) [] τ) : rngI Q τ [.d (.int j)] := ⟨by unfold inR; simp only [Bool.and_eq_true, decide_eq_true_eq]; exact ⟨h1, h2⟩, h⟩
theorem k_rng2 {i j : Int} {Q : List D → List W → Tp → Prop} (h1 : -(2 ^ 62) ≤ i) (h2 : i < 2 ^ 62) (h3 : -(2 ^ 62) ≤ j) (h4 : j < 2 ^ 62) (h : Q (rangeD i (j - i).toNat) [] τ) : rngI Q τ [.d (.int i), .d (.int j)] := ⟨by unfold inR; simp only [Bool.and_eq_true, decide_eq_true_eq]; exact ⟨⟨h1, h2⟩, h3, h4⟩, h⟩
theorem k_lc {fi : EvI} {tg : Tg} {tt te : EvF} {vs : List Nat} {Q : W → Tp → Prop} (h : wpI fi env τ fun its ws τ1 => ws.all notTp = true ∧ its.length ≤ 1000000 ∧ wpO (lcGo tg tt te (wipeE env vs) its τ1) fun p => Q (.new p.1) p.2) : wpE (eLc fi tg tt te vs) env τ Q := by with_unfolding_all
  rw [w_lc]
  exact wpO_mono h fun p q => ⟨⟨q.1, q.2.1⟩, q.2.2⟩
theorem k_lc2 {fi : EvI} {tg : Tg} {tt : EvF} {fi1 : EvI} {tg1 : Tg} {tt1 te : EvF} {vs vs1 : List Nat} {Q : W → Tp → Prop} (h : wpI fi env τ fun its ws τ1 => ws.all notTp = true ∧ its.length ≤ 1000 ∧ wpO (lc2Go tg tt fi1 tg1 tt1 te vs1 (wipeE env vs) its τ1) fun p => Q (.new p.1) p.2) : wpE (eLc2 fi tg tt fi1 tg1 tt1 te vs vs1) env τ Q := by with_unfolding_all
  rw [w_lc2]
  exact wpO_mono h fun p q => ⟨⟨q.1, q.2.1⟩, q.2.2⟩
theorem k_notTp {ws : List W} {n : Nat} {its : List D} {P : Prop} (h1 : ws.all notTp = true) (h2 : Nat.ble its.length 60 = true) (hn : Nat.ble 60 n = true) (h : P) : ws.all notTp = true ∧ its.length ≤ n ∧ P := ⟨h1, Nat.le_trans (Nat.le_of_ble_eq_true h2) (Nat.le_of_ble_eq_true hn), h⟩
theorem lc_nil {tg : Tg} {tt te : EvF} {Q : List D × Tp → Prop} (h : Q ([], τ)) : wpO (lcGo tg tt te env [] τ) Q := by with_unfolding_all exact h
theorem lc_cons {tg : Tg} {tt te : EvF} {d : D} {r : List D} {Q : List D × Tp → Prop} (h : wpO (bindT tg d env) fun e => wpE tt e τ fun w τ1 => wpB w fun b => if b = true then wpE te e τ1 fun w τ2 => wpO (toD w) fun x => wpO (lcGo tg tt te env r τ2) fun p => Q (x :: p.1, p.2) else wpO (lcGo tg tt te env r τ1) Q) :
    wpO (lcGo tg tt te env (d :: r) τ) Q := by with_unfolding_all
  obtain ⟨e, b1, q⟩ := wpO_ex h
  obtain ⟨⟨w, τ1⟩, b2, q⟩ := wpO_ex q
  unfold lcGo
  rw [b1]
  dsimp only at q ⊢
  rw [b2]
  cases w with
  | d x =>
    cases x with
    | bool b =>
      change (if b = true then _ else _) at q
      cases b with
      | true =>
        rw [if_pos rfl] at q
        obtain ⟨⟨w, τ2⟩, b3, q⟩ := wpO_ex q
        dsimp only at q ⊢
        rw [b3]
        obtain ⟨x, b4, q⟩ := wpO_ex q
        dsimp only
        rw [b4]
        obtain ⟨⟨l, τ3⟩, b5, q⟩ := wpO_ex q
        dsimp only at q ⊢
        rw [b5]
        exact q
      | false =>
        rw [if_neg Bool.false_ne_true] at q
        exact q
    | _ => exact q.elim
  | _ => exact q.elim
theorem k_yes {Q : W → Tp → Prop} (h : Q (.d (.bool true)) τ) : wpE tYesF env τ Q := by with_unfolding_all exact h
def forK (tg : Tg) (body : EvS) (r : List D) (R : Out → Prop) : Out → Prop
  | .nx e t => wpO (forGo tg body r e t) R
  | .ct e t => wpO (forGo tg body r e t) R
  | .bk e t => R (.nx e t)
  | .rt d t => R (.rt d t)
theorem for_nil {tg : Tg} {body : EvS} {R : Out → Prop} (h : R (.nx env τ)) : wpO (forGo tg body [] env τ) R := by with_unfolding_all exact h
theorem for_cons {tg : Tg} {body : EvS} {d : D} {r : List D} {R : Out → Prop} (h : wpO (bindT tg d env) fun e => wpS body e τ (forK tg body r R)) : wpO (forGo tg body (d :: r) env τ) R := by with_unfolding_all
  obtain ⟨e, b1, q⟩ := wpO_ex h
  obtain ⟨o, b2, q⟩ := wpO_ex q
  unfold forGo
  rw [b1]
  dsimp only
  rw [b2]
  cases o <;> exact q
theorem k_fnx {tg : Tg} {body : EvS} {r : List D} {R : Out → Prop} {e : En} {t : Tp} (h : wpO (forGo tg body r e t) R) : forK tg body r R (.nx e t) := h
theorem k_frt {tg : Tg} {body : EvS} {r : List D} {R : Out → Prop} {d : D} {t : Tp} (h : R (.rt d t)) : forK tg body r R (.rt d t) := h
def whK (I : En → Tp → Prop) (R : Out → Prop) : Out → Prop
  | .nx e t => I e t
  | .ct e t => I e t
  | .bk e t => R (.nx e t)
  | .rt d t => R (.rt d t)
theorem k_wnx {I : En → Tp → Prop} {R : Out → Prop} {e : En} {t : Tp} (h : I e t) : whK I R (.nx e t) := h
theorem k_wrt {I : En → Tp → Prop} {R : Out → Prop} {d : D} {t : Tp} (h : R (.rt d t)) : whK I R (.rt d t) := h
theorem k_in2 {x y z : Int} {Q : W → Prop} (q : Q (.d (.bool (y == x || z == x)))) : wpO (gIn false env τ (.d (.int x)) (.d (.tuple [.int y, .int z]))) Q := by with_unfolding_all
  have h : gIn false env τ (.d (.int x)) (.d (.tuple [.int y, .int z])) = some (.d (.bool (PyData.eqv (.int y) (.int x) || (PyData.eqv (.int z) (.int x) || false)))) := rfl
  rw [h, eqv_int, eqv_int, Bool.or_false]
  exact q
theorem k_eqs {x y : Str} {Q : W → Prop} (h1 : SeqAt.shaped (.str x) = true) (h2 : SeqAt.shaped (.str y) = true) (q : Q (.d (.bool (x == y)))) : wpO (gEqD false env τ (.d (.str x)) (.d (.str y))) Q := by with_unfolding_all
  rw [g_eq_s h1 h2]
  exact q
theorem k_or {a b : Bool} {A B : Prop} (h1 : a = true ∨ b = true → A) (h2 : a = false → b = false → B) : (if (a || b) = true then A else B) := by
  cases a <;> cases b
  · rw [if_neg (by simp)]; exact h2 rfl rfl
  · rw [if_pos (by simp)]; exact h1 (.inr rfl)
  · rw [if_pos (by simp)]; exact h1 (.inl rfl)
  · rw [if_pos (by simp)]; exact h1 (.inl rfl)
end
/-! the same by form alone -/
section
variable {env env' : En} {τ : Tp} {Q : W → Tp → Prop} {R : Out → Prop}
inductive GetAt : Nat → En → Sl → Prop
  | zero {s : Sl} {r : En} : GetAt 0 (s :: r) s
  | succ {i : Nat} {a s : Sl} {r : En} : GetAt i r s → GetAt (i + 1) (a :: r) s
inductive SetAt (s : Sl) : Nat → En → En → Prop
  | zero {a : Sl} {r : En} : SetAt s 0 (a :: r) (s :: r)
  | succ {i : Nat} {a : Sl} {r r' : En} : SetAt s i r r' → SetAt s (i + 1) (a :: r) (a :: r')
theorem GetAt.eq {i : Nat} {s : Sl} (h : GetAt i env s) : env[i]? = some s := by
  induction h with
  | zero => rfl
  | succ _ ih => simpa using ih
theorem SetAt.eq {i : Nat} {s : Sl} (h : SetAt s i env env') : env' = env.set i s ∧ i < env.length := by
  induction h with
  | zero => exact ⟨rfl, by simp⟩
  | succ _ ih => exact ⟨by rw [ih.1]; rfl, by simp; exact ih.2⟩
theorem k_vd {i : Nat} {x : D} (h : GetAt i env (.d x)) (q : Q (.d x) τ) : wpE (eVar i) env τ Q := k_var (w := .d x) (by rw [h.eq]; rfl) q
theorem k_vo {i : Nat} {x : List D} (h : GetAt i env (.own x)) (q : Q (.loc i) τ) : wpE (eVar i) env τ Q := k_var (w := .loc i) (by rw [h.eq]; rfl) q
theorem k_vt {i : Nat} (h : GetAt i env .tp) (q : Q .tp τ) : wpE (eVar i) env τ Q := k_var (w := .tp) (by rw [h.eq]; rfl) q
theorem k_f2 {g : G2} {a b : EvF} (h : wpE a env τ fun x τ1 => wpE b env τ1 fun y τ2 => wpO (g env τ2 x y) fun w => Q w τ2) : wpE (f2 g a b) env τ Q := by rw [w_f2]; exact h
theorem k_f1 {g : G1} {a : EvF} (h : wpE a env τ fun x τ1 => wpO (g env τ1 x) fun w => Q w τ1) : wpE (f1 g a) env τ Q := by rw [w_f1]; exact h
theorem k_and {a b : EvF} (h : wpE a env τ fun x τ1 => wpB x fun k => if k = true then wpE b env τ1 Q else Q (.d (.bool false)) τ1) : wpE (eAnd a b) env τ Q := by rw [w_and]; exact h
theorem k_or' {a b : EvF} (h : wpE a env τ fun x τ1 => wpB x fun k => if k = true then Q (.d (.bool true)) τ1 else wpE b env τ1 Q) : wpE (eOr a b) env τ Q := by rw [w_or]; exact h
theorem k_ife {c a b : EvF} (h : wpE c env τ fun x τ1 => wpB x fun k => if k = true then wpE a env τ1 Q else wpE b env τ1 Q) : wpE (eIf c a b) env τ Q := by rw [w_if]; exact h
theorem k_chn {g g' : G2} {a b c : EvF} (h : wpE a env τ fun x τ1 => wpE b env τ1 fun y τ2 => wpO (g env τ2 x y) fun w => wpB w fun k => if k = true then wpE c env τ2 fun z τ3 => wpO (g' env τ3 y z) fun w => Q w τ3 else Q (.d (.bool false)) τ2) : wpE (eChn g g' a b c) env τ Q := by rw [w_chn]; exact h
def consK (r : EvA) (env : En) (Q : List W → Tp → Prop) (w : W) (τ1 : Tp) : Prop := wpA r env τ1 fun xs τ2 => Q (nf w :: xs) τ2
theorem k_acons {a : EvF} {r : EvA} {Q : List W → Tp → Prop} (h : wpE a env τ (consK r env Q)) : wpA (aCons a r) env τ Q := by rw [w_acons]; exact h
theorem k_ckd {r : EvA} {Q : List W → Tp → Prop} {x : D} (h : wpA r env τ fun xs τ2 => Q (.d x :: xs) τ2) : consK r env Q (.d x) τ := h
theorem k_ckn {r : EvA} {Q : List W → Tp → Prop} {x : List D} (h : wpA r env τ fun xs τ2 => Q (.d (.list x) :: xs) τ2) : consK r env Q (.new x) τ := h
theorem k_ckt {r : EvA} {Q : List W → Tp → Prop} (h : wpA r env τ fun xs τ2 => Q (.tp :: xs) τ2) : consK r env Q .tp τ := h
theorem k_cko {r : EvA} {Q : List W → Tp → Prop} {i : Nat} (h : wpA r env τ fun xs τ2 => Q (.loc i :: xs) τ2) : consK r env Q (.loc i) τ := h
theorem k_anil {Q : List W → Tp → Prop} (h : Q [] τ) : wpA aNil env τ Q := by with_unfolding_all exact h
theorem k_dcons {a : EvF} {r : EvA} {Q : List W → Tp → Prop} (h : wpE a env τ fun x τ1 => wpA r env τ1 fun xs τ2 => Q (x :: xs) τ2) : wpA (dCons a r) env τ Q := by rw [w_dcons]; exact h
def tupK (Q : W → Tp → Prop) (ws : List W) (τ : Tp) : Prop := wpO (dsOf ws) fun ds => ds.length ≤ sizeLine ∧ Q (.d (.tuple ds)) τ
def lstK (Q : W → Tp → Prop) (ws : List W) (τ : Tp) : Prop := wpO (dsOf ws) fun ds => ds.length ≤ sizeLine ∧ Q (.new ds) τ
theorem k_tup {f : EvA} (h : wpA f env τ (tupK Q)) : wpE (eTup f) env τ Q := by rw [w_tup]; exact h
theorem k_lst {f : EvA} (h : wpA f env τ (lstK Q)) : wpE (eLst f) env τ Q := by rw [w_lst]; exact h
theorem k_tup0 (h : Q (.d (.tuple [])) τ) : tupK Q [] τ := by with_unfolding_all exact ⟨by decide, h⟩
theorem k_tup1 {a : D} (h : Q (.d (.tuple [a])) τ) : tupK Q [.d a] τ := by with_unfolding_all exact ⟨len_ok rfl, h⟩
theorem k_tup2 {a b : D} (h : Q (.d (.tuple [a, b])) τ) : tupK Q [.d a, .d b] τ := by with_unfolding_all exact ⟨len_ok rfl, h⟩
theorem k_tup3 {a b c : D} (h : Q (.d (.tuple [a, b, c])) τ) : tupK Q [.d a, .d b, .d c] τ := by with_unfolding_all exact ⟨len_ok rfl, h⟩
theorem k_tup4 {a b c d : D} (h : Q (.d (.tuple [a, b, c, d])) τ) : tupK Q [.d a, .d b, .d c, .d d] τ := by with_unfolding_all exact ⟨len_ok rfl, h⟩
theorem k_lst0 (h : Q (.new []) τ) : lstK Q [] τ := by with_unfolding_all exact ⟨by decide, h⟩
theorem k_lst1 {a : D} (h : Q (.new [a]) τ) : lstK Q [.d a] τ := by with_unfolding_all exact ⟨len_ok rfl, h⟩
theorem k_lst2 {a b : D} (h : Q (.new [a, b]) τ) : lstK Q [.d a, .d b] τ := by with_unfolding_all exact ⟨len_ok rfl, h⟩
theorem k_lst3 {a b c : D} (h : Q (.new [a, b, c]) τ) : lstK Q [.d a, .d b, .d c] τ := by with_unfolding_all exact ⟨len_ok rfl, h⟩
theorem k_lst4 {a b c d : D} (h : Q (.new [a, b, c, d]) τ) : lstK Q [.d a, .d b, .d c, .d d] τ := by with_unfolding_all exact ⟨len_ok rfl, h⟩
theorem k_tupn {ws : List W} {ds : List D} (e : dsOf ws = some ds) (h1 : ds.length ≤ sizeLine) (h : Q (.d (.tuple ds)) τ) : tupK Q ws τ := wpO_of e ⟨h1, h⟩
theorem k_lstn {ws : List W} {ds : List D} (e : dsOf ws = some ds) (h1 : ds.length ≤ sizeLine) (h : Q (.new ds) τ) : lstK Q ws τ := wpO_of e ⟨h1, h⟩
theorem k_call {sem : Sem1} {f : EvA} (h : wpA f env τ fun ws τ1 => callW sem env ws τ1 Q) : wpE (eCall sem f) env τ Q := by rw [w_call]; exact h
theorem k_set {own : Bool} {i : Nat} {f : EvF} (h : wpE f env τ fun w τ1 => wpO (setW own i w env) fun e => R (.nx e τ1)) : wpS (sSet own i f) env τ R := by rw [s_set]; exact h
theorem setW_d {own : Bool} {i : Nat} {x : D} (h : SetAt (.d x) i env env') : setW own i (.d x) env = some env' := by
  rw [h.eq.1]
  unfold setW
  exact if_pos h.eq.2
theorem setW_n {own : Bool} {i : Nat} {x : List D} (ho : own = true) (h : SetAt (.own x) i env env') : setW own i (.new x) env = some env' := by
  rw [h.eq.1, ho]
  unfold setW
  exact if_pos h.eq.2
theorem setW_f {own : Bool} {i : Nat} {x : List D} (ho : own = false) (h : SetAt (.d (.list x)) i env env') : setW own i (.new x) env = some env' := by
  rw [h.eq.1, ho]
  unfold setW
  exact if_pos h.eq.2
theorem k_setd {own : Bool} {i : Nat} {x : D} {Q : En → Prop} (h : SetAt (.d x) i env env') (q : Q env') : wpO (setW own i (.d x) env) Q := wpO_of (setW_d h) q
theorem k_setn {i : Nat} {x : List D} {Q : En → Prop} (h : SetAt (.own x) i env env') (q : Q env') : wpO (setW true i (.new x) env) Q := wpO_of (setW_n rfl h) q
theorem k_setf {i : Nat} {x : List D} {Q : En → Prop} (h : SetAt (.d (.list x)) i env env') (q : Q env') : wpO (setW false i (.new x) env) Q := wpO_of (setW_f rfl h) q
theorem k_ret {f : EvF} (h : wpE f env τ fun w τ1 => wpO (retD env w) fun d => R (.rt d τ1)) : wpS (sRet f) env τ R := by rw [s_ret]; exact h
theorem k_retd {x : D} {Q : D → Prop} (q : Q x) : wpO (retD env (.d x)) Q := by with_unfolding_all exact q
theorem k_retn {x : List D} {Q : D → Prop} (q : Q (.list x)) : wpO (retD env (.new x)) Q := by with_unfolding_all exact q
theorem k_reto {i : Nat} {x : List D} {Q : D → Prop} (h : GetAt i env (.own x)) (q : Q (.list x)) : wpO (retD env (.loc i)) Q := by with_unfolding_all
  show wpO (match env[i]? with | some (.own ds) => some (PyData.list ds) | _ => none) Q
  rw [h.eq]
  exact q
theorem k_sif {c : EvF} {f g : EvS} (h : wpE c env τ fun w τ1 => wpB w fun k => if k = true then wpS f env τ1 R else wpS g env τ1 R) : wpS (sIf c f g) env τ R := by rw [s_if]; exact h
theorem k_par {own : Nat → Bool} {is : List Nat} {f : EvA} (h : wpA f env τ fun ws τ1 => wpO (setWs own is ws env) fun e => R (.nx e τ1)) : wpS (sPar own is f) env τ R := by rw [s_par]; exact h
theorem k_ws0 {own : Nat → Bool} {Q : En → Prop} (q : Q env) : wpO (setWs own [] [] env) Q := by with_unfolding_all exact q
theorem wsc {own : Nat → Bool} {i : Nat} {is : List Nat} {w : W} {ws : List W} {Q : En → Prop} (e : setW (own i) i w env = some env') (q : wpO (setWs own is ws env') Q) : wpO (setWs own (i :: is) (w :: ws) env) Q := by
  unfold setWs
  rw [e]
  exact q
theorem k_wsd {own : Nat → Bool} {i : Nat} {is : List Nat} {x : D} {ws : List W} {Q : En → Prop} (h : SetAt (.d x) i env env') (q : wpO (setWs own is ws env') Q) : wpO (setWs own (i :: is) (.d x :: ws) env) Q := wsc (setW_d h) q
theorem k_wsn {own : Nat → Bool} {i : Nat} {is : List Nat} {x : List D} {ws : List W} {Q : En → Prop} (ho : own i = true) (h : SetAt (.own x) i env env') (q : wpO (setWs own is ws env') Q) : wpO (setWs own (i :: is) (.new x :: ws) env) Q := wsc (setW_n ho h) q
theorem k_wsf {own : Nat → Bool} {i : Nat} {is : List Nat} {x : List D} {ws : List W} {Q : En → Prop} (ho : own i = false) (h : SetAt (.d (.list x)) i env env') (q : wpO (setWs own is ws env') Q) : wpO (setWs own (i :: is) (.new x :: ws) env) Q := wsc (setW_f ho h) q
theorem k_tg {tg : Tg} {f : EvF} (h : wpE f env τ fun w τ1 => wpO (toD w) fun d => wpO (bindT tg d env) fun e => R (.nx e τ1)) : wpS (sTg tg f) env τ R := by rw [s_tg]; exact h
theorem k_tod {x : D} {Q : D → Prop} (q : Q x) : wpO (toD (.d x)) Q := by with_unfolding_all exact q
theorem k_ton {x : List D} {Q : D → Prop} (q : Q (.list x)) : wpO (toD (.new x)) Q := by with_unfolding_all exact q
theorem k_bnm {i : Nat} {d : D} {Q : En → Prop} (h : SetAt (.d d) i env env') (q : Q env') : wpO (bindT (.nm i) d env) Q := by
  refine wpO_of (a := env') ?_ q
  rw [h.eq.1]
  unfold bindT
  exact if_pos h.eq.2
theorem k_btu {l : Tg} {ds : List D} {Q : En → Prop} (q : wpO (bindTs l ds env) Q) : wpO (bindT (.tu l) (.tuple ds) env) Q := by unfold bindT; exact q
theorem k_btl {l : Tg} {ds : List D} {Q : En → Prop} (q : wpO (bindTs l ds env) Q) : wpO (bindT (.tu l) (.list ds) env) Q := by unfold bindT; exact q
theorem k_bnl {Q : En → Prop} (q : Q env) : wpO (bindTs .nl [] env) Q := by with_unfolding_all unfold bindTs; exact q
theorem k_bcn {a b : Tg} {d : D} {ds : List D} {Q : En → Prop} (q : wpO (bindT a d env) fun e => wpO (bindTs b ds e) Q) : wpO (bindTs (.cn a b) (d :: ds) env) Q := by with_unfolding_all
  unfold bindTs
  cases h : bindT a d env with
  | none => rw [h] at q; exact q.elim
  | some e => rw [h] at q; exact q
theorem k_ix0 {x : D} {r : List D} {Q : W → Prop} (q : Q (.d x)) : wpO (gIx env τ (.d (.tuple (x :: r))) (.d (.int 0))) Q := by with_unfolding_all
  rw [g_ix, sq_t]
  show wpO ((atI (x :: r) 0).map W.d) Q
  rw [at_0]
  exact q
theorem k_ix1 {x y : D} {r : List D} {Q : W → Prop} (q : Q (.d y)) : wpO (gIx env τ (.d (.tuple (x :: y :: r))) (.d (.int 1))) Q := by with_unfolding_all
  rw [g_ix, sq_t]
  show wpO ((atI (x :: y :: r) 1).map W.d) Q
  rw [at_1]
  exact q
theorem k_add {i j : Int} {Q : W → Prop} (q : Q (.d (.int (i + j)))) : wpO (gAdd env τ (.d (.int i)) (.d (.int j))) Q := by with_unfolding_all exact q
theorem k_sub {i j : Int} {Q : W → Prop} (q : Q (.d (.int (i - j)))) : wpO (gSub env τ (.d (.int i)) (.d (.int j))) Q := by with_unfolding_all exact q
theorem k_lt {i j : Int} {Q : W → Prop} (q : Q (.d (.bool (decide (i < j))))) : wpO (gLt env τ (.d (.int i)) (.d (.int j))) Q := by with_unfolding_all exact q
theorem k_le {i j : Int} {Q : W → Prop} (q : Q (.d (.bool (decide (i ≤ j))))) : wpO (gLe env τ (.d (.int i)) (.d (.int j))) Q := by with_unfolding_all exact q
theorem k_gt {i j : Int} {Q : W → Prop} (q : Q (.d (.bool (decide (j < i))))) : wpO (gGt env τ (.d (.int i)) (.d (.int j))) Q := by with_unfolding_all exact q
theorem k_ge {i j : Int} {Q : W → Prop} (q : Q (.d (.bool (decide (j ≤ i))))) : wpO (gGe env τ (.d (.int i)) (.d (.int j))) Q := by with_unfolding_all exact q
theorem k_not {b : Bool} {Q : W → Prop} (q : Q (.d (.bool (!b)))) : wpO (gNot env τ (.d (.bool b))) Q := by with_unfolding_all exact q
theorem k_neg {i : Int} {Q : W → Prop} (q : Q (.d (.int (-i)))) : wpO (gNeg env τ (.d (.int i))) Q := by with_unfolding_all exact q
theorem k_abs {i : Int} {Q : W → Prop} (q : Q (.d (.int i.natAbs))) : wpO (gAbs env τ (.d (.int i))) Q := by with_unfolding_all
  have e : (if i < 0 then -i else i) = (i.natAbs : Int) := by split <;> omega
  rw [g_abs, e]
  exact q
theorem k_lent {ds : List D} {Q : W → Prop} (q : Q (.d (.int ds.length))) : wpO (gLen env τ (.d (.tuple ds))) Q := by with_unfolding_all exact q
theorem k_lenl {ds : List D} {Q : W → Prop} (q : Q (.d (.int ds.length))) : wpO (gLen env τ (.d (.list ds))) Q := by with_unfolding_all exact q
theorem k_sfor {fi : EvI} {tg : Tg} {body : EvS} (h : wpI fi env τ fun its ws τ1 => ws.all notTp = true ∧ wpO (forGo tg body its (freezeS env ws) τ1) R) : wpS (sFor fi tg body) env τ R := by rw [s_for]; exact h
theorem k_for0 {its : List D} {tg : Tg} {body : EvS} (h : wpO (forGo tg body its env τ) R) : [].all notTp = true ∧ wpO (forGo tg body its (freezeS env []) τ) R := ⟨rfl, h⟩
theorem k_for1 {its : List D} {tg : Tg} {body : EvS} {x : D} (h : wpO (forGo tg body its env τ) R) : [W.d x].all notTp = true ∧ wpO (forGo tg body its (freezeS env [W.d x]) τ) R := ⟨rfl, h⟩
theorem k_forn {its : List D} {tg : Tg} {body : EvS} {x : List D} (h : wpO (forGo tg body its env τ) R) : [W.new x].all notTp = true ∧ wpO (forGo tg body its (freezeS env [W.new x]) τ) R := ⟨rfl, h⟩
theorem k_foro {its : List D} {tg : Tg} {body : EvS} {i : Nat} {x : List D} (hg : GetAt i env (.own x)) (hs : SetAt (.d (.list x)) i env env') (h : wpO (forGo tg body its env' τ) R) : [W.loc i].all notTp = true ∧ wpO (forGo tg body its (freezeS env [W.loc i]) τ) R := by
  refine ⟨rfl, ?_⟩
  have e : freezeS env [W.loc i] = env' := by
    show (match env[i]? with | some (.own ds) => freezeS (env.set i (.d (.list ds))) [] | _ => freezeS env []) = _
    rw [hg.eq, hs.eq.1]
    rfl
  rw [e]
  exact h
def appK (i : Nat) (ds : List D) (env : En) (R : Out → Prop) : List W → Tp → Prop
  | [.d d], τ1 => ds.length < 1000000 ∧ R (.nx (env.set i (.own (ds ++ [d]))) τ1)
  | _, _ => False
theorem k_app {i : Nat} {f : EvA} {ds : List D} (hg : GetAt i env (.own ds)) (h : wpA f env τ (appK i ds env R)) : wpS (sApp i f) env τ R := by with_unfolding_all
  rw [s_app, hg.eq]
  exact wpO_mono h fun p q => by
    obtain ⟨ws, t⟩ := p
    match ws, q with
    | [.d d], q => exact q
theorem k_appd {i : Nat} {ds : List D} {d : D} (hl : ds.length < 1000000) (h : SetAt (.own (ds ++ [d])) i env env') (q : R (.nx env' τ)) : appK i ds env R [.d d] τ := by
  refine ⟨hl, ?_⟩
  rw [← h.eq.1]
  exact q
inductive StE : List Str → List W → En → Prop
  | nil : StE [] [] []
  | no {x : Str} {N : List Str} {env : En} : StE N [] env → StE (x :: N) [] (.no :: env)
  | d {x : Str} {N : List Str} {v : D} {ws : List W} {env : En} : StE N ws env → StE (x :: N) (.d v :: ws) (.d v :: env)
  | tp {x : Str} {N : List Str} {ws : List W} {env : En} : StE N ws env → StE (x :: N) (.tp :: ws) (.tp :: env)
theorem StE.eq {N : List Str} {ws : List W} {env : En} (h : StE N ws env) : startE N ws = env := by
  induction h with
  | nil => rfl
  | no _ ih =>
    unfold startE at ih ⊢
    simp [List.replicate_succ] at ih ⊢
    exact ih
  | d _ ih =>
    unfold startE at ih ⊢
    simp [toSl] at ih ⊢
    exact ih
  | tp _ ih =>
    unfold startE at ih ⊢
    simp [toSl] at ih ⊢
    exact ih
theorem k_run' {f : EvS} {N : List Str} {ws : List W} {Q : D → Tp → Prop} (e : StE N ws env) (h : wpS f env τ (runK Q)) : wpC (runB f N) ws τ Q := k_run (by rw [e.eq]; exact h)
inductive WpE (env : En) : List Nat → En → Prop
  | nil : WpE env [] env
  | cons {v : Nat} {vs : List Nat} {e e' : En} : WpE env vs e → SetAt .no v e e' → WpE env (v :: vs) e'
theorem WpE.eq {vs : List Nat} (h : WpE env vs env') : wipeE env vs = env' := by
  induction h with
  | nil => rfl
  | cons _ s ih =>
    unfold wipeE
    rw [ih, s.eq.1]
def lcW (tg : Tg) (tt te : EvF) (env : En) (its : List D) (τ : Tp) (Q : List D → Tp → Prop) : Prop := wpO (lcGo tg tt te env its τ) fun p => Q p.1 p.2
def lcK (tg : Tg) (tt te : EvF) (env : En) (Q : W → Tp → Prop) (its : List D) (ws : List W) (τ1 : Tp) : Prop := ws.all notTp = true ∧ its.length ≤ 1000000 ∧ lcW tg tt te env its τ1 fun l t => Q (.new l) t
theorem k_lc' {fi : EvI} {tg : Tg} {tt te : EvF} {vs : List Nat} (hw : WpE env vs env') (h : wpI fi env τ (lcK tg tt te env' Q)) : wpE (eLc fi tg tt te vs) env τ Q := by
  refine k_lc ?_
  rw [hw.eq]
  exact h
theorem k_lcK {tg : Tg} {tt te : EvF} {its : List D} {ws : List W} (h1 : ws.all notTp = true) (h2 : its.length ≤ 1000000) (h : lcW tg tt te env its τ fun l t => Q (.new l) t) : lcK tg tt te env Q its ws τ := ⟨h1, h2, h⟩
theorem lcw_nil {tg : Tg} {tt te : EvF} {Q : List D → Tp → Prop} (h : Q [] τ) : lcW tg tt te env [] τ Q := by with_unfolding_all exact h
theorem lcw_cons {tg : Tg} {tt te : EvF} {d : D} {r : List D} {Q : List D → Tp → Prop} (h : wpO (bindT tg d env) fun e => wpE tt e τ fun w τ1 => wpB w fun b => if b = true then wpE te e τ1 fun w τ2 => wpO (toD w) fun x => lcW tg tt te env r τ2 fun l t => Q (x :: l) t else lcW tg tt te env r τ1 Q) :
    lcW tg tt te env (d :: r) τ Q := lc_cons h
theorem len60 {its : List D} (h : Nat.ble its.length 60 = true) : its.length ≤ 1000000 := Nat.le_trans (Nat.le_of_ble_eq_true h) (by decide)
/-- the names that come from a pure list -/
theorem lcw_of {tg : Tg} {tt te : EvF} {its l : List D} {Q : List D → Tp → Prop} (e : lcGo tg tt te env its τ = some (l, τ)) (h : Q l τ) : lcW tg tt te env its τ Q := wpO_of e h
end
/-- where a name's slot stands -/
local macro_rules | `(tactic| wtm_at "ev_ga") => `(tactic| with_reducible repeat (first | exact GetAt.zero | exact SetAt.zero | apply GetAt.succ | apply SetAt.succ))
local macro_rules | `(tactic| wtm_at "ev_gw") => `(tactic| with_reducible (repeat (first | exact WpE.nil | apply WpE.cons | exact SetAt.zero | apply SetAt.succ)))
local macro_rules | `(tactic| wtm_at "ev_gs") => `(tactic| with_reducible repeat (first | exact StE.nil | apply StE.d | apply StE.tp | apply StE.no))
local macro_rules | `(tactic| wtm_at "ev_stE") => `(tactic| ((with_reducible show wpE _ _ _ _); first
  | (with_reducible refine k_con ?_)
  | (with_reducible refine k_f2 ?_)
  | ((with_reducible apply k_vd); (focus (wtm_at "ev_ga"; done)))
  | (with_reducible refine k_f1 ?_)
  | (with_reducible refine k_call ?_)
  | (with_reducible refine k_tup ?_)
  | (with_reducible refine k_and ?_)
  | (with_reducible refine k_or' ?_)
  | (with_reducible refine k_ife ?_)
  | (with_reducible refine k_chn ?_)
  | (with_reducible refine k_lst ?_)
  | (with_reducible refine k_yes ?_)
  | ((with_reducible apply k_lc'); (focus (wtm_at "ev_gw"; done)))
  | ((with_reducible apply k_vo); (focus (wtm_at "ev_ga"; done)))
  | ((with_reducible apply k_vt); (focus (wtm_at "ev_ga"; done)))
  | (with_reducible refine Eq.mpr w_sl ?_)))
local macro_rules | `(tactic| wtm_at "ev_stS") => `(tactic| ((with_reducible show wpS _ _ _ _); first
  | (with_reducible refine k_seq ?_)
  | (with_reducible refine k_set ?_)
  | (with_reducible refine k_ret ?_)
  | (with_reducible refine k_sif ?_)
  | (with_reducible refine Eq.mpr s_next ?_)
  | (with_reducible refine k_par ?_)
  | (with_reducible refine k_tg ?_)
  | (with_reducible refine Eq.mpr s_sub ?_)
  | (with_reducible refine k_sfor ?_)
  | ((with_reducible apply k_app); (focus (wtm_at "ev_ga"; done)))
  | (with_reducible refine Eq.mpr s_drop ?_)))
local macro_rules | `(tactic| wtm_at "ev_stO") => `(tactic| ((with_reducible show wpO _ _); first
  | (with_reducible refine k_ix0 ?_)
  | (with_reducible refine k_ix1 ?_)
  | (with_reducible refine k_add ?_)
  | (with_reducible refine k_sub ?_)
  | ((with_reducible refine k_mul ?_ ?_); assumption)
  | (with_reducible refine k_lt ?_)
  | (with_reducible refine k_le ?_)
  | (with_reducible refine k_eqi ?_)
  | (with_reducible refine k_nei ?_)
  | (with_reducible refine k_not ?_)
  | (with_reducible refine k_neg ?_)
  | (with_reducible refine k_abs ?_)
  | (with_reducible refine k_gt ?_)
  | (with_reducible refine k_ge ?_)
  | (with_reducible refine k_in2 ?_)
  | (with_reducible refine k_lent ?_)
  | (with_reducible refine k_lenl ?_)
  | ((with_reducible apply k_setd); (focus (wtm_at "ev_ga"; done)))
  | ((with_reducible apply k_setn); (focus (wtm_at "ev_ga"; done)))
  | ((with_reducible apply k_setf); (focus (wtm_at "ev_ga"; done)))
  | (with_reducible refine k_retd ?_)
  | (with_reducible refine k_retn ?_)
  | ((with_reducible apply k_reto); (focus (wtm_at "ev_ga"; done)))
  | (with_reducible refine k_ws0 ?_)
  | ((with_reducible apply k_wsd); (focus (wtm_at "ev_ga"; done)))
  | ((with_reducible apply k_wsn); (focus exact rfl); (focus (wtm_at "ev_ga"; done)))
  | ((with_reducible apply k_wsf); (focus exact rfl); (focus (wtm_at "ev_ga"; done)))
  | (with_reducible refine k_tod ?_)
  | (with_reducible refine k_ton ?_)
  | ((with_reducible apply k_bnm); (focus (wtm_at "ev_ga"; done)))
  | (with_reducible refine k_btu ?_)
  | (with_reducible refine k_btl ?_)
  | (with_reducible refine k_bnl ?_)
  | (with_reducible refine k_bcn ?_)
  | (with_reducible refine for_nil ?_)
  | (with_reducible refine for_cons ?_)
  | ((with_reducible refine k_eqs ?_ ?_ ?_); exact rfl; exact rfl)
  | (fail_if_success (with_reducible show wpO (gMul _ _ _ _) _)
     fail_if_success (with_reducible show wpO (gI _ _ _ _ _) _)
     fail_if_success (with_reducible show wpO (forGo _ _ _ _ _) _)
     fail_if_success (with_reducible show wpO (lcGo _ _ _ _ _ _) _)
     (with_reducible apply k_some); (focus exact rfl))))
local macro_rules | `(tactic| wtm_at "ev_stK") => `(tactic| first
  | (with_reducible refine k_nx ?_)
  | (with_reducible refine k_acons ?_)
  | (with_reducible refine k_ckd ?_)
  | (with_reducible refine k_anil ?_)
  | (with_reducible refine k_tup2 ?_)
  | (with_reducible refine k_rt ?_)
  | (with_reducible refine k_rrt ?_)
  | (with_reducible refine k_bool ?_)
  | ((with_reducible refine k_calld ?_ ?_ ?_); exact rfl; exact rfl)
  | ((with_reducible refine k_callt ?_ ?_ ?_); exact rfl; exact rfl)
  | (with_reducible refine k_rnx ?_)
  | (with_reducible refine k_ckt ?_)
  | (with_reducible refine k_ckn ?_)
  | (with_reducible refine k_cko ?_)
  | (with_reducible refine k_dcons ?_)
  | (with_reducible refine k_tup3 ?_)
  | (with_reducible refine k_tup0 ?_)
  | (with_reducible refine k_tup1 ?_)
  | (with_reducible refine k_tup4 ?_)
  | (with_reducible refine k_lst0 ?_)
  | (with_reducible refine k_lst1 ?_)
  | (with_reducible refine k_lst2 ?_)
  | (with_reducible refine k_lst3 ?_)
  | (with_reducible refine k_lst4 ?_)
  | (with_reducible refine k_bk ?_)
  | (with_reducible refine k_ct ?_)
  | (with_reducible refine k_iseq ?_)
  | ((with_reducible apply k_seqI); (focus exact rfl))
  | (with_reducible refine k_irng ?_)
  | ((with_reducible refine k_rng1 ?_ ?_ ?_); omega; omega)
  | ((with_reducible refine k_rng2 ?_ ?_ ?_ ?_ ?_); omega; omega; omega; omega)
  | (with_reducible refine k_for0 ?_)
  | (with_reducible refine k_for1 ?_)
  | (with_reducible refine k_forn ?_)
  | ((with_reducible apply k_foro); (focus (wtm_at "ev_ga"; done)); (focus (wtm_at "ev_ga"; done)))
  | (with_reducible refine k_fnx ?_)
  | (with_reducible refine k_frt ?_)
  | (with_reducible refine k_wnx ?_)
  | (with_reducible refine k_wrt ?_)
  | (with_reducible refine k_ienum ?_)
  | (with_reducible refine k_izip ?_)
  | ((with_reducible apply k_enumI); (focus exact rfl))
  | ((with_reducible apply k_zipI); (focus exact rfl); (focus exact rfl))
  | ((with_reducible refine k_lcK ?_ ?_ ?_); exact rfl; exact len60 rfl)
  | (with_reducible refine lcw_nil ?_)
  | (with_reducible refine lcw_cons ?_)
  | ((with_reducible apply k_run'); (focus (wtm_at "ev_gs"; done)))
  | ((with_reducible refine k_t ?_ ?_); exact rfl)
  | ((with_reducible refine k_f ?_ ?_); exact rfl))
theorem nd_t {P : Prop} [Decidable P] (h : ¬ P) : (!decide P) = true := by simp [h]
theorem nd_f {P : Prop} [Decidable P] (h : P) : (!decide P) = false := by simp [h]
theorem bq_t {a b : Int} (h : a = b) : (a == b) = true := by simp [h]
theorem bq_f {a b : Int} (h : a ≠ b) : (a == b) = false := by simp [h]
theorem nb_t {a b : Int} (h : a ≠ b) : (!(a == b)) = true := by simp [h]
theorem nb_f {a b : Int} (h : a = b) : (!(a == b)) = false := by simp [h]
theorem ob_f {a b c : Int} (h1 : a ≠ c) (h2 : b ≠ c) : (a == c || b == c) = false := by simp [h1, h2]
theorem ob_t {a b c : Int} (h1 : a = c ∨ b = c) : (a == c || b == c) = true := by simpa using h1
local macro_rules | `(tactic| wtm_at "ev_sd") => `(tactic| with_reducible first
  | refine k_t (decide_eq_true (by omega)) ?_
  | refine k_f (decide_eq_false (by omega)) ?_
  | refine k_t (nd_t (by omega)) ?_
  | refine k_f (nd_f (by omega)) ?_
  | refine k_t (bq_t (by omega)) ?_
  | refine k_f (bq_f (by omega)) ?_
  | refine k_t (nb_t (by omega)) ?_
  | refine k_f (nb_f (by omega)) ?_
  | refine k_f (ob_f (by omega) (by omega)) ?_
  | refine k_t (ob_t (by omega)) ?_)
local macro_rules | `(tactic| wtm_at "ev_st") => `(tactic| repeat (first | wtm_at "ev_stE" | wtm_at "ev_stO" | wtm_at "ev_stS" | wtm_at "ev_stK"))
local macro_rules | `(tactic| wtm_at "ev_sto") => `(tactic| repeat (first | wtm_at "ev_stE" | wtm_at "ev_stO" | wtm_at "ev_stS" | wtm_at "ev_stK" | wtm_at "ev_sd"))

open PySem PySem.Spec PyProof.Rows L2
open PySem.W (minD maxD)
noncomputable def S_divisor : Sem1 := runB (sSeq (sWhile (f2 (gEqD true) (eVar 1) (eCon (.int (0)))) (sSeq (sPar (ownL []) [0, 1] (dCons (eVar 1) (dCons (f2 (gI dMod) (eVar 0) (eVar 1)) aNil)))
    sNext))
    (sSeq (sRet (eVar 0))
    sNext)) ["one", "other"]
noncomputable def S_fraction : Sem1 := runB (sSeq (sSet false 2 (eCall S_divisor (aCons (f1 gAbs (eVar 0)) (aCons (f1 gAbs (eVar 1)) aNil))))
    (sSeq (sSet false 2 (eIf (f2 gGt (eVar 1) (eCon (.int (0)))) (eVar 2) (f1 gNeg (eVar 2))))
    (sSeq (sRet (eTup (aCons (f2 (gI dDiv) (eVar 0) (eVar 2)) (aCons (f2 (gI dDiv) (eVar 1) (eVar 2)) aNil))))
    sNext))) ["top", "bottom", "by"]
noncomputable def S_way : Sem1 := runB (sSeq (sRet (eTup (aCons (f2 gSub (f2 gIx (eVar 1) (eCon (.int (0)))) (f2 gIx (eVar 0) (eCon (.int (0))))) (aCons (f2 gSub (f2 gIx (eVar 1) (eCon (.int (1)))) (f2 gIx (eVar 0) (eCon (.int (1))))) aNil))))
    sNext) ["one", "other"]
noncomputable def S_turn : Sem1 := runB (sSeq (sRet (f2 gSub (f2 gMul (f2 gIx (eVar 0) (eCon (.int (0)))) (f2 gIx (eVar 1) (eCon (.int (1))))) (f2 gMul (f2 gIx (eVar 0) (eCon (.int (1)))) (f2 gIx (eVar 1) (eCon (.int (0)))))))
    sNext) ["one", "other"]
noncomputable def S_meeting : Sem1 := runB (sSeq (sPar (ownL []) [2, 3, 4] (dCons (eCall S_way (aCons (f2 gIx (eVar 0) (eCon (.int (0)))) (aCons (f2 gIx (eVar 0) (eCon (.int (1)))) aNil))) (dCons (eCall S_way (aCons (f2 gIx (eVar 1) (eCon (.int (0)))) (aCons (f2 gIx (eVar 1) (eCon (.int (1)))) aNil))) (dCons (eCall S_way (aCons (f2 gIx (eVar 0) (eCon (.int (0)))) (aCons (f2 gIx (eVar 1) (eCon (.int (0)))) aNil))) aNil))))
    (sSeq (sSet false 5 (eCall S_turn (aCons (eVar 2) (aCons (eVar 3) aNil))))
    (sSeq (sSet false 6 (eIf (f2 gLt (eVar 5) (eCon (.int (0)))) (f1 gNeg (eCon (.int (1)))) (eCon (.int (1)))))
    (sSeq (sRet (eTup (aCons (f2 gMul (eVar 6) (eVar 5)) (aCons (f2 gMul (eVar 6) (eCall S_turn (aCons (eVar 4) (aCons (eVar 3) aNil)))) (aCons (f2 gMul (eVar 6) (eCall S_turn (aCons (eVar 4) (aCons (eVar 2) aNil)))) aNil)))))
    sNext)))) ["stick", "other", "first", "second", "apart", "bottom", "sign"]
noncomputable def S_on_one_line : Sem1 := runB (sSeq (sIf (f2 (gEqD true) (eCall S_turn (aCons (eCall S_way (aCons (f2 gIx (eVar 0) (eCon (.int (0)))) (aCons (f2 gIx (eVar 0) (eCon (.int (1)))) aNil))) (aCons (eCall S_way (aCons (f2 gIx (eVar 0) (eCon (.int (0)))) (aCons (f2 gIx (eVar 1) (eCon (.int (0)))) aNil))) aNil))) (eCon (.int (0)))) (sSeq (sRet (eCon (.bool false)))
    sNext) sNext)
    (sSeq (sRet (f2 gLe (f2 (gMM2 maxD) (f1 gMin (eVar 0)) (f1 gMin (eVar 1))) (f2 (gMM2 minD) (f1 gMax (eVar 0)) (f1 gMax (eVar 1)))))
    sNext)) ["stick", "other"]
noncomputable def S_crossing : Sem1 := runB (sSeq (sTg (.tu (.cn (.nm 2) (.cn (.nm 3) (.cn (.nm 4) .nl)))) (eCall S_meeting (aCons (eVar 0) (aCons (eVar 1) aNil))))
    (sSeq (sIf (f2 (gEqD false) (eVar 2) (eCon (.int (0)))) (sSeq (sRet (eIf (eCall S_on_one_line (aCons (eVar 0) (aCons (eVar 1) aNil))) (eCon (.bool false)) (eCon .none)))
    sNext) sNext)
    (sSeq (sIf (eOr (f1 gNot (eChn gLe gLe (eCon (.int (0))) (eVar 3) (eVar 2))) (f1 gNot (eChn gLe gLe (eCon (.int (0))) (eVar 4) (eVar 2)))) (sSeq (sRet (eCon .none))
    sNext) sNext)
    (sSeq (sIf (eOr (f2 (gIn false) (eVar 3) (eTup (aCons (eCon (.int (0))) (aCons (eVar 2) aNil)))) (f2 (gIn false) (eVar 4) (eTup (aCons (eCon (.int (0))) (aCons (eVar 2) aNil))))) (sSeq (sRet (eCon (.bool false)))
    sNext) sNext)
    (sSeq (sRet (eTup (aCons (eCall S_fraction (aCons (eVar 3) (aCons (eVar 2) aNil))) (aCons (eCall S_fraction (aCons (eVar 4) (aCons (eVar 2) aNil))) aNil))))
    sNext))))) ["stick", "other", "bottom", "top", "far"]
noncomputable def S_crossings : Sem1 := runB (sSeq (sTg (.tu (.cn (.nm 1) (.cn (.nm 2) .nl))) (eVar 0))
    (sSeq (sRet (eLc (iSeq (eVar 2)) (.tu (.cn (.nm 3) (.cn (.nm 4) .nl))) tYesF (f2 gAdd (eTup (aCons (eVar 3) (aCons (eVar 4) aNil))) (eCall S_crossing (aCons (f2 gIx (eVar 1) (eVar 3)) (aCons (f2 gIx (eVar 1) (eVar 4)) aNil)))) [3, 4]))
    sNext)) ["pile", "sticks", "overs", "upper", "lower"]
noncomputable def S__law_draw : Sem1 := runB (sSeq (sSet false 2 (eCon (.int (2305843009213693951))))
    (sSeq (sIf (f2 gLt (f2 gIx (eVar 0) (eCon (.int (2)))) (eVar 1)) (sSeq (sSet false 3 (eCon (.int (0))))
    (sSeq (sIf (f2 gGt (f1 gLen (f2 gIx (eVar 0) (eCon (.int (0))))) (eCon (.int (0)))) (sSeq (sSet false 3 (f2 gIx (f2 gIx (eVar 0) (eCon (.int (0)))) (f2 (gI dMod) (f2 gIx (eVar 0) (eCon (.int (1)))) (f1 gLen (f2 gIx (eVar 0) (eCon (.int (0))))))))
    sNext) sNext)
    (sSeq (sIf (eOr (f2 gGe (f2 gIx (eVar 0) (eCon (.int (1)))) (f1 gLen (f2 gIx (eVar 0) (eCon (.int (0)))))) (f2 gLt (eVar 3) (f2 (gI dPow) (eCon (.int (10))) (eCon (.int (18)))))) (sSeq (sSet false 3 (f2 (gI dMod) (f2 gAdd (eVar 3) (f2 gMul (eCon (.int (1000003))) (f2 gIx (eVar 0) (eCon (.int (1)))))) (eVar 2)))
    (sSeq (sSet false 3 (f2 (gI dMod) (f2 gAdd (f2 gAdd (f2 gMul (eVar 3) (eVar 3)) (f2 gMul (eCon (.int (1181783497276652981))) (eVar 3))) (eCon (.int (2049848353892358983)))) (eVar 2)))
    (sSeq (sSet false 3 (f2 (gI dMod) (f2 gAdd (f2 gMul (eVar 3) (eVar 3)) (eCon (.int (1442695040888963407)))) (eVar 2)))
    sNext))) sNext)
    (sSeq (sSub 0 (eCon (.int (1))) (f2 gAdd (f2 gIx (eVar 0) (eCon (.int (1)))) (eCon (.int (1)))))
    (sSeq (sSub 0 (eCon (.int (2))) (eVar 3))
    sNext))))) sNext)
    (sSeq (sSet false 4 (f2 (gI dMod) (f2 gIx (eVar 0) (eCon (.int (2)))) (eVar 1)))
    (sSeq (sSub 0 (eCon (.int (2))) (f2 (gI dDiv) (f2 gIx (eVar 0) (eCon (.int (2)))) (eVar 1)))
    (sSeq (sRet (eVar 4))
    sNext))))) ["tape", "many", "prime", "cell", "found"]
noncomputable def S__law_like : Nat → Sem1
  | 0 => fun _ _ => none
  | n + 1 => runB (sSeq (sIf (f1 (gIsi2 .list .tuple) (eVar 0)) (sSeq (sIf (eOr (f2 (gEqD true) (f1 (gIsi .list) (eVar 0)) (f1 (gIsi .list) (eVar 1))) (f2 (gEqD true) (f1 (gIsi .tuple) (eVar 0)) (f1 (gIsi .tuple) (eVar 1)))) (sSeq (sRet (eCon (.bool false)))
    sNext) sNext)
    (sSeq (sIf (f2 (gEqD true) (f1 gLen (eVar 0)) (f1 gLen (eVar 1))) (sSeq (sRet (eCon (.bool false)))
    sNext) sNext)
    (sSeq (sRet (f2 (gEqD false) (eLc (iRng (aCons (f1 gLen (eVar 0)) aNil)) (.nm 2) (f1 gNot (eCall (S__law_like n) (aCons (f2 gIx (eVar 0) (eVar 2)) (aCons (f2 gIx (eVar 1) (eVar 2)) aNil)))) (eVar 2) [2]) (eLst aNil)))
    sNext))) sNext)
    (sSeq (sIf (f1 (gIsi2 .list .tuple) (eVar 1)) (sSeq (sRet (eCon (.bool false)))
    sNext) sNext)
    (sSeq (sRet (eAnd (f2 (gEqD false) (f1 (gIsi .bool) (eVar 0)) (f1 (gIsi .bool) (eVar 1))) (f2 (gEqD false) (eVar 0) (eVar 1))))
    sNext))) ["one", "two", "k"]
noncomputable def S__law_any_order : Sem1 := runB (sSeq (sSet true 2 (eLst aNil))
    (sSeq (sFor (iRng (aCons (eVar 1) aNil)) (.nm 3) (sSeq (sIns 2 (aCons (eCall S__law_draw (aCons (eVar 0) (aCons (f2 gAdd (eVar 3) (eCon (.int (1)))) aNil))) (aCons (eVar 3) aNil)))
    sNext))
    (sSeq (sRet (f1 gTuple (eVar 2)))
    sNext))) ["tape", "many", "found", "k"]
noncomputable def S__law_common : Sem1 := runB (sSeq (sWhile (f2 (gEqD true) (eVar 0) (eCon (.int (0)))) (sSeq (sPar (ownL []) [0, 1] (dCons (f2 (gI dMod) (eVar 1) (eVar 0)) (dCons (eVar 0) aNil)))
    sNext))
    (sSeq (sRet (eVar 1))
    sNext)) ["one", "other"]
noncomputable def S__law_frac : Sem1 := runB (sSeq (sSet false 2 (eCall S__law_common (aCons (f1 gAbs (eVar 0)) (aCons (eVar 1) aNil))))
    (sSeq (sRet (eTup (aCons (f2 (gI dDiv) (eVar 0) (eVar 2)) (aCons (f2 (gI dDiv) (eVar 1) (eVar 2)) aNil))))
    sNext)) ["top", "bottom", "share"]
noncomputable def S__law_sum : Sem1 := runB (sSeq (sRet (eCall S__law_frac (aCons (f2 gAdd (f2 gMul (f2 gIx (eVar 0) (eCon (.int (0)))) (f2 gIx (eVar 1) (eCon (.int (1))))) (f2 gMul (f2 gIx (eVar 1) (eCon (.int (0)))) (f2 gIx (eVar 0) (eCon (.int (1)))))) (aCons (f2 gMul (f2 gIx (eVar 0) (eCon (.int (1)))) (f2 gIx (eVar 1) (eCon (.int (1))))) aNil))))
    sNext) ["one", "other"]
noncomputable def S__law_less : Sem1 := runB (sSeq (sRet (eCall S__law_frac (aCons (f2 gSub (f2 gMul (f2 gIx (eVar 0) (eCon (.int (0)))) (f2 gIx (eVar 1) (eCon (.int (1))))) (f2 gMul (f2 gIx (eVar 1) (eCon (.int (0)))) (f2 gIx (eVar 0) (eCon (.int (1)))))) (aCons (f2 gMul (f2 gIx (eVar 0) (eCon (.int (1)))) (f2 gIx (eVar 1) (eCon (.int (1))))) aNil))))
    sNext) ["one", "other"]
noncomputable def S__law_part : Sem1 := runB (sSeq (sRet (eCall S__law_frac (aCons (f2 gMul (f2 gIx (eVar 0) (eCon (.int (0)))) (f2 gIx (eVar 1) (eCon (.int (0))))) (aCons (f2 gMul (f2 gIx (eVar 0) (eCon (.int (1)))) (f2 gIx (eVar 1) (eCon (.int (1))))) aNil))))
    sNext) ["one", "other"]
noncomputable def S__law_side : Sem1 := runB (sSeq (sSet false 3 (f2 gMul (f2 gSub (f2 gIx (eVar 1) (eCon (.int (0)))) (f2 gIx (eVar 0) (eCon (.int (0))))) (f2 gSub (f2 gIx (eVar 2) (eCon (.int (1)))) (f2 gIx (eVar 0) (eCon (.int (1)))))))
    (sSeq (sRet (f2 gSub (eVar 3) (f2 gMul (f2 gSub (f2 gIx (eVar 1) (eCon (.int (1)))) (f2 gIx (eVar 0) (eCon (.int (1))))) (f2 gSub (f2 gIx (eVar 2) (eCon (.int (0)))) (f2 gIx (eVar 0) (eCon (.int (0))))))))
    sNext)) ["one", "other", "point", "first"]
noncomputable def S__law_sides : Sem1 := runB (sSeq (sSet false 2 (eLc (iSeq (eVar 1)) (.nm 3) tYesF (eCall S__law_side (aCons (f2 gIx (eVar 0) (eCon (.int (0)))) (aCons (f2 gIx (eVar 0) (eCon (.int (1)))) (aCons (eVar 3) aNil)))) [3]))
    (sSeq (sRet (f2 gAdd (eVar 2) (eLc (iSeq (eVar 0)) (.nm 3) tYesF (eCall S__law_side (aCons (f2 gIx (eVar 1) (eCon (.int (0)))) (aCons (f2 gIx (eVar 1) (eCon (.int (1)))) (aCons (eVar 3) aNil)))) [3])))
    sNext)) ["stick", "other", "found", "point"]
noncomputable def S__law_meet : Sem1 := runB (sSeq (sTg (.tu (.cn (.nm 2) (.cn (.nm 3) (.cn (.nm 4) (.cn (.nm 5) .nl))))) (eCall S__law_sides (aCons (eVar 0) (aCons (eVar 1) aNil))))
    (sSeq (sIf (eAnd (f2 gLt (f2 gMul (eVar 2) (eVar 3)) (eCon (.int (0)))) (f2 gLt (f2 gMul (eVar 4) (eVar 5)) (eCon (.int (0))))) (sSeq (sRet (eCon (.str (PySem.Str.ofString "cross"))))
    sNext) sNext)
    (sSeq (sSet false 6 (eLst (aCons (eTup (aCons (eVar 2) (aCons (f2 gIx (eVar 1) (eCon (.int (0)))) (aCons (eVar 0) aNil)))) (aCons (eTup (aCons (eVar 3) (aCons (f2 gIx (eVar 1) (eCon (.int (1)))) (aCons (eVar 0) aNil)))) (aCons (eTup (aCons (eVar 4) (aCons (f2 gIx (eVar 0) (eCon (.int (0)))) (aCons (eVar 1) aNil)))) (aCons (eTup (aCons (eVar 5) (aCons (f2 gIx (eVar 0) (eCon (.int (1)))) (aCons (eVar 1) aNil)))) aNil))))))
    (sSeq (sFor (iSeq (eVar 6)) (.tu (.cn (.nm 7) (.cn (.nm 8) (.cn (.nm 9) .nl)))) (sSeq (sIf (eAnd (f2 (gEqD false) (eVar 7) (eCon (.int (0)))) (eChn gLe gLe (f2 (gMM2 minD) (f2 gIx (f2 gIx (eVar 9) (eCon (.int (0)))) (eCon (.int (0)))) (f2 gIx (f2 gIx (eVar 9) (eCon (.int (1)))) (eCon (.int (0))))) (f2 gIx (eVar 8) (eCon (.int (0)))) (f2 (gMM2 maxD) (f2 gIx (f2 gIx (eVar 9) (eCon (.int (0)))) (eCon (.int (0)))) (f2 gIx (f2 gIx (eVar 9) (eCon (.int (1)))) (eCon (.int (0))))))) (sSeq (sIf (eChn gLe gLe (f2 (gMM2 minD) (f2 gIx (f2 gIx (eVar 9) (eCon (.int (0)))) (eCon (.int (1)))) (f2 gIx (f2 gIx (eVar 9) (eCon (.int (1)))) (eCon (.int (1))))) (f2 gIx (eVar 8) (eCon (.int (1)))) (f2 (gMM2 maxD) (f2 gIx (f2 gIx (eVar 9) (eCon (.int (0)))) (eCon (.int (1)))) (f2 gIx (f2 gIx (eVar 9) (eCon (.int (1)))) (eCon (.int (1)))))) (sSeq (sRet (eCon (.str (PySem.Str.ofString "touch"))))
    sNext) sNext)
    sNext) sNext)
    sNext))
    (sSeq (sRet (eCon (.str (PySem.Str.ofString "apart"))))
    sNext))))) ["stick", "other", "a", "b", "c", "d", "rows", "side", "point", "line"]
noncomputable def S__law_place : Sem1 := runB (sSeq (sTg (.tu (.cn (.nm 2) (.cn (.nm 3) (.cn (.nm 4) (.cn (.nm 5) .nl))))) (eCall S__law_sides (aCons (eVar 0) (aCons (eVar 1) aNil))))
    (sSeq (sRet (eCall S__law_frac (aCons (f1 gAbs (eVar 4)) (aCons (f2 gAdd (f1 gAbs (eVar 4)) (f1 gAbs (eVar 5))) aNil))))
    sNext)) ["stick", "other", "a", "b", "c", "d"]
noncomputable def S__law_fan : Sem1 := runB (sSeq (sPar (ownL [2]) [2, 3, 4] (dCons (eLst aNil) (dCons (eCall S__law_draw (aCons (eVar 0) (aCons (eCon (.int (3))) aNil))) (dCons (f2 gSub (eCon (.int (12))) (eCall S__law_draw (aCons (eVar 0) (aCons (eCon (.int (3))) aNil)))) aNil))))
    (sSeq (sFor (iRng (aCons (eVar 1) aNil)) (.nm 5) (sSeq (sSet false 6 (eTup (aCons (eTup (aCons (eCall S__law_draw (aCons (eVar 0) (aCons (eCon (.int (3))) aNil))) (aCons (eVar 3) aNil))) (aCons (eTup (aCons (f2 gSub (eCon (.int (12))) (eCall S__law_draw (aCons (eVar 0) (aCons (eCon (.int (3))) aNil)))) (aCons (eVar 4) aNil))) aNil))))
    (sSeq (sIf (f2 (gEqD false) (eLc (iSeq (eVar 2)) (.nm 7) (f2 (gEqD false) (eCall S__law_meet (aCons (eVar 6) (aCons (eVar 7) aNil))) (eCon (.str (PySem.Str.ofString "touch")))) (eCon (.int (1))) [7]) (eLst aNil)) (sSeq (sApp 2 (aCons (f2 gIx (eLst (aCons (eVar 6) (aCons (f1 gRev (eVar 6)) aNil))) (eCall S__law_draw (aCons (eVar 0) (aCons (eCon (.int (2))) aNil)))) aNil))
    sNext) sNext)
    (sSeq (sPar (ownL [2]) [3, 4] (dCons (f2 gAdd (f2 gAdd (eVar 3) (eCon (.int (1)))) (eCall S__law_draw (aCons (eVar 0) (aCons (eCon (.int (2))) aNil)))) (dCons (f2 gSub (f2 gSub (eVar 4) (eCon (.int (1)))) (eCall S__law_draw (aCons (eVar 0) (aCons (eCon (.int (2))) aNil)))) aNil)))
    sNext))))
    (sSeq (sRet (f1 gTuple (eVar 2)))
    sNext))) ["tape", "many", "found", "one", "other", "k", "stick", "row"]
noncomputable def S__law_sticks : Sem1 := runB (sSeq (sPar (ownL [4]) [4, 5, 6] (dCons (eLst aNil) (dCons (f2 gSub (eVar 1) (f2 gMul (eCall S__law_draw (aCons (eVar 0) (aCons (eCon (.int (2))) aNil))) (eCall S__law_draw (aCons (eVar 0) (aCons (eVar 1) aNil))))) (dCons (f2 gSub (eVar 3) (eVar 2)) aNil))))
    (sSeq (sFor (iRng (aCons (f2 gMul (eCon (.int (4))) (eVar 1)) aNil)) (.nm 7) (sSeq (sIf (f2 gLt (f1 gLen (eVar 4)) (eVar 5)) (sSeq (sSet false 8 (eTup (aCons (f2 gAdd (eVar 2) (eCall S__law_draw (aCons (eVar 0) (aCons (f2 gAdd (eCon (.int (1))) (f2 (gI dDiv) (eVar 6) (eCon (.int (3))))) aNil)))) (aCons (eCall S__law_draw (aCons (eVar 0) (aCons (eCon (.int (13))) aNil))) aNil))))
    (sSeq (sSet false 9 (eTup (aCons (f2 gSub (eVar 3) (eCall S__law_draw (aCons (eVar 0) (aCons (f2 gAdd (eCon (.int (1))) (f2 (gI dDiv) (eVar 6) (eCon (.int (3))))) aNil)))) (aCons (eCall S__law_draw (aCons (eVar 0) (aCons (eCon (.int (13))) aNil))) aNil))))
    (sSeq (sIf (f2 (gEqD false) (eCall S__law_draw (aCons (eVar 0) (aCons (eCon (.int (3))) aNil))) (eCon (.int (0)))) (sSeq (sSet false 8 (eTup (aCons (f2 gAdd (eVar 2) (eCall S__law_draw (aCons (eVar 0) (aCons (f2 gAdd (eVar 6) (eCon (.int (1)))) aNil)))) (aCons (eCall S__law_draw (aCons (eVar 0) (aCons (eCon (.int (4))) aNil))) aNil))))
    (sSeq (sSet false 9 (eTup (aCons (f2 gAdd (eVar 2) (eCall S__law_draw (aCons (eVar 0) (aCons (f2 gAdd (eVar 6) (eCon (.int (1)))) aNil)))) (aCons (f2 gAdd (eCon (.int (9))) (eCall S__law_draw (aCons (eVar 0) (aCons (eCon (.int (4))) aNil)))) aNil))))
    sNext)) sNext)
    (sSeq (sSet false 10 (f2 gIx (eLst (aCons (eTup (aCons (eVar 8) (aCons (eVar 9) aNil))) (aCons (eTup (aCons (eVar 9) (aCons (eVar 8) aNil))) aNil))) (eCall S__law_draw (aCons (eVar 0) (aCons (eCon (.int (2))) aNil)))))
    (sSeq (sIf (eAnd (f2 (gEqD true) (eVar 8) (eVar 9)) (f2 (gEqD false) (eLc (iSeq (eVar 4)) (.nm 11) (f2 (gEqD false) (eCall S__law_meet (aCons (eVar 10) (aCons (eVar 11) aNil))) (eCon (.str (PySem.Str.ofString "touch")))) (eCon (.int (1))) [11]) (eLst aNil))) (sSeq (sApp 4 (aCons (eVar 10) aNil))
    sNext) sNext)
    sNext))))) sNext)
    sNext))
    (sSeq (sRet (f1 gTuple (eVar 4)))
    sNext))) ["tape", "most", "low", "high", "found", "many", "wide", "k", "one", "two", "stick", "other"]
noncomputable def S__law_pairs_of : Sem1 := runB (sSeq (sSet false 1 (eLst aNil))
    (sSeq (sFor (iRng (aCons (f1 gLen (eVar 0)) aNil)) (.nm 2) (sSeq (sSet false 1 (f2 gAdd (eVar 1) (eLc (iRng (aCons (eVar 2) aNil)) (.nm 3) (f2 (gEqD false) (eCall S__law_meet (aCons (f2 gIx (eVar 0) (eVar 3)) (aCons (f2 gIx (eVar 0) (eVar 2)) aNil))) (eCon (.str (PySem.Str.ofString "cross")))) (eTup (aCons (eVar 3) (aCons (eVar 2) aNil))) [3])))
    sNext))
    (sSeq (sRet (f1 gSorted (eVar 1)))
    sNext))) ["sticks", "found", "two", "one"]
noncomputable def S__law_over : Sem1 := runB (sSeq (sPar (ownL [4]) [2, 3] (dCons (eCall S__law_any_order (aCons (eVar 0) (aCons (f1 gLen (eVar 1)) aNil))) (dCons (eCall S__law_draw (aCons (eVar 0) (aCons (eCon (.int (3))) aNil))) aNil)))
    (sSeq (sSet true 4 (eLst aNil))
    (sSeq (sFor (iSeq (eCall S__law_pairs_of (aCons (eVar 1) aNil))) (.tu (.cn (.nm 5) (.cn (.nm 6) .nl))) (sSeq (sSet false 7 (eCall S__law_draw (aCons (eVar 0) (aCons (eCon (.int (6))) aNil))))
    (sSeq (sSet false 8 (f2 gLt (eVar 7) (eCon (.int (3)))))
    (sSeq (sIf (eOr (f2 (gEqD false) (eVar 3) (eCon (.int (0)))) (eAnd (f2 (gEqD false) (eVar 3) (eCon (.int (1)))) (f2 gGt (eVar 7) (eCon (.int (1)))))) (sSeq (sSet false 8 (f2 gLt (f2 gIx (eVar 2) (eVar 5)) (f2 gIx (eVar 2) (eVar 6))))
    sNext) sNext)
    (sSeq (sApp 4 (aCons (eIf (eVar 8) (eTup (aCons (eVar 6) (aCons (eVar 5) aNil))) (eTup (aCons (eVar 5) (aCons (eVar 6) aNil)))) aNil))
    sNext)))))
    (sSeq (sRet (f1 gTuple (f1 gSorted (eVar 4))))
    sNext)))) ["tape", "sticks", "rank", "my_way", "found", "one", "two", "chance", "my_turned"]
noncomputable def S__law_pile : Sem1 := runB (sSeq (sSet false 2 (eIf (f2 (gEqD false) (eCall S__law_draw (aCons (eVar 0) (aCons (eCon (.int (2))) aNil))) (eCon (.int (0)))) (eCall S__law_sticks (aCons (eVar 0) (aCons (eVar 1) (aCons (eCon (.int (0))) (aCons (eCon (.int (12))) aNil))))) (eCall S__law_fan (aCons (eVar 0) (aCons (eVar 1) aNil)))))
    (sSeq (sRet (eTup (aCons (eVar 2) (aCons (eCall S__law_over (aCons (eVar 0) (aCons (eVar 2) aNil))) aNil))))
    sNext)) ["tape", "most", "sticks"]
noncomputable def S__law_crossings : Sem1 := runB (sSeq (sTg (.tu (.cn (.nm 1) (.cn (.nm 2) .nl))) (eVar 0))
    (sSeq (sSet true 3 (eLst aNil))
    (sSeq (sFor (iSeq (eVar 2)) (.tu (.cn (.nm 4) (.cn (.nm 5) .nl))) (sSeq (sPar (ownL [3]) [6, 7] (dCons (f2 gIx (eVar 1) (eVar 4)) (dCons (f2 gIx (eVar 1) (eVar 5)) aNil)))
    (sSeq (sApp 3 (aCons (eTup (aCons (eVar 4) (aCons (eVar 5) (aCons (eCall S__law_place (aCons (eVar 6) (aCons (eVar 7) aNil))) (aCons (eCall S__law_place (aCons (eVar 7) (aCons (eVar 6) aNil))) aNil))))) aNil))
    sNext)))
    (sSeq (sRet (eVar 3))
    sNext)))) ["pile", "sticks", "overs", "found", "upper", "lower", "one", "two"]
noncomputable def S__law_height : Sem1 := runB (sSeq (sRet (eCall S__law_sum (aCons (f2 gIx (eVar 0) (eCon (.int (0)))) (aCons (eCall S__law_part (aCons (eVar 1) (aCons (eCall S__law_less (aCons (f2 gIx (eVar 0) (eCon (.int (1)))) (aCons (f2 gIx (eVar 0) (eCon (.int (0)))) aNil))) aNil))) aNil))))
    sNext) ["pair", "place"]

open PySem PySem.Spec PyProof.Rows L2
open PySem.W (minD maxD)
/-! ### loops -/
theorem k_while {c : EvF} {body : EvS} {R : Out → Prop} (I : Nat → En → Tp → Prop) (h : ∀ m env τ, I m env τ → wpE c env τ fun w τ1 => wpB w fun b => if b = true then wpS body env τ1 (whK (fun e t => ∃ n, n < m ∧ I n e t) R) else R (.nx env τ1)) {m : Nat} {env : En} {τ : Tp} (h0 : I m env τ) : wpS (sWhile c body) env τ R := by with_unfolding_all
  have main : ∀ m env τ, I m env τ → ∃ k o, whM c body k env τ = some o ∧ R o := by
    intro m
    induction m using Nat.strongRecOn with
    | _ m ih =>
      intro env τ hI
      have q := h m env τ hI
      obtain ⟨⟨w, τ1⟩, e1, q⟩ := wpO_ex q
      dsimp only at q
      cases w with
      | d x =>
        cases x with
        | bool b =>
          change (if b = true then _ else _) at q
          cases b with
          | true =>
            rw [if_pos rfl] at q
            obtain ⟨o, e2, q⟩ := wpO_ex q
            cases o with
            | nx e t =>
              obtain ⟨n, hn, q⟩ := q
              obtain ⟨k, o, e3, q3⟩ := ih n hn e t q
              exact ⟨k + 1, o, by unfold whM; rw [e1]; dsimp only; rw [e2]; exact e3, q3⟩
            | ct e t =>
              obtain ⟨n, hn, q⟩ := q
              obtain ⟨k, o, e3, q3⟩ := ih n hn e t q
              exact ⟨k + 1, o, by unfold whM; rw [e1]; dsimp only; rw [e2]; exact e3, q3⟩
            | bk e t => exact ⟨1, .nx e t, by unfold whM; rw [e1]; dsimp only; rw [e2], q⟩
            | rt d t => exact ⟨1, .rt d t, by unfold whM; rw [e1]; dsimp only; rw [e2], q⟩
          | false =>
            rw [if_neg Bool.false_ne_true] at q
            exact ⟨1, .nx env τ1, by unfold whM; rw [e1], q⟩
        | _ => exact q.elim
      | _ => exact q.elim
  obtain ⟨k, o, e, q⟩ := main m env τ h0
  exact wpO_of (sWhile_eq e) q
theorem wpE_unq {f : EvF} {env : En} {τ : Tp} {Q : W → Tp → Prop} : wpE f env τ Q = wpO (f env τ) fun p => Q p.1 p.2 := by with_unfolding_all exact rfl
theorem wpS_unq {f : EvS} {env : En} {τ : Tp} {R : Out → Prop} : wpS f env τ R = wpO (f env τ) R := by with_unfolding_all exact rfl
theorem k_for {tg : Tg} {body : EvS} {R : Out → Prop} (I : List D → En → Tp → Prop) (hs : ∀ d r env τ, I (d :: r) env τ → wpO (bindT tg d env) fun e => wpS body e τ (whK (I r) R)) (hd : ∀ env τ, I [] env τ → R (.nx env τ)) :
    ∀ {its : List D} {env : En} {τ : Tp}, I its env τ → wpO (forGo tg body its env τ) R
  | [], env, τ, h => by with_unfolding_all exact hd env τ h
  | d :: r, env, τ, h => by
    obtain ⟨e1, b1, q⟩ := wpO_ex (hs d r env τ h)
    rw [wpS_unq] at q
    obtain ⟨o, b2, q⟩ := wpO_ex q
    unfold forGo
    rw [b1]
    dsimp only
    rw [b2]
    cases o with
    | nx e t => exact k_for I hs hd (its := r) q
    | ct e t => exact k_for I hs hd (its := r) q
    | bk e t => with_unfolding_all exact q
    | rt d t => with_unfolding_all exact q
/-- a comprehension that leaves the tape: a map of those that pass -/
theorem lc_map {α : Type} {tg : Tg} {tt te : EvF} {env : En} {τ : Tp} {f g : α → D} {p : α → Bool} : ∀ {xs : List α}, (∀ x ∈ xs, wpO (bindT tg (f x) env) fun e => wpE tt e τ fun w t => w = .d (.bool (p x)) ∧ t = τ ∧ (p x = true → wpE te e τ fun w t => toD w = some (g x) ∧ t = τ)) →
    lcGo tg tt te env (xs.map f) τ = some ((xs.filter p).map g, τ)
  | [], _ => rfl
  | x :: xs, h => by
    have ih := lc_map (xs := xs) fun y hy => h y (List.mem_cons_of_mem _ hy)
    obtain ⟨e, b1, q⟩ := wpO_ex (h x List.mem_cons_self)
    rw [wpE_unq] at q
    obtain ⟨⟨w, t⟩, b2, q1, q2, q3⟩ := wpO_ex q
    dsimp only at q1 q2 q3
    subst q1 q2
    rw [List.map_cons]
    unfold lcGo
    rw [b1]
    dsimp only
    rw [b2]
    cases hp : p x with
    | true =>
      obtain ⟨⟨w, t⟩, b3, q4, q5⟩ := wpO_ex (wpE_unq ▸ q3 hp)
      dsimp only at q4 q5
      subst q5
      dsimp only
      rw [b3]
      dsimp only
      rw [q4]
      dsimp only
      rw [ih, List.filter_cons, hp]
      rfl
    | false =>
      dsimp only
      rw [ih, List.filter_cons, hp]
      rfl
/-! ### sizes -/
theorem log_lt {x n : Nat} (h : x < 2 ^ n) (hn : 0 < n) : x.log2 < n := by
  by_cases h0 : x = 0
  · subst h0
    simpa using hn
  · exact (Nat.log2_lt h0).mpr h
theorem mul_ok {i j : Int} {m n : Nat} (hi : i.natAbs < 2 ^ m) (hj : j.natAbs < 2 ^ n) (hm : 0 < m) (hn : 0 < n) (h : m + n ≤ 1000000) : i.natAbs.log2 + j.natAbs.log2 < 1000000 := by
  have := log_lt hi hm
  have := log_lt hj hn
  omega
theorem mul_sm {i j : Int} (hi : i.natAbs < 1000000000) (hj : j.natAbs < 1000000000) : i.natAbs.log2 + j.natAbs.log2 < 1000000 :=
  mul_ok (m := 30) (n := 30) (Nat.lt_of_lt_of_le hi (by decide)) (Nat.lt_of_lt_of_le hj (by decide)) (by decide) (by decide) (by decide)
section
variable {env env' : En} {τ : Tp} {R : Out → Prop}
def subK (i : Nat) (d : D) (env : En) (R : Out → Prop) : W → Tp → Prop
  | .d (.int k), τ2 => wpO (setSub i d k env τ2) R
  | _, _ => False
theorem k_ssub {i : Nat} {fi f : EvF} {R : Out → Prop} (h : wpE f env τ fun w τ1 => wpO (toD w) fun d => wpE fi env τ1 (subK i d env R)) : wpS (sSub i fi f) env τ R := by with_unfolding_all
  rw [s_sub]
  refine wpO_mono h fun p q => wpO_mono q fun d q => wpO_mono q fun r q => ?_
  obtain ⟨x, t⟩ := r
  cases x with
  | d y => cases y <;> exact q
  | _ => exact q
theorem k_sbi {i : Nat} {d : D} {k : Int} {R : Out → Prop} (h : wpO (setSub i d k env τ) R) : subK i d env R (.d (.int k)) τ := h
def insK (i : Nat) (ds : List D) (env : En) (R : Out → Prop) : List W → Tp → Prop
  | [.d (.int k), .d d], τ1 => (ds.length < 1000000 ∧ 0 ≤ k ∧ k < 1000000) ∧ R (.nx (env.set i (.own (ds.take k.toNat ++ [d] ++ ds.drop k.toNat))) τ1)
  | _, _ => False
theorem k_ins {i : Nat} {f : EvA} {ds : List D} (hg : GetAt i env (.own ds)) (h : wpA f env τ (insK i ds env R)) : wpS (sIns i f) env τ R := by with_unfolding_all
  unfold wpS sIns
  rw [hg.eq]
  dsimp only
  obtain ⟨⟨ws, t⟩, e, q⟩ := wpO_ex h
  rw [e]
  match ws, q with
  | [.d (.int k), .d d], q =>
    dsimp only
    rw [if_pos q.1]
    exact q.2
theorem k_insd {i : Nat} {ds : List D} {k : Int} {d : D} (hl : ds.length < 1000000) (h0 : 0 ≤ k) (h1 : k < 1000000) (h : SetAt (.own (ds.take k.toNat ++ [d] ++ ds.drop k.toNat)) i env env') (q : R (.nx env' τ)) : insK i ds env R [.d (.int k), .d d] τ := by
  refine ⟨⟨hl, h0, h1⟩, ?_⟩
  rw [← h.eq.1]
  exact q
end
theorem k_forI {tg : Tg} {body : EvS} {R : Out → Prop} {its : List D} (I : Nat → En → Tp → Prop) (hs : ∀ i d env τ, its[i]? = some d → I i env τ → wpO (bindT tg d env) fun e => wpS body e τ (whK (I (i + 1)) R)) (hd : ∀ env τ, I its.length env τ → R (.nx env τ))
    {env : En} {τ : Tp} (h0 : I 0 env τ) : wpO (forGo tg body its env τ) R := by with_unfolding_all
  refine k_for (fun rest e t => ∃ i, i ≤ its.length ∧ rest = its.drop i ∧ I i e t) ?_ ?_ ⟨0, Nat.zero_le _, rfl, h0⟩
  · rintro d r e t ⟨i, hi, h1, h2⟩
    have hlt : i < its.length := by
      rcases Nat.lt_or_ge i its.length with h | h
      · exact h
      · rw [List.drop_eq_nil_of_le h] at h1; cases h1
    rw [List.drop_eq_getElem_cons hlt] at h1
    cases h1
    refine wpO_mono (hs i _ e t (by simp [hlt]) h2) fun e q => wpO_mono q fun o q => ?_
    cases o with
    | nx a b => exact ⟨i + 1, hlt, rfl, q⟩
    | ct a b => exact ⟨i + 1, hlt, rfl, q⟩
    | bk a b => exact q
    | rt a b => exact q
  · rintro e t ⟨i, hi, h1, h2⟩
    have : i = its.length := by
      rcases Nat.lt_or_ge i its.length with h | h
      · rw [List.drop_eq_getElem_cons h] at h1; cases h1
      · omega
    subst this
    exact hd e t h2
theorem wpE_un {f : EvF} {env : En} {τ : Tp} {Q : W → Tp → Prop} : wpE f env τ Q = wpO (f env τ) fun p => Q p.1 p.2 := by with_unfolding_all exact rfl
theorem wpS_un {f : EvS} {env : En} {τ : Tp} {R : Out → Prop} : wpS f env τ R = wpO (f env τ) R := by with_unfolding_all exact rfl

/-! ### greatest common divisors -/
theorem divisor_w (a b : Nat) (τ : Tp) : S_divisor [.d (.int a), .d (.int b)] τ = some (.int (Nat.gcd a b), τ) := by
  refine wpC_eq ?_
  unfold S_divisor
  wtm_at "ev_st"
  refine k_while (fun m env t => t = τ ∧ ∃ x y : Nat, env = [.d (.int x), .d (.int y)] ∧ m = y ∧ Nat.gcd x y = Nat.gcd a b) ?_ (m := b) ⟨rfl, a, b, rfl, rfl, rfl⟩
  rintro m env t ⟨rfl, x, y, rfl, rfl, hg⟩
  wtm_at "ev_st"
  refine k_neq (fun h => ?_) (fun h => ?_)
  · have hy : 0 < m := by omega
    wtm_at "ev_st"
    refine k_mod (by omega) ?_
    wtm_at "ev_st"
    refine ⟨x % m, Nat.mod_lt _ hy, rfl, m, x % m, rfl, rfl, ?_⟩
    rw [← hg, Nat.gcd_comm x m, Nat.gcd_rec m x, Nat.gcd_comm]
  · have hy : m = 0 := by omega
    subst hy
    wtm_at "ev_st"
    refine ⟨?_, rfl⟩
    rw [← hg]
    simp
theorem common_w (a b : Nat) (τ : Tp) : S__law_common [.d (.int a), .d (.int b)] τ = some (.int (Nat.gcd a b), τ) := by
  refine wpC_eq ?_
  unfold S__law_common
  wtm_at "ev_st"
  refine k_while (fun m env t => t = τ ∧ ∃ x y : Nat, env = [.d (.int x), .d (.int y)] ∧ m = x ∧ Nat.gcd x y = Nat.gcd a b) ?_ (m := a) ⟨rfl, a, b, rfl, rfl, rfl⟩
  rintro m env t ⟨rfl, x, y, rfl, rfl, hg⟩
  wtm_at "ev_st"
  refine k_neq (fun h => ?_) (fun h => ?_)
  · have hy : 0 < m := by omega
    wtm_at "ev_st"
    refine k_mod (by omega) ?_
    wtm_at "ev_st"
    refine ⟨y % m, Nat.mod_lt _ hy, rfl, y % m, m, rfl, rfl, ?_⟩
    rw [← hg, Nat.gcd_rec m y]
  · have hy : m = 0 := by omega
    subst hy
    wtm_at "ev_st"
    refine ⟨?_, rfl⟩
    rw [← hg]
    simp

open PySem PySem.Spec PyProof.Rows L2
open PySem.W (minD maxD)
/-! ### fractions -/
abbrev frD (q : Rat) : D := .tuple [.int q.num, .int q.den]
theorem frac_rat {a b : Int} (hb : 0 < b) : (a / (Nat.gcd a.natAbs b.natAbs : Nat) : Int) = ((a : Rat) / b).num ∧ (b / (Nat.gcd a.natAbs b.natAbs : Nat) : Int) = (((a : Rat) / b).den : Int) := by
  obtain ⟨n, rfl⟩ : ∃ n : Nat, b = n := ⟨b.toNat, by omega⟩
  have hn : n ≠ 0 := by omega
  have e : ((a : Rat) / ((n : Int) : Rat)) = Rat.normalize a n hn := by
    rw [Rat.normalize_eq_mkRat, ← Rat.divInt_eq_div, Rat.divInt_ofNat]
  rw [e, Rat.num_normalize, Rat.den_normalize]
  simp
theorem abs_nat (a : Int) : (if a < 0 then -a else a) = (a.natAbs : Int) := by
  split <;> omega
theorem gcd_log {a b : Int} (hb : 0 < b) {n : Nat} (h : b.natAbs < 2 ^ n) (hn : 0 < n) : ((Nat.gcd a.natAbs b.natAbs : Nat) : Int).natAbs.log2 < n := by
  refine log_lt ?_ hn
  have : Nat.gcd a.natAbs b.natAbs ≤ b.natAbs := Nat.le_of_dvd (by omega) (Nat.gcd_dvd_right _ _)
  simp
  omega
theorem sm9 {n : Nat} (h : n ≤ 1000000) : n < 2 ^ 9000 := Nat.lt_of_lt_of_le (show n < 2 ^ 20 by omega) (Nat.pow_le_pow_right (by decide) (by decide))
theorem fraction_w {a b : Int} (hb : 0 < b) (hz : b.natAbs < 2 ^ 9000) (τ : Tp) : S_fraction [.d (.int a), .d (.int b)] τ = some (frD ((a : Rat) / b), τ) := by
  refine wpC_eq ?_
  unfold S_fraction
  wtm_at "ev_st"
  refine wpC_of (divisor_w _ _ _) ?_
  have hg : 0 < ((Nat.gcd a.natAbs b.natAbs : Nat) : Int) := by
    have := Nat.gcd_pos_of_pos_right a.natAbs (show 0 < b.natAbs by omega)
    omega
  have hl := gcd_log (a := a) hb hz (by decide)
  wtm_at "ev_st"
  refine k_d (fun _ => ?_) (fun h => absurd hb h)
  wtm_at "ev_st"
  refine k_div hg hl ?_
  wtm_at "ev_st"
  refine k_div hg hl ?_
  wtm_at "ev_st"
  obtain ⟨e1, e2⟩ := frac_rat (a := a) hb
  rw [e1, e2]
  exact ⟨rfl, rfl⟩
theorem lfrac_w {a b : Int} (hb : 0 < b) (hz : b.natAbs < 2 ^ 9000) (τ : Tp) : S__law_frac [.d (.int a), .d (.int b)] τ = some (frD ((a : Rat) / b), τ) := by
  refine wpC_eq ?_
  unfold S__law_frac
  wtm_at "ev_st"
  have hb' : b = (b.natAbs : Int) := by omega
  rw [hb']
  refine wpC_of (common_w _ _ _) ?_
  rw [← hb']
  have hg : 0 < ((Nat.gcd a.natAbs b.natAbs : Nat) : Int) := by
    have := Nat.gcd_pos_of_pos_right a.natAbs (show 0 < b.natAbs by omega)
    omega
  have hl := gcd_log (a := a) hb hz (by decide)
  wtm_at "ev_st"
  refine k_div hg hl ?_
  wtm_at "ev_st"
  refine k_div hg hl ?_
  wtm_at "ev_st"
  obtain ⟨e1, e2⟩ := frac_rat (a := a) hb
  rw [e1, e2]
  exact ⟨rfl, rfl⟩
/-- a fraction whose parts have at most n bits -/
structure Sz (n : Nat) (q : Rat) : Prop where
  num : q.num.natAbs < 2 ^ n
  den : q.den < 2 ^ n
theorem rat_parts (q : Rat) : q = (q.num : Rat) / ((q.den : Int) : Rat) := by
  have := Rat.num_divInt_den q
  rw [Rat.divInt_eq_div] at this
  exact this.symm
theorem den_pos (q : Rat) : 0 < (q.den : Int) := by have := q.den_nz; omega
theorem den_ne (q : Rat) : ((q.den : Int) : Rat) ≠ 0 := by
  have := q.den_nz
  intro h
  rw [Rat.intCast_eq_zero_iff] at h
  omega

open PySem PySem.Spec PyProof.Rows L2
open PySem.W (minD maxD)
/-! ### points, sticks -/
abbrev Pt := Int × Int
abbrev Stk := Pt × Pt
abbrev ptD (p : Pt) : D := .tuple [.int p.1, .int p.2]
abbrev stD (s : Stk) : D := .tuple [ptD s.1, ptD s.2]
structure InP (p : Pt) : Prop where
  x0 : 0 ≤ p.1
  x1 : p.1 ≤ 12
  y0 : 0 ≤ p.2
  y1 : p.2 ≤ 12
structure InS (s : Stk) : Prop where
  a : InP s.1
  b : InP s.2
def side (p q r : Pt) : Int := (q.1 - p.1) * (r.2 - p.2) - (q.2 - p.2) * (r.1 - p.1)
theorem mul_b {i j : Int} {m n : Nat} (hi : i.natAbs ≤ m) (hj : j.natAbs ≤ n) : (i * j).natAbs ≤ m * n := by
  rw [Int.natAbs_mul]
  exact Nat.mul_le_mul hi hj
theorem side_b {p q r : Pt} (hp : InP p) (hq : InP q) (hr : InP r) : (side p q r).natAbs ≤ 288 := by
  obtain ⟨p1, p2, p3, p4⟩ := hp
  obtain ⟨q1, q2, q3, q4⟩ := hq
  obtain ⟨r1, r2, r3, r4⟩ := hr
  have h1 := mul_b (i := q.1 - p.1) (j := r.2 - p.2) (m := 12) (n := 12) (by omega) (by omega)
  have h2 := mul_b (i := q.2 - p.2) (j := r.1 - p.1) (m := 12) (n := 12) (by omega) (by omega)
  unfold side
  omega
theorem way_w (p q : Pt) (τ : Tp) : S_way [.d (ptD p), .d (ptD q)] τ = some (ptD (q.1 - p.1, q.2 - p.2), τ) := by
  refine wpC_eq ?_
  unfold S_way
  wtm_at "ev_st"
  exact ⟨rfl, rfl⟩
theorem turn_w {u v : Pt} (h1 : u.1.natAbs ≤ 1000) (h2 : u.2.natAbs ≤ 1000) (h3 : v.1.natAbs ≤ 1000) (h4 : v.2.natAbs ≤ 1000) (τ : Tp) : S_turn [.d (ptD u), .d (ptD v)] τ = some (.int (u.1 * v.2 - u.2 * v.1), τ) := by
  refine wpC_eq ?_
  unfold S_turn
  have m1 : u.1.natAbs.log2 + v.2.natAbs.log2 < 1000000 := mul_sm (by omega) (by omega)
  have m2 : u.2.natAbs.log2 + v.1.natAbs.log2 < 1000000 := mul_sm (by omega) (by omega)
  wtm_at "ev_st"
  exact ⟨rfl, rfl⟩
theorem lside_w {p q r : Pt} (hp : InP p) (hq : InP q) (hr : InP r) (τ : Tp) : S__law_side [.d (ptD p), .d (ptD q), .d (ptD r)] τ = some (.int (side p q r), τ) := by
  obtain ⟨p1, p2, p3, p4⟩ := hp
  obtain ⟨q1, q2, q3, q4⟩ := hq
  obtain ⟨r1, r2, r3, r4⟩ := hr
  refine wpC_eq ?_
  unfold S__law_side
  have m1 : (q.1 - p.1).natAbs.log2 + (r.2 - p.2).natAbs.log2 < 1000000 := mul_sm (by omega) (by omega)
  have m2 : (q.2 - p.2).natAbs.log2 + (r.1 - p.1).natAbs.log2 < 1000000 := mul_sm (by omega) (by omega)
  wtm_at "ev_st"
  exact ⟨rfl, rfl⟩
theorem lsides_w {s o : Stk} (hs : InS s) (ho : InS o) (τ : Tp) : S__law_sides [.d (stD s), .d (stD o)] τ = some (.list [.int (side s.1 s.2 o.1), .int (side s.1 s.2 o.2), .int (side o.1 o.2 s.1), .int (side o.1 o.2 s.2)], τ) := by
  refine wpC_eq ?_
  unfold S__law_sides
  wtm_at "ev_st"
  refine wpC_of (lside_w hs.a hs.b ho.a _) ?_
  wtm_at "ev_st"
  refine wpC_of (lside_w hs.a hs.b ho.b _) ?_
  wtm_at "ev_st"
  refine wpC_of (lside_w ho.a ho.b hs.a _) ?_
  wtm_at "ev_st"
  refine wpC_of (lside_w ho.a ho.b hs.b _) ?_
  wtm_at "ev_st"
  exact ⟨rfl, rfl⟩
def sg (x : Int) : Int := if x < 0 then -1 else 1
/-- how the sides stand to the meeting of the lines -/
def btm (s o : Stk) : Int := side s.1 s.2 o.2 - side s.1 s.2 o.1
theorem btm_eq (s o : Stk) : btm s o = (s.2.1 - s.1.1) * (o.2.2 - o.1.2) - (s.2.2 - s.1.2) * (o.2.1 - o.1.1) := by
  unfold btm side
  grind
theorem btm_eq2 (s o : Stk) : btm s o = side o.1 o.2 s.1 - side o.1 o.2 s.2 := by
  unfold btm side
  grind
theorem top_eq (s o : Stk) : (o.1.1 - s.1.1) * (o.2.2 - o.1.2) - (o.1.2 - s.1.2) * (o.2.1 - o.1.1) = side o.1 o.2 s.1 := by
  unfold side
  grind
theorem far_eq (s o : Stk) : (o.1.1 - s.1.1) * (s.2.2 - s.1.2) - (o.1.2 - s.1.2) * (s.2.1 - s.1.1) = - side s.1 s.2 o.1 := by
  unfold side
  grind
theorem btm_b {s o : Stk} (hs : InS s) (ho : InS o) : (btm s o).natAbs ≤ 576 := by
  have h1 := side_b hs.a hs.b ho.b
  have h2 := side_b hs.a hs.b ho.a
  unfold btm
  omega
theorem meeting_w {s o : Stk} (hs : InS s) (ho : InS o) (τ : Tp) : S_meeting [.d (stD s), .d (stD o)] τ = some (.tuple [.int (sg (btm s o) * btm s o), .int (sg (btm s o) * side o.1 o.2 s.1), .int (sg (btm s o) * -side s.1 s.2 o.1)], τ) := by
  refine wpC_eq ?_
  unfold S_meeting
  have b0 := btm_b hs ho
  have b1 := side_b ho.a ho.b hs.a
  have b2 := side_b hs.a hs.b ho.a
  have tw : ∀ (u v : Pt) (x : Int), u.1.natAbs ≤ 1000 → u.2.natAbs ≤ 1000 → v.1.natAbs ≤ 1000 → v.2.natAbs ≤ 1000 → u.1 * v.2 - u.2 * v.1 = x → ∀ τ, S_turn [.d (ptD u), .d (ptD v)] τ = some (.int x, τ) := fun u v x h1 h2 h3 h4 e τ => by rw [turn_w h1 h2 h3 h4, e]
  obtain ⟨⟨p1, p2, p3, p4⟩, ⟨q1, q2, q3, q4⟩⟩ := hs
  obtain ⟨⟨r1, r2, r3, r4⟩, ⟨u1, u2, u3, u4⟩⟩ := ho
  have t1 := tw (s.2.1 - s.1.1, s.2.2 - s.1.2) (o.2.1 - o.1.1, o.2.2 - o.1.2) (btm s o) (by simp; omega) (by simp; omega) (by simp; omega) (by simp; omega) (btm_eq s o).symm
  have t2 := tw (o.1.1 - s.1.1, o.1.2 - s.1.2) (o.2.1 - o.1.1, o.2.2 - o.1.2) (side o.1 o.2 s.1) (by simp; omega) (by simp; omega) (by simp; omega) (by simp; omega) (top_eq s o)
  have t3 := tw (o.1.1 - s.1.1, o.1.2 - s.1.2) (s.2.1 - s.1.1, s.2.2 - s.1.2) (- side s.1 s.2 o.1) (by simp; omega) (by simp; omega) (by simp; omega) (by simp; omega) (far_eq s o)
  generalize btm s o = b at *
  generalize side o.1 o.2 s.1 = c at *
  generalize side s.1 s.2 o.1 = a at *
  have m : ∀ x y : Int, x.natAbs ≤ 1 → y.natAbs ≤ 1000 → x.natAbs.log2 + y.natAbs.log2 < 1000000 := fun x y h1 h2 => mul_sm (by omega) (by omega)
  wtm_at "ev_st"
  refine wpC_of (way_w _ _ _) ?_
  wtm_at "ev_st"
  refine wpC_of (way_w _ _ _) ?_
  wtm_at "ev_st"
  refine wpC_of (way_w _ _ _) ?_
  wtm_at "ev_st"
  refine wpC_of (t1 _) ?_
  wtm_at "ev_st"
  refine k_d (fun h => ?_) (fun h => ?_)
  · have e : sg b = -1 := by unfold sg; rw [if_pos h]
    rw [e]
    wtm_at "ev_st"
    refine k_mul (m _ _ (by decide) (by omega)) ?_
    wtm_at "ev_st"
    refine wpC_of (t2 _) ?_
    wtm_at "ev_st"
    refine k_mul (m _ _ (by decide) (by omega)) ?_
    wtm_at "ev_st"
    refine wpC_of (t3 _) ?_
    wtm_at "ev_st"
    refine k_mul (m _ _ (by decide) (by omega)) ?_
    wtm_at "ev_st"
    exact ⟨rfl, rfl⟩
  · have e : sg b = 1 := by unfold sg; rw [if_neg h]
    rw [e]
    wtm_at "ev_st"
    refine k_mul (m _ _ (by decide) (by omega)) ?_
    wtm_at "ev_st"
    refine wpC_of (t2 _) ?_
    wtm_at "ev_st"
    refine k_mul (m _ _ (by decide) (by omega)) ?_
    wtm_at "ev_st"
    refine wpC_of (t3 _) ?_
    wtm_at "ev_st"
    refine k_mul (m _ _ (by decide) (by omega)) ?_
    wtm_at "ev_st"
    exact ⟨rfl, rfl⟩

open PySem PySem.Spec PyProof.Rows L2
open PySem.W (minD maxD)
/-! ### how two sticks lie: crossing -/
def mTouch (s o : Stk) : Bool :=
  (side s.1 s.2 o.1 == 0 && decide (min s.1.1 s.2.1 ≤ o.1.1) && decide (o.1.1 ≤ max s.1.1 s.2.1) && decide (min s.1.2 s.2.2 ≤ o.1.2) && decide (o.1.2 ≤ max s.1.2 s.2.2)) ||
  (side s.1 s.2 o.2 == 0 && decide (min s.1.1 s.2.1 ≤ o.2.1) && decide (o.2.1 ≤ max s.1.1 s.2.1) && decide (min s.1.2 s.2.2 ≤ o.2.2) && decide (o.2.2 ≤ max s.1.2 s.2.2)) ||
  (side o.1 o.2 s.1 == 0 && decide (min o.1.1 o.2.1 ≤ s.1.1) && decide (s.1.1 ≤ max o.1.1 o.2.1) && decide (min o.1.2 o.2.2 ≤ s.1.2) && decide (s.1.2 ≤ max o.1.2 o.2.2)) ||
  (side o.1 o.2 s.2 == 0 && decide (min o.1.1 o.2.1 ≤ s.2.1) && decide (s.2.1 ≤ max o.1.1 o.2.1) && decide (min o.1.2 o.2.2 ≤ s.2.2) && decide (s.2.2 ≤ max o.1.2 o.2.2))
def mCross (s o : Stk) : Bool := decide (side s.1 s.2 o.1 * side s.1 s.2 o.2 < 0) && decide (side o.1 o.2 s.1 * side o.1 o.2 s.2 < 0)
/-- where s meets o, as a part of s -/
def place (s o : Stk) : Rat := ((side o.1 o.2 s.1).natAbs : Int) / (((side o.1 o.2 s.1).natAbs : Int) + ((side o.1 o.2 s.2).natAbs : Int) : Int)
theorem cross_parts {s o : Stk} (h : mCross s o = true) : side s.1 s.2 o.1 * side s.1 s.2 o.2 < 0 ∧ side o.1 o.2 s.1 * side o.1 o.2 s.2 < 0 := by
  unfold mCross at h
  simpa using h
theorem neg_mul_cases {a b : Int} (h : a * b < 0) : (0 < a ∧ b < 0) ∨ (a < 0 ∧ 0 < b) := by
  by_cases ha : 0 < a
  · by_cases hb : b < 0
    · exact .inl ⟨ha, hb⟩
    · have := Int.mul_nonneg (Int.le_of_lt ha) (show 0 ≤ b by omega)
      omega
  · by_cases ha' : a < 0
    · by_cases hb : 0 < b
      · exact .inr ⟨ha', hb⟩
      · have := Int.mul_nonneg_of_nonpos_of_nonpos (Int.le_of_lt ha') (show b ≤ 0 by omega)
        omega
    · have : a = 0 := by omega
      subst this
      simp at h
theorem crossing_cross {s o : Stk} (hs : InS s) (ho : InS o) (h : mCross s o = true) (τ : Tp) : S_crossing [.d (stD s), .d (stD o)] τ = some (.tuple [frD (place s o), frD (place o s)], τ) := by
  obtain ⟨h1, h2⟩ := cross_parts h
  have e1 : btm s o = side s.1 s.2 o.2 - side s.1 s.2 o.1 := rfl
  have e2 := btm_eq2 s o
  have b1 := side_b ho.a ho.b hs.a
  have b2 := side_b hs.a hs.b ho.a
  have b3 := side_b ho.a ho.b hs.b
  have b4 := side_b hs.a hs.b ho.b
  refine wpC_eq ?_
  unfold S_crossing place
  wtm_at "ev_st"
  refine wpC_of (meeting_w hs ho _) ?_
  generalize btm s o = b at *
  generalize side o.1 o.2 s.1 = c at *
  generalize side s.1 s.2 o.1 = a at *
  generalize side o.1 o.2 s.2 = d at *
  generalize side s.1 s.2 o.2 = a' at *
  have hb : 0 < sg b * b ∧ sg b * c = c.natAbs ∧ sg b * b = c.natAbs + d.natAbs ∧ sg b * -a = a.natAbs ∧ sg b * b = a.natAbs + a'.natAbs ∧ (0 : Int) < c.natAbs ∧ (0 : Int) < d.natAbs ∧ (0 : Int) < a.natAbs ∧ (0 : Int) < a'.natAbs ∧ sg b * b ≤ 1000 := by
    rcases neg_mul_cases h1 with ⟨x1, x2⟩ | ⟨x1, x2⟩ <;> rcases neg_mul_cases h2 with ⟨y1, y2⟩ | ⟨y1, y2⟩ <;> unfold sg <;> split <;> omega
  obtain ⟨g1, g2, g3, g4, g5, g6, g7, g8, g9, g0⟩ := hb
  rw [g2, g4]
  generalize sg b * b = m at *
  generalize (c.natAbs : Int) = C at *
  generalize (a.natAbs : Int) = A at *
  wtm_at "ev_sto"
  refine wpC_of (fraction_w g1 (sm9 (by omega)) _) ?_
  wtm_at "ev_sto"
  refine wpC_of (fraction_w g1 (sm9 (by omega)) _) ?_
  wtm_at "ev_sto"
  rw [← g3, ← g5]
  exact ⟨rfl, rfl⟩
theorem lplace_w {s o : Stk} (hs : InS s) (ho : InS o) (h : mCross s o = true) (τ : Tp) : S__law_place [.d (stD s), .d (stD o)] τ = some (frD (place s o), τ) := by
  obtain ⟨h1, h2⟩ := cross_parts h
  have b1 := side_b ho.a ho.b hs.a
  have b3 := side_b ho.a ho.b hs.b
  refine wpC_eq ?_
  unfold S__law_place place
  wtm_at "ev_st"
  refine wpC_of (lsides_w hs ho _) ?_
  generalize side o.1 o.2 s.1 = c at *
  generalize side o.1 o.2 s.2 = d at *
  have hc : c ≠ 0 := fun z => by subst z; simp at h2
  wtm_at "ev_sto"
  refine wpC_of (lfrac_w (by omega) (sm9 (by omega)) _) ?_
  wtm_at "ev_sto"
  exact ⟨rfl, rfl⟩

open PySem PySem.Spec PyProof.Rows L2
open PySem.W (minD maxD dataLt alike dataLt_int)
theorem alike2 (i j : Int) : alikeB [.int i, .int j] = true := by
  unfold alikeB
  simp [alike, isNone]
theorem k_min2 {env : En} {τ : Tp} {i j : Int} {Q : W → Prop} (q : Q (.d (.int (min i j)))) : wpO (gMM2 minD env τ (.d (.int i)) (.d (.int j))) Q := by
  have e : gMM2 minD env τ (.d (.int i)) (.d (.int j)) = some (.d (minD (.int i) [.int j])) := by
    unfold gMM2
    exact if_pos ⟨alike2 i j, by simp [PyData.depthAll, PyData.depth]⟩
  have e2 : minD (.int i) [.int j] = .int (min i j) := by
    show (if dataLt (.int j) (.int i) = true then PyData.int j else PyData.int i) = _
    rw [dataLt_int]
    by_cases h : j < i
    · rw [if_pos (by simpa using h)]; congr 1; omega
    · rw [if_neg (by simpa using h)]; congr 1; omega
  rw [e, e2]
  exact wpO_of rfl q
theorem k_max2 {env : En} {τ : Tp} {i j : Int} {Q : W → Prop} (q : Q (.d (.int (max i j)))) : wpO (gMM2 maxD env τ (.d (.int i)) (.d (.int j))) Q := by
  have e : gMM2 maxD env τ (.d (.int i)) (.d (.int j)) = some (.d (maxD (.int i) [.int j])) := by
    unfold gMM2
    exact if_pos ⟨alike2 i j, by simp [PyData.depthAll, PyData.depth]⟩
  have e2 : maxD (.int i) [.int j] = .int (max i j) := by
    show (if dataLt (.int i) (.int j) = true then PyData.int j else PyData.int i) = _
    rw [dataLt_int]
    by_cases h : i < j
    · rw [if_pos (by simpa using h)]; congr 1; omega
    · rw [if_neg (by simpa using h)]; congr 1; omega
  rw [e, e2]
  exact wpO_of rfl q
local macro_rules | `(tactic| wtm_at "ev_stO") => `(tactic| with_reducible first | refine k_min2 ?_ | refine k_max2 ?_)
abbrev cr : Str := PySem.Str.ofString "cross"
abbrev tc : Str := PySem.Str.ofString "touch"
abbrev ap : Str := PySem.Str.ofString "apart"
/-- a row of _law_meet: a point on a stick -/
structure MRow where
  k : Int
  p : Pt
  l : Stk
abbrev MRow.D (r : MRow) : D := .tuple [.int r.k, ptD r.p, stD r.l]
def MRow.t (r : MRow) : Bool := r.k == 0 && decide (min r.l.1.1 r.l.2.1 ≤ r.p.1) && decide (r.p.1 ≤ max r.l.1.1 r.l.2.1) && decide (min r.l.1.2 r.l.2.2 ≤ r.p.2) && decide (r.p.2 ≤ max r.l.1.2 r.l.2.2)
def mRows (s o : Stk) : List MRow := [⟨side s.1 s.2 o.1, o.1, s⟩, ⟨side s.1 s.2 o.2, o.2, s⟩, ⟨side o.1 o.2 s.1, s.1, o⟩, ⟨side o.1 o.2 s.2, s.2, o⟩]
def mT (s o : Stk) : Bool := (mRows s o).any MRow.t
def meetS (s o : Stk) : Str := if mCross s o = true then cr else if mT s o = true then tc else ap
theorem lmeet_w {s o : Stk} (hs : InS s) (ho : InS o) (τ : Tp) : S__law_meet [.d (stD s), .d (stD o)] τ = some (.str (meetS s o), τ) := by
  have b1 := side_b ho.a ho.b hs.a
  have b2 := side_b hs.a hs.b ho.a
  have b3 := side_b ho.a ho.b hs.b
  have b4 := side_b hs.a hs.b ho.b
  refine wpC_eq ?_
  unfold S__law_meet
  generalize hL : sFor (iSeq (eVar 6)) _ _ = L
  wtm_at "ev_st"
  refine wpC_of (lsides_w hs ho _) ?_
  have m1 : (side s.1 s.2 o.1).natAbs.log2 + (side s.1 s.2 o.2).natAbs.log2 < 1000000 := mul_sm (by omega) (by omega)
  have m2 : (side o.1 o.2 s.1).natAbs.log2 + (side o.1 o.2 s.2).natAbs.log2 < 1000000 := mul_sm (by omega) (by omega)
  wtm_at "ev_st"
  have rest : ∀ (τ : Tp) (R : D → Tp → Prop), mCross s o = false → R (.str (meetS s o)) τ → wpS L [.d (stD s), .d (stD o), .d (.int (side s.1 s.2 o.1)), .d (.int (side s.1 s.2 o.2)), .d (.int (side o.1 o.2 s.1)), .d (.int (side o.1 o.2 s.2)), .d (.list ((mRows s o).map MRow.D)), .no, .no, .no] τ (seqK (sSeq (sRet (eCon (.str (PySem.Str.ofString "apart")))) sNext) (runK R)) := by
    intro τ R hx hR
    rw [← hL]
    refine k_sfor (k_iseq ?_)
    wtm_at "ev_stE"
    refine k_seqI (b := true) (ds := (mRows s o).map MRow.D) rfl (k_for1 ?_)
    refine k_for (fun rest e t => t = τ ∧ ∃ rs : List MRow, rest = rs.map MRow.D ∧ mT s o = rs.any MRow.t ∧ ∃ x y z, e = [.d (stD s), .d (stD o), .d (.int (side s.1 s.2 o.1)), .d (.int (side s.1 s.2 o.2)), .d (.int (side o.1 o.2 s.1)), .d (.int (side o.1 o.2 s.2)), .d (.list ((mRows s o).map MRow.D)), x, y, z]) ?_ ?_ ⟨rfl, mRows s o, rfl, rfl, _, _, _, rfl⟩
    · rintro d r e t ⟨rfl, rs, h1, h2, x, y, z, rfl⟩
      cases rs with
      | nil => cases h1
      | cons q rs =>
        cases h1
        have no : q.t = false → mT s o = rs.any MRow.t := fun h => by rw [h2, List.any_cons, h, Bool.false_or]
        have yes : q.t = true → mT s o = true := fun h => by rw [h2, List.any_cons, h, Bool.true_or]
        wtm_at "ev_st"
        refine k_eq (fun c0 => ?_) (fun c0 => ?_)
        · wtm_at "ev_st"
          refine k_d (fun c1 => ?_) (fun c1 => ?_)
          · wtm_at "ev_st"
            refine k_d (fun c2 => ?_) (fun c2 => ?_)
            · wtm_at "ev_st"
              refine k_d (fun c3 => ?_) (fun c3 => ?_)
              · wtm_at "ev_st"
                refine k_d (fun c4 => ?_) (fun c4 => ?_)
                · wtm_at "ev_st"
                  have : meetS s o = tc := by
                    unfold meetS
                    rw [hx, yes (by unfold MRow.t; simp [c0, c1, c2, c3, c4])]
                    rfl
                  rw [this] at hR
                  exact hR
                · wtm_at "ev_st"
                  exact ⟨rfl, rs, rfl, no (by unfold MRow.t; simp [c4]), _, _, _, rfl⟩
              · wtm_at "ev_st"
                exact ⟨rfl, rs, rfl, no (by unfold MRow.t; simp [c3]), _, _, _, rfl⟩
            · wtm_at "ev_st"
              exact ⟨rfl, rs, rfl, no (by unfold MRow.t; simp [c2]), _, _, _, rfl⟩
          · wtm_at "ev_st"
            exact ⟨rfl, rs, rfl, no (by unfold MRow.t; simp [c1]), _, _, _, rfl⟩
        · wtm_at "ev_st"
          exact ⟨rfl, rs, rfl, no (by unfold MRow.t; simp [c0]), _, _, _, rfl⟩
    · rintro e t ⟨rfl, rs, h1, h2, x, y, z, rfl⟩
      cases rs with
      | cons q rs => cases h1
      | nil =>
        wtm_at "ev_st"
        have : meetS s o = ap := by unfold meetS; rw [hx, h2]; rfl
        rw [this] at hR
        exact hR
  refine k_d (fun c1 => ?_) (fun c1 => ?_)
  · wtm_at "ev_st"
    refine k_d (fun c2 => ?_) (fun c2 => ?_)
    · wtm_at "ev_st"
      have : meetS s o = cr := by unfold meetS mCross; simp [c1, c2]
      rw [this]
      exact ⟨rfl, rfl⟩
    · wtm_at "ev_st"
      exact rest τ (fun x t => x = .str (meetS s o) ∧ t = τ) (by unfold mCross; simp [c2]) ⟨rfl, rfl⟩
  · wtm_at "ev_st"
    exact rest τ (fun x t => x = .str (meetS s o) ∧ t = τ) (by unfold mCross; simp [c1]) ⟨rfl, rfl⟩

open PySem PySem.Spec PyProof.Rows L2
open PySem.W (minD maxD)
/-! ### the tape -/
abbrev tpD (cells : List Int) (i v : Int) : Tp := [.list (cells.map PyData.int), .int i, .int v]
/-- b more draws are within bounds -/
def TpOk (b : Nat) (τ : Tp) : Prop := ∃ cells i v, τ = tpD cells i v ∧ cells.length ≤ 63 ∧ 0 ≤ i ∧ i + b ≤ 1000000000000
theorem TpOk.mono {a b : Nat} {τ : Tp} (h : TpOk a τ) (hb : b ≤ a) : TpOk b τ := by
  obtain ⟨c, i, v, h1, h2, h3, h4⟩ := h
  exact ⟨c, i, v, h1, h2, h3, by omega⟩
section
variable {env : En} {τ : Tp}
theorem k_pow {Q : W → Prop} (q : Q (.d (.int 1000000000000000000))) : wpO (gI dPow env τ (.d (.int 10)) (.d (.int 18))) Q := by
  have e : dPow 10 18 = some (.int 1000000000000000000) := by
    unfold dPow
    rw [if_pos (by decide)]
    rfl
  rw [g_gi, e]
  exact wpO_of rfl q
theorem k_ixl {ds : List D} {k : Int} {x : D} {Q : W → Prop} (h0 : 0 ≤ k) (h : ds[k.toNat]? = some x) (q : Q (.d x)) : wpO (gIx env τ (.d (.list ds)) (.d (.int k))) Q := by
  rw [g_ix, sq_l]
  obtain ⟨m, rfl⟩ : ∃ m : Nat, k = m := ⟨k.toNat, by omega⟩
  have hl : m < ds.length := (List.getElem?_eq_some_iff.mp h).1
  show wpO ((atI ds (m : Int)).map W.d) Q
  rw [at_nat hl]
  have h : ds[m]? = some x := h
  rw [h]
  exact wpO_of rfl q
theorem k_ixt {ds : List D} {k : Int} {x : D} {Q : W → Prop} (h0 : 0 ≤ k) (h : ds[k.toNat]? = some x) (q : Q (.d x)) : wpO (gIx env τ (.d (.tuple ds)) (.d (.int k))) Q := by
  rw [g_ix, sq_t]
  obtain ⟨m, rfl⟩ : ∃ m : Nat, k = m := ⟨k.toNat, by omega⟩
  have hl : m < ds.length := (List.getElem?_eq_some_iff.mp h).1
  show wpO ((atI ds (m : Int)).map W.d) Q
  rw [at_nat hl]
  have h : ds[m]? = some x := h
  rw [h]
  exact wpO_of rfl q
theorem k_sb1 {i : Nat} {a b c d : D} {R : Out → Prop} (h : GetAt i env .tp) (q : R (.nx env [a, d, c])) : wpO (setSub i d 1 env [a, b, c]) R := by
  unfold setSub
  rw [h.eq]
  exact wpO_of rfl q
theorem k_sb2 {i : Nat} {a b c d : D} {R : Out → Prop} (h : GetAt i env .tp) (q : R (.nx env [a, b, d])) : wpO (setSub i d 2 env [a, b, c]) R := by
  unfold setSub
  rw [h.eq]
  exact wpO_of rfl q
theorem k_ixp0 {a b c : D} {Q : W → Prop} (q : Q (.d a)) : wpO (gIx env [a, b, c] .tp (.d (.int 0))) Q := wpO_of rfl q
theorem k_ixp1 {a b c : D} {Q : W → Prop} (q : Q (.d b)) : wpO (gIx env [a, b, c] .tp (.d (.int 1))) Q := wpO_of rfl q
theorem k_ixp2 {a b c : D} {Q : W → Prop} (q : Q (.d c)) : wpO (gIx env [a, b, c] .tp (.d (.int 2))) Q := wpO_of rfl q
end
local macro_rules | `(tactic| wtm_at "ev_stO") => `(tactic| with_reducible first | refine k_ixp0 ?_ | refine k_ixp1 ?_ | refine k_ixp2 ?_ | refine k_pow ?_ | (apply k_sb1; focus (wtm_at "ev_ga"; done)) | (apply k_sb2; focus (wtm_at "ev_ga"; done)))
local macro_rules | `(tactic| wtm_at "ev_stS") => `(tactic| with_reducible refine k_ssub ?_)
local macro_rules | `(tactic| wtm_at "ev_stK") => `(tactic| with_reducible refine k_sbi ?_)
/-- the end of a draw -/
theorem draw_end {n : Int} {b : Nat} (hn : 0 < n) (hz : n.natAbs.log2 < 9000) {cells : List Int} {i v : Int} {x y : Sl} (h1 : cells.length ≤ 63) (h2 : 0 ≤ i) (h3 : i + b ≤ 1000000000000) {Q : D → Tp → Prop} (q : ∀ r τ', 0 ≤ r → r < n → TpOk b τ' → Q (.int r) τ') :
    wpS (sSeq (sSet false 4 (f2 (gI dMod) (f2 gIx (eVar 0) (eCon (.int (2)))) (eVar 1)))
    (sSeq (sSub 0 (eCon (.int (2))) (f2 (gI dDiv) (f2 gIx (eVar 0) (eCon (.int (2)))) (eVar 1)))
    (sSeq (sRet (eVar 4))
    sNext))) [.tp, .d (.int n), x, y, .no] (tpD cells i v) (runK Q) := by
  wtm_at "ev_st"
  refine k_mod hn ?_
  wtm_at "ev_st"
  refine k_div hn hz ?_
  wtm_at "ev_st"
  exact q _ _ (Int.emod_nonneg _ (by omega)) (Int.emod_lt_of_pos _ hn) ⟨cells, i, _, rfl, h1, h2, h3⟩
theorem pow_num : (2 : Nat) ^ 64 = 18446744073709551616 := by decide
theorem mul_o {i j : Int} (hi : i.natAbs < 18446744073709551616) (hj : j.natAbs < 18446744073709551616) : i.natAbs.log2 + j.natAbs.log2 < 1000000 :=
  mul_ok (m := 64) (n := 64) (by rw [pow_num]; exact hi) (by rw [pow_num]; exact hj) (by decide) (by decide) (by decide)
theorem draw_w {n : Int} {b : Nat} {τ : Tp} (hT : TpOk (b + 1) τ) (hn : 0 < n) (hz : n.natAbs.log2 < 9000) {Q : D → Tp → Prop} (q : ∀ r τ', 0 ≤ r → r < n → TpOk b τ' → Q (.int r) τ') : wpC S__law_draw [.tp, .d (.int n)] τ Q := by
  obtain ⟨cells, i, v, rfl, h1, h2, h3⟩ := hT
  unfold S__law_draw
  generalize hE : sSeq (sSet false 4 _) _ = L
  have fin : ∀ (i v : Int) (x y : Sl), 0 ≤ i → i + b ≤ 1000000000000 → wpS L [.tp, .d (.int n), x, y, .no] (tpD cells i v) (runK Q) := fun i v x y g1 g2 => by
    rw [← hE]
    exact draw_end hn hz h1 g1 g2 q
  generalize hM : sSeq (sSet false 3 (f2 (gI dMod) (f2 gAdd (eVar 3) (f2 gMul _ _)) (eVar 2))) _ = M
  wtm_at "ev_st"
  refine k_d (fun c1 => ?_) (fun c1 => ?_)
  · -- the cell
    have mix : ∀ (cell : Int) (R : Out → Prop), (∀ c', R (.nx [.tp, .d (.int n), .d (.int 2305843009213693951), .d (.int c'), .no] (tpD cells i v))) →
        wpS (sSeq (sSet false 3 (f2 (gI dMod) (f2 gAdd (eVar 3) (f2 gMul (eCon (.int (1000003))) (f2 gIx (eVar 0) (eCon (.int (1)))))) (eVar 2)))
    (sSeq (sSet false 3 (f2 (gI dMod) (f2 gAdd (f2 gAdd (f2 gMul (eVar 3) (eVar 3)) (f2 gMul (eCon (.int (1181783497276652981))) (eVar 3))) (eCon (.int (2049848353892358983)))) (eVar 2)))
    (sSeq (sSet false 3 (f2 (gI dMod) (f2 gAdd (f2 gMul (eVar 3) (eVar 3)) (eCon (.int (1442695040888963407)))) (eVar 2)))
    sNext))) [.tp, .d (.int n), .d (.int 2305843009213693951), .d (.int cell), .no] (tpD cells i v) R := fun cell R hR => by
      wtm_at "ev_st"
      refine k_mul (mul_o (by decide) (by omega)) ?_
      wtm_at "ev_st"
      refine k_mod (by decide) ?_
      have r1 := Int.emod_nonneg (cell + 1000003 * i) (show (2305843009213693951 : Int) ≠ 0 by decide)
      have r2 := Int.emod_lt_of_pos (cell + 1000003 * i) (show (0 : Int) < 2305843009213693951 by decide)
      generalize (cell + 1000003 * i) % 2305843009213693951 = u at *
      wtm_at "ev_st"
      refine k_mul (mul_o (by omega) (by omega)) ?_
      wtm_at "ev_st"
      refine k_mul (mul_o (by decide) (by omega)) ?_
      wtm_at "ev_st"
      refine k_mod (by decide) ?_
      have r3 := Int.emod_nonneg (u * u + 1181783497276652981 * u + 2049848353892358983) (show (2305843009213693951 : Int) ≠ 0 by decide)
      have r4 := Int.emod_lt_of_pos (u * u + 1181783497276652981 * u + 2049848353892358983) (show (0 : Int) < 2305843009213693951 by decide)
      generalize (u * u + 1181783497276652981 * u + 2049848353892358983) % 2305843009213693951 = w at *
      wtm_at "ev_st"
      refine k_mul (mul_o (by omega) (by omega)) ?_
      wtm_at "ev_st"
      refine k_mod (by decide) ?_
      wtm_at "ev_st"
      exact hR _
    have tail : ∀ (cell : Int), wpS (sSeq (sIf (eOr (f2 gGe (f2 gIx (eVar 0) (eCon (.int (1)))) (f1 gLen (f2 gIx (eVar 0) (eCon (.int (0)))))) (f2 gLt (eVar 3) (f2 (gI dPow) (eCon (.int (10))) (eCon (.int (18)))))) M sNext)
    (sSeq (sSub 0 (eCon (.int (1))) (f2 gAdd (f2 gIx (eVar 0) (eCon (.int (1)))) (eCon (.int (1)))))
    (sSeq (sSub 0 (eCon (.int (2))) (eVar 3))
    sNext))) [.tp, .d (.int n), .d (.int 2305843009213693951), .d (.int cell), .no] (tpD cells i v) (seqK L (runK Q)) := fun cell => by
      have go : ∀ c' : Int, wpS (sSeq (sSub 0 (eCon (.int (1))) (f2 gAdd (f2 gIx (eVar 0) (eCon (.int (1)))) (eCon (.int (1)))))
          (sSeq (sSub 0 (eCon (.int (2))) (eVar 3)) sNext)) [.tp, .d (.int n), .d (.int 2305843009213693951), .d (.int c'), .no] (tpD cells i v) (seqK L (runK Q)) := fun c' => by
        wtm_at "ev_st"
        exact fin (i + 1) c' _ _ (by omega) (by omega)
      have mx : wpS M [.tp, .d (.int n), .d (.int 2305843009213693951), .d (.int cell), .no] (tpD cells i v) (seqK (sSeq (sSub 0 (eCon (.int (1))) (f2 gAdd (f2 gIx (eVar 0) (eCon (.int (1)))) (eCon (.int (1)))))
          (sSeq (sSub 0 (eCon (.int (2))) (eVar 3)) sNext)) (seqK L (runK Q))) := by
        rw [← hM]
        exact mix cell _ fun c' => k_nx (go c')
      refine k_seq (k_sif ?_)
      wtm_at "ev_st"
      refine k_d (fun c2 => ?_) (fun c2 => ?_)
      · wtm_at "ev_st"
        exact mx
      · wtm_at "ev_st"
        refine k_d (fun c3 => ?_) (fun c3 => ?_)
        · exact mx
        · wtm_at "ev_st"
          exact fin (i + 1) cell _ _ (by omega) (by omega)
    generalize hT : sSeq (sIf (eOr (f2 gGe _ _) _) M sNext) _ = T at tail ⊢
    wtm_at "ev_st"
    refine k_d (fun c2 => ?_) (fun c2 => ?_)
    · have hl : 0 < cells.length := by simpa using c2
      have hm : (cells.map PyData.int).length = cells.length := List.length_map ..
      wtm_at "ev_st"
      refine k_mod (by omega) ?_
      have r1 := Int.emod_nonneg i (show ((cells.map PyData.int).length : Int) ≠ 0 by omega)
      have r2 := Int.emod_lt_of_pos i (show (0 : Int) < ((cells.map PyData.int).length : Int) by omega)
      generalize i % ((cells.map PyData.int).length : Int) = u at *
      have hu : u.toNat < cells.length := by omega
      refine k_ixl (x := .int cells[u.toNat]) r1 (by simp [hu]) ?_
      wtm_at "ev_st"
      exact tail _
    · wtm_at "ev_st"
      exact tail _
  · wtm_at "ev_st"
    exact fin i v _ _ h2 (by omega)

open PySem PySem.Spec PyProof.Rows L2
open PySem.W (minD maxD dataLt dataLe dataLt_ii alike)
/-! ### sorted pairs -/
abbrev Pr := Int × Int
abbrev prD (p : Pr) : D := .tuple [.int p.1, .int p.2]
def prLt (p q : Pr) : Prop := p.1 < q.1 ∨ (p.1 = q.1 ∧ p.2 < q.2)
def prLe (p q : Pr) : Bool := !(decide (q.1 < p.1 ∨ (q.1 = p.1 ∧ q.2 < p.2)))
theorem dataLe_pr (p q : Pr) : dataLe false (fun x => x) (prD p) (prD q) = prLe p q := by
  have e : dataLe false (fun x => x) (prD p) (prD q) = !dataLt (prD q) (prD p) := rfl
  rw [e, dataLt_ii]
  rfl
theorem alike_pr (p q : Pr) : alike (prD p) (prD q) = true := by
  simp [alike, PySem.W.alikeAll]
def srt (l : List Pr) : List Pr := l.mergeSort prLe
theorem prLe_trans (a b c : Pr) (h1 : prLe a b = true) (h2 : prLe b c = true) : prLe a c = true := by
  unfold prLe at *
  simp at *
  omega
theorem prLe_total (a b : Pr) : (prLe a b || prLe b a) = true := by
  unfold prLe
  simp
  omega
theorem srt_perm (l : List Pr) : (srt l).Perm l := List.mergeSort_perm ..
theorem srt_mem {l : List Pr} {x : Pr} : x ∈ srt l ↔ x ∈ l := (srt_perm l).mem_iff
theorem srt_le (l : List Pr) : (srt l).Pairwise fun a b => prLe a b = true := List.pairwise_mergeSort prLe_trans prLe_total l
theorem srt_lt {l : List Pr} (h : l.Nodup) : (srt l).Pairwise prLt := by
  have h1 := srt_le l
  have h2 : (srt l).Nodup := (srt_perm l).nodup_iff.mpr h
  refine (h1.and h2).imp fun {a b} ⟨h, hne⟩ => ?_
  unfold prLe at h
  unfold prLt
  obtain ⟨a1, a2⟩ := a
  obtain ⟨b1, b2⟩ := b
  simp at h hne
  simp
  omega
theorem k_sort {env : En} {τ : Tp} {w : W} {l : List Pr} {Q : W → Prop} (e : seqOf env τ w = some (true, l.map prD)) (q : Q (.new ((srt l).map prD))) : wpO (gSorted env τ w) Q := by
  have h : (l.map prD).mergeSort (dataLe false fun x => x) = (srt l).map prD := by
    unfold srt
    rw [List.map_mergeSort (s := dataLe false fun x => x)]
    intro a _ b _
    exact (dataLe_pr a b).symm
  have c1 : allAlikeB (l.map prD) = true := by
    unfold allAlikeB
    simp [List.all_eq_true, alike_pr]
  have c2 : sortableB (l.map prD) = true := by
    unfold sortableB
    simp [List.all_eq_true, tupNe]
  have c3 : ((l.map prD).all fun d => decide (d.depth ≤ 60)) = true := by
    simp [List.all_eq_true, PyData.depth, PyData.depthAll]
  unfold gSorted
  rw [e]
  dsimp only
  rw [if_pos ⟨c1, c2, c3⟩, h]
  exact wpO_of rfl q
/-! ### piles -/
structure SticksOk (ss : List Stk) : Prop where
  ins : ∀ s ∈ ss, InS s
  ne : ∀ s ∈ ss, s.1 ≠ s.2
  tch : ss.Pairwise fun a b => meetS b a ≠ tc
/-- a law's list of sticks that touch the new one is empty -/
theorem k_lc1 {env env' : En} {τ : Tp} {own : Nat} : True := trivial

open PySem PySem.Spec PyProof.Rows L2
open PySem.W (minD maxD)
/-! ### loops by place -/
theorem rangeD_len (lo : Int) (n : Nat) : (rangeD lo n).length = n := by simp [rangeD]
theorem rangeD_at {lo : Int} {n i : Nat} {d : D} (h : (rangeD lo n)[i]? = some d) : i < n ∧ d = .int (lo + (i : Nat)) := by
  unfold rangeD at h
  rw [List.getElem?_map] at h
  cases hr : (List.range n)[i]? with
  | none => rw [hr] at h; cases h
  | some k =>
    rw [hr] at h
    cases h
    have := List.getElem?_eq_some_iff.mp hr
    obtain ⟨h1, h2⟩ := this
    simp at h1 h2
    subst h2
    exact ⟨h1, rfl⟩
theorem k_forR {tg : Tg} {body : EvS} {R : Out → Prop} {lo : Int} {n : Nat} (I : Nat → En → Tp → Prop) (hs : ∀ i env τ, i < n → I i env τ → wpO (bindT tg (.int (lo + (i : Nat))) env) fun e => wpS body e τ (whK (I (i + 1)) R)) (hd : ∀ env τ, I n env τ → R (.nx env τ))
    {env : En} {τ : Tp} (h0 : I 0 env τ) : wpO (forGo tg body (rangeD lo n) env τ) R := by
  refine k_forI I (fun i d e t h hI => ?_) (fun e t h => hd e t (by rw [rangeD_len] at h; exact h)) h0
  obtain ⟨h1, rfl⟩ := rangeD_at h
  exact hs i e t h1 hI
section
variable {env env' : En} {τ : Tp} {R : Out → Prop}
theorem shaped_ints : ∀ l : List Int, SeqAt.shaped (.list (l.map PyData.int)) = true := fun l => by
  have h1 : ∀ l : List Int, PyData.canLayAll0 (l.map PyData.int) = true := fun l => by
    induction l with
    | nil => rfl
    | cons a r ih => simp [PyData.canLayAll0, PyData.canLay0, ih]
  have h2 : ∀ l : List Int, PyData.depthAll (l.map PyData.int) = 0 := fun l => by
    induction l with
    | nil => rfl
    | cons a r ih => simp [PyData.depthAll, PyData.depth, ih]
  unfold SeqAt.shaped
  simp [PyData.canLay0, h1, PyData.depth, h2]
theorem k_eqnil {α : Type} {l : List α} {Q : W → Prop} (q : Q (.d (.bool l.isEmpty))) : wpO (gEqD false env τ (.new (l.map fun _ => PyData.int 1)) (.new [])) Q := by
  have e : gEqD false env τ (.new (l.map fun _ => PyData.int 1)) (.new []) = some (.d (.bool l.isEmpty)) := by
    have s1 := shaped_ints (l.map fun _ => 1)
    rw [List.map_map] at s1
    show (if SeqAt.shaped (.list (l.map fun _ => PyData.int 1)) = true ∧ SeqAt.shaped (.list []) = true then some (W.d (.bool (PyData.eqv (.list (l.map fun _ => PyData.int 1)) (.list [])))) else none) = _
    rw [if_pos ⟨s1, rfl⟩]
    cases l with
    | nil => simp [PyData.eqv, PyData.eqvAll]
    | cons a r => simp [PyData.eqv, PyData.eqvAll]
  rw [e]
  exact wpO_of rfl q
end
local macro_rules | `(tactic| wtm_at "ev_stS") => `(tactic| with_reducible (apply k_ins; focus (wtm_at "ev_ga"; done)))
/-- draws follow one another -/
theorem dr {n : Int} {a b : Nat} {τ : Tp} (hT : TpOk a τ) (hab : b + 1 ≤ a) (hn : 0 < n) (hz : n ≤ 1000000000000) {Q : D → Tp → Prop} (q : ∀ r τ', 0 ≤ r → r < n → TpOk b τ' → Q (.int r) τ') : wpC S__law_draw [.tp, .d (.int n)] τ Q :=
  draw_w (hT.mono hab) hn (by
    have h : n.natAbs < 2 ^ 41 := by
      have e : (2 : Nat) ^ 41 = 2199023255552 := by rfl
      rw [e]
      omega
    have := log_lt h (by decide)
    omega) q
theorem anyOrder_w {m : Nat} {b : Nat} {τ : Tp} (hT : TpOk (b + m) τ) (hm : m ≤ 1000) {Q : D → Tp → Prop} (q : ∀ (ns : List Int) τ', ns.length = m → TpOk b τ' → Q (.tuple (ns.map PyData.int)) τ') : wpC S__law_any_order [.tp, .d (.int m)] τ Q := by
  unfold S__law_any_order
  generalize hB : sSeq (sIns 2 _) sNext = B
  wtm_at "ev_st"
  refine k_forR (fun i e t => TpOk (b + m - i) t ∧ ∃ ns : List Int, ns.length = i ∧ ∃ x, e = [.tp, .d (.int m), .own (ns.map PyData.int), x]) ?_ ?_ ⟨hT, [], rfl, _, rfl⟩
  · rintro i e t hi ⟨ht, ns, hl, x, rfl⟩
    have hi : i < m := by simpa using hi
    rw [← hB]
    wtm_at "ev_st"
    refine dr ht (b := b + m - (i + 1)) (by omega) (by omega) (by omega) fun r τ' h0 h1 hT' => ?_
    wtm_at "ev_st"
    refine k_insd (by simp; omega) h0 (by omega) (by wtm_at "ev_ga") ?_
    wtm_at "ev_st"
    refine ⟨hT', ns.take r.toNat ++ [0 + (i : Int)] ++ ns.drop r.toNat, ?_, .d (.int (0 + (i : Int))), ?_⟩
    · simp
      omega
    · simp [List.map_take, List.map_drop]
  · rintro e t ⟨ht, ns, hl, x, rfl⟩
    have hl : ns.length = m := by simpa using hl
    wtm_at "ev_st"
    exact q ns t hl (ht.mono (by simp))

open PySem PySem.Spec PyProof.Rows L2
open PySem.W (minD maxD)
/-! ### sticks that are drawn -/
theorem shaped_meet (s o : Stk) : SeqAt.shaped (.str (meetS s o)) = true := by
  unfold meetS
  split
  · decide +kernel
  · split <;> decide +kernel
theorem sh_tc : SeqAt.shaped (.str tc) = true := by decide +kernel
theorem sh_cr : SeqAt.shaped (.str cr) = true := by decide +kernel
def rv (s : Stk) : Stk := (s.2, s.1)
theorem side_rv (p q r : Pt) : side q p r = - side p q r := by
  unfold side
  grind
theorem side_sw (p q r : Pt) : side p q r = side q r p := by
  unfold side
  grind
theorem cross_rv (s o : Stk) : mCross (rv s) o = mCross s o := by
  unfold mCross rv
  simp only [side_rv s.1 s.2]
  rw [Int.neg_mul_neg, Int.mul_comm (side o.1 o.2 s.2)]
theorem row_rv (k : Int) (p : Pt) (l : Stk) : MRow.t ⟨-k, p, (l.2, l.1)⟩ = MRow.t ⟨k, p, l⟩ := by
  have h : ((-k : Int) == 0) = (k == 0) := by
    have e : (-k = 0) = (k = 0) := propext ⟨fun h => by omega, fun h => by omega⟩
    rw [Bool.eq_iff_iff, beq_iff_eq, beq_iff_eq, e]
  show ((-k == 0) && decide (min l.2.1 l.1.1 ≤ p.1) && decide (p.1 ≤ max l.2.1 l.1.1) && decide (min l.2.2 l.1.2 ≤ p.2) && decide (p.2 ≤ max l.2.2 l.1.2)) = _
  rw [h, Int.min_comm l.2.1 l.1.1, Int.max_comm l.2.1 l.1.1, Int.min_comm l.2.2 l.1.2, Int.max_comm l.2.2 l.1.2]
  rfl
theorem row_neg (k : Int) (p : Pt) (l : Stk) : MRow.t ⟨-k, p, l⟩ = MRow.t ⟨k, p, l⟩ := by
  have h : ((-k : Int) == 0) = (k == 0) := by
    have e : (-k = 0) = (k = 0) := propext ⟨fun h => by omega, fun h => by omega⟩
    rw [Bool.eq_iff_iff, beq_iff_eq, beq_iff_eq, e]
  unfold MRow.t
  rw [h]
theorem touch_rv (s o : Stk) : mT (rv s) o = mT s o := by
  have e : mRows (rv s) o = [⟨- side s.1 s.2 o.1, o.1, (s.2, s.1)⟩, ⟨- side s.1 s.2 o.2, o.2, (s.2, s.1)⟩, ⟨side o.1 o.2 s.2, s.2, o⟩, ⟨side o.1 o.2 s.1, s.1, o⟩] := by
    unfold mRows rv
    simp only [side_rv s.1 s.2]
  unfold mT
  rw [e]
  unfold mRows
  simp only [List.any_cons, List.any_nil, row_rv]
  cases MRow.t ⟨side s.1 s.2 o.1, o.1, s⟩ <;> cases MRow.t ⟨side s.1 s.2 o.2, o.2, s⟩ <;> cases MRow.t ⟨side o.1 o.2 s.1, s.1, o⟩ <;> cases MRow.t ⟨side o.1 o.2 s.2, s.2, o⟩ <;> rfl
theorem meet_rv (s o : Stk) : meetS (rv s) o = meetS s o := by
  unfold meetS
  rw [cross_rv, touch_rv]
section
variable {env : En} {τ : Tp}
theorem k_rev2 {a b : D} {Q : W → Prop} (q : Q (.d (.tuple [b, a]))) : wpO (gRev env τ (.d (.tuple [a, b]))) Q := wpO_of rfl q
theorem k_ixn {ds : List D} {k : Int} {x : D} {Q : W → Prop} (h0 : 0 ≤ k) (h : ds[k.toNat]? = some x) (q : Q (.d x)) : wpO (gIx env τ (.new ds) (.d (.int k))) Q := by
  rw [g_ix, sq_n]
  obtain ⟨m, rfl⟩ : ∃ m : Nat, k = m := ⟨k.toNat, by omega⟩
  have hl : m < ds.length := (List.getElem?_eq_some_iff.mp h).1
  show wpO ((atI ds (m : Int)).map W.d) Q
  rw [at_nat hl]
  have h : ds[m]? = some x := h
  rw [h]
  exact wpO_of rfl q
end
theorem k_pick2 {env : En} {τ : Tp} {a b : D} {k : Int} {Q : W → Prop} (h0 : 0 ≤ k) (h1 : k < 2) (qa : Q (.d a)) (qb : Q (.d b)) : wpO (gIx env τ (.new [a, b]) (.d (.int k))) Q := by
  rcases (show k = 0 ∨ k = 1 by omega) with h | h
  · subst h; exact k_ixn (by decide) rfl qa
  · subst h; exact k_ixn (by decide) rfl qb
local macro_rules | `(tactic| wtm_at "ev_stO") => `(tactic| with_reducible refine k_rev2 ?_)
/-- the sticks that touch a new one -/
theorem touching_w {env : En} {τ : Tp} {i j : Nat} {s : Stk} {fs : List Stk} (hs : InS s) (hf : ∀ x ∈ fs, InS x) (hg : ∀ x : Stk, ∃ e, SetAt (.d (stD x)) j env e ∧ GetAt i e (.d (stD s)) ∧ GetAt j e (.d (stD x))) :
    lcGo (.nm j) (f2 (gEqD false) (eCall S__law_meet (aCons (eVar i) (aCons (eVar j) aNil))) (eCon (.str (PySem.Str.ofString "touch")))) (eCon (.int 1)) env (fs.map stD) τ = some ((fs.filter fun x => meetS s x == tc).map fun _ => .int 1, τ) := by
  refine lc_map fun x hx => ?_
  obtain ⟨e, h1, h2, h3⟩ := hg x
  refine k_bnm h1 ?_
  refine k_f2 (k_call (k_acons (k_vd h2 (k_ckd (k_acons (k_vd h3 (k_ckd (k_anil ?_))))))))
  wtm_at "ev_st"
  refine wpC_of (lmeet_w hs (hf x hx) _) ?_
  wtm_at "ev_st"
  refine k_eqs (shaped_meet _ _) sh_tc ?_
  refine ⟨rfl, rfl, fun _ => ?_⟩
  wtm_at "ev_st"
  exact ⟨rfl, rfl⟩

open PySem PySem.Spec PyProof.Rows L2
open PySem.W (minD maxD)
theorem SticksOk.nil : SticksOk [] := ⟨fun _ h => (by cases h), fun _ h => (by cases h), List.Pairwise.nil⟩
theorem SticksOk.snoc {fs : List Stk} {s : Stk} (h : SticksOk fs) (hi : InS s) (hn : s.1 ≠ s.2) (ht : (fs.filter fun x => meetS s x == tc) = []) : SticksOk (fs ++ [s]) := by
  refine ⟨fun x hx => ?_, fun x hx => ?_, ?_⟩
  · rcases List.mem_append.mp hx with q | q
    · exact h.ins x q
    · rw [List.mem_singleton.mp q]; exact hi
  · rcases List.mem_append.mp hx with q | q
    · exact h.ne x q
    · rw [List.mem_singleton.mp q]; exact hn
  · rw [List.pairwise_append]
    refine ⟨h.tch, List.pairwise_singleton _ _, fun a ha b hb => ?_⟩
    rw [List.mem_singleton.mp hb]
    intro e
    have : a ∈ fs.filter fun x => meetS s x == tc := List.mem_filter.mpr ⟨ha, by rw [e]; exact beq_self_eq_true _⟩
    rw [ht] at this
    cases this
theorem SticksOk.snoc_rv {fs : List Stk} {s : Stk} (h : SticksOk fs) (hi : InS s) (hn : s.1 ≠ s.2) (ht : (fs.filter fun x => meetS s x == tc) = []) : SticksOk (fs ++ [rv s]) :=
  h.snoc ⟨hi.b, hi.a⟩ (Ne.symm hn) (by simpa only [meet_rv] using ht)
theorem fan_w {m : Nat} {b : Nat} {τ : Tp} (hT : TpOk (b + 5 * m + 2) τ) (hm : m ≤ 5) (h1 : 1 ≤ m) {Q : D → Tp → Prop} (q : ∀ (ss : List Stk) τ', SticksOk ss → ss ≠ [] → ss.length ≤ m → TpOk b τ' → Q (.tuple (ss.map stD)) τ') : wpC S__law_fan [.tp, .d (.int (m : Int))] τ Q := by
  unfold S__law_fan
  generalize hB : sSeq (sSet false 6 _) _ = B
  wtm_at "ev_st"
  refine dr hT (b := b + 5 * m + 1) (by omega) (by omega) (by omega) fun y1 τ1 a0 a1 T1 => ?_
  wtm_at "ev_st"
  refine dr T1 (b := b + 5 * m) (by omega) (by omega) (by omega) fun y2 τ2 b0 b1 T2 => ?_
  wtm_at "ev_st"
  refine k_forR (fun i e t => ∃ fs : List Stk, ∃ u v : Int, TpOk (b + 5 * (m - i)) t ∧ SticksOk fs ∧ fs.length ≤ i ∧ (1 ≤ i → fs ≠ []) ∧ 0 ≤ u ∧ u ≤ 2 + 2 * i ∧ 10 - 2 * (i : Int) ≤ v ∧ v ≤ 12 ∧ ∃ x y z, e = [.tp, .d (.int (m : Int)), .own (fs.map stD), .d (.int u), .d (.int v), x, y, z]) ?_ ?_
    ⟨[], y1, 12 - y2, by simpa using T2, .nil, by simp, fun h => by omega, a0, by omega, by omega, by omega, _, _, _, rfl⟩
  · rintro i e t hi ⟨fs, u, v, T3, ok, hl, hne, u0, u1, v0, v1, x, y, z, rfl⟩
    have hi : i < m := by simpa using hi
    rw [← hB]
    generalize hC : sSeq (sPar (ownL [2]) [3, 4] _) _ = C
    -- the row's end
    have fin : ∀ (fs' : List Stk) (t : Tp) (x y z : Sl), TpOk (b + 5 * (m - (i + 1)) + 2) t → SticksOk fs' → fs'.length ≤ i + 1 → fs' ≠ [] → ∀ R,
        wpS C [.tp, .d (.int (m : Int)), .own (fs'.map stD), .d (.int u), .d (.int v), x, y, z] t (whK (fun e t => ∃ fs : List Stk, ∃ u v : Int, TpOk (b + 5 * (m - (i + 1))) t ∧ SticksOk fs ∧ fs.length ≤ i + 1 ∧ (1 ≤ i + 1 → fs ≠ []) ∧ 0 ≤ u ∧ u ≤ 2 + 2 * (i + 1 : Nat) ∧ 10 - 2 * ((i + 1 : Nat) : Int) ≤ v ∧ v ≤ 12 ∧ ∃ x y z, e = [.tp, .d (.int (m : Int)), .own (fs.map stD), .d (.int u), .d (.int v), x, y, z]) R) := by
      intro fs' t x y z T4 ok' hl' hne' R
      rw [← hC]
      wtm_at "ev_st"
      refine dr T4 (b := b + 5 * (m - (i + 1)) + 1) (by omega) (by omega) (by omega) fun r1 t1 c0 c1 T5 => ?_
      wtm_at "ev_st"
      refine dr T5 (b := b + 5 * (m - (i + 1))) (by omega) (by omega) (by omega) fun r2 t2 d0 d1 T6 => ?_
      wtm_at "ev_st"
      exact ⟨fs', _, _, T6, ok', hl', fun _ => hne', by omega, by omega, by omega, by omega, _, _, _, rfl⟩
    wtm_at "ev_st"
    refine dr T3 (b := b + 5 * (m - (i + 1)) + 4) (by omega) (by omega) (by omega) fun r1 t1 c0 c1 T5 => ?_
    wtm_at "ev_st"
    refine dr T5 (b := b + 5 * (m - (i + 1)) + 3) (by omega) (by omega) (by omega) fun r2 t2 d0 d1 T6 => ?_
    wtm_at "ev_st"
    have hs : InS ((r1, u), (12 - r2, v)) := ⟨⟨by simpa using c0, by simp; omega, by simpa using u0, by simp; omega⟩, ⟨by simp; omega, by simp; omega, by simp; omega, by simp; omega⟩⟩
    have hn : (((r1, u), (12 - r2, v)) : Stk).1 ≠ (((r1, u), (12 - r2, v)) : Stk).2 := by
      simp
      intro h
      omega
    refine k_lcK rfl (by simp; omega) (lcw_of (touching_w (s := ((r1, u), (12 - r2, v))) hs ok.ins (fun x => ⟨_, by wtm_at "ev_ga", by wtm_at "ev_ga", by wtm_at "ev_ga"⟩)) ?_)
    wtm_at "ev_st"
    refine k_eqnil ?_
    wtm_at "ev_st"
    cases he : (fs.filter fun x => meetS ((r1, u), (12 - r2, v)) x == tc) with
    | nil =>
      refine k_t rfl ?_
      wtm_at "ev_st"
      refine dr T6 (b := b + 5 * (m - (i + 1)) + 2) (by omega) (by omega) (by omega) fun r3 t3 e0 e1 T7 => ?_
      wtm_at "ev_st"
      refine k_pick2 e0 e1 ?_ ?_
      · wtm_at "ev_st"
        refine k_appd (by simp; omega) (by wtm_at "ev_ga") ?_
        wtm_at "ev_st"
        have := fin (fs ++ [((r1, u), (12 - r2, v))]) t3 (.d (.int (0 + (i : Int)))) (.d (stD ((r1, u), (12 - r2, v)))) z T7 (ok.snoc hs hn he) (by simp; omega) (by simp)
        simp only [List.map_append, List.map_cons, List.map_nil] at this
        exact this _
      · wtm_at "ev_st"
        refine k_appd (by simp; omega) (by wtm_at "ev_ga") ?_
        wtm_at "ev_st"
        have := fin (fs ++ [rv ((r1, u), (12 - r2, v))]) t3 (.d (.int (0 + (i : Int)))) (.d (stD ((r1, u), (12 - r2, v)))) z T7 (ok.snoc_rv hs hn he) (by simp; omega) (by simp)
        simp only [List.map_append, List.map_cons, List.map_nil] at this
        exact this _
    | cons a r =>
      refine k_f rfl ?_
      wtm_at "ev_st"
      exact fin fs t2 _ _ _ (T6.mono (by omega)) ok (by omega) (fun h => by rw [h] at he; cases he) _
  · rintro e t ⟨fs, u, v, T3, ok, hl, hne, u0, u1, v0, v1, x, y, z, rfl⟩
    have hm' : (m : Int).toNat = m := by simp
    wtm_at "ev_st"
    exact q fs t ok (hne (by omega)) (by omega) (T3.mono (by omega))

open PySem PySem.Spec PyProof.Rows L2
open PySem.W (minD maxD)
theorem eqv_pt (p q : Pt) : PyData.eqv (ptD p) (ptD q) = (p.1 == q.1 && p.2 == q.2) := by
  simp [PyData.eqv, PyData.eqvAll]
theorem shaped_pt (p : Pt) : SeqAt.shaped (ptD p) = true := rfl
theorem eqv_ne {p q : Pt} (h : p ≠ q) : PyData.eqv (ptD p) (ptD q) = false := by
  rw [eqv_pt]
  obtain ⟨a, b⟩ := p
  obtain ⟨c, d⟩ := q
  by_cases h1 : a = c
  · subst h1
    have : b ≠ d := fun z => h (by rw [z])
    simp [this]
  · simp [h1]
theorem sticks_w {m : Nat} {lo hi : Int} {b : Nat} {τ : Tp} (hT : TpOk (b + 40 * m + 2) τ) (hm : m ≤ 5) (h1 : 1 ≤ m) (l0 : 0 ≤ lo) (l1 : lo < hi) (l2 : hi ≤ 12) {Q : D → Tp → Prop} (q : ∀ (ss : List Stk) τ', SticksOk ss → ss ≠ [] → ss.length ≤ m → TpOk b τ' → Q (.tuple (ss.map stD)) τ') : wpC S__law_sticks [.tp, .d (.int (m : Int)), .d (.int lo), .d (.int hi)] τ Q := by
  unfold S__law_sticks
  generalize hB : sSeq (sIf (f2 gLt (f1 gLen (eVar 4)) (eVar 5)) _ _) _ = B
  wtm_at "ev_st"
  refine dr hT (b := b + 40 * m + 1) (by omega) (by omega) (by omega) fun y1 τ1 a0 a1 T1 => ?_
  wtm_at "ev_st"
  refine dr T1 (b := b + 40 * m) (by omega) (by omega) (by omega) fun y2 τ2 b0 b1 T2 => ?_
  have hy : 0 ≤ y1 * y2 ∧ y1 * y2 ≤ m - 1 := by
    rcases (show y1 = 0 ∨ y1 = 1 by omega) with h | h <;> subst h <;> simp <;> omega
  generalize hq : y1 * y2 = p at hy
  wtm_at "ev_st"
  refine k_mul (mul_sm (by omega) (by omega)) ?_
  rw [hq]
  wtm_at "ev_st"
  refine k_mul (mul_sm (by decide) (by omega)) ?_
  wtm_at "ev_st"
  refine k_forR (fun i e t => ∃ fs : List Stk, TpOk (b + 10 * (4 * m - i)) t ∧ SticksOk fs ∧ fs.length ≤ m ∧ (1 ≤ i → fs ≠ []) ∧ ∃ x y z u v, e = [.tp, .d (.int (m : Int)), .d (.int lo), .d (.int hi), .own (fs.map stD), .d (.int (m - p)), .d (.int (hi - lo)), x, y, z, u, v]) ?_ ?_
    ⟨[], T2.mono (by omega), .nil, by simp, fun h => by omega, _, _, _, _, _, rfl⟩
  · rintro i e t hi' ⟨fs, T3, ok, hl, hne, x, y, z, u, v, rfl⟩
    have hi' : i < 4 * m := by
      have : ((4 : Int) * (m : Int)).toNat = 4 * m := by omega
      omega
    rw [← hB]
    generalize hC : sSeq (sSet false 10 _) _ = C
    -- the stick is known
    have fin : ∀ (s : Stk) (t : Tp) (x v w : Sl) (R : Out → Prop), InS s → s.1 ≠ s.2 → TpOk (b + 10 * (4 * m - (i + 1)) + 1) t → fs.length < m →
        wpS C [.tp, .d (.int (m : Int)), .d (.int lo), .d (.int hi), .own (fs.map stD), .d (.int (m - p)), .d (.int (hi - lo)), x, .d (ptD s.1), .d (ptD s.2), v, w] t (seqK sNext (whK (fun e t => ∃ fs : List Stk, TpOk (b + 10 * (4 * m - (i + 1))) t ∧ SticksOk fs ∧ fs.length ≤ m ∧ (1 ≤ i + 1 → fs ≠ []) ∧ ∃ x y z u v, e = [.tp, .d (.int (m : Int)), .d (.int lo), .d (.int hi), .own (fs.map stD), .d (.int (m - p)), .d (.int (hi - lo)), x, y, z, u, v]) R)) := by
      intro s t x v w R hs hn T4 hlt
      generalize hA : sSeq (sIf (eAnd (f2 (gEqD true) _ _) _) _ _) sNext = A at hC
      -- a stick or its turned one
      have app : ∀ (s' : Stk) (t : Tp), InS s' → s'.1 ≠ s'.2 → TpOk (b + 10 * (4 * m - (i + 1))) t → wpS A [.tp, .d (.int (m : Int)), .d (.int lo), .d (.int hi), .own (fs.map stD), .d (.int (m - p)), .d (.int (hi - lo)), x, .d (ptD s.1), .d (ptD s.2), .d (stD s'), w] t (seqK sNext (whK (fun e t => ∃ fs : List Stk, TpOk (b + 10 * (4 * m - (i + 1))) t ∧ SticksOk fs ∧ fs.length ≤ m ∧ (1 ≤ i + 1 → fs ≠ []) ∧ ∃ x y z u v, e = [.tp, .d (.int (m : Int)), .d (.int lo), .d (.int hi), .own (fs.map stD), .d (.int (m - p)), .d (.int (hi - lo)), x, y, z, u, v]) R)) := by
        intro s' t hs' hn' T5
        rw [← hA]
        wtm_at "ev_st"
        refine k_t (show (!PyData.eqv (ptD s.1) (ptD s.2)) = true by rw [eqv_ne hn]; rfl) ?_
        wtm_at "ev_st"
        refine k_lcK rfl (by simp; omega) (lcw_of (touching_w (s := s') hs' ok.ins (fun x => ⟨_, by wtm_at "ev_ga", by wtm_at "ev_ga", by wtm_at "ev_ga"⟩)) ?_)
        wtm_at "ev_st"
        refine k_eqnil ?_
        wtm_at "ev_st"
        cases he : (fs.filter fun x => meetS s' x == tc) with
        | nil =>
          refine k_t rfl ?_
          wtm_at "ev_st"
          refine k_appd (by simp; omega) (by wtm_at "ev_ga") ?_
          wtm_at "ev_st"
          refine ⟨fs ++ [s'], T5, ok.snoc hs' hn' he, by simp; omega, by simp, x, .d (ptD s.1), .d (ptD s.2), .d (stD s'), w, ?_⟩
          simp only [List.map_append, List.map_cons, List.map_nil]
        | cons a r =>
          refine k_f rfl ?_
          wtm_at "ev_st"
          exact ⟨fs, T5, ok, by omega, fun _ => (fun h => by rw [h] at he; cases he), _, _, _, _, _, rfl⟩
      rw [← hC]
      wtm_at "ev_st"
      refine dr T4 (b := b + 10 * (4 * m - (i + 1))) (by omega) (by omega) (by omega) fun r1 t1 c0 c1 T5 => ?_
      wtm_at "ev_st"
      refine k_pick2 c0 c1 ?_ ?_
      · wtm_at "ev_st"
        exact app s t1 hs hn T5
      · wtm_at "ev_st"
        exact app (rv s) t1 ⟨hs.b, hs.a⟩ (Ne.symm hn) T5
    have hw : 0 ≤ (hi - lo) / 3 ∧ 3 * ((hi - lo) / 3) ≤ hi - lo := by omega
    wtm_at "ev_st"
    refine k_d (fun c1 => ?_) (fun c1 => ?_)
    · wtm_at "ev_st"
      refine k_div (by decide) (by decide) ?_
      wtm_at "ev_st"
      refine dr T3 (b := b + 10 * (4 * m - (i + 1)) + 9) (by omega) (by omega) (by omega) fun r1 t1 c0 c1 T4 => ?_
      wtm_at "ev_st"
      refine dr T4 (b := b + 10 * (4 * m - (i + 1)) + 8) (by omega) (by omega) (by omega) fun r2 t2 d0 d1 T5 => ?_
      wtm_at "ev_st"
      refine k_div (by decide) (by decide) ?_
      wtm_at "ev_st"
      refine dr T5 (b := b + 10 * (4 * m - (i + 1)) + 7) (by omega) (by omega) (by omega) fun r3 t3 e0 e1 T6 => ?_
      wtm_at "ev_st"
      refine dr T6 (b := b + 10 * (4 * m - (i + 1)) + 6) (by omega) (by omega) (by omega) fun r4 t4 f0 f1 T7 => ?_
      wtm_at "ev_st"
      refine dr T7 (b := b + 10 * (4 * m - (i + 1)) + 5) (by omega) (by omega) (by omega) fun r5 t5 g0 g1 T8 => ?_
      wtm_at "ev_st"
      have hlt : fs.length < m := by
        have hml : (fs.map stD).length = fs.length := List.length_map ..
        omega
      refine k_eq (fun g2 => ?_) (fun g2 => ?_)
      · wtm_at "ev_st"
        refine dr T8 (b := b + 10 * (4 * m - (i + 1)) + 4) (by omega) (by omega) (by omega) fun r6 t6 x0 x1 T9 => ?_
        wtm_at "ev_st"
        refine dr T9 (b := b + 10 * (4 * m - (i + 1)) + 3) (by omega) (by omega) (by omega) fun r7 t7 x2 x3 Ta => ?_
        wtm_at "ev_st"
        refine dr Ta (b := b + 10 * (4 * m - (i + 1)) + 2) (by omega) (by omega) (by omega) fun r8 t8 x4 x5 Tb => ?_
        wtm_at "ev_st"
        refine dr Tb (b := b + 10 * (4 * m - (i + 1)) + 1) (by omega) (by omega) (by omega) fun r9 t9 x6 x7 Tc => ?_
        wtm_at "ev_st"
        exact fin ((lo + r6, r7), (lo + r8, 9 + r9)) t9 _ _ _ _ ⟨⟨by simp; omega, by simp; omega, by simp; omega, by simp; omega⟩, ⟨by simp; omega, by simp; omega, by simp; omega, by simp; omega⟩⟩ (by simp; intro _; omega) Tc hlt
      · wtm_at "ev_st"
        exact fin ((lo + r1, r2), (hi - r3, r4)) t5 _ _ _ _ ⟨⟨by simp; omega, by simp; omega, by simp; omega, by simp; omega⟩, ⟨by simp; omega, by simp; omega, by simp; omega, by simp; omega⟩⟩ (by simp; intro h; omega) (T8.mono (by omega)) hlt
    · wtm_at "ev_st"
      refine ⟨fs, T3.mono (by omega), ok, hl, fun _ => (fun h => ?_), _, _, _, _, _, rfl⟩
      subst h
      simp at c1
      omega
  · rintro e t ⟨fs, T3, ok, hl, hne, x, y, z, u, v, rfl⟩
    have hm' : ((4 : Int) * (m : Int)).toNat = 4 * m := by omega
    wtm_at "ev_st"
    exact q fs t ok (hne (by omega)) (by omega) (T3.mono (by omega))

open PySem PySem.Spec PyProof.Rows L2
open PySem.W (minD maxD)
/-! ### the pairs that cross -/
def dS : Stk := ((0, 0), (0, 0))
def rowOf (ss : List Stk) (two : Nat) : List Nat := (List.range two).filter fun one => meetS (ss.getD one dS) (ss.getD two dS) == cr
def raw (ss : List Stk) : Nat → List Pr
  | 0 => []
  | k + 1 => raw ss k ++ (rowOf ss k).map fun (one : Nat) => ((one : Int), (k : Int))
def pairsOf (ss : List Stk) : List Pr := srt (raw ss ss.length)
theorem k_cat {env : En} {τ : Tp} {a b : List D} {Q : W → Prop} (h : a.length + b.length ≤ 1000000) (q : Q (.new (a ++ b))) : wpO (gAdd env τ (.d (.list a)) (.new b)) Q := by
  have e : gAdd env τ (.d (.list a)) (.new b) = gCat env τ (.d (.list a)) (.new b) := rfl
  have e2 : gCat env τ (.d (.list a)) (.new b) = some (.new (a ++ b)) := by
    unfold gCat
    dsimp only [seqOf]
    have := line_big
    first | rfl | exact if_pos (by omega)
  rw [e, e2]
  exact wpO_of rfl q
theorem raw_len (ss : List Stk) : ∀ k, k ≤ 5 → (raw ss k).length ≤ 5 * k
  | 0, _ => by simp [raw]
  | k + 1, h => by
    have ih := raw_len ss k (by omega)
    have : (rowOf ss k).length ≤ k := by
      unfold rowOf
      refine Nat.le_trans (List.length_filter_le _ _) ?_
      simp
    unfold raw
    rw [List.length_append, List.length_map]
    omega
theorem at_stk {ss : List Stk} {i : Nat} (h : i < ss.length) : (ss.map stD)[i]? = some (stD (ss.getD i dS)) := by
  simp [h, List.getD]
theorem pairs_w {ss : List Stk} (hs : ∀ s ∈ ss, InS s) (hl : ss.length ≤ 5) (τ : Tp) : S__law_pairs_of [.d (.tuple (ss.map stD))] τ = some (.list ((pairsOf ss).map prD), τ) := by
  have hin : ∀ i, i < ss.length → InS (ss.getD i dS) := fun i h => by
    refine hs _ ?_
    rw [List.getD_eq_getElem?_getD, List.getElem?_eq_getElem h]
    exact List.getElem_mem h
  refine wpC_eq ?_
  unfold S__law_pairs_of
  generalize hB : sSeq (sSet false 1 (f2 gAdd _ _)) sNext = B
  wtm_at "ev_st"
  have hml : (ss.map stD).length = ss.length := List.length_map ..
  refine k_rng1 (by omega) (by omega) ?_
  have hn : (((ss.map stD).length : Nat) : Int).toNat = ss.length := by omega
  rw [hn]
  refine k_for0 ?_
  refine k_forR (fun i e t => t = τ ∧ ∃ x y, e = [.d (.tuple (ss.map stD)), .d (.list ((raw ss i).map prD)), x, y]) ?_ ?_ ⟨rfl, _, _, rfl⟩
  · rintro i e t hi ⟨rfl, x, y, rfl⟩
    rw [← hB]
    wtm_at "ev_st"
    have hi2 : (0 + (i : Int)).toNat = i := by omega
    rw [hi2]
    have hgo : lcGo (.nm 3) (f2 (gEqD false) (eCall S__law_meet (aCons (f2 gIx (eVar 0) (eVar 3)) (aCons (f2 gIx (eVar 0) (eVar 2)) aNil))) (eCon (.str (PySem.Str.ofString "cross")))) (eTup (aCons (eVar 3) (aCons (eVar 2) aNil)))
        [.d (.tuple (ss.map stD)), .d (.list ((raw ss i).map prD)), .d (.int (0 + (i : Int))), .no] (rangeD 0 i) t = some ((rowOf ss i).map (fun one : Nat => prD ((one : Int), (i : Int))), t) := by
      refine lc_map (xs := List.range i) (f := fun k => .int (0 + (k : Nat))) fun one ho => ?_
      have ho : one < i := by simpa using ho
      wtm_at "ev_st"
      refine k_ixt (x := stD (ss.getD one dS)) (by omega) (by rw [show (0 + (one : Int)).toNat = one by omega]; exact at_stk (by omega)) ?_
      wtm_at "ev_st"
      refine k_ixt (x := stD (ss.getD i dS)) (by omega) (by rw [hi2]; exact at_stk hi) ?_
      wtm_at "ev_st"
      refine wpC_of (lmeet_w (hin one (by omega)) (hin i hi) _) ?_
      wtm_at "ev_st"
      refine k_eqs (shaped_meet _ _) sh_cr ?_
      refine ⟨rfl, rfl, fun _ => ?_⟩
      wtm_at "ev_st"
      rw [Int.zero_add, Int.zero_add]
      exact ⟨rfl, rfl⟩
    refine k_lcK rfl (by rw [rangeD_len]; omega) (lcw_of hgo ?_)
    wtm_at "ev_st"
    have rl := raw_len ss i (by omega)
    have rl2 : (rowOf ss i).length ≤ i := by
      unfold rowOf
      refine Nat.le_trans (List.length_filter_le _ _) ?_
      simp
    refine k_cat (by simp; omega) ?_
    wtm_at "ev_st"
    refine ⟨rfl, .d (.int (0 + (i : Int))), y, ?_⟩
    show _ = [Sl.d (.tuple (ss.map stD)), .d (.list ((raw ss i ++ (rowOf ss i).map fun (one : Nat) => ((one : Int), (i : Int))).map prD)), .d (.int (0 + (i : Int))), y]
    rw [List.map_append, List.map_map]
    rfl
  · rintro e t ⟨rfl, x, y, rfl⟩
    wtm_at "ev_st"
    refine k_sort (l := raw ss ss.length) rfl ?_
    wtm_at "ev_st"
    exact ⟨rfl, rfl⟩

open PySem PySem.Spec PyProof.Rows L2
open PySem.W (minD maxD)
theorem raw_mem {ss : List Stk} {p : Pr} : ∀ {k : Nat}, p ∈ raw ss k → ∃ i j : Nat, p = ((i : Int), (j : Int)) ∧ i < j ∧ j < k ∧ meetS (ss.getD i dS) (ss.getD j dS) = cr
  | 0, h => by cases h
  | k + 1, h => by
    unfold raw at h
    rcases List.mem_append.mp h with q | q
    · obtain ⟨i, j, h1, h2, h3, h4⟩ := raw_mem q
      exact ⟨i, j, h1, h2, by omega, h4⟩
    · obtain ⟨one, h1, h2⟩ := List.mem_map.mp q
      unfold rowOf at h1
      obtain ⟨h3, h4⟩ := List.mem_filter.mp h1
      have h3 : one < k := by simpa using h3
      exact ⟨one, k, h2.symm, h3, by omega, eq_of_beq h4⟩
def nrm (p : Pr) : Pr := (min p.1 p.2, max p.1 p.2)
theorem over_w {ss : List Stk} {b : Nat} {τ : Tp} (hT : TpOk (b + 40) τ) (hs : ∀ s ∈ ss, InS s) (hl : ss.length ≤ 5) {Q : D → Tp → Prop} (q : ∀ (fs : List Pr) τ', fs.map nrm = pairsOf ss → TpOk b τ' → Q (.tuple ((srt fs).map prD)) τ') : wpC S__law_over [.tp, .d (.tuple (ss.map stD))] τ Q := by
  unfold S__law_over
  generalize hB : sSeq (sSet false 7 _) _ = B
  have hml : (ss.map stD).length = ss.length := List.length_map ..
  have pl : (pairsOf ss).length ≤ 25 := by
    have := raw_len ss ss.length hl
    unfold pairsOf
    rw [(srt_perm _).length_eq]
    omega
  wtm_at "ev_st"
  rw [hml]
  refine anyOrder_w (m := ss.length) (b := b + 35) (hT.mono (by omega)) (by omega) fun ns τ1 hn T1 => ?_
  wtm_at "ev_st"
  refine dr T1 (b := b + 34) (by omega) (by omega) (by omega) fun w τ2 w0 w1 T2 => ?_
  wtm_at "ev_st"
  refine wpC_of (pairs_w hs hl _) ?_
  wtm_at "ev_st"
  refine k_forI (fun i e t => TpOk (b + 25 - i) t ∧ ∃ fs : List Pr, fs.map nrm = (pairsOf ss).take i ∧ ∃ x y z u, e = [.tp, .d (.tuple (ss.map stD)), .d (.tuple (ns.map PyData.int)), .d (.int w), .own (fs.map prD), x, y, z, u]) ?_ ?_ ⟨T2.mono (by omega), [], by simp, _, _, _, _, rfl⟩
  · rintro i d e t hi ⟨T3, fs, hf, x, y, z, u, rfl⟩
    rw [List.getElem?_map] at hi
    cases hp : (pairsOf ss)[i]? with
    | none => rw [hp] at hi; cases hi
    | some p =>
      rw [hp] at hi
      cases hi
      have hil : i < (pairsOf ss).length := (List.getElem?_eq_some_iff.mp hp).1
      have hm : p ∈ raw ss ss.length := srt_mem.mp (List.mem_of_getElem? hp)
      obtain ⟨one, two, rfl, o1, o2, o3⟩ := raw_mem hm
      have hfl : fs.length = i := by
        have := congrArg List.length hf
        simp at this
        omega
      have ht : (pairsOf ss).take (i + 1) = (pairsOf ss).take i ++ [((one : Int), (two : Int))] := by
        rw [List.take_add_one, hp]
        rfl
      -- the end of a turn
      have fin : ∀ (k : Bool) (t : Tp) (R : Out → Prop), TpOk (b + 25 - (i + 1)) t → ∀ x', wpS (sSeq (sApp 4 (aCons (eIf (eVar 8) (eTup (aCons (eVar 6) (aCons (eVar 5) aNil))) (eTup (aCons (eVar 5) (aCons (eVar 6) aNil)))) aNil)) sNext)
          [.tp, .d (.tuple (ss.map stD)), .d (.tuple (ns.map PyData.int)), .d (.int w), .own (fs.map prD), .d (.int one), .d (.int two), x', .d (.bool k)] t (whK (fun e t => TpOk (b + 25 - (i + 1)) t ∧ ∃ fs : List Pr, fs.map nrm = (pairsOf ss).take (i + 1) ∧ ∃ x y z u, e = [.tp, .d (.tuple (ss.map stD)), .d (.tuple (ns.map PyData.int)), .d (.int w), .own (fs.map prD), x, y, z, u]) R) := by
        intro k t R T4 x'
        wtm_at "ev_st"
        cases k with
        | true =>
          refine k_t rfl ?_
          wtm_at "ev_st"
          refine k_appd (by simp; omega) (by wtm_at "ev_ga") ?_
          wtm_at "ev_st"
          refine ⟨T4, fs ++ [((two : Int), (one : Int))], ?_, .d (.int one), .d (.int two), x', .d (.bool true), ?_⟩
          · rw [List.map_append, hf, ht]
            congr 1
            simp [nrm]
            omega
          · simp only [List.map_append, List.map_cons, List.map_nil]
        | false =>
          refine k_f rfl ?_
          wtm_at "ev_st"
          refine k_appd (by simp; omega) (by wtm_at "ev_ga") ?_
          wtm_at "ev_st"
          refine ⟨T4, fs ++ [((one : Int), (two : Int))], ?_, .d (.int one), .d (.int two), x', .d (.bool false), ?_⟩
          · rw [List.map_append, hf, ht]
            congr 1
            simp [nrm]
            omega
          · simp only [List.map_append, List.map_cons, List.map_nil]
      rw [← hB]
      generalize hC : sSeq (sApp 4 _) sNext = C at fin ⊢
      generalize hD : sSeq (sSet false 8 (f2 gLt (f2 gIx (eVar 2) (eVar 5)) _)) sNext = E
      wtm_at "ev_st"
      refine dr T3 (b := b + 25 - (i + 1)) (by omega) (by omega) (by omega) fun ch t4 c0 c1 T4 => ?_
      wtm_at "ev_st"
      have rk : ∀ (R : Out → Prop) (y z : Sl), (∀ k, R (.nx [.tp, .d (.tuple (ss.map stD)), .d (.tuple (ns.map PyData.int)), .d (.int w), .own (fs.map prD), .d (.int one), .d (.int two), y, .d (.bool k)] t4)) →
          wpS E [.tp, .d (.tuple (ss.map stD)), .d (.tuple (ns.map PyData.int)), .d (.int w), .own (fs.map prD), .d (.int one), .d (.int two), y, z] t4 R := by
        intro R y z hR
        rw [← hD]
        wtm_at "ev_st"
        refine k_ixt (x := .int (ns.getD one 0)) (by omega) (by simp [List.getD]; rw [List.getElem?_eq_getElem (by omega)]; rfl) ?_
        wtm_at "ev_st"
        refine k_ixt (x := .int (ns.getD two 0)) (by omega) (by simp [List.getD]; rw [List.getElem?_eq_getElem (by omega)]; rfl) ?_
        wtm_at "ev_st"
        exact hR _
      refine k_eq (fun _ => ?_) (fun _ => ?_)
      · wtm_at "ev_st"
        exact rk _ _ _ fun k => k_nx (fin k t4 _ T4 _)
      · wtm_at "ev_st"
        refine k_eq (fun _ => ?_) (fun _ => ?_)
        · wtm_at "ev_st"
          refine k_d (fun _ => ?_) (fun _ => ?_)
          · wtm_at "ev_st"
            exact rk _ _ _ fun k => k_nx (fin k t4 _ T4 _)
          · wtm_at "ev_st"
            exact fin _ t4 _ T4 _
        · wtm_at "ev_st"
          exact fin _ t4 _ T4 _
  · rintro e t ⟨T3, fs, hf, x, y, z, u, rfl⟩
    rw [List.length_map, List.take_length] at hf
    wtm_at "ev_st"
    refine k_sort (l := fs) rfl ?_
    wtm_at "ev_st"
    exact q fs t hf (T3.mono (by simp; omega))

open PySem PySem.Spec PyProof.Rows L2
open PySem.W (minD maxD)
structure PileOk (m : Nat) (ss : List Stk) (os : List Pr) : Prop where
  sticks : SticksOk ss
  ne : ss ≠ []
  len : ss.length ≤ m
  overs : ∃ fs, os = srt fs ∧ fs.map nrm = pairsOf ss
abbrev pileD (ss : List Stk) (os : List Pr) : D := .tuple [.tuple (ss.map stD), .tuple (os.map prD)]
theorem pile_w {m : Nat} {b : Nat} {τ : Tp} (hT : TpOk (b + 300) τ) (hm : m ≤ 5) (h1 : 1 ≤ m) {Q : D → Tp → Prop} (q : ∀ ss os τ', PileOk m ss os → TpOk b τ' → Q (pileD ss os) τ') : wpC S__law_pile [.tp, .d (.int (m : Int))] τ Q := by
  unfold S__law_pile
  have fin : ∀ (ss : List Stk) (t : Tp), SticksOk ss → ss ≠ [] → ss.length ≤ m → TpOk (b + 40) t → wpS (sSeq (sRet (eTup (aCons (eVar 2) (aCons (eCall S__law_over (aCons (eVar 0) (aCons (eVar 2) aNil))) aNil)))) sNext) [.tp, .d (.int (m : Int)), .d (.tuple (ss.map stD))] t (runK Q) := by
    intro ss t ok hne hl T
    wtm_at "ev_st"
    refine over_w T ok.ins (by omega) fun fs τ' hf T' => ?_
    wtm_at "ev_st"
    exact q ss (srt fs) τ' ⟨ok, hne, hl, fs, rfl, hf⟩ T'
  generalize hB : sSeq (sRet _) sNext = B at fin ⊢
  wtm_at "ev_st"
  refine dr hT (b := b + 290) (by omega) (by omega) (by omega) fun r1 t1 c0 c1 T1 => ?_
  wtm_at "ev_st"
  refine k_eq (fun _ => ?_) (fun _ => ?_)
  · wtm_at "ev_st"
    refine sticks_w (b := b + 40) (T1.mono (by omega)) hm h1 (by decide) (by decide) (by decide) fun ss t ok hne hl T2 => ?_
    wtm_at "ev_st"
    exact fin ss t ok hne hl T2
  · wtm_at "ev_st"
    refine fan_w (b := b + 40) (T1.mono (by omega)) hm h1 fun ss t ok hne hl T2 => ?_
    wtm_at "ev_st"
    exact fin ss t ok hne hl T2

open PySem PySem.Spec PyProof.Rows L2
open PySem.W (minD maxD)
theorem cross_sym (s o : Stk) : mCross o s = mCross s o := by
  unfold mCross
  rw [Bool.and_comm]
theorem meet_cr {s o : Stk} (h : meetS s o = cr) : mCross s o = true := by
  unfold meetS at h
  split at h
  · assumption
  · split at h
    · exact absurd h (by decide +kernel)
    · exact absurd h (by decide +kernel)
/-- the overs tell crossings -/
def OvOk (ss : List Stk) (os : List Pr) : Prop := ∀ p ∈ os, ∃ i j : Nat, p = ((i : Int), (j : Int)) ∧ i < ss.length ∧ j < ss.length ∧ i ≠ j ∧ mCross (ss.getD i dS) (ss.getD j dS) = true
theorem PileOk.ov {m : Nat} {ss : List Stk} {os : List Pr} (h : PileOk m ss os) : OvOk ss os := by
  obtain ⟨fs, rfl, hf⟩ := h.overs
  intro p hp
  have hp := srt_mem.mp hp
  have h1 : nrm p ∈ pairsOf ss := by rw [← hf]; exact List.mem_map_of_mem hp
  obtain ⟨i, j, e, h2, h3, h4⟩ := raw_mem (srt_mem.mp h1)
  have hx := meet_cr h4
  obtain ⟨a, b⟩ := p
  unfold nrm at e
  simp only [Prod.mk.injEq] at e
  rcases Int.le_total a b with q | q
  · exact ⟨i, j, by ext <;> simp <;> omega, by omega, h3, by omega, hx⟩
  · exact ⟨j, i, by ext <;> simp <;> omega, h3, by omega, by omega, by rw [cross_sym]; exact hx⟩
theorem PileOk.ins {m : Nat} {ss : List Stk} {os : List Pr} (h : PileOk m ss os) {i : Nat} (hi : i < ss.length) : InS (ss.getD i dS) := by
  refine h.sticks.ins _ ?_
  rw [List.getD_eq_getElem?_getD, List.getElem?_eq_getElem hi]
  exact List.getElem_mem hi
abbrev atI' (ss : List Stk) (k : Int) : Stk := ss.getD k.toNat dS
abbrev rowC (ss : List Stk) (p : Pr) : D := .tuple [.int p.1, .int p.2, frD (place (atI' ss p.1) (atI' ss p.2)), frD (place (atI' ss p.2) (atI' ss p.1))]
theorem k_catt {env : En} {τ : Tp} {a b : List D} {Q : W → Prop} (h : a.length + b.length ≤ 1000000) (q : Q (.d (.tuple (a ++ b)))) : wpO (gAdd env τ (.d (.tuple a)) (.d (.tuple b))) Q := by
  have e : gAdd env τ (.d (.tuple a)) (.d (.tuple b)) = gCat env τ (.d (.tuple a)) (.d (.tuple b)) := rfl
  have e2 : gCat env τ (.d (.tuple a)) (.d (.tuple b)) = some (.d (.tuple (a ++ b))) := by
    unfold gCat
    dsimp only [seqOf]
    have := line_big
    exact if_pos (by omega)
  rw [e, e2]
  exact wpO_of rfl q
theorem crossings_w {ss : List Stk} {os : List Pr} (hin : ∀ i, i < ss.length → InS (ss.getD i dS)) (hov : OvOk ss os) (hl : os.length ≤ 1000) (τ : Tp) : S_crossings [.d (pileD ss os)] τ = some (.list (os.map (rowC ss)), τ) := by
  refine wpC_eq ?_
  unfold S_crossings
  have go : lcGo (.tu (.cn (.nm 3) (.cn (.nm 4) .nl))) tYesF (f2 gAdd (eTup (aCons (eVar 3) (aCons (eVar 4) aNil))) (eCall S_crossing (aCons (f2 gIx (eVar 1) (eVar 3)) (aCons (f2 gIx (eVar 1) (eVar 4)) aNil))))
      [.d (pileD ss os), .d (.tuple (ss.map stD)), .d (.tuple (os.map prD)), .no, .no] (os.map prD) τ = some ((os.filter fun _ => true).map (rowC ss), τ) := by
    refine lc_map fun p hp => ?_
    obtain ⟨i, j, rfl, hi, hj, hne, hx⟩ := hov p hp
    wtm_at "ev_st"
    refine ⟨rfl, rfl, fun _ => ?_⟩
    wtm_at "ev_st"
    refine k_ixt (x := stD (ss.getD i dS)) (by omega) (at_stk hi) ?_
    wtm_at "ev_st"
    refine k_ixt (x := stD (ss.getD j dS)) (by omega) (at_stk hj) ?_
    wtm_at "ev_st"
    refine wpC_of (crossing_cross (hin i hi) (hin j hj) hx _) ?_
    wtm_at "ev_st"
    exact ⟨rfl, rfl⟩
  have e : (os.filter fun _ => true) = os := by simp
  rw [e] at go
  wtm_at "ev_st"
  refine k_lcK rfl (by simp; omega) (lcw_of go ?_)
  wtm_at "ev_st"
  exact ⟨rfl, rfl⟩

open PySem PySem.Spec PyProof.Rows L2
open PySem.W (minD maxD)
theorem lcrossings_w {ss : List Stk} {os : List Pr} (hin : ∀ i, i < ss.length → InS (ss.getD i dS)) (hov : OvOk ss os) (hl : os.length ≤ 1000) (τ : Tp) : S__law_crossings [.d (pileD ss os)] τ = some (.list (os.map (rowC ss)), τ) := by
  refine wpC_eq ?_
  unfold S__law_crossings
  generalize hB : sSeq (sPar _ _ _) _ = B
  wtm_at "ev_st"
  refine k_forI (fun i e t => t = τ ∧ ∃ x y z u, e = [.d (pileD ss os), .d (.tuple (ss.map stD)), .d (.tuple (os.map prD)), .own ((os.take i).map (rowC ss)), x, y, z, u]) ?_ ?_ ⟨rfl, _, _, _, _, rfl⟩
  · rintro i d e t hi ⟨rfl, x, y, z, u, rfl⟩
    rw [List.getElem?_map] at hi
    cases hp : os[i]? with
    | none => rw [hp] at hi; cases hi
    | some p =>
      rw [hp] at hi
      cases hi
      have hil : i < os.length := (List.getElem?_eq_some_iff.mp hp).1
      obtain ⟨a, b, rfl, ha, hb, hne, hx⟩ := hov p (List.mem_of_getElem? hp)
      rw [← hB]
      wtm_at "ev_st"
      refine k_ixt (x := stD (ss.getD a dS)) (by omega) (at_stk ha) ?_
      wtm_at "ev_st"
      refine k_ixt (x := stD (ss.getD b dS)) (by omega) (at_stk hb) ?_
      wtm_at "ev_st"
      refine wpC_of (lplace_w (hin a ha) (hin b hb) hx _) ?_
      wtm_at "ev_st"
      refine wpC_of (lplace_w (hin b hb) (hin a ha) (by rw [cross_sym]; exact hx) _) ?_
      wtm_at "ev_st"
      refine k_appd (by simp; omega) (by wtm_at "ev_ga") ?_
      wtm_at "ev_st"
      refine ⟨rfl, .d (.int (a : Int)), .d (.int (b : Int)), .d (stD (ss.getD a dS)), .d (stD (ss.getD b dS)), ?_⟩
      rw [List.take_add_one, hp, List.map_append]
      rfl
  · rintro e t ⟨rfl, x, y, z, u, rfl⟩
    rw [List.length_map, List.take_length]
    wtm_at "ev_st"
    exact ⟨rfl, rfl⟩

open PySem PySem.Spec PyProof.Rows L2
open PySem.W (minD maxD)
theorem eqv_bool (a b : Bool) : PyData.eqv (.bool a) (.bool b) = (a == b) := by unfold PyData.eqv; rfl
section
variable {env : En} {τ : Tp}
theorem k_neb {a b : Bool} {Q : W → Prop} (q : Q (.d (.bool (!(a == b))))) : wpO (gEqD true env τ (.d (.bool a)) (.d (.bool b))) Q := by
  have h : gEqD true env τ (.d (.bool a)) (.d (.bool b)) = some (.d (.bool (!PyData.eqv (.bool a) (.bool b)))) := rfl
  rw [h, eqv_bool]
  exact wpO_of rfl q
theorem k_eqb {a b : Bool} {Q : W → Prop} (q : Q (.d (.bool (a == b)))) : wpO (gEqD false env τ (.d (.bool a)) (.d (.bool b))) Q := by
  have h : gEqD false env τ (.d (.bool a)) (.d (.bool b)) = some (.d (.bool (PyData.eqv (.bool a) (.bool b)))) := rfl
  rw [h, eqv_bool]
  exact wpO_of rfl q
theorem k_eq00 {Q : W → Prop} (q : Q (.d (.bool true))) : wpO (gEqD false env τ (.new []) (.new [])) Q := k_eqnil (l := ([] : List Nat)) q
end
local macro_rules | `(tactic| wtm_at "ev_stO") => `(tactic| with_reducible first | refine k_neb ?_ | refine k_eqb ?_ | refine k_eq00 ?_)
/-- data of ints, tuples and lists -/
inductive Itl : Nat → D → Prop
  | int {n : Nat} (i : Int) : Itl n (.int i)
  | tup {n : Nat} {ds : List D} : ds.length ≤ 1000 → (∀ d ∈ ds, Itl n d) → Itl (n + 1) (.tuple ds)
  | lst {n : Nat} {ds : List D} : ds.length ≤ 1000 → (∀ d ∈ ds, Itl n d) → Itl (n + 1) (.list ds)
theorem lc_none {tg : Tg} {tt te : EvF} {env : En} {τ : Tp} : ∀ {its : List D}, (∀ d ∈ its, wpO (bindT tg d env) fun e => wpE tt e τ fun w t => w = .d (.bool false) ∧ t = τ) → lcGo tg tt te env its τ = some ([], τ)
  | [], _ => rfl
  | d :: r, h => by
    have := lc_map (tg := tg) (tt := tt) (te := te) (env := env) (τ := τ) (f := fun d : D => d) (g := fun d => d) (p := fun _ => false) (xs := d :: r) fun x hx => wpO_mono (h x hx) fun e q => by
      rw [wpE_un] at q ⊢
      exact wpO_mono q fun a q => ⟨q.1, q.2, fun z => by cases z⟩
    have e : (d :: r).filter (fun _ => false) = [] := List.filter_eq_nil_iff.mpr fun _ _ => by simp
    rw [e, List.map_id'] at this
    exact this
theorem like_w : ∀ {n : Nat} {d : D}, Itl n d → ∀ τ, S__law_like (n + 1) [.d d, .d d] τ = some (.bool true, τ)
  | n, _, .int i, τ => by
    refine wpC_eq ?_
    unfold S__law_like
    wtm_at "ev_sto"
    exact ⟨by simp, rfl⟩
  | _, _, .tup (n := n) (ds := ds) hl h, τ => by
    refine wpC_eq ?_
    unfold S__law_like
    wtm_at "ev_sto"
    refine k_lcK rfl (by rw [rangeD_len]; omega) (lcw_of (lc_none fun d hd => ?_) ?_)
    · obtain ⟨i, hi⟩ := List.mem_iff_getElem?.mp hd
      obtain ⟨h1, rfl⟩ := rangeD_at hi
      have h1 : i < ds.length := by omega
      have e : ds[((0 : Int) + (i : Int)).toNat]? = some ds[i] := by rw [show ((0 : Int) + (i : Int)).toNat = i by omega, List.getElem?_eq_getElem h1]
      wtm_at "ev_st"
      refine k_ixt (by omega) e ?_
      wtm_at "ev_st"
      refine k_ixt (by omega) e ?_
      wtm_at "ev_st"
      refine wpC_of (like_w (h _ (List.getElem_mem h1)) _) ?_
      wtm_at "ev_st"
      exact ⟨rfl, rfl⟩
    · wtm_at "ev_st"
      exact ⟨rfl, rfl⟩
  | _, _, .lst (n := n) (ds := ds) hl h, τ => by
    refine wpC_eq ?_
    unfold S__law_like
    wtm_at "ev_sto"
    refine k_lcK rfl (by rw [rangeD_len]; omega) (lcw_of (lc_none fun d hd => ?_) ?_)
    · obtain ⟨i, hi⟩ := List.mem_iff_getElem?.mp hd
      obtain ⟨h1, rfl⟩ := rangeD_at hi
      have h1 : i < ds.length := by omega
      have e : ds[((0 : Int) + (i : Int)).toNat]? = some ds[i] := by rw [show ((0 : Int) + (i : Int)).toNat = i by omega, List.getElem?_eq_getElem h1]
      wtm_at "ev_st"
      refine k_ixl (by omega) e ?_
      wtm_at "ev_st"
      refine k_ixl (by omega) e ?_
      wtm_at "ev_st"
      refine wpC_of (like_w (h _ (List.getElem_mem h1)) _) ?_
      wtm_at "ev_st"
      exact ⟨rfl, rfl⟩
    · wtm_at "ev_st"
      exact ⟨rfl, rfl⟩
termination_by n => n

open PySem PySem.Spec PyProof.Rows L2
open PySem.W (minD maxD)
theorem msz {i j : Int} (hi : i.natAbs < 2 ^ 4000) (hj : j.natAbs < 2 ^ 4000) : i.natAbs.log2 + j.natAbs.log2 < 1000000 := mul_ok (m := 4000) (n := 4000) hi hj (by decide) (by decide) (by decide)
theorem dsz {p q : Rat} (hp : Sz 4000 p) (hq : Sz 4000 q) : ((p.den : Int) * (q.den : Int)).natAbs < 2 ^ 9000 := by
  rw [Int.natAbs_mul]
  have h1 : ((p.den : Int)).natAbs < 2 ^ 4000 := hp.den
  have h2 : ((q.den : Int)).natAbs < 2 ^ 4000 := hq.den
  have h3 : ((p.den : Int)).natAbs * ((q.den : Int)).natAbs < 2 ^ 4000 * 2 ^ 4000 := Nat.mul_lt_mul'' h1 h2
  rw [← Nat.pow_add] at h3
  exact Nat.lt_of_lt_of_le h3 (Nat.pow_le_pow_right (by decide) (by decide))
theorem dpos (p q : Rat) : 0 < (p.den : Int) * (q.den : Int) := Int.mul_pos (den_pos p) (den_pos q)
theorem rsub (p q : Rat) : ((p.num * (q.den : Int) - q.num * (p.den : Int) : Int) : Rat) / (((p.den : Int) * (q.den : Int) : Int) : Rat) = p - q := by
  have h1 := den_ne p
  have h2 := den_ne q
  have e1 := rat_parts p
  have e2 := rat_parts q
  rw [Rat.intCast_sub, Rat.intCast_mul, Rat.intCast_mul, Rat.intCast_mul]
  generalize (p.num : Rat) = a at *
  generalize ((p.den : Int) : Rat) = b at *
  generalize (q.num : Rat) = c at *
  generalize ((q.den : Int) : Rat) = d at *
  rw [e1, e2]
  grind
theorem radd (p q : Rat) : ((p.num * (q.den : Int) + q.num * (p.den : Int) : Int) : Rat) / (((p.den : Int) * (q.den : Int) : Int) : Rat) = p + q := by
  have h1 := den_ne p
  have h2 := den_ne q
  have e1 := rat_parts p
  have e2 := rat_parts q
  rw [Rat.intCast_add, Rat.intCast_mul, Rat.intCast_mul, Rat.intCast_mul]
  generalize (p.num : Rat) = a at *
  generalize ((p.den : Int) : Rat) = b at *
  generalize (q.num : Rat) = c at *
  generalize ((q.den : Int) : Rat) = d at *
  rw [e1, e2]
  grind
theorem rmul (p q : Rat) : ((p.num * q.num : Int) : Rat) / (((p.den : Int) * (q.den : Int) : Int) : Rat) = p * q := by
  have h1 := den_ne p
  have h2 := den_ne q
  have e1 := rat_parts p
  have e2 := rat_parts q
  rw [Rat.intCast_mul, Rat.intCast_mul]
  generalize (p.num : Rat) = a at *
  generalize ((p.den : Int) : Rat) = b at *
  generalize (q.num : Rat) = c at *
  generalize ((q.den : Int) : Rat) = d at *
  rw [e1, e2]
  grind
theorem lless_w {p q : Rat} (hp : Sz 4000 p) (hq : Sz 4000 q) (τ : Tp) : S__law_less [.d (frD p), .d (frD q)] τ = some (frD (p - q), τ) := by
  refine wpC_eq ?_
  unfold S__law_less
  have m1 := msz (i := p.num) (j := (q.den : Int)) hp.num hq.den
  have m2 := msz (i := q.num) (j := (p.den : Int)) hq.num hp.den
  have m3 := msz (i := (p.den : Int)) (j := (q.den : Int)) hp.den hq.den
  wtm_at "ev_st"
  refine wpC_of (lfrac_w (dpos p q) (dsz hp hq) _) ?_
  wtm_at "ev_st"
  rw [rsub]
  exact ⟨rfl, rfl⟩
theorem lsum_w {p q : Rat} (hp : Sz 4000 p) (hq : Sz 4000 q) (τ : Tp) : S__law_sum [.d (frD p), .d (frD q)] τ = some (frD (p + q), τ) := by
  refine wpC_eq ?_
  unfold S__law_sum
  have m1 := msz (i := p.num) (j := (q.den : Int)) hp.num hq.den
  have m2 := msz (i := q.num) (j := (p.den : Int)) hq.num hp.den
  have m3 := msz (i := (p.den : Int)) (j := (q.den : Int)) hp.den hq.den
  wtm_at "ev_st"
  refine wpC_of (lfrac_w (dpos p q) (dsz hp hq) _) ?_
  wtm_at "ev_st"
  rw [radd]
  exact ⟨rfl, rfl⟩
theorem lpart_w {p q : Rat} (hp : Sz 4000 p) (hq : Sz 4000 q) (τ : Tp) : S__law_part [.d (frD p), .d (frD q)] τ = some (frD (p * q), τ) := by
  refine wpC_eq ?_
  unfold S__law_part
  have m1 := msz (i := p.num) (j := q.num) hp.num hq.num
  have m3 := msz (i := (p.den : Int)) (j := (q.den : Int)) hp.den hq.den
  wtm_at "ev_st"
  refine wpC_of (lfrac_w (dpos p q) (dsz hp hq) _) ?_
  wtm_at "ev_st"
  rw [rmul]
  exact ⟨rfl, rfl⟩

open PySem PySem.Spec PyProof.Rows L2
open PySem.W (minD maxD)
theorem frD_int (i : Int) : frD (i : Rat) = .tuple [.int i, .int 1] := by
  unfold frD
  rw [Rat.num_intCast, Rat.den_intCast]
  rfl
/-- a fraction's parts are no greater than what it is made of -/
theorem parts_le {a b : Int} (hb : 0 < b) : ((a : Rat) / b).num.natAbs ≤ a.natAbs ∧ ((a : Rat) / b).den ≤ b.natAbs := by
  obtain ⟨e1, e2⟩ := frac_rat (a := a) hb
  constructor
  · rw [← e1, Int.natAbs_ediv_of_dvd]
    · exact Nat.div_le_self _ _
    · rw [← Int.natAbs_dvd_natAbs]
      simp
      exact Nat.gcd_dvd_left _ _
  · have : (((a : Rat) / b).den : Int) ≤ b := by
      rw [← e2]
      exact Int.ediv_le_self _ (by omega)
    omega
theorem sz_small {q : Rat} (h1 : q.num.natAbs ≤ 1000000000) (h2 : q.den ≤ 1000000000) : Sz 30 q := by
  have e : (2 : Nat) ^ 30 = 1073741824 := by rfl
  exact ⟨by rw [e]; omega, by rw [e]; omega⟩
theorem Sz.mono {m n : Nat} {q : Rat} (h : Sz m q) (hn : m ≤ n) : Sz n q := ⟨Nat.lt_of_lt_of_le h.num (Nat.pow_le_pow_right (by decide) hn), Nat.lt_of_lt_of_le h.den (Nat.pow_le_pow_right (by decide) hn)⟩
theorem place_sz {s o : Stk} (hs : InS s) (ho : InS o) (h : mCross s o = true) : Sz 30 (place s o) := by
  have b1 := side_b ho.a ho.b hs.a
  have b3 := side_b ho.a ho.b hs.b
  obtain ⟨h1, h2⟩ := cross_parts h
  have hc : side o.1 o.2 s.1 ≠ 0 := fun z => by rw [z] at h2; simp at h2
  unfold place
  obtain ⟨p1, p2⟩ := parts_le (a := ((side o.1 o.2 s.1).natAbs : Int)) (b := ((side o.1 o.2 s.1).natAbs : Int) + ((side o.1 o.2 s.2).natAbs : Int)) (by omega)
  exact sz_small (by omega) (by omega)
theorem int_sz {i : Int} (h : i.natAbs ≤ 1000000000) : Sz 30 (i : Rat) := sz_small (by rw [Rat.num_intCast]; exact h) (by rw [Rat.den_intCast]; omega)

open PySem PySem.Spec PyProof.Rows L2
open PySem.W (minD maxD)
/-- place on a segment -/
theorem lheight_w {p q r : Rat} (hp : Sz 4000 p) (hq : Sz 4000 q) (hr : Sz 4000 r) (h1 : Sz 4000 (q - p)) (h2 : Sz 4000 (r * (q - p))) (τ : Tp) : S__law_height [.d (.tuple [frD p, frD q]), .d (frD r)] τ = some (frD (p + r * (q - p)), τ) := by
  refine wpC_eq ?_
  unfold S__law_height
  wtm_at "ev_st"
  refine wpC_of (lless_w hq hp _) ?_
  wtm_at "ev_st"
  refine wpC_of (lpart_w hr h1 _) ?_
  wtm_at "ev_st"
  refine wpC_of (lsum_w hp h2 _) ?_
  wtm_at "ev_st"
  exact ⟨rfl, rfl⟩
theorem place_eq {c d : Int} (h : c * d < 0) : (((c.natAbs : Int) : Rat) / (((c.natAbs : Int) + (d.natAbs : Int) : Int) : Rat)) = (c : Rat) / ((c - d : Int) : Rat) := by
  rcases neg_mul_cases h with ⟨h1, h2⟩ | ⟨h1, h2⟩
  · have e1 : (c.natAbs : Int) = c := by omega
    have e2 : (c.natAbs : Int) + (d.natAbs : Int) = c - d := by omega
    rw [e2, e1]
  · have e1 : (c.natAbs : Int) = -c := by omega
    have e2 : (c.natAbs : Int) + (d.natAbs : Int) = -(c - d) := by omega
    have hb : ((c - d : Int) : Rat) ≠ 0 := by
      intro z
      rw [Rat.intCast_eq_zero_iff] at z
      omega
    rw [e2, e1, Rat.intCast_neg, Rat.intCast_neg]
    generalize ((c - d : Int) : Rat) = x at *
    grind
theorem meet_alg (b c a x y u v : Rat) (hb : b ≠ 0) (h : b * x + c * (y - x) = b * u - a * (v - u)) : x + c / b * (y - x) = u + a / (-b) * (v - u) := by
  grind
/-- where two sticks meet: the same point along both -/
theorem meet_point {s o : Stk} (h : mCross s o = true) : ((s.1.1 : Rat) + place s o * ((s.2.1 : Rat) - s.1.1) = (o.1.1 : Rat) + place o s * ((o.2.1 : Rat) - o.1.1)) ∧ ((s.1.2 : Rat) + place s o * ((s.2.2 : Rat) - s.1.2) = (o.1.2 : Rat) + place o s * ((o.2.2 : Rat) - o.1.2)) := by
  obtain ⟨h1, h2⟩ := cross_parts h
  have e1 : side o.1 o.2 s.1 - side o.1 o.2 s.2 = btm s o := (btm_eq2 s o).symm
  have e2 : side s.1 s.2 o.1 - side s.1 s.2 o.2 = -btm s o := by unfold btm; omega
  have hb : ((btm s o : Int) : Rat) ≠ 0 := by
    intro z
    rw [Rat.intCast_eq_zero_iff] at z
    rw [← e1] at z
    rcases neg_mul_cases h2 with ⟨x1, x2⟩ | ⟨x1, x2⟩ <;> omega
  unfold place
  rw [place_eq h2, place_eq h1, e1, e2, Rat.intCast_neg]
  have k1 : (btm s o) * s.1.1 + side o.1 o.2 s.1 * (s.2.1 - s.1.1) = btm s o * o.1.1 - side s.1 s.2 o.1 * (o.2.1 - o.1.1) := by
    unfold btm side
    grind
  have k2 : (btm s o) * s.1.2 + side o.1 o.2 s.1 * (s.2.2 - s.1.2) = btm s o * o.1.2 - side s.1 s.2 o.1 * (o.2.2 - o.1.2) := by
    unfold btm side
    grind
  constructor
  · refine meet_alg _ _ _ _ _ _ _ hb ?_
    rw [← Rat.intCast_sub, ← Rat.intCast_sub, ← Rat.intCast_mul, ← Rat.intCast_mul, ← Rat.intCast_mul, ← Rat.intCast_mul, ← Rat.intCast_add, ← Rat.intCast_sub, k1]
  · refine meet_alg _ _ _ _ _ _ _ hb ?_
    rw [← Rat.intCast_sub, ← Rat.intCast_sub, ← Rat.intCast_mul, ← Rat.intCast_mul, ← Rat.intCast_mul, ← Rat.intCast_mul, ← Rat.intCast_add, ← Rat.intCast_sub, k2]

open PySem PySem.Spec PyProof.Rows L2
open PySem.W (minD maxD)
theorem cross_rv2 (s o : Stk) : mCross (rv s) (rv o) = mCross s o := by
  rw [cross_rv, cross_sym, cross_rv, cross_sym]
theorem place_rv {s o : Stk} (h : mCross s o = true) : place (rv s) (rv o) = 1 - place s o := by
  obtain ⟨h1, h2⟩ := cross_parts h
  have hc : side o.1 o.2 s.1 ≠ 0 := fun z => by rw [z] at h2; simp at h2
  have e1 : side (rv o).1 (rv o).2 (rv s).1 = - side o.1 o.2 s.2 := side_rv _ _ _
  have e2 : side (rv o).1 (rv o).2 (rv s).2 = - side o.1 o.2 s.1 := side_rv _ _ _
  unfold place
  rw [e1, e2, Int.natAbs_neg, Int.natAbs_neg]
  have hp : (((side o.1 o.2 s.1).natAbs : Int) + ((side o.1 o.2 s.2).natAbs : Int) : Int) ≠ 0 := by omega
  rw [Int.add_comm ((side o.1 o.2 s.2).natAbs : Int)]
  have hq : ((((side o.1 o.2 s.1).natAbs : Int) + ((side o.1 o.2 s.2).natAbs : Int) : Int) : Rat) ≠ 0 := by
    intro z
    rw [Rat.intCast_eq_zero_iff] at z
    exact hp z
  rw [Rat.intCast_add] at hq ⊢
  grind

open PySem PySem.Spec PyProof.Rows L2
open PySem.W (minD maxD)
theorem itl_all {n : Nat} : ∀ {ds : List D}, (∀ d ∈ ds, d.canLay0 = true ∧ d.depth ≤ n) → PyData.canLayAll0 ds = true ∧ PyData.depthAll ds ≤ n
  | [], _ => by simp [PyData.canLayAll0, PyData.depthAll]
  | d :: r, h => by
    obtain ⟨a, b⟩ := h d (by simp)
    obtain ⟨c, e⟩ := itl_all (ds := r) fun x hx => h x (by simp [hx])
    simp only [PyData.canLayAll0, PyData.depthAll, a, c]
    exact ⟨rfl, Nat.max_le.mpr ⟨b, e⟩⟩
theorem itl_lay : ∀ {n : Nat} {d : D}, Itl n d → d.canLay0 = true ∧ d.depth ≤ n
  | n, _, .int i => by simp [PyData.canLay0, PyData.depth]
  | _, _, .tup (n := n) _ h => by
    have := itl_all fun d hd => itl_lay (h d hd)
    simp only [PyData.canLay0, PyData.depth]; exact ⟨this.1, by omega⟩
  | _, _, .lst (n := n) _ h => by
    have := itl_all fun d hd => itl_lay (h d hd)
    simp only [PyData.canLay0, PyData.depth]; exact ⟨this.1, by omega⟩
theorem itl_shaped {n : Nat} {d : D} (h : Itl n d) (hn : n ≤ 60) : SeqAt.shaped d = true := by
  obtain ⟨a, b⟩ := itl_lay h
  unfold SeqAt.shaped
  rw [a, decide_eq_true (by omega)]
  rfl
theorem itl_eqv {n : Nat} {d : D} (h : Itl n d) : PyData.eqv d d = true := SeqAt.eqv_refl d (itl_lay h).1
section
variable {env : En} {τ : Tp} {Q : W → Prop} {n : Nat}
theorem k_eqd {a b : D} (e : a = b) (h : Itl n a) (hn : n ≤ 60) (q : Q (.d (.bool true))) : wpO (gEqD false env τ (.d a) (.d b)) Q := by
  subst e
  have e : gEqD false env τ (.d a) (.d a) = (if SeqAt.shaped a = true ∧ SeqAt.shaped a = true then some (.d (.bool (PyData.eqv a a))) else none) := rfl
  rw [e, if_pos ⟨itl_shaped h hn, itl_shaped h hn⟩, itl_eqv h]
  exact wpO_of rfl q
theorem k_ned {a b : D} (e : a = b) (h : Itl n a) (hn : n ≤ 60) (q : Q (.d (.bool false))) : wpO (gEqD true env τ (.d a) (.d b)) Q := by
  subst e
  have e : gEqD true env τ (.d a) (.d a) = (if SeqAt.shaped a = true ∧ SeqAt.shaped a = true then some (.d (.bool (!PyData.eqv a a))) else none) := rfl
  rw [e, if_pos ⟨itl_shaped h hn, itl_shaped h hn⟩, itl_eqv h]
  exact wpO_of rfl q
end
section
variable {env : En} {τ : Tp} {Q : W → Prop}
theorem k_ix2 {x y z : D} {r : List D} (q : Q (.d z)) : wpO (gIx env τ (.d (.tuple (x :: y :: z :: r))) (.d (.int 2))) Q := k_ixt (k := 2) (by decide) rfl q
theorem k_ix3 {x y z u : D} {r : List D} (q : Q (.d u)) : wpO (gIx env τ (.d (.tuple (x :: y :: z :: u :: r))) (.d (.int 3))) Q := k_ixt (k := 3) (by decide) rfl q
theorem k_il0 {x : D} {r : List D} (q : Q (.d x)) : wpO (gIx env τ (.d (.list (x :: r))) (.d (.int 0))) Q := k_ixl (k := 0) (by decide) rfl q
theorem k_il1 {x y : D} {r : List D} (q : Q (.d y)) : wpO (gIx env τ (.d (.list (x :: y :: r))) (.d (.int 1))) Q := k_ixl (k := 1) (by decide) rfl q
end
local macro_rules | `(tactic| wtm_at "ev_stO") => `(tactic| with_reducible first | refine k_ix2 ?_ | refine k_ix3 ?_ | refine k_il0 ?_ | refine k_il1 ?_)
theorem PileOk.oslen {m : Nat} {ss : List Stk} {os : List Pr} (h : PileOk m ss os) (hm : m ≤ 5) : os.length ≤ 25 := by
  obtain ⟨fs, rfl, hf⟩ := h.overs
  have h1 := raw_len ss ss.length (by have := h.len; omega)
  have h2 := congrArg List.length hf
  unfold pairsOf at h2
  rw [List.length_map, (srt_perm _).length_eq] at h2
  rw [(srt_perm _).length_eq]
  have := h.len
  omega
theorem frD_one : frD 1 = .tuple [.int 1, .int 1] := frD_int 1
theorem sz_one : Sz 4000 (1 : Rat) := (int_sz (i := 1) (by decide)).mono (by decide)
theorem lless1_w {q : Rat} (hq : Sz 4000 q) (τ : Tp) : S__law_less [.d (.tuple [.int 1, .int 1]), .d (frD q)] τ = some (frD (1 - q), τ) := by
  rw [← frD_one]
  exact lless_w sz_one hq τ
theorem sz_mulint {r : Rat} {k : Int} (hr : Sz 30 r) (hk : k.natAbs ≤ 1000) : Sz 4000 (r * (k : Rat)) := by
  have e : r * (k : Rat) = ((r.num * k : Int) : Rat) / ((r.den : Int) : Rat) := by
    rw [Rat.intCast_mul]
    have := rat_parts r
    have h := den_ne r
    grind
  obtain ⟨h1, h2⟩ := parts_le (a := r.num * k) (b := (r.den : Int)) (den_pos r)
  rw [e]
  refine ⟨Nat.lt_of_le_of_lt h1 ?_, Nat.lt_of_le_of_lt h2 (Nat.lt_of_lt_of_le hr.den (Nat.pow_le_pow_right (by decide) (by decide)))⟩
  rw [Int.natAbs_mul]
  have := Nat.mul_lt_mul'' hr.num (show k.natAbs < 2 ^ 30 by have : (2:Nat) ^ 30 = 1073741824 := rfl; omega)
  rw [← Nat.pow_add] at this
  exact Nat.lt_of_lt_of_le this (Nat.pow_le_pow_right (by decide) (by decide))
theorem lheighti_w {p q : Int} {r : Rat} (hp : p.natAbs ≤ 400) (hq : q.natAbs ≤ 400) (hr : Sz 30 r) (τ : Tp) : S__law_height [.d (.tuple [.tuple [.int p, .int 1], .tuple [.int q, .int 1]]), .d (frD r)] τ = some (frD ((p : Rat) + r * ((q : Rat) - p)), τ) := by
  rw [← frD_int, ← frD_int]
  have e : (q : Rat) - p = ((q - p : Int) : Rat) := by rw [Rat.intCast_sub]
  refine lheight_w ((int_sz (by omega)).mono (by decide)) ((int_sz (by omega)).mono (by decide)) (hr.mono (by decide)) ?_ ?_ τ
  · rw [e]; exact (int_sz (by omega)).mono (by decide)
  · rw [e]; exact sz_mulint hr (by omega)
theorem rv_getD (ss : List Stk) (i : Nat) (h : i < ss.length) : (ss.map rv).getD i dS = rv (ss.getD i dS) := by
  rw [List.getD_eq_getElem?_getD, List.getD_eq_getElem?_getD, List.getElem?_map, List.getElem?_eq_getElem h]
  rfl
theorem rv_ins {ss : List Stk} (h : ∀ i, i < ss.length → InS (ss.getD i dS)) : ∀ i, i < (ss.map rv).length → InS ((ss.map rv).getD i dS) := by
  intro i hi
  rw [List.length_map] at hi
  rw [rv_getD ss i hi]
  exact ⟨(h i hi).b, (h i hi).a⟩
theorem rv_ov {ss : List Stk} {os : List Pr} (h : OvOk ss os) : OvOk (ss.map rv) os := by
  intro p hp
  obtain ⟨i, j, e, hi, hj, hne, hx⟩ := h p hp
  refine ⟨i, j, e, by simpa using hi, by simpa using hj, hne, ?_⟩
  rw [rv_getD ss i hi, rv_getD ss j hj, cross_rv2]
  exact hx
theorem rv_rows {ss : List Stk} {os : List Pr} (h : OvOk ss os) : os.map (rowC (ss.map rv)) = os.map fun p => .tuple [.int p.1, .int p.2, frD (1 - place (atI' ss p.1) (atI' ss p.2)), frD (1 - place (atI' ss p.2) (atI' ss p.1))] := by
  refine List.map_congr_left fun p hp => ?_
  obtain ⟨i, j, rfl, hi, hj, hne, hx⟩ := h p hp
  show PyData.tuple [.int i, .int j, frD (place ((ss.map rv).getD ((i : Int)).toNat dS) ((ss.map rv).getD ((j : Int)).toNat dS)), frD (place ((ss.map rv).getD ((j : Int)).toNat dS) ((ss.map rv).getD ((i : Int)).toNat dS))] = _
  simp only [Int.toNat_natCast]
  rw [rv_getD ss i hi, rv_getD ss j hj, place_rv hx, place_rv (by rw [cross_sym]; exact hx)]
  rfl

open PySem PySem.Spec PyProof.Rows L2
open PySem.W (minD maxD dataLt alike dataLt_int)
/-! ### how two sticks lie, all cases -/
theorem le_of_mul {x y b : Int} (hb : 0 < b) (h : x * b ≤ y * b) : x ≤ y := Int.le_of_mul_le_mul_right h hb
theorem betw {u d k b : Int} (h : u * b = k * d) (hb : 0 < b) (k0 : 0 ≤ k) (k1 : k ≤ b) : (0 ≤ d → 0 ≤ u ∧ u ≤ d) ∧ (d ≤ 0 → d ≤ u ∧ u ≤ 0) := by
  constructor
  · intro hd
    constructor
    · apply le_of_mul hb; rw [h, Int.zero_mul]; exact Int.mul_nonneg k0 hd
    · apply le_of_mul hb; rw [h, Int.mul_comm d b]; exact Int.mul_le_mul_of_nonneg_right k1 hd
  · intro hd
    constructor
    · apply le_of_mul hb; rw [h, Int.mul_comm d b]; exact Int.mul_le_mul_of_nonpos_right k1 hd
    · apply le_of_mul hb; rw [h, Int.zero_mul]; exact Int.mul_nonpos_of_nonneg_of_nonpos k0 hd
theorem wteb {u d k b : Int} (h : u * b = k * d) (hb : 0 < b) (hd : d ≠ 0) (h1 : 0 ≤ d → 0 ≤ u ∧ u ≤ d) (h2 : d ≤ 0 → d ≤ u ∧ u ≤ 0) : 0 ≤ k ∧ k ≤ b := by
  rcases Int.lt_or_gt_of_ne hd with q | q
  · obtain ⟨a, c⟩ := h2 (Int.le_of_lt q)
    have q' : 0 < -d := by omega
    constructor
    · apply le_of_mul q'
      have : u * b ≤ 0 := Int.mul_nonpos_of_nonpos_of_nonneg c (Int.le_of_lt hb)
      rw [Int.mul_neg, Int.mul_neg, Int.zero_mul]; omega
    · apply le_of_mul q'
      have : d * b ≤ u * b := Int.mul_le_mul_of_nonneg_right a (Int.le_of_lt hb)
      rw [Int.mul_neg, Int.mul_neg, Int.mul_comm b d]; omega
  · obtain ⟨a, c⟩ := h1 (Int.le_of_lt q)
    constructor
    · apply le_of_mul q
      have : 0 ≤ u * b := Int.mul_nonneg a (Int.le_of_lt hb)
      omega
    · apply le_of_mul q
      have : u * b ≤ d * b := Int.mul_le_mul_of_nonneg_right c (Int.le_of_lt hb)
      rw [Int.mul_comm b d]; omega
/-- p lies in the box of the stick -/
def inBox (l : Stk) (p : Pt) : Prop := min l.1.1 l.2.1 ≤ p.1 ∧ p.1 ≤ max l.1.1 l.2.1 ∧ min l.1.2 l.2.2 ≤ p.2 ∧ p.2 ≤ max l.1.2 l.2.2
theorem box_iff {l : Stk} {p : Pt} {k b : Int} (hl : l.1 ≠ l.2) (hb : 0 < b) (hx : (p.1 - l.1.1) * b = k * (l.2.1 - l.1.1)) (hy : (p.2 - l.1.2) * b = k * (l.2.2 - l.1.2)) : inBox l p ↔ 0 ≤ k ∧ k ≤ b := by
  constructor
  · rintro ⟨h1, h2, h3, h4⟩
    by_cases hd : l.2.1 - l.1.1 = 0
    · have hd2 : l.2.2 - l.1.2 ≠ 0 := fun z => hl (Prod.ext (by omega) (by omega))
      exact wteb hy hb hd2 (fun _ => by omega) (fun _ => by omega)
    · exact wteb hx hb hd (fun _ => by omega) (fun _ => by omega)
  · rintro ⟨k0, k1⟩
    obtain ⟨x1, x2⟩ := betw hx hb k0 k1
    obtain ⟨y1, y2⟩ := betw hy hb k0 k1
    unfold inBox
    rcases Int.le_total 0 (l.2.1 - l.1.1) with q | q <;> rcases Int.le_total 0 (l.2.2 - l.1.2) with r | r
    · have := x1 q; have := y1 r; omega
    · have := x1 q; have := y2 r; omega
    · have := x2 q; have := y1 r; omega
    · have := x2 q; have := y2 r; omega
theorem box_iff' {l : Stk} {p : Pt} {k b : Int} (hl : l.1 ≠ l.2) (hb : b ≠ 0) (hx : (p.1 - l.1.1) * b = k * (l.2.1 - l.1.1)) (hy : (p.2 - l.1.2) * b = k * (l.2.2 - l.1.2)) : inBox l p ↔ 0 ≤ sg b * k ∧ sg b * k ≤ sg b * b := by
  unfold sg
  split
  · have : inBox l p ↔ 0 ≤ -k ∧ -k ≤ -b := box_iff hl (by omega) (by rw [Int.mul_neg, Int.neg_mul, hx]) (by rw [Int.mul_neg, Int.neg_mul, hy])
    rw [this]
    omega
  · have : inBox l p ↔ 0 ≤ k ∧ k ≤ b := box_iff hl (by omega) hx hy
    rw [this]
    omega
theorem MRow.t_iff (r : MRow) : r.t = true ↔ r.k = 0 ∧ inBox r.l r.p := by
  unfold MRow.t inBox
  simp [and_assoc]
theorem mT_iff (s o : Stk) : mT s o = true ↔ (side s.1 s.2 o.1 = 0 ∧ inBox s o.1) ∨ (side s.1 s.2 o.2 = 0 ∧ inBox s o.2) ∨ (side o.1 o.2 s.1 = 0 ∧ inBox o s.1) ∨ (side o.1 o.2 s.2 = 0 ∧ inBox o s.2) := by
  unfold mT mRows
  simp only [List.any_cons, List.any_nil, Bool.or_false, Bool.or_eq_true, MRow.t_iff]
/-- the lines meet: the point along both -/
theorem meet_x (s o : Stk) : s.1.1 * btm s o + side o.1 o.2 s.1 * (s.2.1 - s.1.1) = o.1.1 * btm s o - side s.1 s.2 o.1 * (o.2.1 - o.1.1) := by
  unfold btm side
  grind
theorem meet_y (s o : Stk) : s.1.2 * btm s o + side o.1 o.2 s.1 * (s.2.2 - s.1.2) = o.1.2 * btm s o - side s.1 s.2 o.1 * (o.2.2 - o.1.2) := by
  unfold btm side
  grind
/-- lines that meet: touch, by the parts -/
theorem touch_iff {s o : Stk} (hs : s.1 ≠ s.2) (ho : o.1 ≠ o.2) (hb : btm s o ≠ 0) : mT s o = true ↔
    (0 ≤ sg (btm s o) * side o.1 o.2 s.1 ∧ sg (btm s o) * side o.1 o.2 s.1 ≤ sg (btm s o) * btm s o ∧ 0 ≤ sg (btm s o) * -side s.1 s.2 o.1 ∧ sg (btm s o) * -side s.1 s.2 o.1 ≤ sg (btm s o) * btm s o) ∧ (side s.1 s.2 o.1 = 0 ∨ side s.1 s.2 o.2 = 0 ∨ side o.1 o.2 s.1 = 0 ∨ side o.1 o.2 s.2 = 0) := by
  have mx := meet_x s o
  have my := meet_y s o
  have e2 : side s.1 s.2 o.2 = side s.1 s.2 o.1 + btm s o := by unfold btm; omega
  have e4 : side o.1 o.2 s.2 = side o.1 o.2 s.1 - btm s o := by rw [btm_eq2]; omega
  rw [mT_iff, e2, e4]
  generalize btm s o = b at *
  generalize side o.1 o.2 s.1 = c at *
  generalize side s.1 s.2 o.1 = a at *
  have r1 : a = 0 → (inBox s o.1 ↔ 0 ≤ sg b * c ∧ sg b * c ≤ sg b * b) := fun z => box_iff' hs hb (by subst z; grind) (by subst z; grind)
  have r2 : a + b = 0 → (inBox s o.2 ↔ 0 ≤ sg b * c ∧ sg b * c ≤ sg b * b) := fun z => box_iff' hs hb (by grind) (by grind)
  have r3 : c = 0 → (inBox o s.1 ↔ 0 ≤ sg b * -a ∧ sg b * -a ≤ sg b * b) := fun z => box_iff' ho hb (by subst z; grind) (by subst z; grind)
  have r4 : c - b = 0 → (inBox o s.2 ↔ 0 ≤ sg b * -a ∧ sg b * -a ≤ sg b * b) := fun z => box_iff' ho hb (by grind) (by grind)
  have hsg : sg b * b > 0 ∧ (sg b = 1 ∨ sg b = -1) := by unfold sg; split <;> omega
  obtain ⟨g1, g2⟩ := hsg
  have f1 : a = 0 → 0 ≤ sg b * -a ∧ sg b * -a ≤ sg b * b := by rintro rfl; omega
  have f2 : a + b = 0 → 0 ≤ sg b * -a ∧ sg b * -a ≤ sg b * b := fun z => by
    have : -a = b := by omega
    rw [this]; omega
  have f3 : c = 0 → 0 ≤ sg b * c ∧ sg b * c ≤ sg b * b := by rintro rfl; omega
  have f4 : c - b = 0 → 0 ≤ sg b * c ∧ sg b * c ≤ sg b * b := fun z => by
    have : c = b := by omega
    rw [this]; omega
  constructor
  · rintro (⟨z, h⟩ | ⟨z, h⟩ | ⟨z, h⟩ | ⟨z, h⟩)
    · have := (r1 z).mp h; have := f1 z; exact ⟨⟨by omega, by omega, by omega, by omega⟩, .inl z⟩
    · have := (r2 z).mp h; have := f2 z; exact ⟨⟨by omega, by omega, by omega, by omega⟩, .inr (.inl z)⟩
    · have := (r3 z).mp h; have := f3 z; exact ⟨⟨by omega, by omega, by omega, by omega⟩, .inr (.inr (.inl z))⟩
    · have := (r4 z).mp h; have := f4 z; exact ⟨⟨by omega, by omega, by omega, by omega⟩, .inr (.inr (.inr z))⟩
  · rintro ⟨⟨h1, h2, h3, h4⟩, z | z | z | z⟩
    · exact .inl ⟨z, (r1 z).mpr ⟨h1, h2⟩⟩
    · exact .inr (.inl ⟨z, (r2 z).mpr ⟨h1, h2⟩⟩)
    · exact .inr (.inr (.inl ⟨z, (r3 z).mpr ⟨h3, h4⟩⟩))
    · exact .inr (.inr (.inr ⟨z, (r4 z).mpr ⟨h3, h4⟩⟩))
/-! lines that go the same way -/
def lk (p : Pt) : Int := 13 * p.1 + p.2
theorem lk_inj {p q : Pt} (hp : InP p) (hq : InP q) (h : lk p = lk q) : p = q := by
  obtain ⟨h1, h2, h3, h4⟩ := hp
  obtain ⟨g1, g2, g3, g4⟩ := hq
  unfold lk at h
  ext <;> omega
/-- a point on a stick's line lies in its box just when it lies between by the order -/
theorem lex_box {l : Stk} {p : Pt} (hl : l.1 ≠ l.2) (h1 : InP l.1) (h2 : InP l.2) (hp : InP p) (z : side l.1 l.2 p = 0) : inBox l p ↔ min (lk l.1) (lk l.2) ≤ lk p ∧ lk p ≤ max (lk l.1) (lk l.2) := by
  obtain ⟨a1, a2, a3, a4⟩ := h1
  obtain ⟨b1, b2, b3, b4⟩ := h2
  obtain ⟨c1, c2, c3, c4⟩ := hp
  have e : (p.2 - l.1.2) * (l.2.1 - l.1.1) = (p.1 - l.1.1) * (l.2.2 - l.1.2) := by
    unfold side at z
    grind
  constructor
  · rintro ⟨h1, h2, h3, h4⟩
    unfold lk
    by_cases hd : l.2.1 - l.1.1 = 0
    · omega
    · -- the first coordinate tells, unless it is an end's
      have k1 : p.1 = l.1.1 → p.2 = l.1.2 := fun q => by
        have : (p.2 - l.1.2) * (l.2.1 - l.1.1) = 0 := by rw [e, q]; simp
        rcases Int.mul_eq_zero.mp this with r | r <;> omega
      have k2 : p.1 = l.2.1 → p.2 = l.2.2 := fun q => by
        have : (p.2 - l.2.2) * (l.2.1 - l.1.1) = 0 := by rw [q] at e; grind
        rcases Int.mul_eq_zero.mp this with r | r <;> omega
      omega
  · rintro ⟨h1, h2⟩
    unfold lk at h1 h2
    by_cases hd : l.2.1 - l.1.1 = 0
    · have hd2 : l.2.2 - l.1.2 ≠ 0 := fun w => hl (Prod.ext (by omega) (by omega))
      have : p.1 - l.1.1 = 0 := by
        rw [hd, Int.mul_zero] at e
        rcases Int.mul_eq_zero.mp e.symm with r | r <;> omega
      unfold inBox
      omega
    · refine (box_iff' (k := p.1 - l.1.1) (b := l.2.1 - l.1.1) hl hd rfl e).mpr ?_
      unfold sg
      split <;> omega
theorem on_line {s o : Stk} (ho : o.1 ≠ o.2) (hs : s.1 ≠ s.2) (hb : btm s o = 0) : (side s.1 s.2 o.1 = 0 ↔ side o.1 o.2 s.1 = 0) := by
  have e := btm_eq s o
  rw [hb] at e
  have e := e.symm
  unfold side
  have n1 : s.2.1 - s.1.1 ≠ 0 ∨ s.2.2 - s.1.2 ≠ 0 := by
    by_cases q : s.2.1 - s.1.1 = 0
    · exact .inr fun r => hs (Prod.ext (by omega) (by omega))
    · exact .inl q
  have n2 : o.2.1 - o.1.1 ≠ 0 ∨ o.2.2 - o.1.2 ≠ 0 := by
    by_cases q : o.2.1 - o.1.1 = 0
    · exact .inr fun r => ho (Prod.ext (by omega) (by omega))
    · exact .inl q
  have w1 : o.1.1 - s.1.1 = -(s.1.1 - o.1.1) := by omega
  have w2 : o.1.2 - s.1.2 = -(s.1.2 - o.1.2) := by omega
  rw [w1, w2]
  generalize s.2.1 - s.1.1 = dx at *
  generalize s.2.2 - s.1.2 = dy at *
  generalize o.2.1 - o.1.1 = ex at *
  generalize o.2.2 - o.1.2 = ey at *
  generalize s.1.1 - o.1.1 = wx at *
  generalize s.1.2 - o.1.2 = wy at *
  constructor
  · intro h
    rcases n1 with n | n
    · have : (ex * wy - ey * wx) * dx = 0 := by grind
      exact (Int.mul_eq_zero.mp this).resolve_right n
    · have : (ex * wy - ey * wx) * dy = 0 := by grind
      exact (Int.mul_eq_zero.mp this).resolve_right n
  · intro h
    rcases n2 with n | n
    · have : (dx * -wy - dy * -wx) * ex = 0 := by grind
      exact (Int.mul_eq_zero.mp this).resolve_right n
    · have : (dx * -wy - dy * -wx) * ey = 0 := by grind
      exact (Int.mul_eq_zero.mp this).resolve_right n
/-- lines that go the same way: touch, by the order -/
theorem touch_line {s o : Stk} (is : InS s) (io : InS o) (hs : s.1 ≠ s.2) (ho : o.1 ≠ o.2) (hb : btm s o = 0) : mT s o = true ↔
    side s.1 s.2 o.1 = 0 ∧ max (min (lk s.1) (lk s.2)) (min (lk o.1) (lk o.2)) ≤ min (max (lk s.1) (lk s.2)) (max (lk o.1) (lk o.2)) := by
  have ol := on_line ho hs hb
  have e2 : side s.1 s.2 o.2 = side s.1 s.2 o.1 := by unfold btm at hb; omega
  have e4 : side o.1 o.2 s.2 = side o.1 o.2 s.1 := by rw [btm_eq2] at hb; omega
  rw [mT_iff]
  constructor
  · intro h
    have z : side s.1 s.2 o.1 = 0 := by
      rcases h with ⟨q, _⟩ | ⟨q, _⟩ | ⟨q, _⟩ | ⟨q, _⟩
      · exact q
      · omega
      · exact ol.mpr q
      · exact ol.mpr (by omega)
    refine ⟨z, ?_⟩
    have z2 := ol.mp z
    rw [lex_box hs is.a is.b io.a z, lex_box hs is.a is.b io.b (by omega), lex_box ho io.a io.b is.a z2, lex_box ho io.a io.b is.b (by omega)] at h
    omega
  · rintro ⟨z, h⟩
    have z2 := ol.mp z
    rw [lex_box hs is.a is.b io.a z, lex_box hs is.a is.b io.b (by omega), lex_box ho io.a io.b is.a z2, lex_box ho io.a io.b is.b (by omega)]
    omega

open PySem PySem.Spec PyProof.Rows L2
open PySem.W (minD maxD dataLt dataLe dataLt_ii alike)
theorem pt_lt {p q : Pt} (hp : InP p) (hq : InP q) : dataLt (ptD p) (ptD q) = decide (lk p < lk q) := by
  obtain ⟨h1, h2, h3, h4⟩ := hp
  obtain ⟨g1, g2, g3, g4⟩ := hq
  rw [dataLt_ii]
  unfold lk
  congr 1
  apply propext
  omega
def mn (p q : Pt) : Pt := if lk q < lk p then q else p
def mx (p q : Pt) : Pt := if lk p < lk q then q else p
theorem mn_in {p q : Pt} (hp : InP p) (hq : InP q) : InP (mn p q) := by unfold mn; split <;> assumption
theorem mx_in {p q : Pt} (hp : InP p) (hq : InP q) : InP (mx p q) := by unfold mx; split <;> assumption
theorem lk_mn (p q : Pt) : lk (mn p q) = min (lk p) (lk q) := by unfold mn; split <;> omega
theorem lk_mx (p q : Pt) : lk (mx p q) = max (lk p) (lk q) := by unfold mx; split <;> omega
theorem pt_minD {p q : Pt} (hp : InP p) (hq : InP q) : minD (ptD p) [ptD q] = ptD (mn p q) := by
  show (if dataLt (ptD q) (ptD p) = true then ptD q else ptD p) = _
  rw [pt_lt hq hp]
  unfold mn
  by_cases h : lk q < lk p
  · rw [if_pos (by simpa using h), if_pos h]
  · rw [if_neg (by simpa using h), if_neg h]
theorem pt_maxD {p q : Pt} (hp : InP p) (hq : InP q) : maxD (ptD p) [ptD q] = ptD (mx p q) := by
  show (if dataLt (ptD p) (ptD q) = true then ptD q else ptD p) = _
  rw [pt_lt hp hq]
  unfold mx
  by_cases h : lk p < lk q
  · rw [if_pos (by simpa using h), if_pos h]
  · rw [if_neg (by simpa using h), if_neg h]
theorem pt_alike (p q : Pt) : alikeB [ptD p, ptD q] = true := by
  unfold alikeB
  simp [alike, PySem.W.alikeAll, isNone]
theorem pt_depth (p q : Pt) : PyData.depthAll [ptD p, ptD q] ≤ 60 := by simp [PyData.depthAll, PyData.depth]
theorem lexLe_pt {p q : Pt} (hp : InP p) (hq : InP q) : lexLe [p.1, p.2] [q.1, q.2] = decide (lk p ≤ lk q) := by
  obtain ⟨h1, h2, h3, h4⟩ := hp
  obtain ⟨g1, g2, g3, g4⟩ := hq
  unfold lk
  show (if p.1 = q.1 then (if p.2 = q.2 then true else decide (p.2 ≤ q.2)) else decide (p.1 ≤ q.1)) = _
  split
  · split
    · exact (decide_eq_true (by omega)).symm
    · congr 1; apply propext; omega
  · congr 1; apply propext; omega
section
variable {env : En} {τ : Tp} {Q : W → Prop} {p q : Pt}
theorem k_mint (hp : InP p) (hq : InP q) (h : Q (.d (ptD (mn p q)))) : wpO (gMin env τ (.d (.tuple [ptD p, ptD q]))) Q := by
  have e : gMin env τ (.d (.tuple [ptD p, ptD q])) = some (.d (minD (ptD p) [ptD q])) := by
    unfold gMin
    exact if_pos ⟨pt_alike p q, pt_depth p q⟩
  rw [e, pt_minD hp hq]
  exact wpO_of rfl h
theorem k_maxt (hp : InP p) (hq : InP q) (h : Q (.d (ptD (mx p q)))) : wpO (gMax env τ (.d (.tuple [ptD p, ptD q]))) Q := by
  have e : gMax env τ (.d (.tuple [ptD p, ptD q])) = some (.d (maxD (ptD p) [ptD q])) := by
    unfold gMax
    exact if_pos ⟨pt_alike p q, pt_depth p q⟩
  rw [e, pt_maxD hp hq]
  exact wpO_of rfl h
theorem k_mm2min (hp : InP p) (hq : InP q) (h : Q (.d (ptD (mn p q)))) : wpO (gMM2 minD env τ (.d (ptD p)) (.d (ptD q))) Q := by
  have e : gMM2 minD env τ (.d (ptD p)) (.d (ptD q)) = some (.d (minD (ptD p) [ptD q])) := by
    unfold gMM2
    exact if_pos ⟨pt_alike p q, pt_depth p q⟩
  rw [e, pt_minD hp hq]
  exact wpO_of rfl h
theorem k_mm2max (hp : InP p) (hq : InP q) (h : Q (.d (ptD (mx p q)))) : wpO (gMM2 maxD env τ (.d (ptD p)) (.d (ptD q))) Q := by
  have e : gMM2 maxD env τ (.d (ptD p)) (.d (ptD q)) = some (.d (maxD (ptD p) [ptD q])) := by
    unfold gMM2
    exact if_pos ⟨pt_alike p q, pt_depth p q⟩
  rw [e, pt_maxD hp hq]
  exact wpO_of rfl h
end
theorem oneLine_w {s o : Stk} (hs : InS s) (ho : InS o) (τ : Tp) : S_on_one_line [.d (stD s), .d (stD o)] τ = some (.bool (decide (side s.1 s.2 o.1 = 0 ∧ max (min (lk s.1) (lk s.2)) (min (lk o.1) (lk o.2)) ≤ min (max (lk s.1) (lk s.2)) (max (lk o.1) (lk o.2)))), τ) := by
  refine wpC_eq ?_
  unfold S_on_one_line
  have t0 : ∀ τ, S_turn [.d (ptD (s.2.1 - s.1.1, s.2.2 - s.1.2)), .d (ptD (o.1.1 - s.1.1, o.1.2 - s.1.2))] τ = some (.int (side s.1 s.2 o.1), τ) := fun τ => by
    obtain ⟨⟨p1, p2, p3, p4⟩, ⟨q1, q2, q3, q4⟩⟩ := hs
    obtain ⟨⟨r1, r2, r3, r4⟩, ⟨u1, u2, u3, u4⟩⟩ := ho
    rw [turn_w (by simp; omega) (by simp; omega) (by simp; omega) (by simp; omega)]
    rfl
  generalize side s.1 s.2 o.1 = a at *
  wtm_at "ev_st"
  refine wpC_of (way_w _ _ _) ?_
  wtm_at "ev_st"
  refine wpC_of (way_w _ _ _) ?_
  wtm_at "ev_st"
  refine wpC_of (t0 _) ?_
  wtm_at "ev_st"
  refine k_neq (fun c => ?_) (fun c => ?_)
  · wtm_at "ev_st"
    refine ⟨?_, rfl⟩
    rw [decide_eq_false (by omega)]
  · wtm_at "ev_st"
    rw [pt_minD hs.a hs.b, pt_minD ho.a ho.b]
    refine k_mm2max (mn_in hs.a hs.b) (mn_in ho.a ho.b) ?_
    wtm_at "ev_st"
    rw [pt_maxD hs.a hs.b, pt_maxD ho.a ho.b]
    refine k_mm2min (mx_in hs.a hs.b) (mx_in ho.a ho.b) ?_
    wtm_at "ev_st"
    refine ⟨?_, rfl⟩
    rw [lexLe_pt (mx_in (mn_in hs.a hs.b) (mn_in ho.a ho.b)) (mn_in (mx_in hs.a hs.b) (mx_in ho.a ho.b)), lk_mx, lk_mn, lk_mn, lk_mn, lk_mx, lk_mx]
    congr 1
    congr 1
    apply propext
    omega
def cRes (s o : Stk) : D := if mCross s o = true then .tuple [frD (place s o), frD (place o s)] else if mT s o = true then .bool false else .none
theorem cross_no {s o : Stk} (h : mCross s o = false) : ¬(side s.1 s.2 o.1 * side s.1 s.2 o.2 < 0 ∧ side o.1 o.2 s.1 * side o.1 o.2 s.2 < 0) := by
  unfold mCross at h
  simpa using h
theorem crossing_all {s o : Stk} (hs : InS s) (ho : InS o) (ns : s.1 ≠ s.2) (no : o.1 ≠ o.2) (τ : Tp) : S_crossing [.d (stD s), .d (stD o)] τ = some (cRes s o, τ) := by
  unfold cRes
  cases hx : mCross s o with
  | true => rw [if_pos rfl]; exact crossing_cross hs ho hx τ
  | false =>
    rw [if_neg Bool.false_ne_true]
    refine wpC_eq ?_
    unfold S_crossing
    have b0 := btm_b hs ho
    have b1 := side_b ho.a ho.b hs.a
    have b2 := side_b hs.a hs.b ho.a
    have hn := cross_no hx
    have tl := touch_line hs ho ns no
    have ti := touch_iff (s := s) (o := o) ns no
    have e2 : side s.1 s.2 o.2 = side s.1 s.2 o.1 + btm s o := by unfold btm; omega
    have e4 : side o.1 o.2 s.2 = side o.1 o.2 s.1 - btm s o := by rw [btm_eq2]; omega
    have ol := fun τ => oneLine_w hs ho τ
    rw [e2, e4] at hn ti
    wtm_at "ev_st"
    refine wpC_of (meeting_w hs ho _) ?_
    generalize btm s o = b at *
    generalize side o.1 o.2 s.1 = c at *
    generalize side s.1 s.2 o.1 = a at *
    wtm_at "ev_st"
    refine k_eq (fun z => ?_) (fun z => ?_)
    · have zb : b = 0 := by unfold sg at z; split at z <;> omega
      wtm_at "ev_st"
      refine wpC_of (ol _) ?_
      have e : decide (a = 0 ∧ max (min (lk s.1) (lk s.2)) (min (lk o.1) (lk o.2)) ≤ min (max (lk s.1) (lk s.2)) (max (lk o.1) (lk o.2))) = mT s o := by
        cases h : mT s o with
        | true => exact decide_eq_true ((tl zb).mp h)
        | false => exact decide_eq_false fun q => by rw [(tl zb).mpr q] at h; cases h
      rw [e]
      cases mT s o with
      | true => wtm_at "ev_st"; exact ⟨rfl, rfl⟩
      | false => wtm_at "ev_st"; exact ⟨rfl, rfl⟩
    · have zb : b ≠ 0 := fun q => z (by rw [q, Int.mul_zero])
      have ti := ti zb
      have hsg : sg b = 1 ∧ 0 < b ∨ sg b = -1 ∧ b < 0 := by unfold sg; split <;> omega
      have hC : sg b * c = 0 ↔ c = 0 := by rcases hsg with ⟨q, _⟩ | ⟨q, _⟩ <;> rw [q] <;> omega
      have hA : sg b * -a = 0 ↔ a = 0 := by rcases hsg with ⟨q, _⟩ | ⟨q, _⟩ <;> rw [q] <;> omega
      have hC' : sg b * c = sg b * b ↔ c - b = 0 := by rcases hsg with ⟨q, _⟩ | ⟨q, _⟩ <;> rw [q] <;> omega
      have hA' : sg b * -a = sg b * b ↔ a + b = 0 := by rcases hsg with ⟨q, _⟩ | ⟨q, _⟩ <;> rw [q] <;> omega
      have hx2 : (0 < sg b * c ∧ sg b * c < sg b * b ∧ 0 < sg b * -a ∧ sg b * -a < sg b * b) → False := fun ⟨q1, q2, q3, q4⟩ => hn (by
        have m1 : 0 < (sg b * c) * (sg b * b - sg b * c) := Int.mul_pos q1 (by omega)
        have m2 : 0 < (sg b * -a) * (sg b * b - sg b * -a) := Int.mul_pos q3 (by omega)
        have ss : sg b * sg b = 1 := by rcases hsg with ⟨q, _⟩ | ⟨q, _⟩ <;> rw [q] <;> rfl
        constructor
        · have : (sg b * -a) * (sg b * b - sg b * -a) = (sg b * sg b) * (-(a * (a + b))) := by grind
          rw [this, ss] at m2; omega
        · have : (sg b * c) * (sg b * b - sg b * c) = (sg b * sg b) * (-(c * (c - b))) := by grind
          rw [this, ss] at m1; omega)
      rw [← hC, ← hA, ← hC', ← hA'] at ti
      generalize sg b * c = C at *
      generalize sg b * -a = A at *
      generalize sg b * b = B at *
      have yes : ((0 ≤ C ∧ C ≤ B ∧ 0 ≤ A ∧ A ≤ B) ∧ (A = 0 ∨ A = B ∨ C = 0 ∨ C = B)) → (if mT s o = true then PyData.bool false else PyData.none) = .bool false := fun h => if_pos (ti.mpr h)
      have nope : ¬((0 ≤ C ∧ C ≤ B ∧ 0 ≤ A ∧ A ≤ B) ∧ (A = 0 ∨ A = B ∨ C = 0 ∨ C = B)) → (if mT s o = true then PyData.bool false else PyData.none) = .none := fun h => if_neg fun q => h (ti.mp q)
      generalize (if mT s o = true then PyData.bool false else PyData.none) = R at *
      wtm_at "ev_st"
      refine k_d (fun c1 => ?_) (fun c1 => ?_)
      · wtm_at "ev_st"
        refine k_nd (fun c2 => ?_) (fun c2 => ?_)
        · rw [nope (by omega)]
          wtm_at "ev_st"
          exact ⟨rfl, rfl⟩
        · wtm_at "ev_st"
          refine k_d (fun c3 => ?_) (fun c3 => ?_)
          · wtm_at "ev_st"
            refine k_nd (fun c4 => ?_) (fun c4 => ?_)
            · rw [nope (by omega)]
              wtm_at "ev_st"
              exact ⟨rfl, rfl⟩
            · wtm_at "ev_st"
              by_cases c5 : C = 0 ∨ C = B
              · rw [yes (by omega)]
                refine k_t (ob_t (by omega)) ?_
                wtm_at "ev_st"
                exact ⟨rfl, rfl⟩
              · refine k_f (ob_f (by omega) (by omega)) ?_
                wtm_at "ev_st"
                by_cases c6 : A = 0 ∨ A = B
                · rw [yes (by omega)]
                  refine k_t (ob_t (by omega)) ?_
                  wtm_at "ev_st"
                  exact ⟨rfl, rfl⟩
                · exact (hx2 (by omega)).elim
          · rw [nope (by omega)]
            wtm_at "ev_st"
            exact ⟨rfl, rfl⟩
      · rw [nope (by omega)]
        wtm_at "ev_st"
        exact ⟨rfl, rfl⟩

open PySem PySem.Spec PyProof.Rows L2
open PySem.W (minD maxD)
noncomputable def S_is_whole : Sem1 := runB (sSeq (sRet (eAnd (f1 (gIsi .int) (eVar 0)) (f1 gNot (f1 (gIsi .bool) (eVar 0)))))
    sNext) ["thing"]
noncomputable def S_is_point : Sem1 := runB (sSeq (sIf (eOr (f1 gNot (f1 (gIsi .tuple) (eVar 0))) (f2 (gEqD true) (f1 gLen (eVar 0)) (eCon (.int (2))))) (sSeq (sRet (eCon (.bool false)))
    sNext) sNext)
    (sSeq (sRet (f1 gAll (eLc (iSeq (eVar 0)) (.nm 1) tYesF (eAnd (eCall S_is_whole (aCons (eVar 1) aNil)) (eChn gLe gLe (eCon (.int (0))) (eVar 1) (eCon (.int (12))))) [1])))
    sNext)) ["thing", "part"]
noncomputable def S_is_stick : Sem1 := runB (sSeq (sIf (eOr (f1 gNot (f1 (gIsi .tuple) (eVar 0))) (eOr (f2 (gEqD true) (f1 gLen (eVar 0)) (eCon (.int (2)))) (f1 gNot (f1 gAll (eLc (iSeq (eVar 0)) (.nm 1) tYesF (eCall S_is_point (aCons (eVar 1) aNil)) [1]))))) (sSeq (sRet (eCon (.bool false)))
    sNext) sNext)
    (sSeq (sRet (f2 (gEqD true) (f2 gIx (eVar 0) (eCon (.int (0)))) (f2 gIx (eVar 0) (eCon (.int (1))))))
    sNext)) ["thing", "part"]
noncomputable def S_are_sticks : Sem1 := runB (sSeq (sIf (eOr (f1 gNot (f1 (gIsi .tuple) (eVar 0))) (f1 gNot (eChn gLe gLe (eCon (.int (1))) (f1 gLen (eVar 0)) (eCon (.int (5)))))) (sSeq (sRet (eCon (.bool false)))
    sNext) sNext)
    (sSeq (sIf (f1 gNot (f1 gAll (eLc (iSeq (eVar 0)) (.nm 1) tYesF (eCall S_is_stick (aCons (eVar 1) aNil)) [1]))) (sSeq (sRet (eCon (.bool false)))
    sNext) sNext)
    (sSeq (sRet (f1 gAll (eLc2 (iRng (aCons (f1 gLen (eVar 0)) aNil)) (.nm 2) tYesF (iRng (aCons (eVar 2) aNil)) (.nm 3) tYesF (f2 (gIs true) (eCall S_crossing (aCons (f2 gIx (eVar 0) (eVar 3)) (aCons (f2 gIx (eVar 0) (eVar 2)) aNil))) (eCon (.bool false))) [2, 3] [3])))
    sNext))) ["thing", "part", "two", "one"]
noncomputable def S_is_pair : Sem1 := runB (sSeq (sIf (eOr (f1 gNot (f1 (gIsi .tuple) (eVar 1))) (f2 (gEqD true) (f1 gLen (eVar 1)) (eCon (.int (2))))) (sSeq (sRet (eCon (.bool false)))
    sNext) sNext)
    (sSeq (sIf (eOr (f1 gNot (f1 gAll (eLc (iSeq (eVar 1)) (.nm 2) tYesF (eAnd (eCall S_is_whole (aCons (eVar 2) aNil)) (eChn gLe gLt (eCon (.int (0))) (eVar 2) (f1 gLen (eVar 0)))) [2]))) (f2 (gEqD false) (f2 gIx (eVar 1) (eCon (.int (0)))) (f2 gIx (eVar 1) (eCon (.int (1)))))) (sSeq (sRet (eCon (.bool false)))
    sNext) sNext)
    (sSeq (sRet (f2 (gIs true) (eCall S_crossing (aCons (f2 gIx (eVar 0) (f2 gIx (eVar 1) (eCon (.int (0))))) (aCons (f2 gIx (eVar 0) (f2 gIx (eVar 1) (eCon (.int (1))))) aNil))) (eCon .none)))
    sNext))) ["sticks", "thing", "part"]
noncomputable def S_crossing_pairs : Sem1 := runB (sSeq (sSet true 1 (eLst aNil))
    (sSeq (sFor (iRng (aCons (f1 gLen (eVar 0)) aNil)) (.nm 2) (sSeq (sFor (iRng (aCons (f2 gAdd (eVar 2) (eCon (.int (1)))) (aCons (f1 gLen (eVar 0)) aNil))) (.nm 3) (sSeq (sIf (f2 (gIs true) (eCall S_crossing (aCons (f2 gIx (eVar 0) (eVar 2)) (aCons (f2 gIx (eVar 0) (eVar 3)) aNil))) (eCon .none)) (sSeq (sApp 1 (aCons (eTup (aCons (eVar 2) (aCons (eVar 3) aNil))) aNil))
    sNext) sNext)
    sNext))
    sNext))
    (sSeq (sRet (eVar 1))
    sNext))) ["sticks", "found", "one", "two"]
noncomputable def S_is_pile : Sem1 := runB (sSeq (sIf (eOr (f1 gNot (f1 (gIsi .tuple) (eVar 0))) (eOr (f2 (gEqD true) (f1 gLen (eVar 0)) (eCon (.int (2)))) (eOr (f1 gNot (eCall S_are_sticks (aCons (f2 gIx (eVar 0) (eCon (.int (0)))) aNil))) (f1 gNot (f1 (gIsi .tuple) (f2 gIx (eVar 0) (eCon (.int (1))))))))) (sSeq (sRet (eCon (.bool false)))
    sNext) sNext)
    (sSeq (sTg (.tu (.cn (.nm 1) (.cn (.nm 2) .nl))) (eVar 0))
    (sSeq (sIf (f1 gNot (f1 gAll (eLc (iSeq (eVar 2)) (.nm 3) tYesF (eCall S_is_pair (aCons (eVar 1) (aCons (eVar 3) aNil))) [3]))) (sSeq (sRet (eCon (.bool false)))
    sNext) sNext)
    (sSeq (sIf (f1 gNot (f1 gAll (eLc (iZip (aCons (eVar 2) (aCons (eSl (eVar 2) (oSome (eCon (.int (1)))) oNone) aNil))) (.tu (.cn (.nm 4) (.cn (.nm 5) .nl))) tYesF (f2 gLt (eVar 4) (eVar 5)) [4, 5]))) (sSeq (sRet (eCon (.bool false)))
    sNext) sNext)
    (sSeq (sRet (f2 (gEqD false) (f1 gSorted (eLc (iSeq (eVar 2)) (.nm 3) tYesF (eTup (aCons (f1 gMin (eVar 3)) (aCons (f1 gMax (eVar 3)) aNil))) [3])) (eCall S_crossing_pairs (aCons (eVar 1) aNil))))
    sNext))))) ["thing", "sticks", "overs", "pair", "one", "two"]
noncomputable def S__law_whole : Sem1 := runB (sSeq (sRet (eAnd (f1 (gIsi .int) (eVar 0)) (f1 gNot (f1 (gIsi .bool) (eVar 0)))))
    sNext) ["item"]
noncomputable def S__law_within : Sem1 := runB (sSeq (sRet (eAnd (eCall S__law_whole (aCons (eVar 0) aNil)) (eChn gLe gLe (eVar 1) (eVar 0) (eVar 2))))
    sNext) ["item", "low", "high"]
noncomputable def S__law_rises : Sem1 := runB (sSeq (sRet (f2 (gEqD false) (eLc (iRng (aCons (eCon (.int (1))) (aCons (f1 gLen (eVar 0)) aNil))) (.nm 1) (f1 gNot (f2 gLt (f2 gIx (eVar 0) (f2 gSub (eVar 1) (eCon (.int (1))))) (f2 gIx (eVar 0) (eVar 1)))) (eVar 1) [1]) (eLst aNil)))
    sNext) ["some", "k"]
noncomputable def S__law_any : Nat → Sem1
  | 0 => fun _ _ => none
  | n + 1 => runB (sSeq (sSet false 2 (eCall S__law_draw (aCons (eVar 0) (aCons (eCon (.int (13))) aNil))))
    (sSeq (sIf (eAnd (f2 gLt (eVar 2) (eCon (.int (4)))) (f2 gGt (eVar 1) (eCon (.int (0))))) (sSeq (sSet false 3 (eLc (iRng (aCons (eCall S__law_draw (aCons (eVar 0) (aCons (eCon (.int (4))) aNil))) aNil)) (.nm 4) tYesF (eCall (S__law_any n) (aCons (eVar 0) (aCons (f2 gSub (eVar 1) (eCon (.int (1)))) aNil))) [4]))
    (sSeq (sRet (f2 gIx (eLst (aCons (eVar 3) (aCons (f1 gTuple (eVar 3)) (aCons (f1 gTuple (eVar 3)) (aCons (f1 gTuple (eVar 3)) aNil))))) (eVar 2)))
    sNext)) sNext)
    (sSeq (sIf (f2 gLt (eVar 2) (eCon (.int (8)))) (sSeq (sRet (f2 gIx (eLst (aCons (f2 gSub (eCall S__law_draw (aCons (eVar 0) (aCons (eCon (.int (12))) aNil))) (eCon (.int (2)))) (aCons (eCall S__law_draw (aCons (eVar 0) (aCons (f2 (gI dPow) (eCon (.int (10))) (eCon (.int (12)))) aNil))) (aCons (eCon (.int (0))) (aCons (eCon (.int (13))) aNil))))) (f2 (gMM2 maxD) (eCon (.int (0))) (f2 gSub (eVar 2) (eCon (.int (4)))))))
    sNext) sNext)
    (sSeq (sSet false 3 (eLst (aCons (eCon (.str (PySem.Str.ofString ""))) (aCons (eCon (.str (PySem.Str.ofString " "))) (aCons (eCon (.str (PySem.Str.ofString "a"))) (aCons (eCon (.str (PySem.Str.ofString "over"))) (aCons (eCon (.str (PySem.Str.ofString "1"))) (aCons (eCon (.str (PySem.Str.ofString "A"))) (aCons (eCon (.str (PySem.Str.ofString "a\nb"))) (aCons (eCon (.str (PySem.Str.ofString "x"))) aNil))))))))))
    (sSeq (sRet (f2 gIx (eLst (aCons (eCon (.bool true)) (aCons (eCon (.bool false)) (aCons (eCon .none) (aCons (f2 gIx (eVar 3) (eCall S__law_draw (aCons (eVar 0) (aCons (eCon (.int (8))) aNil)))) (aCons (eTup (aCons (eCon (.int (1))) (aCons (eCon (.int (2))) aNil))) aNil)))))) (f2 gSub (eVar 2) (eCon (.int (8))))))
    sNext))))) ["tape", "deep", "course", "some", "k"]
noncomputable def S__law_spoilt : Nat → Sem1
  | 0 => fun _ _ => none
  | n + 1 => runB (sSeq (sIf (eAnd (f1 (gIsi2 .tuple .list) (eVar 1)) (eAnd (f2 gGt (f1 gLen (eVar 1)) (eCon (.int (0)))) (f2 gGt (eCall S__law_draw (aCons (eVar 0) (aCons (eCon (.int (7))) aNil))) (eCon (.int (0)))))) (sSeq (sSet false 2 (eCall S__law_draw (aCons (eVar 0) (aCons (f1 gLen (eVar 1)) aNil))))
    (sSeq (sSet true 3 (f1 gList (eVar 1)))
    (sSeq (sSet false 4 (eCall S__law_draw (aCons (eVar 0) (aCons (eCon (.int (12))) aNil))))
    (sSeq (sIf (f2 gLt (eVar 4) (eCon (.int (8)))) (sSeq (sSub 3 (eVar 2) (eCall (S__law_spoilt n) (aCons (eVar 0) (aCons (f2 gIx (eVar 3) (eVar 2)) aNil))))
    sNext) (sSeq (sIf (f2 (gEqD false) (eVar 4) (eCon (.int (8)))) (sSeq (sPopAt 3 (aCons (eVar 2) aNil))
    sNext) (sSeq (sIf (f2 (gEqD false) (eVar 4) (eCon (.int (9)))) (sSeq (sIns 3 (aCons (eVar 2) (aCons (f2 gIx (eVar 3) (eCall S__law_draw (aCons (eVar 0) (aCons (f1 gLen (eVar 3)) aNil)))) aNil)))
    sNext) (sSeq (sIf (f2 (gEqD false) (eVar 4) (eCon (.int (10)))) (sSeq (sSet true 3 (f1 gRev (eVar 3)))
    sNext) (sSeq (sIns 3 (aCons (eVar 2) (aCons (eCall (S__law_any 30) (aCons (eVar 0) (aCons (eCon (.int (1))) aNil))) aNil)))
    sNext))
    sNext))
    sNext))
    sNext))
    (sSeq (sRet (eIf (f1 (gIsi .tuple) (eVar 1)) (f1 gTuple (eVar 3)) (eVar 3)))
    sNext))))) sNext)
    (sSeq (sIf (eAnd (eCall S__law_whole (aCons (eVar 1) aNil)) (f2 gGt (eCall S__law_draw (aCons (eVar 0) (aCons (eCon (.int (6))) aNil))) (eCon (.int (0))))) (sSeq (sRet (f2 gAdd (eVar 1) (f2 gIx (eLst (aCons (eCon (.int (1))) (aCons (f1 gNeg (eCon (.int (1)))) (aCons (eCon (.int (2))) (aCons (f1 gNeg (eCon (.int (2)))) (aCons (eCon (.int (9))) (aCons (eCon (.int (1000))) aNil))))))) (eCall S__law_draw (aCons (eVar 0) (aCons (eCon (.int (6))) aNil))))))
    sNext) sNext)
    (sSeq (sIf (eAnd (f1 (gIsi .str) (eVar 1)) (f2 gGt (eCall S__law_draw (aCons (eVar 0) (aCons (eCon (.int (3))) aNil))) (eCon (.int (0))))) (sSeq (sSet false 5 (eCall S__law_draw (aCons (eVar 0) (aCons (f2 gAdd (f1 gLen (eVar 1)) (eCon (.int (1)))) aNil))))
    (sSeq (sRet (f2 gAdd (f2 gAdd (eSl (eVar 1) oNone (oSome (eVar 5))) (f2 gIx (eLst (aCons (eCon (.str (PySem.Str.ofString " "))) (aCons (eCon (.str (PySem.Str.ofString "z"))) (aCons (eCon (.str (PySem.Str.ofString "A"))) (aCons (eCon (.str (PySem.Str.ofString "|"))) (aCons (eCon (.str (PySem.Str.ofString "abcdefgh"))) (aCons (eCon (.str (PySem.Str.ofString ""))) aNil))))))) (eCall S__law_draw (aCons (eVar 0) (aCons (eCon (.int (6))) aNil))))) (eSl (eVar 1) (oSome (eVar 5)) oNone)))
    sNext)) sNext)
    (sSeq (sIf (eAnd (f1 (gIsi2 .tuple .list) (eVar 1)) (f2 (gEqD false) (eCall S__law_draw (aCons (eVar 0) (aCons (eCon (.int (2))) aNil))) (eCon (.int (0))))) (sSeq (sRet (eIf (f1 (gIsi .tuple) (eVar 1)) (f1 gList (eVar 1)) (f1 gTuple (eVar 1))))
    sNext) sNext)
    (sSeq (sRet (eCall (S__law_any 30) (aCons (eVar 0) (aCons (eCon (.int (2))) aNil))))
    sNext))))) ["tape", "item", "k", "rest", "course", "at"]
noncomputable def S__law_is_pile : Sem1 := runB (sSeq (sIf (eOr (f1 gNot (f1 (gIsi .tuple) (eVar 0))) (f2 (gEqD true) (f1 gLen (eVar 0)) (eCon (.int (2))))) (sSeq (sRet (eCon (.bool false)))
    sNext) sNext)
    (sSeq (sIf (eOr (f1 gNot (f1 (gIsi .tuple) (f2 gIx (eVar 0) (eCon (.int (0)))))) (f1 gNot (f1 (gIsi .tuple) (f2 gIx (eVar 0) (eCon (.int (1))))))) (sSeq (sRet (eCon (.bool false)))
    sNext) sNext)
    (sSeq (sTg (.tu (.cn (.nm 1) (.cn (.nm 2) .nl))) (eVar 0))
    (sSeq (sIf (f1 gNot (eChn gLe gLe (eCon (.int (1))) (f1 gLen (eVar 1)) (eCon (.int (5))))) (sSeq (sRet (eCon (.bool false)))
    sNext) sNext)
    (sSeq (sFor (iSeq (eVar 1)) (.nm 3) (sSeq (sIf (eOr (f1 gNot (f1 (gIsi .tuple) (eVar 3))) (f2 (gEqD true) (f1 gLen (eVar 3)) (eCon (.int (2))))) (sSeq (sRet (eCon (.bool false)))
    sNext) sNext)
    (sSeq (sFor (iSeq (eVar 3)) (.nm 4) (sSeq (sIf (eOr (f1 gNot (f1 (gIsi .tuple) (eVar 4))) (f2 (gEqD true) (f1 gLen (eVar 4)) (eCon (.int (2))))) (sSeq (sRet (eCon (.bool false)))
    sNext) sNext)
    (sSeq (sIf (eOr (f1 gNot (eCall S__law_within (aCons (f2 gIx (eVar 4) (eCon (.int (0)))) (aCons (eCon (.int (0))) (aCons (eCon (.int (12))) aNil))))) (f1 gNot (eCall S__law_within (aCons (f2 gIx (eVar 4) (eCon (.int (1)))) (aCons (eCon (.int (0))) (aCons (eCon (.int (12))) aNil)))))) (sSeq (sRet (eCon (.bool false)))
    sNext) sNext)
    sNext)))
    (sSeq (sIf (f2 (gEqD false) (f2 gIx (eVar 3) (eCon (.int (0)))) (f2 gIx (eVar 3) (eCon (.int (1))))) (sSeq (sRet (eCon (.bool false)))
    sNext) sNext)
    sNext))))
    (sSeq (sFor (iRng (aCons (f1 gLen (eVar 1)) aNil)) (.nm 5) (sSeq (sIf (f2 (gEqD true) (eLc (iSeq (eSl (eVar 1) oNone (oSome (eVar 5)))) (.nm 3) (f2 (gEqD false) (eCall S__law_meet (aCons (eVar 3) (aCons (f2 gIx (eVar 1) (eVar 5)) aNil))) (eCon (.str (PySem.Str.ofString "touch")))) (eCon (.int (1))) [3]) (eLst aNil)) (sSeq (sRet (eCon (.bool false)))
    sNext) sNext)
    sNext))
    (sSeq (sFor (iSeq (eVar 2)) (.nm 6) (sSeq (sIf (eOr (f1 gNot (f1 (gIsi .tuple) (eVar 6))) (eOr (f2 (gEqD true) (f1 gLen (eVar 6)) (eCon (.int (2)))) (f2 (gEqD true) (eLc (iSeq (eVar 6)) (.nm 8) (f1 gNot (eCall S__law_whole (aCons (eVar 8) aNil))) (eCon (.int (1))) [8]) (eLst aNil)))) (sSeq (sRet (eCon (.bool false)))
    sNext) sNext)
    sNext))
    (sSeq (sSet false 7 (f1 gSorted (eLc (iSeq (eVar 2)) (.nm 6) tYesF (f1 gTuple (f1 gSorted (eVar 6))) [6])))
    (sSeq (sRet (eAnd (eCall S__law_rises (aCons (eVar 2) aNil)) (f2 (gEqD false) (eVar 7) (eCall S__law_pairs_of (aCons (eVar 1) aNil)))))
    sNext))))))))) ["item", "sticks", "overs", "stick", "point", "at", "pair", "some", "one"]
noncomputable def S_rest01 : EvS := (sSeq (sFor (iRng (aCons (eCon (.int (3))) aNil)) (.nm 2) (sSeq (sSet false 3 (eCall S__law_pile (aCons (eVar 1) (aCons (eCon (.int (5))) aNil))))
    (sSeq (sTg (.tu (.cn (.nm 4) (.cn (.nm 5) .nl))) (eVar 3))
    (sSeq (sSet false 6 (f2 gIx (eVar 4) (eCon (.int (0)))))
    (sSeq (sSet true 7 (eLst (aCons (eVar 3) (aCons (f1 gList (eVar 3)) (aCons (eTup (aCons (eVar 4) (aCons (f1 gList (eVar 5)) aNil))) (aCons (eTup (aCons (f1 gList (eVar 4)) (aCons (eVar 5) aNil))) (aCons (eTup (aCons (eVar 4) (aCons (eSl (eVar 5) (oSome (eCon (.int (1)))) oNone) aNil))) aNil)))))))
    (sSeq (sSet true 7 (f2 gAdd (eVar 7) (eLst (aCons (eTup (aCons (f2 gAdd (eVar 4) (eTup (aCons (eVar 6) aNil))) (aCons (eVar 5) aNil))) (aCons (eTup (aCons (eVar 4) (aCons (f1 gRev (eVar 5)) aNil))) (aCons (eTup (aCons (eVar 4) (aCons (f2 gAdd (eVar 5) (eSl (eVar 5) oNone (oSome (eCon (.int (1)))))) aNil))) aNil))))))
    (sSeq (sApp 7 (aCons (eTup (aCons (f2 gAdd (eVar 4) (eTup (aCons (eTup (aCons (f2 gIx (eVar 6) (eCon (.int (0)))) (aCons (eTup (aCons (eCon (.int (12))) (aCons (eCon (.int (12))) aNil))) aNil))) aNil))) (aCons (eVar 5) aNil))) aNil))
    (sSeq (sSet true 7 (f2 gAdd (eVar 7) (eLst (aCons (eTup (aCons (eTup aNil) (aCons (eTup aNil) aNil))) (aCons (eTup (aCons (eTup (aCons (eTup (aCons (eCon (.int (0))) (aCons (eCon (.int (0))) aNil))) (aCons (eTup (aCons (eCon (.int (1))) (aCons (eCon (.int (1))) aNil))) aNil))) aNil)) (aCons (eCall (S__law_any 30) (aCons (eVar 1) (aCons (eCon (.int (3))) aNil))) aNil))))))
    (sSeq (sApp 7 (aCons (eTup (aCons (eTup (aCons (eTup (aCons (eTup (aCons (eCon (.int (0))) (aCons (eCon (.int (0))) aNil))) (aCons (eTup (aCons (eCon (.int (12))) (aCons (eCon (.int (12))) aNil))) aNil))) (aCons (eTup (aCons (eTup (aCons (eCon (.int (4))) (aCons (eCon (.int (4))) aNil))) (aCons (eTup (aCons (eCon (.int (9))) (aCons (eCon (.int (9))) aNil))) aNil))) aNil))) (aCons (eTup aNil) aNil))) aNil))
    (sSeq (sApp 7 (aCons (eTup (aCons (eTup (aCons (eTup (aCons (eCon (.int (0))) (aCons (eCon (.int (0))) aNil))) (aCons (eTup (aCons (eCon (.int (4))) (aCons (eCon (.int (0))) aNil))) aNil))) (aCons (eTup (aCons (eTup (aCons (eCon (.int (5))) (aCons (eCon (.int (0))) aNil))) (aCons (eTup (aCons (eCon (.int (9))) (aCons (eCon (.int (0))) aNil))) aNil))) aNil))) aNil))
    (sSeq (sApp 7 (aCons (eTup (aCons (eTup (aCons (eTup (aCons (eTup (aCons (eCon (.int (0))) (aCons (eCon (.int (0))) aNil))) (aCons (eTup (aCons (eCon (.int (4))) (aCons (eCon (.int (0))) aNil))) aNil))) (aCons (eTup (aCons (eTup (aCons (eCon (.int (5))) (aCons (eCon (.int (0))) aNil))) (aCons (eTup (aCons (eCon (.int (9))) (aCons (eCon (.int (0))) aNil))) aNil))) (aCons (eTup (aCons (eTup (aCons (eCon (.int (0))) (aCons (eCon (.int (1))) aNil))) (aCons (eTup (aCons (eCon (.int (9))) (aCons (eCon (.int (1))) aNil))) aNil))) aNil)))) (aCons (eTup aNil) aNil))) aNil))
    (sSeq (sApp 7 (aCons (eTup (aCons (f1 gTuple (eLc (iRng (aCons (eCon (.int (6))) aNil)) (.nm 10) tYesF (eTup (aCons (eTup (aCons (eVar 10) (aCons (eCon (.int (0))) aNil))) (aCons (eTup (aCons (eVar 10) (aCons (eCon (.int (5))) aNil))) aNil))) [10])) (aCons (eTup aNil) aNil))) aNil))
    (sSeq (sApp 7 (aCons (eTup (aCons (eVar 4) (aCons (f1 gTuple (f1 gSorted (eLc (iSeq (eVar 5)) (.nm 11) tYesF (f1 gRev (eVar 11)) [11]))) aNil))) aNil))
    (sSeq (sFor (iRng (aCons (eCon (.int (8))) aNil)) (.nm 8) (sSeq (sApp 7 (aCons (eCall (S__law_spoilt 30) (aCons (eVar 1) (aCons (eVar 3) aNil))) aNil))
    (sSeq (sApp 7 (aCons (eCall (S__law_spoilt 30) (aCons (eVar 1) (aCons (f2 gIx (eVar 7) (f1 gNeg (eCon (.int (1))))) aNil))) aNil))
    sNext)))
    (sSeq (sFor (iSeq (eVar 7)) (.nm 9) (sSeq (sIf (f1 gNot (eCall (S__law_like 30) (aCons (eCall S_is_pile (aCons (eVar 9) aNil)) (aCons (eCall S__law_is_pile (aCons (eVar 9) aNil)) aNil)))) (sSeq (sRet (eCon (.bool false)))
    sNext) sNext)
    sNext))
    sNext)))))))))))))))
    (sSeq (sRet (eCon (.bool true)))
    sNext))
def N_law01 : List Str := ["script", "tape", "my_turn", "pile", "sticks", "overs", "one", "things", "k", "thing", "at", "pair"]

open PySem PySem.Spec PyProof.Rows L2
open PySem.W (minD maxD dataLt dataLe dataLt_ii alike)
/-! ### what a thing is -/
noncomputable def tv (P : Prop) : Bool := @decide P (Classical.propDecidable P)
theorem tv_t {P : Prop} (h : P) : tv P = true := @decide_eq_true P (Classical.propDecidable P) h
theorem tv_f {P : Prop} (h : ¬P) : tv P = false := @decide_eq_false P (Classical.propDecidable P) h
theorem tv_iff {P : Prop} : tv P = true ↔ P := ⟨fun h => @of_decide_eq_true P (Classical.propDecidable P) h, tv_t⟩
theorem tv_of {P : Prop} {b : Bool} (h : b = true ↔ P) : tv P = b := by
  cases b with
  | true => exact tv_t (h.mp rfl)
  | false => exact tv_f fun p => by cases h.mpr p
/-- data without dicts, of bounded depth and width -/
inductive Gd (c : Nat) : Nat → D → Prop
  | non {n : Nat} : Gd c n .none
  | bl {n : Nat} (b : Bool) : Gd c n (.bool b)
  | int {n : Nat} (i : Int) : Gd c n (.int i)
  | str {n : Nat} (s : Str) : s.length ≤ 1000 + 100 * c → Gd c n (.str s)
  | tup {n : Nat} {ds : List D} : ds.length ≤ 100 + c → (∀ d ∈ ds, Gd c n d) → Gd c (n + 1) (.tuple ds)
  | lst {n : Nat} {ds : List D} : ds.length ≤ 100 + c → (∀ d ∈ ds, Gd c n d) → Gd c (n + 1) (.list ds)
theorem Gd.mono {c c' : Nat} (hc : c ≤ c') : ∀ {n n' : Nat} {d : D}, Gd c n d → n ≤ n' → Gd c' n' d
  | _, _, _, .non, _ => .non
  | _, _, _, .bl b, _ => .bl b
  | _, _, _, .int i, _ => .int i
  | _, _, _, .str s h, _ => .str s (by omega)
  | _, n' + 1, _, .tup h1 h2, h => .tup (by omega) fun d hd => (h2 d hd).mono hc (by omega)
  | _, n' + 1, _, .lst h1 h2, h => .lst (by omega) fun d hd => (h2 d hd).mono hc (by omega)
theorem lc_mapD {tg : Tg} {tt te : EvF} {env : En} {τ : Tp} {g : D → D} {its : List D} (h : ∀ d ∈ its, wpO (bindT tg d env) fun e => wpE tt e τ fun w t => w = .d (.bool true) ∧ t = τ ∧ wpE te e τ fun w t => toD w = some (g d) ∧ t = τ) : lcGo tg tt te env its τ = some (its.map g, τ) := by
  have := lc_map (tg := tg) (tt := tt) (te := te) (env := env) (τ := τ) (f := fun d : D => d) (g := g) (p := fun _ => true) (xs := its) fun d hd => wpO_mono (h d hd) fun e q => by
    rw [wpE_un] at q ⊢
    exact wpO_mono q fun p r => ⟨r.1, r.2.1, fun _ => r.2.2⟩
  rw [List.map_id'] at this
  rw [this]
  have e : (its.filter fun _ => true) = its := by simp
  rw [e]
section
variable {env : En} {τ : Tp} {Q : W → Prop}
theorem boolsOf_m : ∀ (l : List Bool), boolsOf (l.map PyData.bool) = some l
  | [] => rfl
  | b :: r => by
    show (match boolsOf (r.map PyData.bool) with | some bs => some (b :: bs) | none => none) = _
    rw [boolsOf_m r]
theorem k_all {l : List Bool} (q : Q (.d (.bool (l.all id)))) : wpO (gAll env τ (.new (l.map PyData.bool))) Q := by
  have e : gAll env τ (.new (l.map PyData.bool)) = (boolsOf (l.map PyData.bool)).map fun bs => .d (.bool (bs.all id)) := rfl
  rw [e, boolsOf_m]
  exact wpO_of rfl q
theorem k_allP {ds : List D} {P : D → Prop} (q : Q (.d (.bool (tv (∀ d ∈ ds, P d))))) : wpO (gAll env τ (.new (ds.map fun d => .bool (tv (P d))))) Q := by
  have e : (ds.map fun d => PyData.bool (tv (P d))) = (ds.map fun d => tv (P d)).map PyData.bool := by rw [List.map_map]; rfl
  have e2 : (ds.map fun d => tv (P d)).all id = tv (∀ d ∈ ds, P d) := by
    refine (tv_of ?_).symm
    rw [List.all_eq_true]
    simp [tv_iff]
  rw [e]
  refine k_all ?_
  rw [e2]
  exact q
theorem k_neP {p q : Pt} (h : Q (.d (.bool (!decide (p = q))))) : wpO (gEqD true env τ (.d (ptD p)) (.d (ptD q))) Q := by
  have e : gEqD true env τ (.d (ptD p)) (.d (ptD q)) = some (.d (.bool (!PyData.eqv (ptD p) (ptD q)))) := rfl
  have e2 : PyData.eqv (ptD p) (ptD q) = decide (p = q) := by
    rw [eqv_pt]
    by_cases h : p = q
    · subst h; simp
    · rw [decide_eq_false h, ← eqv_pt, eqv_ne h]
  rw [e, e2]
  exact wpO_of rfl h
end
def PWh (d : D) : Prop := ∃ i : Int, d = .int i
theorem whole_w {c n : Nat} {d : D} (h : Gd c n d) (τ : Tp) : S_is_whole [.d d] τ = some (.bool (tv (PWh d)), τ) := by
  refine wpC_eq ?_
  unfold S_is_whole
  cases h with
  | int i => rw [tv_t ⟨i, rfl⟩]; wtm_at "ev_st"; exact ⟨rfl, rfl⟩
  | non => rw [tv_f (fun ⟨i, e⟩ => by cases e)]; wtm_at "ev_st"; exact ⟨rfl, rfl⟩
  | bl b => rw [tv_f (fun ⟨i, e⟩ => by cases e)]; wtm_at "ev_st"; exact ⟨rfl, rfl⟩
  | str s _ => rw [tv_f (fun ⟨i, e⟩ => by cases e)]; wtm_at "ev_st"; exact ⟨rfl, rfl⟩
  | tup _ _ => rw [tv_f (fun ⟨i, e⟩ => by cases e)]; wtm_at "ev_st"; exact ⟨rfl, rfl⟩
  | lst _ _ => rw [tv_f (fun ⟨i, e⟩ => by cases e)]; wtm_at "ev_st"; exact ⟨rfl, rfl⟩
theorem lwhole_w {c n : Nat} {d : D} (h : Gd c n d) (τ : Tp) : S__law_whole [.d d] τ = some (.bool (tv (PWh d)), τ) := by
  refine wpC_eq ?_
  unfold S__law_whole
  cases h with
  | int i => rw [tv_t ⟨i, rfl⟩]; wtm_at "ev_st"; exact ⟨rfl, rfl⟩
  | non => rw [tv_f (fun ⟨i, e⟩ => by cases e)]; wtm_at "ev_st"; exact ⟨rfl, rfl⟩
  | bl b => rw [tv_f (fun ⟨i, e⟩ => by cases e)]; wtm_at "ev_st"; exact ⟨rfl, rfl⟩
  | str s _ => rw [tv_f (fun ⟨i, e⟩ => by cases e)]; wtm_at "ev_st"; exact ⟨rfl, rfl⟩
  | tup _ _ => rw [tv_f (fun ⟨i, e⟩ => by cases e)]; wtm_at "ev_st"; exact ⟨rfl, rfl⟩
  | lst _ _ => rw [tv_f (fun ⟨i, e⟩ => by cases e)]; wtm_at "ev_st"; exact ⟨rfl, rfl⟩
def PCo (d : D) : Prop := ∃ i : Int, d = .int i ∧ 0 ≤ i ∧ i ≤ 12
def PPt (d : D) : Prop := ∃ p : Pt, d = ptD p ∧ InP p
theorem two_of {ds : List D} (h : ds.length = 2) : ∃ a b, ds = [a, b] := by
  match ds, h with
  | [a, b], _ => exact ⟨a, b, rfl⟩
theorem ppt_iff {ds : List D} (h : ds.length = 2) : (∀ d ∈ ds, PCo d) ↔ PPt (.tuple ds) := by
  obtain ⟨a, b, rfl⟩ := two_of h
  constructor
  · intro q
    obtain ⟨i, rfl, i0, i1⟩ := q a (by simp)
    obtain ⟨j, rfl, j0, j1⟩ := q b (by simp)
    exact ⟨(i, j), rfl, i0, i1, j0, j1⟩
  · rintro ⟨⟨x, y⟩, e, i0, i1, j0, j1⟩ d hd
    cases e
    simp at hd
    rcases hd with rfl | rfl
    · exact ⟨x, rfl, i0, i1⟩
    · exact ⟨y, rfl, j0, j1⟩
theorem point_w {c n : Nat} {d : D} (h : Gd c n d) (hc : c ≤ 100) (τ : Tp) : S_is_point [.d d] τ = some (.bool (tv (PPt d)), τ) := by
  refine wpC_eq ?_
  unfold S_is_point
  cases h with
  | int i => rw [tv_f (fun ⟨i, e, _⟩ => by cases e)]; wtm_at "ev_st"; exact ⟨rfl, rfl⟩
  | non => rw [tv_f (fun ⟨i, e, _⟩ => by cases e)]; wtm_at "ev_st"; exact ⟨rfl, rfl⟩
  | bl b => rw [tv_f (fun ⟨i, e, _⟩ => by cases e)]; wtm_at "ev_st"; exact ⟨rfl, rfl⟩
  | str s _ => rw [tv_f (fun ⟨i, e, _⟩ => by cases e)]; wtm_at "ev_st"; exact ⟨rfl, rfl⟩
  | lst _ _ => rw [tv_f (fun ⟨i, e, _⟩ => by cases e)]; wtm_at "ev_st"; exact ⟨rfl, rfl⟩
  | @tup _ ds hl hd =>
    wtm_at "ev_st"
    refine k_neq (fun h => ?_) (fun h => ?_)
    · wtm_at "ev_st"
      rw [tv_f (fun ⟨p, e, _⟩ => by cases e; simp at h)]
      exact ⟨rfl, rfl⟩
    · wtm_at "ev_st"
      refine k_lcK rfl (by omega) (lcw_of (lc_mapD (g := fun d => .bool (tv (PCo d))) fun d hd' => ?_) ?_)
      · wtm_at "ev_st"
        refine ⟨rfl, rfl, ?_⟩
        wtm_at "ev_st"
        refine wpC_of (whole_w (hd d hd') _) ?_
        by_cases hw : PWh d
        · obtain ⟨i, rfl⟩ := hw
          rw [tv_t ⟨i, rfl⟩]
          wtm_at "ev_st"
          refine k_d (fun c1 => ?_) (fun c1 => ?_)
          · wtm_at "ev_st"
            refine ⟨?_, rfl⟩
            have : tv (PCo (.int i)) = decide (i ≤ 12) := tv_of ⟨fun q => ⟨i, rfl, c1, of_decide_eq_true q⟩, fun ⟨j, e, _, q⟩ => by cases e; exact decide_eq_true q⟩
            rw [this]
            rfl
          · wtm_at "ev_st"
            rw [tv_f (fun ⟨j, e, q, _⟩ => by cases e; exact c1 q)]
            exact ⟨rfl, rfl⟩
        · rw [tv_f hw]
          wtm_at "ev_st"
          rw [tv_f (fun ⟨j, e, q, _⟩ => hw ⟨j, e⟩)]
          exact ⟨rfl, rfl⟩
      · wtm_at "ev_st"
        refine k_allP ?_
        wtm_at "ev_st"
        have : tv (∀ d ∈ ds, PCo d) = tv (PPt (.tuple ds)) := by
          refine (tv_of ?_).symm
          rw [tv_iff]
          exact ppt_iff (by omega)
        rw [this]
        exact ⟨rfl, rfl⟩

open PySem PySem.Spec PyProof.Rows L2
open PySem.W (minD maxD dataLt dataLe dataLt_ii alike)
theorem lc2_map {α : Type} {tg : Tg} {tt : EvF} {fi1 : EvI} {tg1 : Tg} {tt1 te : EvF} {vs1 : List Nat} {env : En} {τ : Tp} {f : α → D} {l : α → List D} : ∀ {xs : List α}, (∀ x ∈ xs, wpO (bindT tg (f x) env) fun e => wpE tt e τ fun w t => w = .d (.bool true) ∧ t = τ ∧ wpI fi1 e τ fun its ws t => t = τ ∧ (ws.all isDW && decide (its.length ≤ 1000)) = true ∧ lcGo tg1 tt1 te (wipeE e vs1) its τ = some (l x, τ)) →
    lc2Go tg tt fi1 tg1 tt1 te vs1 env (xs.map f) τ = some (xs.flatMap l, τ)
  | [], _ => rfl
  | x :: xs, h => by
    have ih := lc2_map (xs := xs) fun y hy => h y (List.mem_cons_of_mem _ hy)
    obtain ⟨e, b1, q⟩ := wpO_ex (h x List.mem_cons_self)
    rw [wpE_un] at q
    obtain ⟨⟨w, t⟩, b2, q1, q2, q3⟩ := wpO_ex q
    dsimp only at q1 q2 q3
    subst q1 q2
    have q3 : wpO (fi1 e t) fun p => p.2.2 = t ∧ (p.2.1.all isDW && decide (p.1.length ≤ 1000)) = true ∧ lcGo tg1 tt1 te (wipeE e vs1) p.1 t = some (l x, t) := by
      unfold wpI at q3
      exact q3
    obtain ⟨⟨its, ws, t3⟩, b3, q4, q5, q6⟩ := wpO_ex q3
    dsimp only at q4 q5 q6
    subst q4
    rw [List.map_cons]
    unfold lc2Go
    rw [b1]
    dsimp only
    rw [b2]
    dsimp only
    rw [b3]
    dsimp only
    rw [if_pos q5, q6]
    dsimp only
    rw [ih]
    rfl
def PStk (d : D) : Prop := ∃ s : Stk, d = stD s ∧ InS s ∧ s.1 ≠ s.2
theorem stick_w {c n : Nat} {d : D} (h : Gd c n d) (hc : c ≤ 100) (τ : Tp) : S_is_stick [.d d] τ = some (.bool (tv (PStk d)), τ) := by
  refine wpC_eq ?_
  unfold S_is_stick
  cases h with
  | int i => rw [tv_f (fun ⟨i, e, _⟩ => by cases e)]; wtm_at "ev_st"; exact ⟨rfl, rfl⟩
  | non => rw [tv_f (fun ⟨i, e, _⟩ => by cases e)]; wtm_at "ev_st"; exact ⟨rfl, rfl⟩
  | bl b => rw [tv_f (fun ⟨i, e, _⟩ => by cases e)]; wtm_at "ev_st"; exact ⟨rfl, rfl⟩
  | str s _ => rw [tv_f (fun ⟨i, e, _⟩ => by cases e)]; wtm_at "ev_st"; exact ⟨rfl, rfl⟩
  | lst _ _ => rw [tv_f (fun ⟨i, e, _⟩ => by cases e)]; wtm_at "ev_st"; exact ⟨rfl, rfl⟩
  | @tup _ ds hl hd =>
    wtm_at "ev_st"
    refine k_neq (fun h => ?_) (fun h => ?_)
    · wtm_at "ev_st"
      rw [tv_f (fun ⟨p, e, _⟩ => by cases e; simp at h)]
      exact ⟨rfl, rfl⟩
    · wtm_at "ev_st"
      refine k_lcK rfl (by omega) (lcw_of (lc_mapD (g := fun d => .bool (tv (PPt d))) fun d hd' => ?_) ?_)
      · wtm_at "ev_st"
        refine ⟨rfl, rfl, ?_⟩
        wtm_at "ev_st"
        refine wpC_of (point_w (hd d hd') hc _) ?_
        wtm_at "ev_st"
        exact ⟨rfl, rfl⟩
      · wtm_at "ev_st"
        refine k_allP ?_
        obtain ⟨a, b, rfl⟩ := two_of (ds := ds) (by omega)
        by_cases ha : ∀ d ∈ [a, b], PPt d
        · rw [tv_t ha]
          obtain ⟨p, rfl, hp⟩ := ha a (by simp)
          obtain ⟨q, rfl, hq⟩ := ha b (by simp)
          wtm_at "ev_st"
          refine ⟨?_, rfl⟩
          have e0 : PyData.eqv (ptD p) (ptD q) = decide (p = q) := by
            rw [eqv_pt]
            by_cases h : p = q
            · subst h; simp
            · rw [decide_eq_false h, ← eqv_pt, eqv_ne h]
          rw [if_pos rfl, e0]
          have : tv (PStk (.tuple [ptD p, ptD q])) = !decide (p = q) := by
            refine tv_of ?_
            constructor
            · intro h
              exact ⟨(p, q), rfl, ⟨hp, hq⟩, by simpa using h⟩
            · rintro ⟨⟨⟨x1, y1⟩, ⟨x2, y2⟩⟩, e, _, hne⟩
              cases p; cases q
              cases e
              simp at hne; simp; omega
          rw [this]
        · rw [tv_f ha]
          wtm_at "ev_st"
          rw [tv_f (fun ⟨⟨p, q⟩, e, hS, _⟩ => ha (by cases e; intro d hd; simp at hd; rcases hd with rfl | rfl; exact ⟨p, rfl, hS.a⟩; exact ⟨q, rfl, hS.b⟩))]
          exact ⟨rfl, rfl⟩
theorem flt_true {α β : Type} (xs : List α) (g : α → β) : (xs.filter fun _ => true).map g = xs.map g := by
  have e : (xs.filter fun _ => true) = xs := by simp
  rw [e]
theorem stD_inj1 {s o : Stk} (h : stD s = stD o) : s = o := by
  obtain ⟨⟨a, b⟩, c, d⟩ := s
  obtain ⟨⟨a', b'⟩, c', d'⟩ := o
  cases h
  rfl
theorem stD_inj : ∀ {ss os : List Stk}, ss.map stD = os.map stD → ss = os
  | [], [], _ => rfl
  | [], _ :: _, h => by cases h
  | _ :: _, [], h => by cases h
  | s :: ss, o :: os, h => by
    rw [List.map_cons, List.map_cons, List.cons.injEq] at h
    rw [stD_inj1 h.1, stD_inj h.2]
/-- sticks, decoded -/
theorem pstk_all : ∀ {ds : List D}, (∀ d ∈ ds, PStk d) → ∃ ss : List Stk, ds = ss.map stD ∧ ∀ s ∈ ss, InS s ∧ s.1 ≠ s.2
  | [], _ => ⟨[], rfl, by simp⟩
  | d :: r, h => by
    obtain ⟨s, rfl, h1, h2⟩ := h d (by simp)
    obtain ⟨ss, rfl, h3⟩ := pstk_all (ds := r) fun x hx => h x (by simp [hx])
    refine ⟨s :: ss, rfl, fun x hx => ?_⟩
    rcases List.mem_cons.mp hx with rfl | hx
    · exact ⟨h1, h2⟩
    · exact h3 x hx
structure SkOk (ss : List Stk) : Prop where
  l0 : 1 ≤ ss.length
  l1 : ss.length ≤ 5
  ins : ∀ s ∈ ss, InS s ∧ s.1 ≠ s.2
  tch : ∀ i j, j < i → i < ss.length → meetS (ss.getD j dS) (ss.getD i dS) ≠ tc
def PSks (d : D) : Prop := ∃ ss : List Stk, d = .tuple (ss.map stD) ∧ SkOk ss
theorem getD_in {ss : List Stk} {P : Stk → Prop} (h : ∀ s ∈ ss, P s) {i : Nat} (hi : i < ss.length) : P (ss.getD i dS) := by
  refine h _ ?_
  rw [List.getD_eq_getElem?_getD, List.getElem?_eq_getElem hi]
  exact List.getElem_mem hi
theorem cres_false (s o : Stk) : (∃ R : Bool, gIs true [] [] (.d (cRes s o)) (.d (.bool false)) = some (.d (.bool R)) ∧ (R = true ↔ meetS s o ≠ tc)) := by
  unfold cRes meetS
  cases mCross s o with
  | true => exact ⟨true, rfl, by simp; decide⟩
  | false =>
    cases mT s o with
    | true => exact ⟨false, rfl, by simp⟩
    | false => exact ⟨true, rfl, by simp; decide⟩
theorem cres_none (s o : Stk) : (∃ R : Bool, gIs true [] [] (.d (cRes s o)) (.d .none) = some (.d (.bool R)) ∧ (R = true ↔ meetS s o ≠ ap)) := by
  unfold cRes meetS
  cases mCross s o with
  | true => exact ⟨true, rfl, by simp; decide⟩
  | false =>
    cases mT s o with
    | true => exact ⟨true, rfl, by simp; decide⟩
    | false => exact ⟨false, rfl, by simp⟩
section
variable {env : En} {τ : Tp} {Q : W → Prop}
theorem k_isF {s o : Stk} (q : Q (.d (.bool (tv (meetS s o ≠ tc))))) : wpO (gIs true env τ (.d (cRes s o)) (.d (.bool false))) Q := by
  obtain ⟨R, e, h⟩ := cres_false s o
  have e2 : gIs true env τ (.d (cRes s o)) (.d (.bool false)) = gIs true [] [] (.d (cRes s o)) (.d (.bool false)) := rfl
  rw [tv_of h] at q
  rw [e2, e]
  exact wpO_of rfl q
theorem k_isN {s o : Stk} (q : Q (.d (.bool (tv (meetS s o ≠ ap))))) : wpO (gIs true env τ (.d (cRes s o)) (.d .none)) Q := by
  obtain ⟨R, e, h⟩ := cres_none s o
  have e2 : gIs true env τ (.d (cRes s o)) (.d .none) = gIs true [] [] (.d (cRes s o)) (.d .none) := rfl
  rw [tv_of h] at q
  rw [e2, e]
  exact wpO_of rfl q
end
theorem sks_w {c n : Nat} {d : D} (h : Gd c n d) (hc : c ≤ 100) (τ : Tp) : S_are_sticks [.d d] τ = some (.bool (tv (PSks d)), τ) := by
  refine wpC_eq ?_
  unfold S_are_sticks
  cases h with
  | int i => rw [tv_f (fun ⟨i, e, _⟩ => by cases e)]; wtm_at "ev_st"; exact ⟨rfl, rfl⟩
  | non => rw [tv_f (fun ⟨i, e, _⟩ => by cases e)]; wtm_at "ev_st"; exact ⟨rfl, rfl⟩
  | bl b => rw [tv_f (fun ⟨i, e, _⟩ => by cases e)]; wtm_at "ev_st"; exact ⟨rfl, rfl⟩
  | str s _ => rw [tv_f (fun ⟨i, e, _⟩ => by cases e)]; wtm_at "ev_st"; exact ⟨rfl, rfl⟩
  | lst _ _ => rw [tv_f (fun ⟨i, e, _⟩ => by cases e)]; wtm_at "ev_st"; exact ⟨rfl, rfl⟩
  | @tup _ ds hl hd =>
    wtm_at "ev_st"
    refine k_d (fun c1 => ?_) (fun c1 => ?_)
    · wtm_at "ev_st"
      refine k_nd (fun c2 => ?_) (fun c2 => ?_)
      · wtm_at "ev_st"
        rw [tv_f (fun ⟨ss, e, h⟩ => by cases e; have := h.l1; simp at c2; omega)]
        exact ⟨rfl, rfl⟩
      · wtm_at "ev_st"
        refine k_lcK rfl (by omega) (lcw_of (lc_mapD (g := fun d => .bool (tv (PStk d))) fun d hd' => ?_) ?_)
        · wtm_at "ev_st"
          refine ⟨rfl, rfl, ?_⟩
          wtm_at "ev_st"
          refine wpC_of (stick_w (hd d hd') hc _) ?_
          wtm_at "ev_st"
          exact ⟨rfl, rfl⟩
        · wtm_at "ev_st"
          refine k_allP ?_
          by_cases ha : ∀ d ∈ ds, PStk d
          · rw [tv_t ha]
            obtain ⟨ss, rfl, hs⟩ := pstk_all ha
            rw [List.length_map] at c1 c2
            wtm_at "ev_st"
            refine k_lc2 ?_
            wtm_at "ev_st"
            have hml : (ss.map stD).length = ss.length := List.length_map ..
            have hn : (((ss.map stD).length : Nat) : Int).toNat = ss.length := by omega
            rw [hn, show wipeE [Sl.d (PyData.tuple (ss.map stD)), Sl.no, Sl.no, Sl.no] [2, 3] = [Sl.d (PyData.tuple (ss.map stD)), Sl.no, Sl.no, Sl.no] from rfl]
            refine ⟨rfl, by rw [rangeD_len]; omega, ?_⟩
            refine wpO_of (lc2_map (xs := List.range ss.length) (f := fun k => .int (0 + (k : Nat))) (l := fun i => (List.range i).map fun j => .bool (tv (meetS (ss.getD j dS) (ss.getD i dS) ≠ tc))) fun i hi => ?_) ?_
            · have hi : i < ss.length := by simpa using hi
              wtm_at "ev_st"
              refine ⟨rfl, rfl, ?_⟩
              wtm_at "ev_st"
              have hi2 : (0 + (i : Int)).toNat = i := by omega
              rw [hi2]
              refine ⟨rfl, by simp [rangeD_len]; omega, ?_⟩
              rw [show wipeE [Sl.d (PyData.tuple (ss.map stD)), Sl.no, Sl.d (PyData.int (0 + (i : Int))), Sl.no] [3] = [Sl.d (PyData.tuple (ss.map stD)), Sl.no, Sl.d (PyData.int (0 + (i : Int))), Sl.no] from rfl]
              refine (lc_map (xs := List.range i) (f := fun k : Nat => PyData.int (0 + (k : Int))) (g := fun j => PyData.bool (tv (meetS (ss.getD j dS) (ss.getD i dS) ≠ tc))) (p := fun _ => true) fun j hj => ?_).trans (by rw [flt_true])
              have hj : j < i := by simpa using hj
              wtm_at "ev_st"
              refine ⟨rfl, rfl, fun _ => ?_⟩
              wtm_at "ev_st"
              refine k_ixt (x := stD (ss.getD j dS)) (by omega) (by rw [show (0 + (j : Int)).toNat = j by omega]; exact at_stk (by omega)) ?_
              wtm_at "ev_st"
              refine k_ixt (x := stD (ss.getD i dS)) (by omega) (by rw [hi2]; exact at_stk hi) ?_
              wtm_at "ev_st"
              have s1 := getD_in hs (i := j) (by omega)
              have s2 := getD_in hs hi
              refine wpC_of (crossing_all s1.1 s2.1 s1.2 s2.2 _) ?_
              wtm_at "ev_st"
              refine k_isF ?_
              exact ⟨rfl, rfl⟩
            · rw [show List.flatMap (fun i => List.map (fun j => PyData.bool (tv (meetS (ss.getD j dS) (ss.getD i dS) ≠ tc))) (List.range i)) (List.range ss.length) = ((List.range ss.length).flatMap fun i => (List.range i).map fun j => tv (meetS (ss.getD j dS) (ss.getD i dS) ≠ tc)).map PyData.bool from by rw [List.map_flatMap]; simp only [List.map_map]; rfl]
              refine k_all ?_
              wtm_at "ev_st"
              refine ⟨?_, rfl⟩
              congr 1
              refine (tv_of ?_).symm
              rw [List.all_eq_true]
              constructor
              · intro h
                refine ⟨ss, rfl, ⟨by omega, by omega, hs, fun i j hj hi => ?_⟩⟩
                have := h (tv (meetS (ss.getD j dS) (ss.getD i dS) ≠ tc)) (List.mem_flatMap.mpr ⟨i, by simpa using hi, List.mem_map.mpr ⟨j, by simpa using hj, rfl⟩⟩)
                exact tv_iff.mp this
              · rintro ⟨ss', e, h⟩ b hb
                have : ss' = ss := stD_inj (PyData.tuple.inj e).symm
                subst this
                obtain ⟨i, hi, hb⟩ := List.mem_flatMap.mp hb
                obtain ⟨j, hj, rfl⟩ := List.mem_map.mp hb
                exact tv_t (h.tch i j (by simpa using hj) (by simpa using hi))
          · rw [tv_f ha]
            wtm_at "ev_st"
            rw [tv_f (fun ⟨ss, e, h⟩ => ha (by cases e; intro d hd; obtain ⟨s, hs, rfl⟩ := List.mem_map.mp hd; exact ⟨s, rfl, h.ins s hs⟩))]
            exact ⟨rfl, rfl⟩
    · wtm_at "ev_st"
      rw [tv_f (fun ⟨ss, e, h⟩ => by cases e; have := h.l0; simp at c1; omega)]
      exact ⟨rfl, rfl⟩

open PySem PySem.Spec PyProof.Rows L2
open PySem.W (minD maxD dataLt dataLe dataLt_ii alike)
theorem mT_sym (s o : Stk) : mT o s = mT s o := by
  cases h : mT s o with
  | true =>
    rw [mT_iff] at h ⊢
    rcases h with h | h | h | h
    · exact .inr (.inr (.inl h))
    · exact .inr (.inr (.inr h))
    · exact .inl h
    · exact .inr (.inl h)
  | false =>
    refine Bool.eq_false_iff.mpr fun q => ?_
    refine Bool.eq_false_iff.mp h ?_
    rw [mT_iff] at q ⊢
    rcases q with h | h | h | h
    · exact .inr (.inr (.inl h))
    · exact .inr (.inr (.inr h))
    · exact .inl h
    · exact .inr (.inl h)
theorem meet_sym (s o : Stk) : meetS o s = meetS s o := by
  unfold meetS
  rw [cross_sym, mT_sym]
theorem meet_three (s o : Stk) : meetS s o = cr ∨ meetS s o = tc ∨ meetS s o = ap := by
  unfold meetS
  split
  · exact .inl rfl
  · split
    · exact .inr (.inl rfl)
    · exact .inr (.inr rfl)
/-! ### lists of pairs -/
theorem eqv_pr (p q : Pr) : PyData.eqv (prD p) (prD q) = decide (p = q) := by
  have := eqv_pt p q
  rw [this]
  obtain ⟨a, b⟩ := p
  obtain ⟨c, d⟩ := q
  simp only [Prod.mk.injEq]
  by_cases h1 : a = c <;> by_cases h2 : b = d <;> simp [h1, h2]
theorem eqv_prs : ∀ (xs ys : List Pr), PyData.eqvAll (xs.map prD) (ys.map prD) = decide (xs = ys)
  | [], [] => rfl
  | [], _ :: _ => rfl
  | _ :: _, [] => rfl
  | x :: xs, y :: ys => by
    show (PyData.eqv (prD x) (prD y) && PyData.eqvAll (xs.map prD) (ys.map prD)) = _
    rw [eqv_pr, eqv_prs xs ys]
    by_cases h1 : x = y <;> by_cases h2 : xs = ys <;> simp [h1, h2]
theorem shaped_prs (xs : List Pr) : SeqAt.shaped (.list (xs.map prD)) = true := by
  have h := itl_all (n := 1) (ds := xs.map prD) fun d hd => by
    obtain ⟨p, _, rfl⟩ := List.mem_map.mp hd
    simp [PyData.canLay0, PyData.canLayAll0, PyData.depth, PyData.depthAll]
  unfold SeqAt.shaped
  simp only [PyData.canLay0, PyData.depth, h.1, Bool.true_and]
  exact decide_eq_true (by have := h.2; omega)
section
variable {env : En} {τ : Tp} {Q : W → Prop}
theorem k_eqprs {a b : W} {xs ys : List Pr} (ha : viewD env τ a = some (.list (xs.map prD))) (hb : viewD env τ b = some (.list (ys.map prD))) (q : Q (.d (.bool (decide (xs = ys))))) : wpO (gEqD false env τ a b) Q := by
  unfold gEqD
  rw [ha, hb]
  dsimp only
  rw [if_pos ⟨shaped_prs xs, shaped_prs ys⟩]
  have e : PyData.eqv (.list (xs.map prD)) (.list (ys.map prD)) = decide (xs = ys) := by
    rw [PyData.eqv]
    exact eqv_prs xs ys
  rw [e]
  exact wpO_of rfl q
theorem lexLt_pr (p q : Pr) : HT.lexLt [p.1, p.2] [q.1, q.2] = tv (prLt p q) := by
  refine (tv_of ?_).symm
  show (if p.1 = q.1 then (if p.2 = q.2 then false else decide (p.2 < q.2)) else decide (p.1 < q.1)) = true ↔ _
  unfold prLt
  split
  · split
    · simp; omega
    · simp; omega
  · simp; omega
theorem k_ltpr {p q : Pr} (h : Q (.d (.bool (tv (prLt p q))))) : wpO (gLt env τ (.d (prD p)) (.d (prD q))) Q := by
  have e : gLt env τ (.d (prD p)) (.d (prD q)) = some (.d (.bool (HT.lexLt [p.1, p.2] [q.1, q.2]))) := rfl
  rw [e, lexLt_pr]
  exact wpO_of rfl h
end
/-- two lists in strict order with the same items are one -/
theorem asc_eq : ∀ {xs ys : List Pr}, xs.Pairwise prLt → ys.Pairwise prLt → (∀ p, p ∈ xs ↔ p ∈ ys) → xs = ys
  | [], [], _, _, _ => rfl
  | [], y :: ys, _, _, h => by have := (h y).mpr (by simp); cases this
  | x :: xs, [], _, _, h => by have := (h x).mp (by simp); cases this
  | x :: xs, y :: ys, hx, hy, h => by
    rw [List.pairwise_cons] at hx hy
    have e : x = y := by
      have h1 := (h x).mp (by simp)
      have h2 := (h y).mpr (by simp)
      rcases List.mem_cons.mp h1 with h1 | h1
      · exact h1
      · rcases List.mem_cons.mp h2 with h2 | h2
        · exact h2.symm
        · have a := hx.1 y h2
          have b := hy.1 x h1
          unfold prLt at a b
          omega
    subst e
    have nx : ∀ {zs : List Pr}, (∀ p ∈ zs, prLt x p) → x ∉ zs := fun hz hm => by
      have := hz x hm
      unfold prLt at this
      omega
    rw [asc_eq hx.2 hy.2 fun p => ?_]
    constructor
    · intro hp
      rcases List.mem_cons.mp ((h p).mp (by simp [hp])) with q | q
      · subst q; exact (nx hx.1 hp).elim
      · exact q
    · intro hp
      rcases List.mem_cons.mp ((h p).mpr (by simp [hp])) with q | q
      · subst q; exact (nx hy.1 hp).elim
      · exact q
/-- the pairs that do not lie apart, in order -/
noncomputable def cpRow (ss : List Stk) (i : Nat) : List Pr := ((List.range (ss.length - (i + 1))).filter fun k => tv (meetS (ss.getD i dS) (ss.getD (i + 1 + k) dS) ≠ ap)).map fun k => ((i : Int), ((i + 1 + k : Nat) : Int))
noncomputable def cp (ss : List Stk) : Nat → List Pr
  | 0 => []
  | k + 1 => cp ss k ++ cpRow ss k
theorem cpRow_mem {ss : List Stk} {i : Nat} {p : Pr} : p ∈ cpRow ss i ↔ ∃ j : Nat, p = ((i : Int), (j : Int)) ∧ i < j ∧ j < ss.length ∧ meetS (ss.getD i dS) (ss.getD j dS) ≠ ap := by
  unfold cpRow
  rw [List.mem_map]
  constructor
  · rintro ⟨k, h, rfl⟩
    obtain ⟨h1, h2⟩ := List.mem_filter.mp h
    have h1 : k < ss.length - (i + 1) := by simpa using h1
    exact ⟨i + 1 + k, rfl, by omega, by omega, tv_iff.mp h2⟩
  · rintro ⟨j, rfl, h1, h2, h3⟩
    refine ⟨j - (i + 1), List.mem_filter.mpr ⟨by simp; omega, ?_⟩, ?_⟩
    · have e : i + 1 + (j - (i + 1)) = j := by omega
      rw [e]
      exact tv_t h3
    · have e : i + 1 + (j - (i + 1)) = j := by omega
      rw [e]
theorem cp_mem {ss : List Stk} {p : Pr} : ∀ {k : Nat}, p ∈ cp ss k ↔ ∃ i j : Nat, p = ((i : Int), (j : Int)) ∧ i < k ∧ i < j ∧ j < ss.length ∧ meetS (ss.getD i dS) (ss.getD j dS) ≠ ap
  | 0 => by
    unfold cp
    constructor
    · intro h; cases h
    · rintro ⟨i, j, _, h, _⟩; omega
  | k + 1 => by
    unfold cp
    rw [List.mem_append, cp_mem (k := k), cpRow_mem]
    constructor
    · rintro (⟨i, j, h1, h2, h3⟩ | ⟨j, h1, h2⟩)
      · exact ⟨i, j, h1, by omega, h3⟩
      · exact ⟨k, j, h1, by omega, h2⟩
    · rintro ⟨i, j, h1, h2, h3⟩
      by_cases e : i = k
      · subst e; exact .inr ⟨j, h1, h3⟩
      · exact .inl ⟨i, j, h1, by omega, h3⟩
theorem cp_asc (ss : List Stk) : ∀ k, (cp ss k).Pairwise prLt
  | 0 => .nil
  | k + 1 => by
    unfold cp
    refine List.pairwise_append.mpr ⟨cp_asc ss k, ?_, fun a ha b hb => ?_⟩
    · unfold cpRow
      rw [List.pairwise_map]
      refine List.Pairwise.filter _ ?_
      refine List.pairwise_lt_range.imp fun {a b} h => ?_
      exact .inr ⟨rfl, by show ((k + 1 + a : Nat) : Int) < ((k + 1 + b : Nat) : Int); omega⟩
    · obtain ⟨i, j, rfl, h1, _⟩ := cp_mem.mp ha
      obtain ⟨j', rfl, _⟩ := cpRow_mem.mp hb
      exact .inl (by show (i : Int) < (k : Int); omega)
theorem raw_mem2 {ss : List Stk} {p : Pr} : ∀ {k : Nat}, (∃ i j : Nat, p = ((i : Int), (j : Int)) ∧ i < j ∧ j < k ∧ meetS (ss.getD i dS) (ss.getD j dS) = cr) → p ∈ raw ss k
  | 0, ⟨i, j, _, _, h, _⟩ => by omega
  | k + 1, ⟨i, j, e, h1, h2, h3⟩ => by
    unfold raw
    rw [List.mem_append]
    by_cases q : j = k
    · subst q
      refine .inr (List.mem_map.mpr ⟨i, ?_, e.symm⟩)
      unfold rowOf
      exact List.mem_filter.mpr ⟨by simpa using h1, by rw [h3]; exact beq_self_eq_true _⟩
    · exact .inl (raw_mem2 ⟨i, j, e, h1, by omega, h3⟩)
theorem raw_nodup (ss : List Stk) : ∀ k, (raw ss k).Nodup
  | 0 => .nil
  | k + 1 => by
    unfold raw
    refine List.nodup_append.mpr ⟨raw_nodup ss k, ?_, fun a ha b hb => ?_⟩
    · refine List.Pairwise.map _ (fun a b h e => h ?_) (List.Pairwise.filter _ List.nodup_range)
      have := congrArg Prod.fst e
      simp at this
      omega
    · obtain ⟨i, j, rfl, h1, h2, _⟩ := raw_mem ha
      obtain ⟨o, _, rfl⟩ := List.mem_map.mp hb
      intro e
      have := congrArg Prod.snd e
      simp at this
      omega
theorem cp_pairs {ss : List Stk} (ok : SkOk ss) : cp ss ss.length = pairsOf ss := by
  refine asc_eq (cp_asc ss _) (srt_lt (raw_nodup ss _)) fun p => ?_
  rw [cp_mem]
  unfold pairsOf
  rw [srt_mem]
  constructor
  · rintro ⟨i, j, rfl, h1, h2, h3, h4⟩
    refine raw_mem2 ⟨i, j, rfl, h2, h3, ?_⟩
    rcases meet_three (ss.getD i dS) (ss.getD j dS) with q | q | q
    · exact q
    · exact (ok.tch j i h2 h3 q).elim
    · exact (h4 q).elim
  · intro h
    obtain ⟨i, j, e, h1, h2, h3⟩ := raw_mem h
    exact ⟨i, j, e, by omega, h1, h2, by rw [h3]; decide⟩

open PySem PySem.Spec PyProof.Rows L2
open PySem.W (minD maxD dataLt dataLe dataLt_ii alike)
noncomputable def cpPart (ss : List Stk) (i m : Nat) : List Pr := ((List.range m).filter fun k => tv (meetS (ss.getD i dS) (ss.getD (i + 1 + k) dS) ≠ ap)).map fun k => ((i : Int), ((i + 1 + k : Nat) : Int))
theorem cpPart_succ (ss : List Stk) (i m : Nat) : cpPart ss i (m + 1) = cpPart ss i m ++ (if meetS (ss.getD i dS) (ss.getD (i + 1 + m) dS) = ap then [] else [((i : Int), ((i + 1 + m : Nat) : Int))]) := by
  unfold cpPart
  rw [List.range_succ, List.filter_append, List.map_append]
  congr 1
  by_cases h : meetS (ss.getD i dS) (ss.getD (i + 1 + m) dS) = ap
  · rw [if_pos h]
    simp only [List.filter_cons, List.filter_nil]
    rw [tv_f (fun q => q h)]
    rfl
  · rw [if_neg h]
    simp only [List.filter_cons, List.filter_nil]
    rw [tv_t h]
    rfl
theorem filt_len {α : Type} (l : List α) (p : α → Bool) : (l.filter p).length ≤ l.length := List.length_filter_le p l
theorem cpPart_len (ss : List Stk) (i m : Nat) : (cpPart ss i m).length ≤ m := by
  unfold cpPart
  rw [List.length_map]
  have := filt_len (List.range m) fun k => tv (meetS (ss.getD i dS) (ss.getD (i + 1 + k) dS) ≠ ap)
  simpa using this
theorem cp_len (ss : List Stk) : ∀ k, (cp ss k).length ≤ k * ss.length
  | 0 => by simp [cp]
  | k + 1 => by
    have := cp_len ss k
    have h2 := cpPart_len ss k (ss.length - (k + 1))
    unfold cp
    rw [List.length_append]
    have e : cpRow ss k = cpPart ss k (ss.length - (k + 1)) := rfl
    rw [e, Nat.succ_mul]
    omega
theorem cpairs_w {ss : List Stk} (ok : SkOk ss) (τ : Tp) : S_crossing_pairs [.d (.tuple (ss.map stD))] τ = some (.list ((cp ss ss.length).map prD), τ) := by
  refine wpC_eq ?_
  unfold S_crossing_pairs
  generalize hC : sSeq (sIf (f2 (gIs true) _ _) _ _) sNext = C
  generalize hB : sSeq (sFor (iRng (aCons (f2 gAdd _ _) _)) _ _) sNext = B
  have hml : (ss.map stD).length = ss.length := List.length_map ..
  have l1 := ok.l1
  wtm_at "ev_st"
  have hn : (((ss.map stD).length : Nat) : Int).toNat = ss.length := by omega
  rw [hn]
  refine k_forR (fun i e t => t = τ ∧ ∃ x y, e = [.d (.tuple (ss.map stD)), .own ((cp ss i).map prD), x, y]) ?_ ?_ ⟨rfl, _, _, rfl⟩
  · rintro i e t hi ⟨rfl, x, y, rfl⟩
    rw [← hB]
    wtm_at "ev_st"
    have hn2 : (((ss.map stD).length : Nat) - (0 + (i : Int) + 1) : Int).toNat = ss.length - (i + 1) := by omega
    rw [hn2]
    refine k_forR (fun k e t' => t' = t ∧ ∃ y, e = [.d (.tuple (ss.map stD)), .own ((cp ss i ++ cpPart ss i k).map prD), .d (.int (0 + (i : Int))), y]) ?_ ?_ ⟨rfl, y, by simp [cpPart]⟩
    · rintro k e t' hk ⟨rfl, y, rfl⟩
      rw [← hC]
      wtm_at "ev_st"
      have i1 : (0 + (i : Int)).toNat = i := by omega
      have i2 : (0 + (i : Int) + 1 + (k : Int)).toNat = i + 1 + k := by omega
      refine k_ixt (x := stD (ss.getD i dS)) (by omega) (by rw [i1]; exact at_stk hi) ?_
      wtm_at "ev_st"
      refine k_ixt (x := stD (ss.getD (i + 1 + k) dS)) (by omega) (by rw [i2]; exact at_stk (by omega)) ?_
      wtm_at "ev_st"
      have s1 := getD_in ok.ins hi
      have s2 := getD_in ok.ins (i := i + 1 + k) (by omega)
      refine wpC_of (crossing_all s1.1 s2.1 s1.2 s2.2 _) ?_
      wtm_at "ev_st"
      refine k_isN ?_
      by_cases hm : meetS (ss.getD i dS) (ss.getD (i + 1 + k) dS) = ap
      · rw [tv_f (fun q => q hm)]
        wtm_at "ev_st"
        refine ⟨rfl, .d (.int (0 + (i : Int) + 1 + (k : Int))), ?_⟩
        rw [cpPart_succ, if_pos hm, List.append_nil]
      · rw [tv_t hm]
        wtm_at "ev_st"
        have b1 := cp_len ss i
        have b2 := cpPart_len ss i k
        have b3 : i * ss.length ≤ 5 * 5 := Nat.mul_le_mul (by omega) l1
        refine k_appd (by simp; omega) (by wtm_at "ev_ga") ?_
        wtm_at "ev_st"
        refine ⟨rfl, .d (.int (0 + (i : Int) + 1 + (k : Int))), ?_⟩
        rw [cpPart_succ, if_neg hm, ← List.append_assoc, List.map_append (l₂ := [_])]
        have e : PyData.tuple [PyData.int (0 + (i : Int)), PyData.int (0 + (i : Int) + 1 + (k : Int))] = prD ((i : Int), ((i + 1 + k : Nat) : Int)) := by
          simp
        rw [e]
        rfl
    · rintro e t' ⟨rfl, y, rfl⟩
      wtm_at "ev_st"
      exact ⟨rfl, _, _, rfl⟩
  · rintro e t ⟨rfl, x, y, rfl⟩
    wtm_at "ev_st"
    exact ⟨rfl, rfl⟩
def PIx (n : Nat) (d : D) : Prop := ∃ i : Int, d = .int i ∧ 0 ≤ i ∧ i < n
def PPair (ss : List Stk) (d : D) : Prop := ∃ i j : Nat, d = prD ((i : Int), (j : Int)) ∧ i < ss.length ∧ j < ss.length ∧ i ≠ j ∧ meetS (ss.getD i dS) (ss.getD j dS) ≠ ap
theorem pair_w {c n : Nat} {ss : List Stk} (ok : SkOk ss) {d : D} (h : Gd c n d) (hc : c ≤ 100) (τ : Tp) : S_is_pair [.d (.tuple (ss.map stD)), .d d] τ = some (.bool (tv (PPair ss d)), τ) := by
  refine wpC_eq ?_
  unfold S_is_pair
  have hml : (ss.map stD).length = ss.length := List.length_map ..
  have l1 := ok.l1
  cases h with
  | int i => rw [tv_f (fun ⟨i, j, e, _⟩ => by cases e)]; wtm_at "ev_st"; exact ⟨rfl, rfl⟩
  | non => rw [tv_f (fun ⟨i, j, e, _⟩ => by cases e)]; wtm_at "ev_st"; exact ⟨rfl, rfl⟩
  | bl b => rw [tv_f (fun ⟨i, j, e, _⟩ => by cases e)]; wtm_at "ev_st"; exact ⟨rfl, rfl⟩
  | str s _ => rw [tv_f (fun ⟨i, j, e, _⟩ => by cases e)]; wtm_at "ev_st"; exact ⟨rfl, rfl⟩
  | lst _ _ => rw [tv_f (fun ⟨i, j, e, _⟩ => by cases e)]; wtm_at "ev_st"; exact ⟨rfl, rfl⟩
  | @tup _ ds hl hd =>
    wtm_at "ev_st"
    refine k_neq (fun h => ?_) (fun h => ?_)
    · wtm_at "ev_st"
      rw [tv_f (fun ⟨i, j, e, _⟩ => by cases e; simp at h)]
      exact ⟨rfl, rfl⟩
    · wtm_at "ev_st"
      refine k_lcK rfl (by omega) (lcw_of (lc_mapD (g := fun d => .bool (tv (PIx ss.length d))) fun d hd' => ?_) ?_)
      · wtm_at "ev_st"
        refine ⟨rfl, rfl, ?_⟩
        wtm_at "ev_st"
        refine wpC_of (whole_w (hd d hd') _) ?_
        by_cases hw : PWh d
        · obtain ⟨i, rfl⟩ := hw
          rw [tv_t ⟨i, rfl⟩]
          wtm_at "ev_st"
          refine k_d (fun c1 => ?_) (fun c1 => ?_)
          · wtm_at "ev_st"
            refine ⟨?_, rfl⟩
            have : tv (PIx ss.length (.int i)) = decide (i < ((ss.map stD).length : Nat)) := tv_of ⟨fun q => ⟨i, rfl, c1, by rw [← hml]; exact of_decide_eq_true q⟩, fun ⟨j, e, _, q⟩ => by cases e; rw [hml]; exact decide_eq_true q⟩
            rw [this]
            rfl
          · wtm_at "ev_st"
            rw [tv_f (fun ⟨j, e, q, _⟩ => by cases e; exact c1 q)]
            exact ⟨rfl, rfl⟩
        · rw [tv_f hw]
          wtm_at "ev_st"
          rw [tv_f (fun ⟨j, e, q, _⟩ => hw ⟨j, e⟩)]
          exact ⟨rfl, rfl⟩
      · wtm_at "ev_st"
        refine k_allP ?_
        obtain ⟨a, b, rfl⟩ := two_of (ds := ds) (by omega)
        by_cases ha : ∀ d ∈ [a, b], PIx ss.length d
        · rw [tv_t ha]
          obtain ⟨x, rfl, hx0, hx1⟩ := ha a (by simp)
          obtain ⟨y, rfl, hy0, hy1⟩ := ha b (by simp)
          obtain ⟨i, rfl⟩ : ∃ i : Nat, x = i := ⟨x.toNat, by omega⟩
          obtain ⟨j, rfl⟩ : ∃ j : Nat, y = j := ⟨y.toNat, by omega⟩
          have hi : i < ss.length := by omega
          have hj : j < ss.length := by omega
          wtm_at "ev_st"
          refine k_eq (fun e => ?_) (fun e => ?_)
          · wtm_at "ev_st"
            rw [tv_f (fun ⟨i', j', e', _, _, q, _⟩ => by cases e'; omega)]
            exact ⟨rfl, rfl⟩
          · wtm_at "ev_st"
            refine k_ixt (x := stD (ss.getD i dS)) (by omega) (at_stk hi) ?_
            wtm_at "ev_st"
            refine k_ixt (x := stD (ss.getD j dS)) (by omega) (at_stk hj) ?_
            wtm_at "ev_st"
            have s1 := getD_in ok.ins hi
            have s2 := getD_in ok.ins hj
            refine wpC_of (crossing_all s1.1 s2.1 s1.2 s2.2 _) ?_
            wtm_at "ev_st"
            refine k_isN ?_
            wtm_at "ev_st"
            refine ⟨?_, rfl⟩
            congr 1
            refine (tv_of ?_).symm
            rw [tv_iff]
            constructor
            · intro q
              exact ⟨i, j, rfl, hi, hj, by omega, q⟩
            · rintro ⟨i', j', e', _, _, _, q⟩
              simp only [PyData.tuple.injEq, List.cons.injEq, PyData.int.injEq] at e'
              have e1 : i = i' := by omega
              have e2 : j = j' := by omega
              subst e1 e2
              exact q
        · rw [tv_f ha]
          wtm_at "ev_st"
          rw [tv_f (fun ⟨i, j, e, hi, hj, _⟩ => ha (by
            cases e
            intro d hd
            simp at hd
            rcases hd with rfl | rfl
            · exact ⟨i, rfl, by omega, by omega⟩
            · exact ⟨j, rfl, by omega, by omega⟩))]
          exact ⟨rfl, rfl⟩

open PySem PySem.Spec PyProof.Rows L2
open PySem.W (minD maxD dataLt dataLe dataLt_ii alike dataLt_int)
def dP : Pr := (0, 0)
def Asc (fs : List Pr) : Prop := ∀ k, k + 1 < fs.length → prLt (fs.getD k dP) (fs.getD (k + 1) dP)
def PPile (d : D) : Prop := ∃ ss fs, d = pileD ss fs ∧ SkOk ss ∧ Asc fs ∧ srt (fs.map nrm) = pairsOf ss
theorem prD_inj1 {p q : Pr} (h : prD p = prD q) : p = q := by
  obtain ⟨a, b⟩ := p
  obtain ⟨c, d⟩ := q
  cases h
  rfl
theorem prD_inj : ∀ {xs ys : List Pr}, xs.map prD = ys.map prD → xs = ys
  | [], [], _ => rfl
  | [], _ :: _, h => by cases h
  | _ :: _, [], h => by cases h
  | x :: xs, y :: ys, h => by
    rw [List.map_cons, List.map_cons, List.cons.injEq] at h
    rw [prD_inj1 h.1, prD_inj h.2]
theorem ppair_all {ss : List Stk} : ∀ {ds : List D}, (∀ d ∈ ds, PPair ss d) → ∃ fs : List Pr, ds = fs.map prD
  | [], _ => ⟨[], rfl⟩
  | d :: r, h => by
    obtain ⟨i, j, rfl, _⟩ := h d (by simp)
    obtain ⟨fs, rfl⟩ := ppair_all (ds := r) fun x hx => h x (by simp [hx])
    exact ⟨((i : Int), (j : Int)) :: fs, rfl⟩
/-- the overs of a pile tell crossings -/
theorem over_pair {ss : List Stk} {fs : List Pr} (ok : SkOk ss) (h : srt (fs.map nrm) = pairsOf ss) {p : Pr} (hp : p ∈ fs) : PPair ss (prD p) := by
  have h1 : nrm p ∈ pairsOf ss := by
    rw [← h]
    exact srt_mem.mpr (List.mem_map_of_mem hp)
  obtain ⟨i, j, e, h2, h3, h4⟩ := raw_mem (srt_mem.mp h1)
  have hne : meetS (ss.getD i dS) (ss.getD j dS) ≠ ap := by rw [h4]; decide
  obtain ⟨a, b⟩ := p
  unfold nrm at e
  simp only [Prod.mk.injEq] at e
  rcases Int.le_total a b with q | q
  · have e1 : a = i := by omega
    have e2 : b = j := by omega
    subst e1 e2
    exact ⟨i, j, rfl, by omega, h3, by omega, hne⟩
  · have e1 : a = j := by omega
    have e2 : b = i := by omega
    subst e1 e2
    exact ⟨j, i, rfl, h3, by omega, by omega, by rw [meet_sym]; exact hne⟩
theorem int_minD (i j : Int) : minD (.int i) [.int j] = .int (min i j) := by
  show (if dataLt (.int j) (.int i) = true then PyData.int j else PyData.int i) = _
  rw [dataLt_int]
  by_cases h : j < i
  · rw [if_pos (by simpa using h)]; congr 1; omega
  · rw [if_neg (by simpa using h)]; congr 1; omega
theorem int_maxD (i j : Int) : maxD (.int i) [.int j] = .int (max i j) := by
  show (if dataLt (.int i) (.int j) = true then PyData.int j else PyData.int i) = _
  rw [dataLt_int]
  by_cases h : i < j
  · rw [if_pos (by simpa using h)]; congr 1; omega
  · rw [if_neg (by simpa using h)]; congr 1; omega
theorem zip_prs : ∀ (xs ys : List Pr), zipD (xs.map prD) (ys.map prD) = (xs.zip ys).map fun z => PyData.tuple [prD z.1, prD z.2]
  | [], _ => by simp [zipD]
  | _ :: _, [] => by simp [zipD]
  | x :: xs, y :: ys => by
    rw [List.map_cons, List.map_cons, zipD, zip_prs xs ys]
    rfl
theorem asc_zip (fs : List Pr) : (∀ z ∈ fs.zip (fs.drop 1), prLt z.1 z.2) ↔ Asc fs := by
  constructor
  · intro h k hk
    have hz : (fs.zip (fs.drop 1))[k]? = some (fs.getD k dP, fs.getD (k + 1) dP) := by
      rw [List.getElem?_zip_eq_some]
      constructor
      · rw [List.getD_eq_getElem?_getD, List.getElem?_eq_getElem (by omega)]; rfl
      · rw [List.getElem?_drop, Nat.add_comm 1 k, List.getElem?_eq_getElem hk]
        show _ = some (fs.getD (k + 1) dP)
        rw [List.getD_eq_getElem?_getD, List.getElem?_eq_getElem hk]
        rfl
    exact h _ (List.mem_of_getElem? hz)
  · intro h z hz
    obtain ⟨k, hk⟩ := List.getElem?_of_mem hz
    rw [List.getElem?_zip_eq_some] at hk
    obtain ⟨h1, h2⟩ := hk
    rw [List.getElem?_drop, Nat.add_comm 1 k] at h2
    have hl := (List.getElem?_eq_some_iff.mp h2).1
    have := h k hl
    rw [List.getD_eq_getElem?_getD, List.getD_eq_getElem?_getD, h1, h2] at this
    exact this
theorem cut1 (xs : List D) : cutL xs (some 1) none = xs.drop 1 := by
  unfold cutL
  cases xs with
  | nil => rfl
  | cons x r =>
    have e : HT.sIx (x :: r).length 0 (some 1) = 1 := by
      unfold HT.sIx
      simp
    have e2 : HT.sIx (x :: r).length (x :: r).length none = (x :: r).length := rfl
    rw [e, e2]
    simp
theorem nrm_len (fs : List Pr) : (fs.map nrm).length = fs.length := List.length_map ..
theorem pile_is_w {c n : Nat} {d : D} (h : Gd c n d) (hc : c ≤ 100) (τ : Tp) : S_is_pile [.d d] τ = some (.bool (tv (PPile d)), τ) := by
  refine wpC_eq ?_
  unfold S_is_pile
  cases h with
  | int i => rw [tv_f (fun ⟨i, j, e, _⟩ => by cases e)]; wtm_at "ev_st"; exact ⟨rfl, rfl⟩
  | non => rw [tv_f (fun ⟨i, j, e, _⟩ => by cases e)]; wtm_at "ev_st"; exact ⟨rfl, rfl⟩
  | bl b => rw [tv_f (fun ⟨i, j, e, _⟩ => by cases e)]; wtm_at "ev_st"; exact ⟨rfl, rfl⟩
  | str s _ => rw [tv_f (fun ⟨i, j, e, _⟩ => by cases e)]; wtm_at "ev_st"; exact ⟨rfl, rfl⟩
  | lst _ _ => rw [tv_f (fun ⟨i, j, e, _⟩ => by cases e)]; wtm_at "ev_st"; exact ⟨rfl, rfl⟩
  | @tup _ ds hl hd =>
    wtm_at "ev_st"
    refine k_neq (fun h => ?_) (fun h => ?_)
    · wtm_at "ev_st"
      rw [tv_f (fun ⟨i, j, e, _⟩ => by cases e; simp at h)]
      exact ⟨rfl, rfl⟩
    · obtain ⟨a, b, rfl⟩ := two_of (ds := ds) (by omega)
      have ga := hd a (by simp)
      have gb := hd b (by simp)
      wtm_at "ev_st"
      refine wpC_of (sks_w ga hc _) ?_
      by_cases hs : PSks a
      · obtain ⟨ss, rfl, ok⟩ := hs
        rw [tv_t ⟨ss, rfl, ok⟩]
        cases gb with
        | int i => wtm_at "ev_st"; rw [tv_f (fun ⟨ss, fs, e, _⟩ => by simp at e)]; exact ⟨rfl, rfl⟩
        | non => wtm_at "ev_st"; rw [tv_f (fun ⟨ss, fs, e, _⟩ => by simp at e)]; exact ⟨rfl, rfl⟩
        | bl b => wtm_at "ev_st"; rw [tv_f (fun ⟨ss, fs, e, _⟩ => by simp at e)]; exact ⟨rfl, rfl⟩
        | str s _ => wtm_at "ev_st"; rw [tv_f (fun ⟨ss, fs, e, _⟩ => by simp at e)]; exact ⟨rfl, rfl⟩
        | lst _ _ => wtm_at "ev_st"; rw [tv_f (fun ⟨ss, fs, e, _⟩ => by simp at e)]; exact ⟨rfl, rfl⟩
        | @tup _ os hol hod =>
          wtm_at "ev_st"
          refine k_lcK rfl (by omega) (lcw_of (lc_mapD (g := fun d => .bool (tv (PPair ss d))) fun d hd' => ?_) ?_)
          · wtm_at "ev_st"
            refine ⟨rfl, rfl, ?_⟩
            wtm_at "ev_st"
            refine wpC_of (pair_w ok (hod d hd') hc _) ?_
            wtm_at "ev_st"
            exact ⟨rfl, rfl⟩
          · wtm_at "ev_st"
            refine k_allP ?_
            by_cases hp : ∀ d ∈ os, PPair ss d
            · rw [tv_t hp]
              obtain ⟨fs, rfl⟩ := ppair_all hp
              rw [List.length_map] at hol
              wtm_at "ev_st"
              rw [cut1, ← List.map_drop, zip_prs]
              refine k_lcK rfl (by simp; omega) (lcw_of (lc_map (f := fun z : Pr × Pr => PyData.tuple [prD z.1, prD z.2]) (g := fun z => PyData.bool (tv (prLt z.1 z.2))) (p := fun _ => true) fun z hz => ?_) ?_)
              · wtm_at "ev_st"
                refine ⟨rfl, rfl, fun _ => ?_⟩
                wtm_at "ev_st"
                rw [lexLt_pr]
                exact ⟨rfl, rfl⟩
              · rw [flt_true, show (List.map (fun z : Pr × Pr => PyData.bool (tv (prLt z.1 z.2))) (fs.zip (fs.drop 1))) = ((fs.zip (fs.drop 1)).map fun z => tv (prLt z.1 z.2)).map PyData.bool from by rw [List.map_map]; rfl]
                wtm_at "ev_st"
                refine k_all ?_
                have ea : ((fs.zip (fs.drop 1)).map fun z => tv (prLt z.1 z.2)).all id = tv (Asc fs) := by
                  refine (tv_of ?_).symm
                  rw [← asc_zip, List.all_eq_true]
                  simp [tv_iff]
                rw [ea]
                by_cases hA : Asc fs
                · rw [tv_t hA]
                  wtm_at "ev_st"
                  refine k_lcK rfl (by simp; omega) (lcw_of (lc_map (f := prD) (g := fun p => prD (nrm p)) (p := fun _ => true) fun p hp => ?_) ?_)
                  · wtm_at "ev_st"
                    refine ⟨rfl, rfl, fun _ => ?_⟩
                    wtm_at "ev_st"
                    rw [int_minD, int_maxD]
                    wtm_at "ev_st"
                    exact ⟨rfl, rfl⟩
                  · rw [flt_true, show (List.map (fun p => prD (nrm p)) fs) = (fs.map nrm).map prD from by rw [List.map_map]; rfl]
                    wtm_at "ev_st"
                    refine k_sort (l := fs.map nrm) rfl ?_
                    wtm_at "ev_st"
                    refine wpC_of (cpairs_w ok _) ?_
                    wtm_at "ev_st"
                    refine k_eqprs (xs := srt (fs.map nrm)) (ys := cp ss ss.length) rfl rfl ?_
                    wtm_at "ev_st"
                    refine ⟨?_, rfl⟩
                    congr 1
                    refine (tv_of ?_).symm
                    rw [decide_eq_true_iff, cp_pairs ok]
                    constructor
                    · intro q
                      exact ⟨ss, fs, rfl, ok, hA, q⟩
                    · rintro ⟨ss', fs', e, ok', _, hz⟩
                      simp only [PyData.tuple.injEq, List.cons.injEq, and_true] at e
                      have e1 := stD_inj e.1
                      have e2 := prD_inj e.2
                      subst e1 e2
                      exact hz
                · rw [tv_f hA]
                  wtm_at "ev_st"
                  rw [tv_f (fun ⟨ss', fs', e, ok', hA', hz⟩ => hA (by
                    simp only [PyData.tuple.injEq, List.cons.injEq, and_true] at e
                    have e2 := prD_inj e.2
                    subst e2
                    exact hA'))]
                  exact ⟨rfl, rfl⟩
            · rw [tv_f hp]
              wtm_at "ev_st"
              rw [tv_f (fun ⟨ss', fs, e, ok', _, hz⟩ => hp (by
                simp only [PyData.tuple.injEq, List.cons.injEq, and_true] at e
                obtain ⟨e1, rfl⟩ := e
                have := stD_inj e1
                subst this
                intro d hd
                obtain ⟨p, hp, rfl⟩ := List.mem_map.mp hd
                exact over_pair ok hz hp))]
              exact ⟨rfl, rfl⟩
      · rw [tv_f hs]
        wtm_at "ev_st"
        rw [tv_f (fun ⟨ss, fs, e, ok, _⟩ => hs (by cases e; exact ⟨ss, rfl, ok⟩))]
        exact ⟨rfl, rfl⟩

open PySem PySem.Spec PyProof.Rows L2
open PySem.W (minD maxD dataLt dataLe dataLt_ii alike dataLt_int)
section
variable {env : En} {τ : Tp} {Q : W → Prop}
theorem eqv_nil (l : List Int) : PyData.eqv (.list (l.map PyData.int)) (.list []) = l.isEmpty := by
  rw [PyData.eqv]
  cases l <;> rfl
theorem k_eqnilI {l : List Int} (q : Q (.d (.bool l.isEmpty))) : wpO (gEqD false env τ (.new (l.map PyData.int)) (.new [])) Q := by
  have e : gEqD false env τ (.new (l.map PyData.int)) (.new []) = (if SeqAt.shaped (.list (l.map PyData.int)) = true ∧ SeqAt.shaped (.list []) = true then some (.d (.bool (PyData.eqv (.list (l.map PyData.int)) (.list [])))) else none) := rfl
  rw [e, if_pos ⟨shaped_ints l, rfl⟩, eqv_nil]
  exact wpO_of rfl q
theorem k_nenilI {l : List Int} (q : Q (.d (.bool (!l.isEmpty)))) : wpO (gEqD true env τ (.new (l.map PyData.int)) (.new [])) Q := by
  have e : gEqD true env τ (.new (l.map PyData.int)) (.new []) = (if SeqAt.shaped (.list (l.map PyData.int)) = true ∧ SeqAt.shaped (.list []) = true then some (.d (.bool (!PyData.eqv (.list (l.map PyData.int)) (.list [])))) else none) := rfl
  rw [e, if_pos ⟨shaped_ints l, rfl⟩, eqv_nil]
  exact wpO_of rfl q
theorem sort2 (a b : Int) : [PyData.int a, PyData.int b].mergeSort (dataLe false fun x => x) = [.int (min a b), .int (max a b)] := by
  have e : dataLe false (fun x => x) (PyData.int a) (PyData.int b) = !dataLt (.int b) (.int a) := rfl
  rw [dataLt_int] at e
  by_cases h : b < a
  · have e2 : dataLe false (fun x => x) (PyData.int a) (PyData.int b) = false := by rw [e, decide_eq_true h]; rfl
    simp [List.mergeSort, List.MergeSort.Internal.splitInTwo, List.merge, e2]
    omega
  · have e2 : dataLe false (fun x => x) (PyData.int a) (PyData.int b) = true := by rw [e, decide_eq_false h]; rfl
    simp [List.mergeSort, List.MergeSort.Internal.splitInTwo, List.merge, e2]
    omega
theorem k_sort2 {a b : Int} (q : Q (.new [.int (min a b), .int (max a b)])) : wpO (gSorted env τ (.d (.tuple [.int a, .int b]))) Q := by
  have e : gSorted env τ (.d (.tuple [.int a, .int b])) = some (.new ([PyData.int a, PyData.int b].mergeSort (dataLe false fun x => x))) := by
    unfold gSorted
    refine if_pos ⟨?_, ?_, ?_⟩
    · simp [allAlikeB, alike]
    · simp [sortableB, notNT]
    · simp [PyData.depth]
  rw [e, sort2]
  exact wpO_of rfl q
end
theorem lwithin_w {c n : Nat} {d : D} (h : Gd c n d) (τ : Tp) : S__law_within [.d d, .d (.int 0), .d (.int 12)] τ = some (.bool (tv (PCo d)), τ) := by
  refine wpC_eq ?_
  unfold S__law_within
  wtm_at "ev_st"
  refine wpC_of (lwhole_w h _) ?_
  by_cases hw : PWh d
  · obtain ⟨i, rfl⟩ := hw
    rw [tv_t ⟨i, rfl⟩]
    wtm_at "ev_st"
    refine k_d (fun c1 => ?_) (fun c1 => ?_)
    · wtm_at "ev_st"
      refine ⟨?_, rfl⟩
      have : tv (PCo (.int i)) = decide (i ≤ 12) := tv_of ⟨fun q => ⟨i, rfl, c1, of_decide_eq_true q⟩, fun ⟨j, e, _, q⟩ => by cases e; exact decide_eq_true q⟩
      rw [this]
    · wtm_at "ev_st"
      rw [tv_f (fun ⟨j, e, q, _⟩ => by cases e; exact c1 q)]
      exact ⟨rfl, rfl⟩
  · rw [tv_f hw]
    wtm_at "ev_st"
    rw [tv_f (fun ⟨j, e, q, _⟩ => hw ⟨j, e⟩)]
    exact ⟨rfl, rfl⟩
theorem prs_at {fs : List Pr} {i : Nat} (h : i < fs.length) : (fs.map prD)[i]? = some (prD (fs.getD i dP)) := by
  simp [h, List.getD]
theorem rises_w {fs : List Pr} (hl : fs.length ≤ 1000) (τ : Tp) : S__law_rises [.d (.tuple (fs.map prD))] τ = some (.bool (tv (Asc fs)), τ) := by
  refine wpC_eq ?_
  unfold S__law_rises
  have hml : (fs.map prD).length = fs.length := List.length_map ..
  wtm_at "ev_st"
  have hn : (((fs.map prD).length : Nat) - 1 : Int).toNat = fs.length - 1 := by omega
  rw [hn]
  refine k_lcK rfl (by rw [rangeD_len]; omega) (lcw_of (lc_map (xs := List.range (fs.length - 1)) (f := fun k : Nat => PyData.int (1 + (k : Int))) (g := fun k => PyData.int (1 + (k : Int))) (p := fun k => !tv (prLt (fs.getD k dP) (fs.getD (k + 1) dP))) fun k hk => ?_) ?_)
  · have hk : k < fs.length - 1 := by simpa using hk
    wtm_at "ev_st"
    have i1 : (1 + (k : Int) - 1).toNat = k := by omega
    have i2 : (1 + (k : Int)).toNat = k + 1 := by omega
    refine k_ixt (x := prD (fs.getD k dP)) (by omega) (by rw [i1]; exact prs_at (by omega)) ?_
    wtm_at "ev_st"
    refine k_ixt (x := prD (fs.getD (k + 1) dP)) (by omega) (by rw [i2]; exact prs_at (by omega)) ?_
    wtm_at "ev_st"
    rw [lexLt_pr]
    wtm_at "ev_st"
    refine ⟨rfl, rfl, fun _ => ?_⟩
    wtm_at "ev_st"
    exact ⟨rfl, rfl⟩
  · wtm_at "ev_st"
    rw [show (List.map (fun k : Nat => PyData.int (1 + (k : Int))) ((List.range (fs.length - 1)).filter fun k => !tv (prLt (fs.getD k dP) (fs.getD (k + 1) dP)))) = (((List.range (fs.length - 1)).filter fun k => !tv (prLt (fs.getD k dP) (fs.getD (k + 1) dP))).map fun k : Nat => 1 + (k : Int)).map PyData.int from by rw [List.map_map]; rfl]
    refine k_eqnilI ?_
    wtm_at "ev_st"
    refine ⟨?_, rfl⟩
    congr 1
    refine (tv_of ?_).symm
    rw [List.isEmpty_iff, List.map_eq_nil_iff, List.filter_eq_nil_iff]
    constructor
    · intro h k hk
      have := h k (by simp; omega)
      rw [Bool.not_eq_true, Bool.not_eq_false'] at this
      exact tv_iff.mp this
    · intro h k hk
      have hk : k < fs.length - 1 := by simpa using hk
      rw [tv_t (h k (by omega))]
      simp

open PySem PySem.Spec PyProof.Rows L2
open PySem.W (minD maxD dataLt dataLe dataLt_ii alike dataLt_int)
def PPr (d : D) : Prop := ∃ p : Pr, d = prD p
theorem ppr_all : ∀ {ds : List D}, (∀ d ∈ ds, PPr d) → ∃ fs : List Pr, ds = fs.map prD
  | [], _ => ⟨[], rfl⟩
  | d :: r, h => by
    obtain ⟨p, rfl⟩ := h d (by simp)
    obtain ⟨fs, rfl⟩ := ppr_all (ds := r) fun x hx => h x (by simp [hx])
    exact ⟨p :: fs, rfl⟩
theorem take_all {α : Type} {P : α → Prop} {l : List α} {i : Nat} {d : α} (h : ∀ x ∈ l.take i, P x) (hi : l[i]? = some d) (hd : P d) : ∀ x ∈ l.take (i + 1), P x := by
  rw [List.take_add_one, hi]
  intro x hx
  rcases List.mem_append.mp hx with q | q
  · exact h x q
  · simp at q
    subst q
    exact hd
theorem lc_mapP {tg : Tg} {tt te : EvF} {env : En} {τ : Tp} {g : D → D} {p : D → Bool} {its : List D} (h : ∀ d ∈ its, wpO (bindT tg d env) fun e => wpE tt e τ fun w t => w = .d (.bool (p d)) ∧ t = τ ∧ (p d = true → wpE te e τ fun w t => toD w = some (g d) ∧ t = τ)) : lcGo tg tt te env its τ = some ((its.filter p).map g, τ) := by
  have := lc_map (f := fun d : D => d) (g := g) (p := p) (xs := its) h
  rw [List.map_id'] at this
  exact this
theorem cut_to {α : Type} (xs : List α) (i : Nat) : cutL xs none (some (0 + (i : Int))) = xs.take i := by
  unfold cutL
  rw [Int.zero_add, HT.sIx_nat, HT.sIx_none]
  simp
theorem lpile_is_w {c n : Nat} {d : D} (h : Gd c n d) (hc : c ≤ 100) (τ : Tp) : S__law_is_pile [.d d] τ = some (.bool (tv (PPile d)), τ) := by
  refine wpC_eq ?_
  unfold S__law_is_pile
  generalize hPB : (sSeq (sIf (eOr (f1 gNot (f1 (gIsi .tuple) (eVar 4))) _) _ _) _ : EvS) = PB
  have pb : ∀ {n : Nat} (x0 x1 x2 x3 x5 x6 x7 x8 : Sl) (a : D) (ga : Gd c n a) (τ : Tp) (R : Out → Prop), (PPt a → R (.nx [x0, x1, x2, x3, .d a, x5, x6, x7, x8] τ)) → (¬PPt a → R (.rt (.bool false) τ)) → wpS PB [x0, x1, x2, x3, .d a, x5, x6, x7, x8] τ R := by
    intro n x0 x1 x2 x3 x5 x6 x7 x8 a ga τ R h1 h2
    rw [← hPB]
    cases ga with
    | int i => wtm_at "ev_st"; exact h2 fun ⟨p, e, _⟩ => by cases e
    | non => wtm_at "ev_st"; exact h2 fun ⟨p, e, _⟩ => by cases e
    | bl b => wtm_at "ev_st"; exact h2 fun ⟨p, e, _⟩ => by cases e
    | str s _ => wtm_at "ev_st"; exact h2 fun ⟨p, e, _⟩ => by cases e
    | lst _ _ => wtm_at "ev_st"; exact h2 fun ⟨p, e, _⟩ => by cases e
    | @tup _ ds hl hd =>
      wtm_at "ev_st"
      refine k_neq (fun h => ?_) (fun h => ?_)
      · wtm_at "ev_st"
        exact h2 fun ⟨p, e, _⟩ => by cases e; simp at h
      · have h2' : ds.length = 2 := by omega
        obtain ⟨a, b, rfl⟩ := two_of h2'
        wtm_at "ev_st"
        refine wpC_of (lwithin_w (hd a (by simp)) _) ?_
        by_cases ha : PCo a
        · rw [tv_t ha]
          wtm_at "ev_st"
          refine wpC_of (lwithin_w (hd b (by simp)) _) ?_
          by_cases hb : PCo b
          · rw [tv_t hb]
            wtm_at "ev_st"
            exact h1 ((ppt_iff h2').mp fun d hd => by simp at hd; rcases hd with rfl | rfl <;> assumption)
          · rw [tv_f hb]
            wtm_at "ev_st"
            exact h2 fun q => hb ((ppt_iff h2').mpr q b (by simp))
        · rw [tv_f ha]
          wtm_at "ev_st"
          exact h2 fun q => ha ((ppt_iff h2').mpr q a (by simp))
  generalize hSB : (sSeq (sIf (eOr (f1 gNot (f1 (gIsi .tuple) (eVar 3))) _) _ _) _ : EvS) = SB
  have sb : ∀ {n : Nat} (x0 x1 x2 x4 x5 x6 x7 x8 : Sl) (a : D) (ga : Gd c n a) (τ : Tp) (R : Out → Prop), (PStk a → ∀ y, R (.nx [x0, x1, x2, .d a, y, x5, x6, x7, x8] τ)) → (¬PStk a → R (.rt (.bool false) τ)) → wpS SB [x0, x1, x2, .d a, x4, x5, x6, x7, x8] τ R := by
    intro n x0 x1 x2 x4 x5 x6 x7 x8 a ga τ R h1 h2
    rw [← hSB]
    cases ga with
    | int i => wtm_at "ev_st"; exact h2 fun ⟨p, e, _⟩ => by cases e
    | non => wtm_at "ev_st"; exact h2 fun ⟨p, e, _⟩ => by cases e
    | bl b => wtm_at "ev_st"; exact h2 fun ⟨p, e, _⟩ => by cases e
    | str s _ => wtm_at "ev_st"; exact h2 fun ⟨p, e, _⟩ => by cases e
    | lst _ _ => wtm_at "ev_st"; exact h2 fun ⟨p, e, _⟩ => by cases e
    | @tup _ ds hl hd =>
      wtm_at "ev_st"
      refine k_neq (fun h => ?_) (fun h => ?_)
      · wtm_at "ev_st"
        exact h2 fun ⟨p, e, _⟩ => by cases e; simp at h
      · have h2' : ds.length = 2 := by omega
        obtain ⟨a, b, rfl⟩ := two_of h2'
        wtm_at "ev_st"
        refine pb _ _ _ _ _ _ _ _ a (hd a (by simp)) _ _ (fun pa => ?_) (fun pa => ?_)
        · wtm_at "ev_st"
          refine pb _ _ _ _ _ _ _ _ b (hd b (by simp)) _ _ (fun pb => ?_) (fun pb => ?_)
          · obtain ⟨p, rfl, hp⟩ := pa
            obtain ⟨q, rfl, hq⟩ := pb
            wtm_at "ev_st"
            have e0 : PyData.eqv (ptD p) (ptD q) = decide (p = q) := by
              rw [eqv_pt]
              by_cases h : p = q
              · subst h; simp
              · rw [decide_eq_false h, ← eqv_pt, eqv_ne h]
            rw [if_neg Bool.false_ne_true, e0]
            refine k_d (fun e => ?_) (fun e => ?_)
            · wtm_at "ev_st"
              exact h2 fun ⟨s, e', _, hne⟩ => hne (by
                obtain ⟨⟨x1, y1⟩, ⟨x2, y2⟩⟩ := s
                cases p; cases q
                cases e'
                exact e)
            · wtm_at "ev_st"
              exact h1 ⟨(p, q), rfl, ⟨hp, hq⟩, e⟩ _
          · wtm_at "ev_st"
            exact h2 fun ⟨s, e, hS, _⟩ => pb (by cases e; exact ⟨s.2, rfl, hS.b⟩)
        · wtm_at "ev_st"
          exact h2 fun ⟨s, e, hS, _⟩ => pa (by cases e; exact ⟨s.1, rfl, hS.a⟩)
  generalize hTB : (sSeq (sIf (f2 (gEqD true) (eLc (iSeq (eSl _ _ _)) _ _ _ _) _) _ _) _ : EvS) = TB
  generalize hOB : (sSeq (sIf (eOr (f1 gNot (f1 (gIsi .tuple) (eVar 6))) _) _ _) _ : EvS) = OB
  cases h with
  | int i => rw [tv_f (fun ⟨i, j, e, _⟩ => by cases e)]; wtm_at "ev_st"; exact ⟨rfl, rfl⟩
  | non => rw [tv_f (fun ⟨i, j, e, _⟩ => by cases e)]; wtm_at "ev_st"; exact ⟨rfl, rfl⟩
  | bl b => rw [tv_f (fun ⟨i, j, e, _⟩ => by cases e)]; wtm_at "ev_st"; exact ⟨rfl, rfl⟩
  | str s _ => rw [tv_f (fun ⟨i, j, e, _⟩ => by cases e)]; wtm_at "ev_st"; exact ⟨rfl, rfl⟩
  | lst _ _ => rw [tv_f (fun ⟨i, j, e, _⟩ => by cases e)]; wtm_at "ev_st"; exact ⟨rfl, rfl⟩
  | @tup _ ds hl hd =>
    wtm_at "ev_st"
    refine k_neq (fun h => ?_) (fun h => ?_)
    · wtm_at "ev_st"
      rw [tv_f (fun ⟨i, j, e, _⟩ => by cases e; simp at h)]
      exact ⟨rfl, rfl⟩
    · obtain ⟨a, b, rfl⟩ := two_of (ds := ds) (by omega)
      have ga := hd a (by simp)
      have gb := hd b (by simp)
      wtm_at "ev_st"
      have notA : (∀ ss, a ≠ .tuple ss) → ¬PPile (.tuple [a, b]) := fun q ⟨ss, fs, e, _⟩ => by
        simp only [PyData.tuple.injEq, List.cons.injEq] at e
        exact q _ e.1
      have notB : (∀ ss, b ≠ .tuple ss) → ¬PPile (.tuple [a, b]) := fun q ⟨ss, fs, e, _⟩ => by
        simp only [PyData.tuple.injEq, List.cons.injEq] at e
        exact q _ e.2.1
      cases ga with
      | int i => wtm_at "ev_st"; rw [tv_f (notA (by simp))]; exact ⟨rfl, rfl⟩
      | non => wtm_at "ev_st"; rw [tv_f (notA (by simp))]; exact ⟨rfl, rfl⟩
      | bl b => wtm_at "ev_st"; rw [tv_f (notA (by simp))]; exact ⟨rfl, rfl⟩
      | str s _ => wtm_at "ev_st"; rw [tv_f (notA (by simp))]; exact ⟨rfl, rfl⟩
      | lst _ _ => wtm_at "ev_st"; rw [tv_f (notA (by simp))]; exact ⟨rfl, rfl⟩
      | @tup m sl hsl hsd =>
        cases gb with
        | int i => wtm_at "ev_st"; rw [tv_f (notB (by simp))]; exact ⟨rfl, rfl⟩
        | non => wtm_at "ev_st"; rw [tv_f (notB (by simp))]; exact ⟨rfl, rfl⟩
        | bl b => wtm_at "ev_st"; rw [tv_f (notB (by simp))]; exact ⟨rfl, rfl⟩
        | str s _ => wtm_at "ev_st"; rw [tv_f (notB (by simp))]; exact ⟨rfl, rfl⟩
        | lst _ _ => wtm_at "ev_st"; rw [tv_f (notB (by simp))]; exact ⟨rfl, rfl⟩
        | @tup m ol hol hod =>
          clear notA notB
          wtm_at "ev_st"
          have notS : ∀ d, d ∈ sl → ¬PStk d → ¬PPile (.tuple [.tuple sl, .tuple ol]) := fun d hd q ⟨ss, fs, e, ok, _⟩ => by
            simp only [PyData.tuple.injEq, List.cons.injEq] at e
            obtain ⟨rfl, _⟩ := e
            obtain ⟨s, hs, rfl⟩ := List.mem_map.mp hd
            exact q ⟨s, rfl, ok.ins s hs⟩
          have notL : ¬(1 ≤ sl.length ∧ sl.length ≤ 5) → ¬PPile (.tuple [.tuple sl, .tuple ol]) := fun q ⟨ss, fs, e, ok, _⟩ => by
            simp only [PyData.tuple.injEq, List.cons.injEq] at e
            obtain ⟨rfl, _⟩ := e
            have := ok.l0
            have := ok.l1
            rw [List.length_map] at q
            omega
          refine k_d (fun c1 => ?_) (fun c1 => ?_)
          · wtm_at "ev_st"
            refine k_nd (fun c2 => ?_) (fun c2 => ?_)
            · wtm_at "ev_st"
              rw [tv_f (notL (by omega))]
              exact ⟨rfl, rfl⟩
            · wtm_at "ev_st"
              generalize hIT : PyData.tuple [.tuple sl, .tuple ol] = IT at notS notL ⊢
              refine k_forI (fun i e t => t = τ ∧ (∀ d ∈ sl.take i, PStk d) ∧ ∃ x y, e = [.d IT, .d (.tuple sl), .d (.tuple ol), x, y, .no, .no, .no, .no]) ?_ ?_ ⟨rfl, by simp, _, _, rfl⟩
              · rintro i d e t hi ⟨rfl, hP, x, y, rfl⟩
                have hm := List.mem_of_getElem? hi
                wtm_at "ev_st"
                refine sb _ _ _ _ _ _ _ _ d (hsd d hm) _ _ (fun pd y' => ?_) (fun pd => ?_)
                · wtm_at "ev_st"
                  exact ⟨rfl, take_all hP hi pd, _, _, rfl⟩
                · wtm_at "ev_st"
                  rw [tv_f (notS d hm pd)]
                  exact ⟨rfl, rfl⟩
              · rintro e t ⟨rfl, hP, x, y, rfl⟩
                rw [List.take_length] at hP
                obtain ⟨ss, rfl, hss⟩ := pstk_all hP
                have hml : (ss.map stD).length = ss.length := List.length_map ..
                rw [hml] at c1 c2
                have notT : ∀ i j, j < i → i < ss.length → meetS (ss.getD j dS) (ss.getD i dS) = tc → ¬PPile IT := fun i j h1 h2 h3 ⟨ss', fs, e, ok, _⟩ => by
                  rw [← hIT] at e
                  simp only [PyData.tuple.injEq, List.cons.injEq] at e
                  have := stD_inj e.1
                  subst this
                  exact ok.tch i j h1 h2 h3
                wtm_at "ev_st"
                have hn : (((ss.map stD).length : Nat) : Int).toNat = ss.length := by omega
                rw [hn]
                refine k_forR (fun i e t' => t' = t ∧ (∀ i' j, j < i' → i' < i → meetS (ss.getD j dS) (ss.getD i' dS) ≠ tc) ∧ ∃ x y z, e = [.d IT, .d (.tuple (ss.map stD)), .d (.tuple ol), x, y, z, .no, .no, .no]) ?_ ?_ ⟨rfl, by omega, _, _, _, rfl⟩
                · rintro i e t' hi ⟨rfl, hT, x, y, z, rfl⟩
                  rw [← hTB]
                  wtm_at "ev_st"
                  rw [cut_to, ← List.map_take]
                  have si := getD_in hss hi
                  refine k_lcK rfl (by simp; omega) (lcw_of (lc_map (f := stD) (g := fun _ => PyData.int 1) (p := fun s => meetS s (ss.getD i dS) == tc) fun s hs => ?_) ?_)
                  · have s1 := hss s (List.mem_of_mem_take hs)
                    wtm_at "ev_st"
                    refine k_ixt (x := stD (ss.getD i dS)) (by omega) (by rw [show (0 + (i : Int)).toNat = i by omega]; exact at_stk hi) ?_
                    wtm_at "ev_st"
                    refine wpC_of (lmeet_w s1.1 si.1 _) ?_
                    wtm_at "ev_st"
                    refine k_eqs (shaped_meet _ _) sh_tc ?_
                    refine ⟨rfl, rfl, fun _ => ?_⟩
                    wtm_at "ev_st"
                    exact ⟨rfl, rfl⟩
                  · wtm_at "ev_st"
                    rw [show List.map (fun _ : Stk => PyData.int 1) ((ss.take i).filter fun s => meetS s (ss.getD i dS) == tc) = (((ss.take i).filter fun s => meetS s (ss.getD i dS) == tc).map fun _ => (1 : Int)).map PyData.int from by rw [List.map_map]; rfl]
                    refine k_nenilI ?_
                    by_cases hz : ∃ j, j < i ∧ meetS (ss.getD j dS) (ss.getD i dS) = tc
                    · obtain ⟨j, hj, hz⟩ := hz
                      have hne : ((((ss.take i).filter fun s => meetS s (ss.getD i dS) == tc).map fun _ => (1 : Int)).isEmpty) = false := by
                        rw [Bool.eq_false_iff]
                        intro q
                        rw [List.isEmpty_iff, List.map_eq_nil_iff, List.filter_eq_nil_iff] at q
                        have hm : ss.getD j dS ∈ ss.take i := by
                          rw [List.getD_eq_getElem?_getD, List.getElem?_eq_getElem (by omega)]
                          exact List.mem_take_iff_getElem.mpr ⟨j, by omega, rfl⟩
                        exact q _ hm (by rw [hz]; exact beq_self_eq_true _)
                      rw [hne]
                      wtm_at "ev_st"
                      rw [tv_f (notT i j hj hi hz)]
                      exact ⟨rfl, rfl⟩
                    · have hem : ((((ss.take i).filter fun s => meetS s (ss.getD i dS) == tc).map fun _ => (1 : Int)).isEmpty) = true := by
                        rw [List.isEmpty_iff, List.map_eq_nil_iff, List.filter_eq_nil_iff]
                        intro s hs q
                        obtain ⟨j, hj, rfl⟩ := List.mem_take_iff_getElem.mp hs
                        refine hz ⟨j, by omega, ?_⟩
                        rw [List.getD_eq_getElem?_getD (i := j), List.getElem?_eq_getElem (by omega)]
                        exact eq_of_beq q
                      rw [hem]
                      wtm_at "ev_st"
                      refine ⟨rfl, fun i' j h1 h2 => ?_, _, _, _, rfl⟩
                      by_cases e : i' = i
                      · subst e
                        exact fun q => hz ⟨j, h1, q⟩
                      · exact hT i' j h1 (by omega)
                · rintro e t' ⟨rfl, hT, x, y, z, rfl⟩
                  have ok : SkOk ss := ⟨by omega, by omega, hss, fun i j h1 h2 => hT i j h1 h2⟩
                  wtm_at "ev_st"
                  have notP : ∀ d, d ∈ ol → ¬PPr d → ¬PPile IT := fun d hd q ⟨ss', fs, e, ok, _⟩ => by
                    rw [← hIT] at e
                    simp only [PyData.tuple.injEq, List.cons.injEq] at e
                    obtain ⟨_, rfl, _⟩ := e
                    obtain ⟨p, hp, rfl⟩ := List.mem_map.mp hd
                    exact q ⟨p, rfl⟩
                  refine k_forI (fun i e t => t = t' ∧ (∀ d ∈ ol.take i, PPr d) ∧ ∃ x y z u, e = [.d IT, .d (.tuple (ss.map stD)), .d (.tuple ol), x, y, z, u, .no, .no]) ?_ ?_ ⟨rfl, by simp, _, _, _, _, rfl⟩
                  · rintro i d e t hi ⟨rfl, hP', x, y, z, u, rfl⟩
                    have hm := List.mem_of_getElem? hi
                    rw [← hOB]
                    have gd := hod d hm
                    have no : ¬PPr d → PyData.bool false = .bool (tv (PPile IT)) := fun q => by rw [tv_f (notP d hm q)]
                    cases gd with
                    | int i => wtm_at "ev_st"; exact ⟨no (fun ⟨p, e⟩ => by cases e), rfl⟩
                    | non => wtm_at "ev_st"; exact ⟨no (fun ⟨p, e⟩ => by cases e), rfl⟩
                    | bl b => wtm_at "ev_st"; exact ⟨no (fun ⟨p, e⟩ => by cases e), rfl⟩
                    | str s _ => wtm_at "ev_st"; exact ⟨no (fun ⟨p, e⟩ => by cases e), rfl⟩
                    | lst _ _ => wtm_at "ev_st"; exact ⟨no (fun ⟨p, e⟩ => by cases e), rfl⟩
                    | @tup _ ds hdl hdd =>
                      wtm_at "ev_st"
                      refine k_neq (fun h => ?_) (fun h => ?_)
                      · wtm_at "ev_st"
                        exact ⟨no (fun ⟨p, e⟩ => by cases e; simp at h), rfl⟩
                      · wtm_at "ev_st"
                        refine k_lcK rfl (by omega) (lcw_of (lc_mapP (g := fun _ => PyData.int 1) (p := fun d => !tv (PWh d)) fun a ha => ?_) ?_)
                        · wtm_at "ev_st"
                          refine wpC_of (lwhole_w (hdd a ha) _) ?_
                          wtm_at "ev_st"
                          refine ⟨rfl, rfl, fun _ => ?_⟩
                          wtm_at "ev_st"
                          exact ⟨rfl, rfl⟩
                        · wtm_at "ev_st"
                          rw [show List.map (fun _ : D => PyData.int 1) (ds.filter fun d => !tv (PWh d)) = ((ds.filter fun d => !tv (PWh d)).map fun _ => (1 : Int)).map PyData.int from by rw [List.map_map]; rfl]
                          refine k_nenilI ?_
                          have hall : ((ds.filter fun d => !tv (PWh d)).map fun _ => (1 : Int)).isEmpty = tv (∀ d ∈ ds, PWh d) := by
                            refine (tv_of ?_).symm
                            rw [List.isEmpty_iff, List.map_eq_nil_iff, List.filter_eq_nil_iff]
                            constructor
                            · intro h d hd
                              have := h d hd
                              rw [Bool.not_eq_true, Bool.not_eq_false'] at this
                              exact tv_iff.mp this
                            · intro h d hd
                              rw [tv_t (h d hd)]
                              simp
                          rw [hall]
                          by_cases hw : ∀ d ∈ ds, PWh d
                          · rw [tv_t hw]
                            wtm_at "ev_st"
                            refine ⟨rfl, take_all hP' hi ?_, _, _, _, _, rfl⟩
                            obtain ⟨a, b, rfl⟩ := two_of (ds := ds) (by omega)
                            obtain ⟨i1, rfl⟩ := hw a (by simp)
                            obtain ⟨i2, rfl⟩ := hw b (by simp)
                            exact ⟨(i1, i2), rfl⟩
                          · rw [tv_f hw]
                            wtm_at "ev_st"
                            refine ⟨no (fun ⟨p, e⟩ => hw ?_), rfl⟩
                            cases e
                            intro d hd
                            simp at hd
                            rcases hd with rfl | rfl
                            · exact ⟨_, rfl⟩
                            · exact ⟨_, rfl⟩
                  · rintro e t ⟨rfl, hP', x, y, z, u, rfl⟩
                    rw [List.take_length] at hP'
                    obtain ⟨fs, rfl⟩ := ppr_all hP'
                    rw [List.length_map] at hol
                    wtm_at "ev_st"
                    refine k_lcK rfl (by simp; omega) (lcw_of (lc_map (f := prD) (g := fun p => prD (nrm p)) (p := fun _ => true) fun p hp => ?_) ?_)
                    · wtm_at "ev_st"
                      refine ⟨rfl, rfl, fun _ => ?_⟩
                      wtm_at "ev_st"
                      rw [sort2]
                      exact ⟨rfl, rfl⟩
                    · rw [flt_true, show (List.map (fun p => prD (nrm p)) fs) = (fs.map nrm).map prD from by rw [List.map_map]; rfl]
                      wtm_at "ev_st"
                      refine k_sort (l := fs.map nrm) rfl ?_
                      wtm_at "ev_st"
                      refine wpC_of (rises_w (by omega) _) ?_
                      by_cases hA : Asc fs
                      · rw [tv_t hA]
                        wtm_at "ev_st"
                        refine wpC_of (pairs_w (fun s hs => (hss s hs).1) (by omega) _) ?_
                        wtm_at "ev_st"
                        refine k_eqprs (xs := srt (fs.map nrm)) (ys := pairsOf ss) rfl rfl ?_
                        wtm_at "ev_st"
                        refine ⟨?_, rfl⟩
                        congr 1
                        refine (tv_of ?_).symm
                        rw [decide_eq_true_iff]
                        constructor
                        · intro q
                          exact ⟨ss, fs, hIT.symm, ok, hA, q⟩
                        · rintro ⟨ss', fs', e, ok', _, hz⟩
                          rw [← hIT] at e
                          simp only [PyData.tuple.injEq, List.cons.injEq, and_true] at e
                          have e1 := stD_inj e.1
                          have e2 := prD_inj e.2
                          subst e1 e2
                          exact hz
                      · rw [tv_f hA]
                        wtm_at "ev_st"
                        rw [tv_f (fun ⟨ss', fs', e, ok', hA', hz⟩ => hA (by
                          rw [← hIT] at e
                          simp only [PyData.tuple.injEq, List.cons.injEq, and_true] at e
                          have e2 := prD_inj e.2
                          subst e2
                          exact hA'))]
                        exact ⟨rfl, rfl⟩
          · wtm_at "ev_st"
            rw [tv_f (notL (by omega))]
            exact ⟨rfl, rfl⟩

open PySem PySem.Spec PyProof.Rows L2
open PySem.W (minD maxD dataLt dataLe dataLt_ii alike dataLt_int)
section
variable {env : En} {τ : Tp}
/-- an item of a list, whichever -/
theorem k_any {ds : List D} {w : W} {k : Int} {Q : W → Prop} (hw : w = .d (.list ds) ∨ w = .d (.tuple ds) ∨ w = .new ds) (h0 : 0 ≤ k) (h1 : k < ds.length) (q : ∀ x ∈ ds, Q (.d x)) : wpO (gIx env τ w (.d (.int k))) Q := by
  have hl : k.toNat < ds.length := by omega
  have e : ds[k.toNat]? = some ds[k.toNat] := List.getElem?_eq_getElem hl
  have hm := List.getElem_mem hl
  rcases hw with rfl | rfl | rfl
  · exact k_ixl h0 e (q _ hm)
  · exact k_ixt h0 e (q _ hm)
  · exact k_ixn h0 e (q _ hm)
theorem k_anyo {ds : List D} {i : Nat} {k : Int} {Q : W → Prop} (hg : GetAt i env (.own ds)) (h0 : 0 ≤ k) (h1 : k < ds.length) (q : ∀ x ∈ ds, Q (.d x)) : wpO (gIx env τ (.loc i) (.d (.int k))) Q := by
  have hl : k.toNat < ds.length := by omega
  have e : ds[k.toNat]? = some ds[k.toNat] := List.getElem?_eq_getElem hl
  have hm := List.getElem_mem hl
  have e2 : gIx env τ (.loc i) (.d (.int k)) = gIx env τ (.new ds) (.d (.int k)) := by
    rw [g_ix, g_ix]
    have : seqOf env τ (.loc i) = seqOf env τ (.new ds) := by
      show (match env[i]? with | some (.own ds) => some (true, ds) | _ => none) = some (true, ds)
      rw [hg.eq]
    rw [this]
  rw [e2]
  exact k_ixn h0 e (q _ hm)
theorem k_lst5 {a b c d e : D} {Q : W → Tp → Prop} (q : Q (.new [a, b, c, d, e]) τ) : lstK Q [.d a, .d b, .d c, .d d, .d e] τ := wpO_of rfl ⟨by show 5 ≤ sizeLine; have := line_big; omega, q⟩
theorem k_lst6 {a b c d e f : D} {Q : W → Tp → Prop} (q : Q (.new [a, b, c, d, e, f]) τ) : lstK Q [.d a, .d b, .d c, .d d, .d e, .d f] τ := wpO_of rfl ⟨by show 6 ≤ sizeLine; have := line_big; omega, q⟩
theorem k_lst8 {a b c d e f g h : D} {Q : W → Tp → Prop} (q : Q (.new [a, b, c, d, e, f, g, h]) τ) : lstK Q [.d a, .d b, .d c, .d d, .d e, .d f, .d g, .d h] τ := wpO_of rfl ⟨by show 8 ≤ sizeLine; have := line_big; omega, q⟩
theorem k_p12 {Q : W → Prop} (q : Q (.d (.int 1000000000000))) : wpO (gI dPow env τ (.d (.int 10)) (.d (.int 12))) Q := by
  have e : dPow 10 12 = some (.int 1000000000000) := by
    unfold dPow
    rw [if_pos (by decide)]
    rfl
  rw [g_gi, e]
  exact wpO_of rfl q
end
local macro_rules | `(tactic| wtm_at "ev_stO") => `(tactic| with_reducible refine k_p12 ?_)
local macro_rules | `(tactic| wtm_at "ev_stK") => `(tactic| with_reducible first | refine k_lst5 ?_ | refine k_lst6 ?_ | refine k_lst8 ?_)
/-- a comprehension whose turns draw -/
theorem lcw_inv {tg : Tg} {tt te : EvF} {env : En} {P : D → Prop} (I : Nat → Tp → Prop) (hs : ∀ d k τ, I (k + 1) τ → wpO (bindT tg d env) fun e => wpE tt e τ fun w t => w = .d (.bool true) ∧ t = τ ∧ wpE te e τ fun w t => ∃ x, toD w = some x ∧ P x ∧ I k t) :
    ∀ {its : List D} {τ : Tp} {Q : List D → Tp → Prop}, I its.length τ → (∀ l t, l.length = its.length → (∀ x ∈ l, P x) → I 0 t → Q l t) → lcW tg tt te env its τ Q
  | [], τ, Q, h, q => lcw_nil (q [] τ rfl (by simp) h)
  | d :: r, τ, Q, h, q => by
    refine lcw_cons (wpO_mono (hs d r.length τ h) fun e h1 => ?_)
    rw [wpE_un] at h1 ⊢
    refine wpO_mono h1 fun p h2 => ?_
    obtain ⟨w, t⟩ := p
    obtain ⟨rfl, rfl, h3⟩ := h2
    refine k_bool ?_
    refine k_t rfl ?_
    rw [wpE_un] at h3 ⊢
    refine wpO_mono h3 fun p h4 => ?_
    obtain ⟨w, t2⟩ := p
    obtain ⟨x, e1, hP, hI⟩ := h4
    refine wpO_of e1 ?_
    exact lcw_inv I hs hI fun l t hl hp hi => q (x :: l) t (by simp [hl]) (fun y hy => by
      rcases List.mem_cons.mp hy with rfl | hy
      · exact hP
      · exact hp y hy) hi
def cA : Nat → Nat
  | 0 => 4
  | m + 1 => 4 + 4 * cA m
theorem any_w : ∀ (m n : Nat) {b : Nat} {τ : Tp} {Q : D → Tp → Prop}, m + 1 ≤ n → TpOk (b + cA m) τ → (∀ d τ', Gd 0 (m + 1) d → TpOk b τ' → Q d τ') → wpC (S__law_any n) [.tp, .d (.int m)] τ Q
  | m, 0, b, τ, Q, hn, _, _ => by omega
  | m, n + 1, b, τ, Q, hn, hT, q => by
    have hcA : 4 ≤ cA m := by cases m <;> unfold cA <;> omega
    unfold S__law_any
    generalize hR : (sSeq (sIf (f2 gLt (eVar 2) (eCon (.int (8)))) _ _) _ : EvS) = RR
    have rest : ∀ (r : Int) (t : Tp), 0 ≤ r → r < 13 → TpOk (b + 3) t → wpS RR [.tp, .d (.int m), .d (.int r), .no, .no] t (runK Q) := by
      intro r t r0 r1 T
      rw [← hR]
      wtm_at "ev_st"
      refine k_d (fun c2 => ?_) (fun c2 => ?_)
      · wtm_at "ev_st"
        refine dr T (b := b + 2) (by omega) (by omega) (by omega) fun x1 t1 x0 x1' T1 => ?_
        wtm_at "ev_st"
        refine dr T1 (b := b + 1) (by omega) (by omega) (by omega) fun x2 t2 x3 x4 T2 => ?_
        wtm_at "ev_st"
        refine k_any (ds := [.int (x1 - 2), .int x2, .int 0, .int 13]) (.inr (.inr rfl)) (by omega) (by show max 0 (r - 4) < ((4 : Nat) : Int); omega) fun x hx => ?_
        have gx : Gd 0 (m + 1) x := by
          simp at hx
          rcases hx with rfl | rfl | rfl | rfl <;> exact .int _
        wtm_at "ev_st"
        exact q x t2 gx (T2.mono (by omega))
      · wtm_at "ev_st"
        refine dr T (b := b + 2) (by omega) (by omega) (by omega) fun x1 t1 x0 x1' T1 => ?_
        wtm_at "ev_st"
        refine k_any (ds := _) (.inl rfl) x0 x1' fun s hs => ?_
        have gs : Gd 0 m s := by
          simp at hs
          rcases hs with rfl | rfl | rfl | rfl | rfl | rfl | rfl | rfl <;> exact .str _ (by decide +kernel)
        wtm_at "ev_st"
        refine k_any (ds := [.bool true, .bool false, .none, s, .tuple [.int 1, .int 2]]) (.inr (.inr rfl)) (by omega) (by show r - 8 < ((5 : Nat) : Int); omega) fun x hx => ?_
        have gx : Gd 0 (m + 1) x := by
          simp at hx
          rcases hx with rfl | rfl | rfl | rfl | rfl
          · exact .bl _
          · exact .bl _
          · exact .non
          · exact gs.mono (Nat.le_refl _) (by omega)
          · refine .tup (by simp) fun d hd => ?_
            simp at hd
            rcases hd with rfl | rfl <;> exact .int _
        wtm_at "ev_st"
        exact q x t1 gx (T1.mono (by omega))
    wtm_at "ev_st"
    refine dr hT (b := b + (cA m - 1)) (by omega) (by omega) (by omega) fun r τ1 r0 r1 T1 => ?_
    wtm_at "ev_st"
    refine k_d (fun c1 => ?_) (fun c1 => ?_)
    · wtm_at "ev_st"
      refine k_d (fun c2 => ?_) (fun c2 => ?_)
      · obtain ⟨m, rfl⟩ : ∃ m', m = m' + 1 := ⟨m - 1, by omega⟩
        have hc : cA (m + 1) = 4 + 4 * cA m := rfl
        wtm_at "ev_st"
        refine dr T1 (b := b + 4 * cA m) (by omega) (by omega) (by omega) fun x1 t1 x0 x1' T2 => ?_
        wtm_at "ev_st"
        have hlen : (rangeD 0 x1.toNat).length = x1.toNat := rangeD_len _ _
        refine k_lcK rfl (by rw [hlen]; omega) (lcw_inv (P := fun d => Gd 0 (m + 1) d) (fun k t => TpOk (b + k * cA m) t) (fun d k t hI => ?_) (T2.mono (by rw [hlen]; have : x1.toNat * cA m ≤ 3 * cA m := Nat.mul_le_mul_right _ (by omega); omega)) fun l t hl hP hI => ?_)
        · wtm_at "ev_st"
          refine ⟨rfl, rfl, ?_⟩
          wtm_at "ev_st"
          rw [show ((m + 1 : Nat) : Int) - 1 = (m : Int) by omega]
          refine any_w m n (b := b + k * cA m) (by omega) (by rw [Nat.succ_mul] at hI; exact hI.mono (by omega)) fun x t' gx T' => ?_
          wtm_at "ev_st"
          exact ⟨x, rfl, gx, T'⟩
        · wtm_at "ev_st"
          refine k_any (ds := [.list l, .tuple l, .tuple l, .tuple l]) (.inr (.inr rfl)) (by omega) (by show r < ((4 : Nat) : Int); omega) fun x hx => ?_
          have hl2 : l.length ≤ 100 + 0 := by rw [hl, hlen]; omega
          have gx : Gd 0 (m + 1 + 1) x := by
            simp at hx
            rcases hx with rfl | rfl
            · exact .lst hl2 hP
            · exact .tup hl2 hP
          wtm_at "ev_st"
          exact q x t gx (hI.mono (by omega))
      · wtm_at "ev_st"
        exact rest r τ1 r0 r1 (T1.mono (by omega))
    · wtm_at "ev_st"
      exact rest r τ1 r0 r1 (T1.mono (by omega))

open PySem PySem.Spec PyProof.Rows L2
open PySem.W (minD maxD dataLt dataLe dataLt_ii alike dataLt_int)
section
variable {env env' : En} {τ : Tp} {R : Out → Prop} {Q : W → Prop}
theorem ixN_nat {n : Nat} {k : Int} (h0 : 0 ≤ k) (h1 : k < n) : ixN n k = some k.toNat := by
  unfold ixN
  simp [h0, h1]
theorem k_subo {ds : List D} {i : Nat} {k : Int} {d : D} (hg : GetAt i env (.own ds)) (h0 : 0 ≤ k) (h1 : k < ds.length) (h : SetAt (.own (ds.set k.toNat d)) i env env') (q : R (.nx env' τ)) : wpO (setSub i d k env τ) R := by
  unfold setSub
  rw [hg.eq]
  dsimp only
  rw [ixN_nat h0 h1]
  refine wpO_of rfl ?_
  rw [← h.eq.1]
  exact q
theorem s_popat {i : Nat} {f : EvA} {ds : List D} (hg : GetAt i env (.own ds)) (h : wpA f env τ fun ws τ1 => match ws with
    | [.d (.int k)] => (0 ≤ k ∧ k < ds.length ∧ k < 1000000) ∧ R (.nx (env.set i (.own (ds.eraseIdx k.toNat))) τ1)
    | _ => False) : wpS (sPopAt i f) env τ R := by with_unfolding_all
  unfold wpS sPopAt
  rw [hg.eq]
  dsimp only
  obtain ⟨⟨ws, t⟩, e, q⟩ := wpO_ex h
  rw [e]
  match ws, q with
  | [.d (.int k)], q =>
    dsimp only
    rw [if_pos q.1]
    exact q.2
theorem k_popd {i j : Nat} {ds : List D} {k : Int} (hg : GetAt i env (.own ds)) (h0 : 0 ≤ k) (h1 : k < ds.length) (h2 : k < 1000000) (hj : GetAt j env (.d (.int k))) (h : SetAt (.own (ds.eraseIdx k.toNat)) i env env') (q : R (.nx env' τ)) : wpS (sPopAt i (aCons (eVar j) aNil)) env τ R := by
  refine s_popat hg ?_
  refine k_acons (k_vd hj (k_ckd (k_anil ?_)))
  refine ⟨⟨h0, h1, h2⟩, ?_⟩
  rw [← h.eq.1]
  exact q
theorem k_len {i : Nat} {ds : List D} (hg : GetAt i env (.own ds)) (q : Q (.d (.int ds.length))) : wpO (gLen env τ (.loc i)) Q := by
  have e : gLen env τ (.loc i) = some (.d (.int ds.length)) := by
    have : seqOf env τ (.loc i) = some (true, ds) := by
      show (match env[i]? with | some (.own ds) => some (true, ds) | _ => none) = some (true, ds)
      rw [hg.eq]
    unfold gLen
    dsimp only
    rw [this]
  rw [e]
  exact wpO_of rfl q
theorem k_revo {i : Nat} {ds : List D} (hg : GetAt i env (.own ds)) (q : Q (.new ds.reverse)) : wpO (gRev env τ (.loc i)) Q := by
  have e : gRev env τ (.loc i) = some (.new ds.reverse) := by
    have : seqOf env τ (.loc i) = some (true, ds) := by
      show (match env[i]? with | some (.own ds) => some (true, ds) | _ => none) = some (true, ds)
      rw [hg.eq]
    unfold gRev
    rw [this]
  rw [e]
  exact wpO_of rfl q
theorem ins_mem {ds : List D} {k : Nat} {x z : D} (h : z ∈ ds.take k ++ [x] ++ ds.drop k) : z ∈ ds ∨ z = x := by
  rcases List.mem_append.mp h with h | h
  · rcases List.mem_append.mp h with h | h
    · exact .inl (List.mem_of_mem_take h)
    · simp at h; exact .inr h
  · exact .inl (List.mem_of_mem_drop h)
theorem cutS_len (z : Str) (lo hi : Option Int) : (cutS z lo hi).length ≤ z.length := by
  unfold cutS Str.length
  simp
  have : z.cps.toList.length = z.cps.size := Array.length_toList
  omega
theorem cutS_two {z : Str} {x : Int} (h0 : 0 ≤ x) (h1 : x ≤ z.length) : (cutS z none (some x)).length + (cutS z (some x) none).length = z.length := by
  obtain ⟨k, rfl⟩ : ∃ k : Nat, x = k := ⟨x.toNat, by omega⟩
  have e : z.cps.toList.length = z.cps.size := Array.length_toList
  have e2 : z.length = z.cps.size := rfl
  unfold cutS
  rw [HT.sIx_nat, HT.sIx_nat, HT.sIx_none, HT.sIx_none]
  show (List.toArray _).size + (List.toArray _).size = _
  simp only [List.size_toArray, List.length_take, List.length_drop, e]
  omega
theorem k_sls {z : Str} {lo hi : Option Int} (h : z.length ≤ 1000000) (q : Q (.d (.str (cutS z lo hi)))) : wpO (gSl env τ (.d (.str z)) lo hi) Q := by
  unfold gSl
  dsimp only
  have := line_big
  rw [if_pos (by omega)]
  exact wpO_of rfl q
theorem k_strs {x y : Str} (h : x.length + y.length ≤ 1000000) (q : Q (.d (.str (x ++ y)))) : wpO (gAdd env τ (.d (.str x)) (.d (.str y))) Q := by
  have e : gAdd env τ (.d (.str x)) (.d (.str y)) = gStr env τ (.d (.str x)) (.d (.str y)) ∨ gAdd env τ (.d (.str x)) (.d (.str y)) = some (.d (.str (x ++ y))) := by
    have := line_big
    right
    have e2 : gStr env τ (.d (.str x)) (.d (.str y)) = some (.d (.str (x ++ y))) := by
      unfold gStr
      exact if_pos (by omega)
    unfold gAdd
    rw [e2]
    rfl
  have := line_big
  have e2 : gStr env τ (.d (.str x)) (.d (.str y)) = some (.d (.str (x ++ y))) := by
    unfold gStr
    exact if_pos (by omega)
  rw [e2] at e
  rcases e with e | e <;> rw [e] <;> exact wpO_of rfl q
theorem k_lens {z : Str} (h : z.length ≤ 1000000) (q : Q (.d (.int z.length))) : wpO (gLen env τ (.d (.str z))) Q := by
  unfold gLen
  dsimp only
  have := line_big
  rw [if_pos (by omega)]
  exact wpO_of rfl q
end
def cS (n : Nat) : Nat := 6 * n + 130
theorem spoilt_w : ∀ (n f : Nat) {c b : Nat} {d : D} {τ : Tp} {Q : D → Tp → Prop}, n + 1 ≤ f → Gd c n d → c ≤ 50 → TpOk (b + cS n) τ → (∀ d' τ', Gd (c + 1) (n + 4) d' → TpOk b τ' → Q d' τ') → wpC (S__law_spoilt f) [.tp, .d d] τ Q
  | n, 0, c, b, d, τ, Q, hn, _, _, _, _ => by omega
  | n, f + 1, c, b, d, τ, Q, hn, gd, hc, hT, q => by
    have cA2 : cA 2 = 84 := rfl
    unfold S__law_spoilt
    generalize hA : (sSeq (sRet (eCall (S__law_any 30) (aCons (eVar 0) (aCons (eCon (.int (2))) aNil)))) sNext : EvS) = AA
    have fin : ∀ (x1 x2 x3 x4 x5 : Sl) (t : Tp), TpOk (b + 90) t → wpS AA [.tp, x1, x2, x3, x4, x5] t (runK Q) := by
      intro x1 x2 x3 x4 x5 t T
      rw [← hA]
      wtm_at "ev_st"
      refine any_w 2 30 (b := b) (by omega) (T.mono (by omega)) fun x t' gx T' => ?_
      wtm_at "ev_st"
      exact q x t' (gx.mono (by omega) (by omega)) T'
    generalize hR : (sSeq (sIf (eAnd (eCall S__law_whole _) _) _ _) _ : EvS) = RR
    have seqR : ∀ (ds : List D) (t : Tp), TpOk (b + 100) t → (∀ t, TpOk b t → Q (.list ds) t) → (∀ t, TpOk b t → Q (.tuple ds) t) → d = .list ds ∨ d = .tuple ds → wpS RR [.tp, .d d, .no, .no, .no, .no] t (runK Q) := by
      intro ds t T q1 q2 hd
      rw [← hR]
      have gw := fun τ => lwhole_w gd τ
      rcases hd with rfl | rfl
      · rw [tv_f (fun ⟨i, e⟩ => by cases e)] at gw
        wtm_at "ev_st"
        refine wpC_of (gw _) ?_
        wtm_at "ev_st"
        refine dr T (b := b + 99) (by omega) (by omega) (by omega) fun x1 t1 a0 a1 T1 => ?_
        wtm_at "ev_st"
        refine k_eq (fun e => ?_) (fun e => ?_)
        · wtm_at "ev_st"
          exact q2 t1 (T1.mono (by omega))
        · wtm_at "ev_st"
          exact fin _ _ _ _ _ t1 (T1.mono (by omega))
      · rw [tv_f (fun ⟨i, e⟩ => by cases e)] at gw
        wtm_at "ev_st"
        refine wpC_of (gw _) ?_
        wtm_at "ev_st"
        refine dr T (b := b + 99) (by omega) (by omega) (by omega) fun x1 t1 a0 a1 T1 => ?_
        wtm_at "ev_st"
        refine k_eq (fun e => ?_) (fun e => ?_)
        · wtm_at "ev_st"
          exact q1 t1 (T1.mono (by omega))
        · wtm_at "ev_st"
          exact fin _ _ _ _ _ t1 (T1.mono (by omega))
    generalize hB : (sSeq (sRet (eIf (f1 (gIsi .tuple) (eVar 1)) (f1 gTuple (eVar 3)) (eVar 3))) sNext : EvS) = BB
    have gw := fun τ => lwhole_w gd τ
    cases gd with
    | non =>
      wtm_at "ev_st"
      rw [← hR]
      rw [tv_f (fun ⟨i, e⟩ => by cases e)] at gw
      wtm_at "ev_st"
      refine wpC_of (gw _) ?_
      wtm_at "ev_st"
      exact fin _ _ _ _ _ _ (hT.mono (by unfold cS; omega))
    | bl x =>
      wtm_at "ev_st"
      rw [← hR]
      rw [tv_f (fun ⟨i, e⟩ => by cases e)] at gw
      wtm_at "ev_st"
      refine wpC_of (gw _) ?_
      wtm_at "ev_st"
      exact fin _ _ _ _ _ _ (hT.mono (by unfold cS; omega))
    | int i =>
      wtm_at "ev_st"
      rw [← hR]
      rw [tv_t ⟨i, rfl⟩] at gw
      wtm_at "ev_st"
      refine wpC_of (gw _) ?_
      wtm_at "ev_st"
      refine dr hT (b := b + 120) (by unfold cS; omega) (by omega) (by omega) fun x1 t1 a0 a1 T1 => ?_
      wtm_at "ev_st"
      refine k_d (fun e => ?_) (fun e => ?_)
      · wtm_at "ev_st"
        refine dr T1 (b := b) (by omega) (by omega) (by omega) fun x2 t2 b0 b1 T2 => ?_
        wtm_at "ev_st"
        refine k_any (ds := [.int 1, .int (-1), .int 2, .int (-2), .int 9, .int 1000]) (.inr (.inr rfl)) b0 (by show x2 < ((6 : Nat) : Int); omega) fun x hx => ?_
        obtain ⟨j, rfl⟩ : ∃ j, x = .int j := by
          simp at hx
          rcases hx with rfl | rfl | rfl | rfl | rfl | rfl <;> exact ⟨_, rfl⟩
        wtm_at "ev_st"
        exact q _ t2 (.int _) T2
      · wtm_at "ev_st"
        exact fin _ _ _ _ _ _ (T1.mono (by omega))
    | str z hz =>
      wtm_at "ev_st"
      rw [← hR]
      rw [tv_f (fun ⟨i, e⟩ => by cases e)] at gw
      wtm_at "ev_st"
      refine wpC_of (gw _) ?_
      wtm_at "ev_st"
      refine dr hT (b := b + 120) (by unfold cS; omega) (by omega) (by omega) fun x1 t1 a0 a1 T1 => ?_
      wtm_at "ev_st"
      refine k_d (fun e => ?_) (fun e => ?_)
      · wtm_at "ev_st"
        refine k_lens (by omega) ?_
        wtm_at "ev_st"
        refine dr T1 (b := b + 1) (by omega) (by omega) (by omega) fun x2 t2 b0 b1 T2 => ?_
        wtm_at "ev_st"
        refine k_sls (by omega) ?_
        wtm_at "ev_st"
        refine dr T2 (b := b) (by omega) (by omega) (by omega) fun x3 t3 d0 d1 T3 => ?_
        wtm_at "ev_st"
        refine k_any (ds := [.str (PySem.Str.ofString " "), .str (PySem.Str.ofString "z"), .str (PySem.Str.ofString "A"), .str (PySem.Str.ofString "|"), .str (PySem.Str.ofString "abcdefgh"), .str (PySem.Str.ofString "")]) (.inr (.inr rfl)) d0 (by show x3 < ((6 : Nat) : Int); omega) fun x hx => ?_
        obtain ⟨j, rfl, hj⟩ : ∃ j : Str, x = .str j ∧ j.length ≤ 20 := by
          simp at hx
          rcases hx with rfl | rfl | rfl | rfl | rfl | rfl <;> exact ⟨_, rfl, by decide +kernel⟩
        have l1 := cutS_len z none (some x2)
        have l2 := cutS_len z (some x2) none
        have l3 := cutS_two (z := z) (x := x2) (by omega) (by omega)
        refine k_strs (by dsimp only; omega) ?_
        wtm_at "ev_st"
        refine k_sls (by omega) ?_
        wtm_at "ev_st"
        refine k_strs (by rw [Str.length_append]; dsimp only; omega) ?_
        wtm_at "ev_st"
        exact q _ t3 (.str _ (by rw [Str.length_append, Str.length_append]; dsimp only; omega)) T3
      · wtm_at "ev_st"
        exact fin _ _ _ _ _ _ (T1.mono (by omega))
    | @tup n' ds hl hd =>
      have rest : ∀ t, TpOk (b + 100) t → wpS RR [.tp, .d (.tuple ds), .no, .no, .no, .no] t (runK Q) := fun t T => seqR ds t T (fun t T => q _ t (.lst (by omega) fun x hx => (hd x hx).mono (by omega) (by omega)) T) (fun t T => q _ t (.tup (by omega) fun x hx => (hd x hx).mono (by omega) (by omega)) T) (.inr rfl)
      have back : ∀ (xs : List D) (k co : Int) (t : Tp), xs.length ≤ 100 + (c + 1) → (∀ x ∈ xs, Gd (c + 1) (n' + 4) x) → TpOk (b + 3) t → wpS BB [.tp, .d (.tuple ds), .d (.int k), .own xs, .d (.int co), .no] t (seqK RR (runK Q)) := by
        intro xs k co t h1 h2 T
        rw [← hB]
        wtm_at "ev_st"
        exact q _ t (.tup h1 h2) (T.mono (by omega))
      wtm_at "ev_st"
      refine k_d (fun c1 => ?_) (fun c1 => ?_)
      · wtm_at "ev_st"
        refine dr hT (b := b + (6 * n' + 135)) (by unfold cS; omega) (by omega) (by omega) fun x1 t1 a0 a1 T1 => ?_
        wtm_at "ev_st"
        refine k_d (fun c2 => ?_) (fun c2 => ?_)
        · wtm_at "ev_st"
          refine dr T1 (b := b + (6 * n' + 134)) (by omega) (by omega) (by omega) fun k t2 k0 k1 T2 => ?_
          wtm_at "ev_st"
          refine dr T2 (b := b + (6 * n' + 133)) (by omega) (by omega) (by omega) fun co t3 co0 co1 T3 => ?_
          wtm_at "ev_st"
          have hup : ∀ x ∈ ds, Gd (c + 1) (n' + 4) x := fun x hx => (hd x hx).mono (by omega) (by omega)
          refine k_d (fun c3 => ?_) (fun c3 => ?_)
          · wtm_at "ev_st"
            refine k_anyo (ds := ds) (by wtm_at "ev_ga") k0 k1 fun x hx => ?_
            wtm_at "ev_st"
            refine spoilt_w n' f (b := b + 3) (by omega) (hd x hx) hc (T3.mono (by unfold cS; omega)) fun y t4 gy T4 => ?_
            wtm_at "ev_st"
            refine k_subo (ds := ds) (by wtm_at "ev_ga") k0 k1 (by wtm_at "ev_ga") ?_
            wtm_at "ev_st"
            refine back _ _ _ t4 (by rw [List.length_set]; omega) (fun z hz => ?_) T4
            rcases List.mem_or_eq_of_mem_set hz with q | q
            · exact hup z q
            · subst q; exact gy
          · wtm_at "ev_st"
            refine k_eq (fun c4 => ?_) (fun c4 => ?_)
            · wtm_at "ev_st"
              refine k_popd (ds := ds) (by wtm_at "ev_ga") k0 k1 (by omega) (by wtm_at "ev_ga") (by wtm_at "ev_ga") ?_
              wtm_at "ev_st"
              refine back _ _ _ t3 (by rw [List.length_eraseIdx]; split <;> omega) (fun z hz => hup z (List.mem_of_mem_eraseIdx hz)) (T3.mono (by omega))
            · wtm_at "ev_st"
              refine k_eq (fun c5 => ?_) (fun c5 => ?_)
              · wtm_at "ev_st"

                refine dr T3 (b := b + 3) (by omega) (by omega) (by omega) fun r t4 r0 r1 T4 => ?_
                wtm_at "ev_st"
                refine k_anyo (ds := ds) (by wtm_at "ev_ga") r0 r1 fun x hx => ?_
                wtm_at "ev_st"
                refine k_insd (by omega) k0 (by omega) (by wtm_at "ev_ga") ?_
                wtm_at "ev_st"
                refine back _ _ _ t4 (by simp; omega) (fun z hz => ?_) T4
                rcases ins_mem hz with q | q
                · exact hup z q
                · subst q; exact hup z hx
              · wtm_at "ev_st"
                refine k_eq (fun c6 => ?_) (fun c6 => ?_)
                · wtm_at "ev_st"

                  refine back _ _ _ t3 (by rw [List.length_reverse]; omega) (fun z hz => hup z (List.mem_reverse.mp hz)) (T3.mono (by omega))
                · wtm_at "ev_st"
                  refine any_w 1 30 (b := b + 3) (by omega) (T3.mono (by have : cA 1 = 20 := rfl; omega)) fun x t4 gx T4 => ?_
                  wtm_at "ev_st"
                  refine k_insd (by omega) k0 (by omega) (by wtm_at "ev_ga") ?_
                  wtm_at "ev_st"
                  refine back _ _ _ t4 (by simp; omega) (fun z hz => ?_) T4
                  rcases ins_mem hz with q | q
                  · exact hup z q
                  · subst q; exact gx.mono (by omega) (by omega)
        · wtm_at "ev_st"
          exact rest _ (T1.mono (by omega))
      · wtm_at "ev_st"
        exact rest _ (hT.mono (by unfold cS; omega))
    | @lst n' ds hl hd =>
      have rest : ∀ t, TpOk (b + 100) t → wpS RR [.tp, .d (.list ds), .no, .no, .no, .no] t (runK Q) := fun t T => seqR ds t T (fun t T => q _ t (.lst (by omega) fun x hx => (hd x hx).mono (by omega) (by omega)) T) (fun t T => q _ t (.tup (by omega) fun x hx => (hd x hx).mono (by omega) (by omega)) T) (.inl rfl)
      have back : ∀ (xs : List D) (k co : Int) (t : Tp), xs.length ≤ 100 + (c + 1) → (∀ x ∈ xs, Gd (c + 1) (n' + 4) x) → TpOk (b + 3) t → wpS BB [.tp, .d (.list ds), .d (.int k), .own xs, .d (.int co), .no] t (seqK RR (runK Q)) := by
        intro xs k co t h1 h2 T
        rw [← hB]
        wtm_at "ev_st"
        exact q _ t (.lst h1 h2) (T.mono (by omega))
      wtm_at "ev_st"
      refine k_d (fun c1 => ?_) (fun c1 => ?_)
      · wtm_at "ev_st"
        refine dr hT (b := b + (6 * n' + 135)) (by unfold cS; omega) (by omega) (by omega) fun x1 t1 a0 a1 T1 => ?_
        wtm_at "ev_st"
        refine k_d (fun c2 => ?_) (fun c2 => ?_)
        · wtm_at "ev_st"
          refine dr T1 (b := b + (6 * n' + 134)) (by omega) (by omega) (by omega) fun k t2 k0 k1 T2 => ?_
          wtm_at "ev_st"
          refine dr T2 (b := b + (6 * n' + 133)) (by omega) (by omega) (by omega) fun co t3 co0 co1 T3 => ?_
          wtm_at "ev_st"
          have hup : ∀ x ∈ ds, Gd (c + 1) (n' + 4) x := fun x hx => (hd x hx).mono (by omega) (by omega)
          refine k_d (fun c3 => ?_) (fun c3 => ?_)
          · wtm_at "ev_st"
            refine k_anyo (ds := ds) (by wtm_at "ev_ga") k0 k1 fun x hx => ?_
            wtm_at "ev_st"
            refine spoilt_w n' f (b := b + 3) (by omega) (hd x hx) hc (T3.mono (by unfold cS; omega)) fun y t4 gy T4 => ?_
            wtm_at "ev_st"
            refine k_subo (ds := ds) (by wtm_at "ev_ga") k0 k1 (by wtm_at "ev_ga") ?_
            wtm_at "ev_st"
            refine back _ _ _ t4 (by rw [List.length_set]; omega) (fun z hz => ?_) T4
            rcases List.mem_or_eq_of_mem_set hz with q | q
            · exact hup z q
            · subst q; exact gy
          · wtm_at "ev_st"
            refine k_eq (fun c4 => ?_) (fun c4 => ?_)
            · wtm_at "ev_st"
              refine k_popd (ds := ds) (by wtm_at "ev_ga") k0 k1 (by omega) (by wtm_at "ev_ga") (by wtm_at "ev_ga") ?_
              wtm_at "ev_st"
              refine back _ _ _ t3 (by rw [List.length_eraseIdx]; split <;> omega) (fun z hz => hup z (List.mem_of_mem_eraseIdx hz)) (T3.mono (by omega))
            · wtm_at "ev_st"
              refine k_eq (fun c5 => ?_) (fun c5 => ?_)
              · wtm_at "ev_st"

                refine dr T3 (b := b + 3) (by omega) (by omega) (by omega) fun r t4 r0 r1 T4 => ?_
                wtm_at "ev_st"
                refine k_anyo (ds := ds) (by wtm_at "ev_ga") r0 r1 fun x hx => ?_
                wtm_at "ev_st"
                refine k_insd (by omega) k0 (by omega) (by wtm_at "ev_ga") ?_
                wtm_at "ev_st"
                refine back _ _ _ t4 (by simp; omega) (fun z hz => ?_) T4
                rcases ins_mem hz with q | q
                · exact hup z q
                · subst q; exact hup z hx
              · wtm_at "ev_st"
                refine k_eq (fun c6 => ?_) (fun c6 => ?_)
                · wtm_at "ev_st"

                  refine back _ _ _ t3 (by rw [List.length_reverse]; omega) (fun z hz => hup z (List.mem_reverse.mp hz)) (T3.mono (by omega))
                · wtm_at "ev_st"
                  refine any_w 1 30 (b := b + 3) (by omega) (T3.mono (by have : cA 1 = 20 := rfl; omega)) fun x t4 gx T4 => ?_
                  wtm_at "ev_st"
                  refine k_insd (by omega) k0 (by omega) (by wtm_at "ev_ga") ?_
                  wtm_at "ev_st"
                  refine back _ _ _ t4 (by simp; omega) (fun z hz => ?_) T4
                  rcases ins_mem hz with q | q
                  · exact hup z q
                  · subst q; exact gx.mono (by omega) (by omega)
        · wtm_at "ev_st"
          exact rest _ (T1.mono (by omega))
      · wtm_at "ev_st"
        exact rest _ (hT.mono (by unfold cS; omega))

open PySem PySem.Spec PyProof.Rows L2
open PySem.W (minD maxD dataLt dataLe dataLt_ii alike dataLt_int)
theorem tpOk1 {ns : List Int} (h : ns.length ≤ 63) : TpOk 100000 [.list (ns.map PyData.int), .int 0, .int 0] := ⟨ns, 0, 0, rfl, h, by decide, by decide⟩
theorem gd_pt {c n : Nat} (p : Pt) : Gd c (n + 1) (ptD p) := .tup (by simp; omega) fun d hd => by
  simp at hd
  rcases hd with rfl | rfl <;> exact .int _
theorem gd_pr {c n : Nat} (p : Pr) : Gd c (n + 1) (prD p) := .tup (by simp; omega) fun d hd => by
  simp at hd
  rcases hd with rfl | rfl <;> exact .int _
theorem gd_2 {c n : Nat} {a b : D} (ha : Gd c n a) (hb : Gd c n b) : Gd c (n + 1) (.tuple [a, b]) := .tup (by simp; omega) fun d hd => by
  simp at hd
  rcases hd with rfl | rfl <;> assumption
theorem gd_st {c n : Nat} (s : Stk) : Gd c (n + 2) (stD s) := gd_2 (gd_pt _) (gd_pt _)
theorem gd_sts {c n : Nat} {ss : List Stk} (h : ss.length ≤ 10) : Gd c (n + 3) (.tuple (ss.map stD)) := .tup (by simp; omega) fun d hd => by
  obtain ⟨s, _, rfl⟩ := List.mem_map.mp hd
  exact gd_st s
theorem gd_prs {c n : Nat} {fs : List Pr} (h : fs.length ≤ 60) : Gd c (n + 2) (.tuple (fs.map prD)) := .tup (by simp; omega) fun d hd => by
  obtain ⟨s, _, rfl⟩ := List.mem_map.mp hd
  exact gd_pr s
theorem k_catl {env : En} {τ : Tp} {i : Nat} {a b : List D} {Q : W → Prop} (hg : GetAt i env (.own a)) (h : a.length + b.length ≤ 1000000) (q : Q (.new (a ++ b))) : wpO (gAdd env τ (.loc i) (.new b)) Q := by
  have e : gAdd env τ (.loc i) (.new b) = gCat env τ (.loc i) (.new b) := rfl
  have e2 : gCat env τ (.loc i) (.new b) = some (.new (a ++ b)) := by
    have : seqOf env τ (.loc i) = some (true, a) := by
      show (match env[i]? with | some (.own ds) => some (true, ds) | _ => none) = some (true, a)
      rw [hg.eq]
    unfold gCat
    rw [this]
    dsimp only [seqOf]
    have := line_big
    exact if_pos (by omega)
  rw [e, e2]
  exact wpO_of rfl q
theorem gd_0 {c n : Nat} : Gd c (n + 1) (.tuple []) := .tup (by simp) fun d hd => by cases hd
theorem gd_1 {c n : Nat} {a : D} (ha : Gd c n a) : Gd c (n + 1) (.tuple [a]) := .tup (by simp; omega) fun d hd => by
  simp at hd
  subst hd
  exact ha
theorem gd_3 {c n : Nat} {a b e : D} (ha : Gd c n a) (hb : Gd c n b) (he : Gd c n e) : Gd c (n + 1) (.tuple [a, b, e]) := .tup (by simp; omega) fun d hd => by
  simp at hd
  rcases hd with rfl | rfl | rfl <;> assumption
theorem gd_l2 {c n : Nat} {a b : D} (ha : Gd c n a) (hb : Gd c n b) : Gd c (n + 1) (.list [a, b]) := .lst (by simp; omega) fun d hd => by
  simp at hd
  rcases hd with rfl | rfl <;> assumption
theorem gd_lst {c n : Nat} {ds : List D} (h : Gd c (n + 1) (.tuple ds)) : Gd c (n + 1) (.list ds) := by
  cases h with
  | tup h1 h2 => exact .lst h1 h2
theorem gd_sub {c n : Nat} {ds es : List D} (h : Gd c (n + 1) (.tuple ds)) (hs : ∀ d ∈ es, d ∈ ds) (hl : es.length ≤ 100) : Gd c (n + 1) (.tuple es) := by
  cases h with
  | tup h1 h2 => exact .tup (by omega) fun d hd => h2 d (hs d hd)
theorem gd_app {c n : Nat} {ds es : List D} (h : Gd c (n + 1) (.tuple ds)) (g : Gd c (n + 1) (.tuple es)) (hl : ds.length + es.length ≤ 100) : Gd c (n + 1) (.tuple (ds ++ es)) := by
  cases h with
  | tup h1 h2 =>
    cases g with
    | tup g1 g2 =>
      refine .tup (by simp; omega) fun d hd => ?_
      rcases List.mem_append.mp hd with q | q
      · exact h2 d q
      · exact g2 d q
theorem cut_mem {α : Type} {xs : List α} {lo hi : Option Int} {x : α} (h : x ∈ cutL xs lo hi) : x ∈ xs := List.mem_of_mem_drop (List.mem_of_mem_take h)
theorem cut_len {α : Type} (xs : List α) (lo hi : Option Int) : (cutL xs lo hi).length ≤ xs.length := by
  unfold cutL
  simp
  omega
theorem like_bool (n : Nat) (b : Bool) (τ : Tp) : S__law_like (n + 1) [.d (.bool b), .d (.bool b)] τ = some (.bool true, τ) := by
  refine wpC_eq ?_
  unfold S__law_like
  wtm_at "ev_st"
  refine ⟨?_, rfl⟩
  cases b <;> rfl
theorem k_last {env : En} {τ : Tp} {i : Nat} {th : List D} {y : D} {Q : W → Prop} (hg : GetAt i env (.own (th ++ [y]))) (q : Q (.d y)) : wpO (gIx env τ (.loc i) (.d (.int (-1)))) Q := by
  have e2 : gIx env τ (.loc i) (.d (.int (-1))) = gIx env τ (.new (th ++ [y])) (.d (.int (-1))) := by
    rw [g_ix, g_ix]
    have : seqOf env τ (.loc i) = seqOf env τ (.new (th ++ [y])) := by
      show (match env[i]? with | some (.own ds) => some (true, ds) | _ => none) = some (true, th ++ [y])
      rw [hg.eq]
    rw [this]
  rw [e2, g_ix]
  show wpO ((atI (th ++ [y]) (-1)).map W.d) Q
  have : atI (th ++ [y]) (-1) = some y := atI_last th y
  rw [this]
  exact wpO_of rfl q
theorem law01 (ns : List Int) (hl : ns.length ≤ 63) : ∃ τ, lawRun S_rest01 N_law01 ns = some (.rt (.bool true) τ) := by
  have main : wpS S_rest01 (.no :: .tp :: List.replicate 10 .no) [.list (ns.map PyData.int), .int 0, .int 0] fun o => ∃ τ, o = .rt (.bool true) τ := by
    unfold S_rest01
    generalize hL : (sFor (iSeq (eVar 7)) _ _ : EvS) = LL
    generalize hK : (sFor (iRng (aCons (eCon (.int (8))) aNil)) _ _ : EvS) = KK
    generalize hB : sSeq (sSet false 3 _) _ = B
    wtm_at "ev_st"
    refine k_forR (fun i e t => TpOk (100000 - 10000 * i) t ∧ ∃ x2 x3 x4 x5 x6 x7 x8 x9 xa xb, e = [.no, .tp, x2, x3, x4, x5, x6, x7, x8, x9, xa, xb]) ?_ ?_ ⟨tpOk1 hl, _, _, _, _, _, _, _, _, _, _, rfl⟩
    · rintro i e t hi ⟨T, x2, x3, x4, x5, x6, x7, x8, x9, xa, xb, rfl⟩
      rw [← hB]
      wtm_at "ev_st"
      refine pile_w (m := 5) (b := 100000 - 10000 * i - 300) (T.mono (by omega)) (by decide) (by decide) fun ss os t2 ok T2 => ?_
      have hl0 : 0 < ss.length := by
        have := ok.ne
        cases ss with
        | nil => exact (this rfl).elim
        | cons a r => simp
      have hl5 := ok.len
      have hol := ok.oslen (by decide)
      wtm_at "ev_st"
      refine k_ixt (x := stD (ss.getD 0 dS)) (by omega) (at_stk hl0) ?_
      wtm_at "ev_st"
      have ml1 : (ss.map stD).length = ss.length := List.length_map ..
      have ml2 : (os.map prD).length = os.length := List.length_map ..
      refine k_catt (by simp; omega) ?_
      wtm_at "ev_st"
      refine k_catt (by simp [cutL]; omega) ?_
      wtm_at "ev_st"
      refine k_catt (by simp; omega) ?_
      wtm_at "ev_st"
      refine k_appd (by simp) (by wtm_at "ev_ga") ?_
      wtm_at "ev_st"
      refine any_w 3 30 (b := 100000 - 10000 * i - 300 - 400) (by omega) (T2.mono (by have : cA 3 = 340 := rfl; omega)) fun da t3 gda T3 => ?_
      wtm_at "ev_st"
      refine k_appd (by simp) (by wtm_at "ev_ga") ?_
      wtm_at "ev_st"
      refine k_appd (by simp) (by wtm_at "ev_ga") ?_
      wtm_at "ev_st"
      refine k_appd (by simp) (by wtm_at "ev_ga") ?_
      wtm_at "ev_st"
      refine (lcw_of (lc_map (xs := List.range 6) (f := fun k : Nat => PyData.int (0 + (k : Int))) (g := fun k => stD ((0 + (k : Int), 0), (0 + (k : Int), 5))) (p := fun _ => true) fun k hk => ?_) ?_)
      · wtm_at "ev_st"
        refine ⟨rfl, rfl, fun _ => ?_⟩
        wtm_at "ev_st"
        exact ⟨rfl, rfl⟩
      rw [flt_true]
      wtm_at "ev_st"
      refine k_appd (by simp) (by wtm_at "ev_ga") ?_
      wtm_at "ev_st"
      refine k_lcK rfl (by simp; omega) (lcw_of (lc_map (f := prD) (g := fun p => prD (p.2, p.1)) (p := fun _ => true) fun p hp => ?_) ?_)
      · wtm_at "ev_st"
        refine ⟨rfl, rfl, fun _ => ?_⟩
        wtm_at "ev_st"
        exact ⟨rfl, rfl⟩
      rw [flt_true, show (List.map (fun p : Pr => prD (p.2, p.1)) os) = (os.map fun p => (p.2, p.1)).map prD from by rw [List.map_map]; rfl]
      wtm_at "ev_st"
      refine k_sort (l := os.map fun p => (p.2, p.1)) rfl ?_
      wtm_at "ev_st"
      refine k_appd (by simp) (by wtm_at "ev_ga") ?_
      wtm_at "ev_st"
      have gp : Gd 0 4 (pileD ss os) := gd_2 (gd_sts (by omega)) (gd_prs (by omega))
      have gs : Gd 0 3 (.tuple (ss.map stD)) := gd_sts (by omega)
      have go : Gd 0 3 (.tuple (os.map prD)) := gd_prs (by omega)
      have fin : ∀ (R : Out → Prop) (th : List D) (t : Tp) (x8 x9 xa xb : Sl), th.length ≤ 20 → (∀ d ∈ th, Gd 0 5 d) → TpOk (100000 - 10000 * i - 300 - 400) t →
          (∀ t' y7 y8 y9 ya yb, TpOk (100000 - 10000 * (i + 1)) t' → R (.nx [.no, .tp, .d (.int (0 + (i : Int))), .d (pileD ss os), .d (.tuple (ss.map stD)), .d (.tuple (os.map prD)), .d (stD (ss.getD 0 dS)), y7, y8, y9, ya, yb] t')) →
          wpS KK [.no, .tp, .d (.int (0 + (i : Int))), .d (pileD ss os), .d (.tuple (ss.map stD)), .d (.tuple (os.map prD)), .d (stD (ss.getD 0 dS)), .own th, x8, x9, xa, xb] t (seqK (sSeq LL sNext) R) := by
        intro R th t x8 x9 xa xb l0 hth T q
        rw [← hK]
        generalize hKB : (sSeq (sApp 7 _) _ : EvS) = KB
        wtm_at "ev_st"
        refine k_forR (fun k e t => TpOk (100000 - 10000 * i - 700 - 1000 * k) t ∧ ∃ th x8, th.length ≤ 20 + 2 * k ∧ (∀ d ∈ th, Gd 2 20 d) ∧ e = [.no, .tp, .d (.int (0 + (i : Int))), .d (pileD ss os), .d (.tuple (ss.map stD)), .d (.tuple (os.map prD)), .d (stD (ss.getD 0 dS)), .own th, x8, x9, xa, xb]) ?_ ?_ ⟨T.mono (by omega), th, x8, by omega, fun d hd => (hth d hd).mono (by omega) (by omega), rfl⟩
        · rintro k e t hk ⟨T, th, x8, l1, hth, rfl⟩
          have hk : k < 8 := hk
          rw [← hKB]
          wtm_at "ev_st"
          refine spoilt_w 4 30 (b := 100000 - 10000 * i - 700 - 1000 * k - 500) (by omega) gp (by omega) (T.mono (by have : cS 4 = 154 := rfl; omega)) fun y t1 gy T1 => ?_
          wtm_at "ev_st"
          refine k_appd (by omega) (by wtm_at "ev_ga") ?_
          wtm_at "ev_st"
          refine k_last (by wtm_at "ev_ga") ?_
          wtm_at "ev_st"
          refine spoilt_w 8 30 (b := 100000 - 10000 * i - 700 - 1000 * (k + 1)) (by omega) gy (by omega) (T1.mono (by have : cS 8 = 178 := rfl; omega)) fun z t2 gz T2 => ?_
          wtm_at "ev_st"
          refine k_appd (by simp; omega) (by wtm_at "ev_ga") ?_
          wtm_at "ev_st"
          refine ⟨T2, _, _, ?_, ?_, rfl⟩
          · simp
            omega
          · intro d hd
            rcases List.mem_append.mp hd with h | h
            · rcases List.mem_append.mp h with h | h
              · exact hth d h
              · simp at h; subst h; exact gy.mono (by omega) (by omega)
            · simp at h; subst h; exact gz.mono (by omega) (by omega)
        · rintro e t ⟨T, th, x8, l1, hth, rfl⟩
          have T : TpOk (100000 - 10000 * (i + 1)) t := T.mono (by show _ ≤ 100000 - 10000 * i - 700 - 1000 * 8; omega)
          wtm_at "ev_st"
          rw [← hL]
          generalize hLB : (sSeq (sIf (f1 gNot _) _ _) _ : EvS) = LB
          wtm_at "ev_st"
          refine k_forI (fun j e t' => t' = t ∧ ∃ x9, e = [.no, .tp, .d (.int (0 + (i : Int))), .d (pileD ss os), .d (.tuple (ss.map stD)), .d (.tuple (os.map prD)), .d (stD (ss.getD 0 dS)), .d (.list th), x8, x9, xa, xb]) ?_ ?_ ⟨rfl, _, rfl⟩
          · rintro j d e t' hj ⟨rfl, x9, rfl⟩
            have gd := hth d (List.mem_of_getElem? hj)
            rw [← hLB]
            wtm_at "ev_st"
            refine wpC_of (pile_is_w gd (by omega) _) ?_
            wtm_at "ev_st"
            refine wpC_of (lpile_is_w gd (by omega) _) ?_
            wtm_at "ev_st"
            refine wpC_of (like_bool 29 _ _) ?_
            wtm_at "ev_st"
            exact ⟨rfl, _, rfl⟩
          · rintro e t' ⟨rfl, x9, rfl⟩
            wtm_at "ev_st"
            exact q _ _ _ _ _ _ T
      refine fin _ _ t3 _ _ _ _ (by simp) ?_ (T3.mono (by omega)) ?_
      · simp only [List.forall_mem_append, List.forall_mem_cons]
        have gs4 : Gd 0 4 (.tuple (ss.map stD)) := gs.mono (Nat.le_refl _) (by omega)
        have go4 : Gd 0 4 (.tuple (os.map prD)) := go.mono (Nat.le_refl _) (by omega)
        have s1 : Gd 0 3 (.tuple (((List.range 6).map fun k : Nat => ((0 + (k : Int), 0), (0 + (k : Int), 5))).map stD)) := gd_sts (by simp)
        rw [List.map_map] at s1
        have l6 : (os.map fun p : Pr => (p.2, p.1)).length ≤ 60 := by simp; omega
        have g6 : Gd 0 4 (.tuple ((srt (os.map fun p => (p.2, p.1))).map prD)) := gd_prs (by rw [(srt_perm _).length_eq]; exact l6)
        have c1 := cut_len (os.map prD) (some 1) none
        have c2 := cut_len (os.map prD) none (some 1)
        refine ⟨⟨⟨⟨⟨⟨⟨⟨⟨?_, ?_, ?_, ?_, ?_, ?_⟩, ?_, ?_, ?_, ?_⟩, ?_, ?_⟩, ?_, ?_, ?_, ?_⟩, ?_, ?_⟩, ?_, ?_⟩, ?_, ?_⟩, ?_, ?_⟩, ?_, ?_⟩
        all_goals first
          | exact fun x hx => (by cases hx)
          | exact gp.mono (Nat.le_refl _) (by omega)
          | exact gd_l2 gs4 go4
          | exact gd_2 gs4 (gd_lst go4)
          | exact gd_2 (gd_lst gs4) go4
          | exact gd_2 gs4 (gd_sub go4 (fun d hd => cut_mem hd) (by omega))
          | exact gd_2 (gd_app gs4 (gd_1 (gd_st _)) (by simp; omega)) go4
          | exact gd_2 gs4 (gd_sub go4 (fun d hd => List.mem_reverse.mp hd) (by simp; omega))
          | exact gd_2 gs4 (gd_app go4 (gd_sub go4 (fun d hd => cut_mem hd) (by omega)) (by omega))
          | exact gd_2 (gd_app gs4 (gd_1 (gd_2 (gd_pt _) (gd_2 (.int _) (.int _)))) (by simp; omega)) go4
          | exact gd_2 gd_0 gd_0
          | exact gda.mono (Nat.le_refl _) (by omega)
          | exact gd_1 (gd_2 (gd_2 (.int _) (.int _)) (gd_2 (.int _) (.int _)))
          | exact gd_2 (gd_2 (gd_2 (gd_2 (.int _) (.int _)) (gd_2 (.int _) (.int _))) (gd_2 (gd_2 (.int _) (.int _)) (gd_2 (.int _) (.int _)))) gd_0
          | exact gd_2 (gd_2 (gd_2 (.int _) (.int _)) (gd_2 (.int _) (.int _))) (gd_2 (gd_2 (.int _) (.int _)) (gd_2 (.int _) (.int _)))
          | exact gd_2 (gd_3 (gd_2 (gd_2 (.int _) (.int _)) (gd_2 (.int _) (.int _))) (gd_2 (gd_2 (.int _) (.int _)) (gd_2 (.int _) (.int _))) (gd_2 (gd_2 (.int _) (.int _)) (gd_2 (.int _) (.int _)))) gd_0
          | exact gd_2 (s1.mono (Nat.le_refl _) (by omega)) gd_0
          | exact gd_2 gs4 g6
      · intro t' y7 y8 y9 ya yb T'
        wtm_at "ev_st"
        exact ⟨T', _, _, _, _, _, _, _, _, _, _, rfl⟩
    · rintro e t ⟨T, x2, x3, x4, x5, x6, x7, x8, x9, xa, xb, rfl⟩
      wtm_at "ev_st"
      exact ⟨_, rfl⟩
  rw [wpS_un] at main
  obtain ⟨o, e, τ, rfl⟩ := wpO_ex main
  exact ⟨τ, e⟩

end Ev
namespace K01
open Ev PySem PySem.Spec PyProof.Rows L2
def top (i : Nat) : Stmt := PySem.Challenge.pw_spillikins_k01_piles_known.main.body.getD i (.Pass ⟨0, 0, 0, 0⟩)
structure Top (K : PySem.W.Frag) (mg : Str → Option Value) : Prop where
  d1 : DefAt K mg "divisor" (top 1)
  d2 : DefAt K mg "fraction" (top 2)
  d3 : DefAt K mg "is_whole" (top 3)
  d7 : DefAt K mg "is_point" (top 7)
  d8 : DefAt K mg "is_stick" (top 8)
  d9 : DefAt K mg "way" (top 9)
  d10 : DefAt K mg "turn" (top 10)
  d11 : DefAt K mg "meeting" (top 11)
  d12 : DefAt K mg "on_one_line" (top 12)
  d13 : DefAt K mg "crossing" (top 13)
  d14 : DefAt K mg "are_sticks" (top 14)
  d15 : DefAt K mg "is_pair" (top 15)
  d16 : DefAt K mg "is_pile" (top 16)
  d17 : DefAt K mg "crossing_pairs" (top 17)
  d19 : DefAt K mg "_law_draw" (top 19)
  d20 : DefAt K mg "_law_whole" (top 20)
  d21 : DefAt K mg "_law_within" (top 21)
  d22 : DefAt K mg "_law_like" (top 22)
  d23 : DefAt K mg "_law_any_order" (top 23)
  d24 : DefAt K mg "_law_spoilt" (top 24)
  d25 : DefAt K mg "_law_rises" (top 25)
  d26 : DefAt K mg "_law_any" (top 26)
  d27 : DefAt K mg "_law_side" (top 27)
  d28 : DefAt K mg "_law_sides" (top 28)
  d29 : DefAt K mg "_law_meet" (top 29)
  d30 : DefAt K mg "_law_fan" (top 30)
  d31 : DefAt K mg "_law_sticks" (top 31)
  d32 : DefAt K mg "_law_pairs_of" (top 32)
  d33 : DefAt K mg "_law_over" (top 33)
  d34 : DefAt K mg "_law_pile" (top 34)
  d35 : DefAt K mg "_law_is_pile" (top 35)
  d36 : DefAt K mg "law" (top 36)
  blt : ∀ x, x ∈ bltNames → mg x = none
  c_MOST_STICKS : ConAt K mg "MOST_STICKS" (.int 5)
  c_FAR : ConAt K mg "FAR" (.int 12)
def gls : List (Str × D) := [("MOST_STICKS", .int 5), ("FAR", .int 12)]
section
variable {P : Program} {w : World} {K : PySem.W.Frag} {mg : Str → Option Value} {base : Heap}
theorem gls_ok (Z : Top K mg) : GlOk K mg gls := (gl_cons Z.c_MOST_STICKS (gl_cons Z.c_FAR gl_nil))
theorem sc_divisor : FnScope ["one", "other"] ["one", "other"] (defScope (top 1)) := ⟨rfl, rfl, rfl, by decide +kernel, rfl, by decide +kernel, by decide +kernel⟩
theorem b_divisor (Z : Top K mg) : FnB P w K mg base 1 "divisor" 2 S_divisor :=
  fnB_of (k := 0) (fns := []) (gl := gls) (ownL []) Z.d1 (Tab.nil (k := 0) Z.blt (gls_ok Z)) sc_divisor (fun f fd F => F.binds (ps := ["one", "other"]) fun _ _ _ _ _ _ us hl => match us, hl with | [_, _], _ => rfl) rfl (by with_unfolding_all rfl)
theorem sc_is_whole : FnScope ["thing"] ["thing"] (defScope (top 3)) := ⟨rfl, rfl, rfl, by decide +kernel, rfl, by decide +kernel, by decide +kernel⟩
theorem b_is_whole (Z : Top K mg) : FnB P w K mg base 1 "is_whole" 1 S_is_whole :=
  fnB_of (k := 0) (fns := []) (gl := gls) (ownL []) Z.d3 (Tab.nil (k := 0) Z.blt (gls_ok Z)) sc_is_whole (fun f fd F => F.binds (ps := ["thing"]) fun _ _ _ _ _ _ us hl => match us, hl with | [_], _ => rfl) rfl (by with_unfolding_all rfl)
theorem sc_way : FnScope ["one", "other"] ["one", "other"] (defScope (top 9)) := ⟨rfl, rfl, rfl, by decide +kernel, rfl, by decide +kernel, by decide +kernel⟩
theorem b_way (Z : Top K mg) : FnB P w K mg base 1 "way" 2 S_way :=
  fnB_of (k := 0) (fns := []) (gl := gls) (ownL []) Z.d9 (Tab.nil (k := 0) Z.blt (gls_ok Z)) sc_way (fun f fd F => F.binds (ps := ["one", "other"]) fun _ _ _ _ _ _ us hl => match us, hl with | [_, _], _ => rfl) rfl (by with_unfolding_all rfl)
theorem sc_turn : FnScope ["one", "other"] ["one", "other"] (defScope (top 10)) := ⟨rfl, rfl, rfl, by decide +kernel, rfl, by decide +kernel, by decide +kernel⟩
theorem b_turn (Z : Top K mg) : FnB P w K mg base 1 "turn" 2 S_turn :=
  fnB_of (k := 0) (fns := []) (gl := gls) (ownL []) Z.d10 (Tab.nil (k := 0) Z.blt (gls_ok Z)) sc_turn (fun f fd F => F.binds (ps := ["one", "other"]) fun _ _ _ _ _ _ us hl => match us, hl with | [_, _], _ => rfl) rfl (by with_unfolding_all rfl)
theorem sc__law_draw : FnScope ["tape", "many", "prime", "cell", "found"] ["tape", "many"] (defScope (top 19)) := ⟨rfl, rfl, rfl, by decide +kernel, rfl, by decide +kernel, by decide +kernel⟩
theorem b__law_draw (Z : Top K mg) : FnB P w K mg base 1 "_law_draw" 2 S__law_draw :=
  fnB_of (k := 0) (fns := []) (gl := gls) (ownL []) Z.d19 (Tab.nil (k := 0) Z.blt (gls_ok Z)) sc__law_draw (fun f fd F => F.binds (ps := ["tape", "many"]) fun _ _ _ _ _ _ us hl => match us, hl with | [_, _], _ => rfl) rfl (by with_unfolding_all rfl)
theorem sc__law_whole : FnScope ["item"] ["item"] (defScope (top 20)) := ⟨rfl, rfl, rfl, by decide +kernel, rfl, by decide +kernel, by decide +kernel⟩
theorem b__law_whole (Z : Top K mg) : FnB P w K mg base 1 "_law_whole" 1 S__law_whole :=
  fnB_of (k := 0) (fns := []) (gl := gls) (ownL []) Z.d20 (Tab.nil (k := 0) Z.blt (gls_ok Z)) sc__law_whole (fun f fd F => F.binds (ps := ["item"]) fun _ _ _ _ _ _ us hl => match us, hl with | [_], _ => rfl) rfl (by with_unfolding_all rfl)
theorem sc__law_rises : FnScope ["some", "k"] ["some"] (defScope (top 25)) := ⟨rfl, rfl, rfl, by decide +kernel, rfl, by decide +kernel, by decide +kernel⟩
theorem b__law_rises (Z : Top K mg) : FnB P w K mg base 1 "_law_rises" 1 S__law_rises :=
  fnB_of (k := 0) (fns := []) (gl := gls) (ownL []) Z.d25 (Tab.nil (k := 0) Z.blt (gls_ok Z)) sc__law_rises (fun f fd F => F.binds (ps := ["some"]) fun _ _ _ _ _ _ us hl => match us, hl with | [_], _ => rfl) rfl (by with_unfolding_all rfl)
theorem sc__law_side : FnScope ["one", "other", "point", "first"] ["one", "other", "point"] (defScope (top 27)) := ⟨rfl, rfl, rfl, by decide +kernel, rfl, by decide +kernel, by decide +kernel⟩
theorem b__law_side (Z : Top K mg) : FnB P w K mg base 1 "_law_side" 3 S__law_side :=
  fnB_of (k := 0) (fns := []) (gl := gls) (ownL []) Z.d27 (Tab.nil (k := 0) Z.blt (gls_ok Z)) sc__law_side (fun f fd F => F.binds (ps := ["one", "other", "point"]) fun _ _ _ _ _ _ us hl => match us, hl with | [_, _, _], _ => rfl) rfl (by with_unfolding_all rfl)
theorem sc_fraction : FnScope ["top", "bottom", "by"] ["top", "bottom"] (defScope (top 2)) := ⟨rfl, rfl, rfl, by decide +kernel, rfl, by decide +kernel, by decide +kernel⟩
theorem b_fraction (Z : Top K mg) : FnB P w K mg base 2 "fraction" 2 S_fraction :=
  fnB_of (k := 1) (fns := [("divisor", ⟨2, S_divisor⟩)]) (gl := gls) (ownL []) Z.d2 (Tab.cons (Tab.nil (k := 1) Z.blt (gls_ok Z)) ((b_divisor Z).mono (by decide))) sc_fraction (fun f fd F => F.binds (ps := ["top", "bottom"]) fun _ _ _ _ _ _ us hl => match us, hl with | [_, _], _ => rfl) rfl (by with_unfolding_all rfl)
theorem sc_is_point : FnScope ["thing", "part"] ["thing"] (defScope (top 7)) := ⟨rfl, rfl, rfl, by decide +kernel, rfl, by decide +kernel, by decide +kernel⟩
theorem b_is_point (Z : Top K mg) : FnB P w K mg base 2 "is_point" 1 S_is_point :=
  fnB_of (k := 1) (fns := [("is_whole", ⟨1, S_is_whole⟩)]) (gl := gls) (ownL []) Z.d7 (Tab.cons (Tab.nil (k := 1) Z.blt (gls_ok Z)) ((b_is_whole Z).mono (by decide))) sc_is_point (fun f fd F => F.binds (ps := ["thing"]) fun _ _ _ _ _ _ us hl => match us, hl with | [_], _ => rfl) rfl (by with_unfolding_all rfl)
theorem sc_meeting : FnScope ["stick", "other", "first", "second", "apart", "bottom", "sign"] ["stick", "other"] (defScope (top 11)) := ⟨rfl, rfl, rfl, by decide +kernel, rfl, by decide +kernel, by decide +kernel⟩
theorem b_meeting (Z : Top K mg) : FnB P w K mg base 2 "meeting" 2 S_meeting :=
  fnB_of (k := 1) (fns := [("turn", ⟨2, S_turn⟩), ("way", ⟨2, S_way⟩)]) (gl := gls) (ownL []) Z.d11 (Tab.cons (Tab.cons (Tab.nil (k := 1) Z.blt (gls_ok Z)) ((b_way Z).mono (by decide))) ((b_turn Z).mono (by decide))) sc_meeting (fun f fd F => F.binds (ps := ["stick", "other"]) fun _ _ _ _ _ _ us hl => match us, hl with | [_, _], _ => rfl) rfl (by with_unfolding_all rfl)
theorem sc_on_one_line : FnScope ["stick", "other"] ["stick", "other"] (defScope (top 12)) := ⟨rfl, rfl, rfl, by decide +kernel, rfl, by decide +kernel, by decide +kernel⟩
theorem b_on_one_line (Z : Top K mg) : FnB P w K mg base 2 "on_one_line" 2 S_on_one_line :=
  fnB_of (k := 1) (fns := [("turn", ⟨2, S_turn⟩), ("way", ⟨2, S_way⟩)]) (gl := gls) (ownL []) Z.d12 (Tab.cons (Tab.cons (Tab.nil (k := 1) Z.blt (gls_ok Z)) ((b_way Z).mono (by decide))) ((b_turn Z).mono (by decide))) sc_on_one_line (fun f fd F => F.binds (ps := ["stick", "other"]) fun _ _ _ _ _ _ us hl => match us, hl with | [_, _], _ => rfl) rfl (by with_unfolding_all rfl)
theorem sc__law_within : FnScope ["item", "low", "high"] ["item", "low", "high"] (defScope (top 21)) := ⟨rfl, rfl, rfl, by decide +kernel, rfl, by decide +kernel, by decide +kernel⟩
theorem b__law_within (Z : Top K mg) : FnB P w K mg base 2 "_law_within" 3 S__law_within :=
  fnB_of (k := 1) (fns := [("_law_whole", ⟨1, S__law_whole⟩)]) (gl := gls) (ownL []) Z.d21 (Tab.cons (Tab.nil (k := 1) Z.blt (gls_ok Z)) ((b__law_whole Z).mono (by decide))) sc__law_within (fun f fd F => F.binds (ps := ["item", "low", "high"]) fun _ _ _ _ _ _ us hl => match us, hl with | [_, _, _], _ => rfl) rfl (by with_unfolding_all rfl)
theorem sc__law_any_order : FnScope ["tape", "many", "found", "k"] ["tape", "many"] (defScope (top 23)) := ⟨rfl, rfl, rfl, by decide +kernel, rfl, by decide +kernel, by decide +kernel⟩
theorem b__law_any_order (Z : Top K mg) : FnB P w K mg base 2 "_law_any_order" 2 S__law_any_order :=
  fnB_of (k := 1) (fns := [("_law_draw", ⟨2, S__law_draw⟩)]) (gl := gls) (ownL [2]) Z.d23 (Tab.cons (Tab.nil (k := 1) Z.blt (gls_ok Z)) ((b__law_draw Z).mono (by decide))) sc__law_any_order (fun f fd F => F.binds (ps := ["tape", "many"]) fun _ _ _ _ _ _ us hl => match us, hl with | [_, _], _ => rfl) rfl (by with_unfolding_all rfl)
theorem sc__law_sides : FnScope ["stick", "other", "found", "point"] ["stick", "other"] (defScope (top 28)) := ⟨rfl, rfl, rfl, by decide +kernel, rfl, by decide +kernel, by decide +kernel⟩
theorem b__law_sides (Z : Top K mg) : FnB P w K mg base 2 "_law_sides" 2 S__law_sides :=
  fnB_of (k := 1) (fns := [("_law_side", ⟨3, S__law_side⟩)]) (gl := gls) (ownL []) Z.d28 (Tab.cons (Tab.nil (k := 1) Z.blt (gls_ok Z)) ((b__law_side Z).mono (by decide))) sc__law_sides (fun f fd F => F.binds (ps := ["stick", "other"]) fun _ _ _ _ _ _ us hl => match us, hl with | [_, _], _ => rfl) rfl (by with_unfolding_all rfl)
theorem sc_is_stick : FnScope ["thing", "part"] ["thing"] (defScope (top 8)) := ⟨rfl, rfl, rfl, by decide +kernel, rfl, by decide +kernel, by decide +kernel⟩
theorem b_is_stick (Z : Top K mg) : FnB P w K mg base 3 "is_stick" 1 S_is_stick :=
  fnB_of (k := 2) (fns := [("is_point", ⟨1, S_is_point⟩)]) (gl := gls) (ownL []) Z.d8 (Tab.cons (Tab.nil (k := 2) Z.blt (gls_ok Z)) ((b_is_point Z).mono (by decide))) sc_is_stick (fun f fd F => F.binds (ps := ["thing"]) fun _ _ _ _ _ _ us hl => match us, hl with | [_], _ => rfl) rfl (by with_unfolding_all rfl)
theorem sc_crossing : FnScope ["stick", "other", "bottom", "top", "far"] ["stick", "other"] (defScope (top 13)) := ⟨rfl, rfl, rfl, by decide +kernel, rfl, by decide +kernel, by decide +kernel⟩
theorem b_crossing (Z : Top K mg) : FnB P w K mg base 3 "crossing" 2 S_crossing :=
  fnB_of (k := 2) (fns := [("on_one_line", ⟨2, S_on_one_line⟩), ("meeting", ⟨2, S_meeting⟩), ("fraction", ⟨2, S_fraction⟩)]) (gl := gls) (ownL []) Z.d13 (Tab.cons (Tab.cons (Tab.cons (Tab.nil (k := 2) Z.blt (gls_ok Z)) ((b_fraction Z).mono (by decide))) ((b_meeting Z).mono (by decide))) ((b_on_one_line Z).mono (by decide))) sc_crossing (fun f fd F => F.binds (ps := ["stick", "other"]) fun _ _ _ _ _ _ us hl => match us, hl with | [_, _], _ => rfl) rfl (by with_unfolding_all rfl)
theorem sc__law_meet : FnScope ["stick", "other", "a", "b", "c", "d", "rows", "side", "point", "line"] ["stick", "other"] (defScope (top 29)) := ⟨rfl, rfl, rfl, by decide +kernel, rfl, by decide +kernel, by decide +kernel⟩
theorem b__law_meet (Z : Top K mg) : FnB P w K mg base 3 "_law_meet" 2 S__law_meet :=
  fnB_of (k := 2) (fns := [("_law_sides", ⟨2, S__law_sides⟩)]) (gl := gls) (ownL []) Z.d29 (Tab.cons (Tab.nil (k := 2) Z.blt (gls_ok Z)) ((b__law_sides Z).mono (by decide))) sc__law_meet (fun f fd F => F.binds (ps := ["stick", "other"]) fun _ _ _ _ _ _ us hl => match us, hl with | [_, _], _ => rfl) rfl (by with_unfolding_all rfl)
theorem sc_are_sticks : FnScope ["thing", "part", "two", "one"] ["thing"] (defScope (top 14)) := ⟨rfl, rfl, rfl, by decide +kernel, rfl, by decide +kernel, by decide +kernel⟩
theorem b_are_sticks (Z : Top K mg) : FnB P w K mg base 4 "are_sticks" 1 S_are_sticks :=
  fnB_of (k := 3) (fns := [("crossing", ⟨2, S_crossing⟩), ("is_stick", ⟨1, S_is_stick⟩)]) (gl := gls) (ownL []) Z.d14 (Tab.cons (Tab.cons (Tab.nil (k := 3) Z.blt (gls_ok Z)) ((b_is_stick Z).mono (by decide))) ((b_crossing Z).mono (by decide))) sc_are_sticks (fun f fd F => F.binds (ps := ["thing"]) fun _ _ _ _ _ _ us hl => match us, hl with | [_], _ => rfl) rfl (by with_unfolding_all rfl)
theorem sc_is_pair : FnScope ["sticks", "thing", "part"] ["sticks", "thing"] (defScope (top 15)) := ⟨rfl, rfl, rfl, by decide +kernel, rfl, by decide +kernel, by decide +kernel⟩
theorem b_is_pair (Z : Top K mg) : FnB P w K mg base 4 "is_pair" 2 S_is_pair :=
  fnB_of (k := 3) (fns := [("crossing", ⟨2, S_crossing⟩), ("is_whole", ⟨1, S_is_whole⟩)]) (gl := gls) (ownL []) Z.d15 (Tab.cons (Tab.cons (Tab.nil (k := 3) Z.blt (gls_ok Z)) ((b_is_whole Z).mono (by decide))) ((b_crossing Z).mono (by decide))) sc_is_pair (fun f fd F => F.binds (ps := ["sticks", "thing"]) fun _ _ _ _ _ _ us hl => match us, hl with | [_, _], _ => rfl) rfl (by with_unfolding_all rfl)
theorem sc_crossing_pairs : FnScope ["sticks", "found", "one", "two"] ["sticks"] (defScope (top 17)) := ⟨rfl, rfl, rfl, by decide +kernel, rfl, by decide +kernel, by decide +kernel⟩
theorem b_crossing_pairs (Z : Top K mg) : FnB P w K mg base 4 "crossing_pairs" 1 S_crossing_pairs :=
  fnB_of (k := 3) (fns := [("crossing", ⟨2, S_crossing⟩)]) (gl := gls) (ownL [1]) Z.d17 (Tab.cons (Tab.nil (k := 3) Z.blt (gls_ok Z)) ((b_crossing Z).mono (by decide))) sc_crossing_pairs (fun f fd F => F.binds (ps := ["sticks"]) fun _ _ _ _ _ _ us hl => match us, hl with | [_], _ => rfl) rfl (by with_unfolding_all rfl)
theorem sc__law_fan : FnScope ["tape", "many", "found", "one", "other", "k", "stick", "row"] ["tape", "many"] (defScope (top 30)) := ⟨rfl, rfl, rfl, by decide +kernel, rfl, by decide +kernel, by decide +kernel⟩
theorem b__law_fan (Z : Top K mg) : FnB P w K mg base 4 "_law_fan" 2 S__law_fan :=
  fnB_of (k := 3) (fns := [("_law_meet", ⟨2, S__law_meet⟩), ("_law_draw", ⟨2, S__law_draw⟩)]) (gl := gls) (ownL [2]) Z.d30 (Tab.cons (Tab.cons (Tab.nil (k := 3) Z.blt (gls_ok Z)) ((b__law_draw Z).mono (by decide))) ((b__law_meet Z).mono (by decide))) sc__law_fan (fun f fd F => F.binds (ps := ["tape", "many"]) fun _ _ _ _ _ _ us hl => match us, hl with | [_, _], _ => rfl) rfl (by with_unfolding_all rfl)
theorem sc__law_sticks : FnScope ["tape", "most", "low", "high", "found", "many", "wide", "k", "one", "two", "stick", "other"] ["tape", "most", "low", "high"] (defScope (top 31)) := ⟨rfl, rfl, rfl, by decide +kernel, rfl, by decide +kernel, by decide +kernel⟩
theorem b__law_sticks (Z : Top K mg) : FnB P w K mg base 4 "_law_sticks" 4 S__law_sticks :=
  fnB_of (k := 3) (fns := [("_law_meet", ⟨2, S__law_meet⟩), ("_law_draw", ⟨2, S__law_draw⟩)]) (gl := gls) (ownL [4]) Z.d31 (Tab.cons (Tab.cons (Tab.nil (k := 3) Z.blt (gls_ok Z)) ((b__law_draw Z).mono (by decide))) ((b__law_meet Z).mono (by decide))) sc__law_sticks (fun f fd F => F.binds (ps := ["tape", "most", "low", "high"]) fun _ _ _ _ _ _ us hl => match us, hl with | [_, _, _, _], _ => rfl) rfl (by with_unfolding_all rfl)
theorem sc__law_pairs_of : FnScope ["sticks", "found", "two", "one"] ["sticks"] (defScope (top 32)) := ⟨rfl, rfl, rfl, by decide +kernel, rfl, by decide +kernel, by decide +kernel⟩
theorem b__law_pairs_of (Z : Top K mg) : FnB P w K mg base 4 "_law_pairs_of" 1 S__law_pairs_of :=
  fnB_of (k := 3) (fns := [("_law_meet", ⟨2, S__law_meet⟩)]) (gl := gls) (ownL []) Z.d32 (Tab.cons (Tab.nil (k := 3) Z.blt (gls_ok Z)) ((b__law_meet Z).mono (by decide))) sc__law_pairs_of (fun f fd F => F.binds (ps := ["sticks"]) fun _ _ _ _ _ _ us hl => match us, hl with | [_], _ => rfl) rfl (by with_unfolding_all rfl)
theorem sc_is_pile : FnScope ["thing", "sticks", "overs", "pair", "one", "two"] ["thing"] (defScope (top 16)) := ⟨rfl, rfl, rfl, by decide +kernel, rfl, by decide +kernel, by decide +kernel⟩
theorem b_is_pile (Z : Top K mg) : FnB P w K mg base 5 "is_pile" 1 S_is_pile :=
  fnB_of (k := 4) (fns := [("crossing_pairs", ⟨1, S_crossing_pairs⟩), ("is_pair", ⟨2, S_is_pair⟩), ("are_sticks", ⟨1, S_are_sticks⟩)]) (gl := gls) (ownL []) Z.d16 (Tab.cons (Tab.cons (Tab.cons (Tab.nil (k := 4) Z.blt (gls_ok Z)) ((b_are_sticks Z).mono (by decide))) ((b_is_pair Z).mono (by decide))) ((b_crossing_pairs Z).mono (by decide))) sc_is_pile (fun f fd F => F.binds (ps := ["thing"]) fun _ _ _ _ _ _ us hl => match us, hl with | [_], _ => rfl) rfl (by with_unfolding_all rfl)
theorem sc__law_over : FnScope ["tape", "sticks", "rank", "my_way", "found", "one", "two", "chance", "my_turned"] ["tape", "sticks"] (defScope (top 33)) := ⟨rfl, rfl, rfl, by decide +kernel, rfl, by decide +kernel, by decide +kernel⟩
theorem b__law_over (Z : Top K mg) : FnB P w K mg base 5 "_law_over" 2 S__law_over :=
  fnB_of (k := 4) (fns := [("_law_pairs_of", ⟨1, S__law_pairs_of⟩), ("_law_any_order", ⟨2, S__law_any_order⟩), ("_law_draw", ⟨2, S__law_draw⟩)]) (gl := gls) (ownL [4]) Z.d33 (Tab.cons (Tab.cons (Tab.cons (Tab.nil (k := 4) Z.blt (gls_ok Z)) ((b__law_draw Z).mono (by decide))) ((b__law_any_order Z).mono (by decide))) ((b__law_pairs_of Z).mono (by decide))) sc__law_over (fun f fd F => F.binds (ps := ["tape", "sticks"]) fun _ _ _ _ _ _ us hl => match us, hl with | [_, _], _ => rfl) rfl (by with_unfolding_all rfl)
theorem sc__law_is_pile : FnScope ["item", "sticks", "overs", "stick", "point", "at", "pair", "some", "one"] ["item"] (defScope (top 35)) := ⟨rfl, rfl, rfl, by decide +kernel, rfl, by decide +kernel, by decide +kernel⟩
theorem b__law_is_pile (Z : Top K mg) : FnB P w K mg base 5 "_law_is_pile" 1 S__law_is_pile :=
  fnB_of (k := 4) (fns := [("_law_pairs_of", ⟨1, S__law_pairs_of⟩), ("_law_meet", ⟨2, S__law_meet⟩), ("_law_rises", ⟨1, S__law_rises⟩), ("_law_within", ⟨3, S__law_within⟩), ("_law_whole", ⟨1, S__law_whole⟩)]) (gl := gls) (ownL []) Z.d35 (Tab.cons (Tab.cons (Tab.cons (Tab.cons (Tab.cons (Tab.nil (k := 4) Z.blt (gls_ok Z)) ((b__law_whole Z).mono (by decide))) ((b__law_within Z).mono (by decide))) ((b__law_rises Z).mono (by decide))) ((b__law_meet Z).mono (by decide))) ((b__law_pairs_of Z).mono (by decide))) sc__law_is_pile (fun f fd F => F.binds (ps := ["item"]) fun _ _ _ _ _ _ us hl => match us, hl with | [_], _ => rfl) rfl (by with_unfolding_all rfl)
theorem sc__law_pile : FnScope ["tape", "most", "sticks"] ["tape", "most"] (defScope (top 34)) := ⟨rfl, rfl, rfl, by decide +kernel, rfl, by decide +kernel, by decide +kernel⟩
theorem b__law_pile (Z : Top K mg) : FnB P w K mg base 6 "_law_pile" 2 S__law_pile :=
  fnB_of (k := 5) (fns := [("_law_over", ⟨2, S__law_over⟩), ("_law_sticks", ⟨4, S__law_sticks⟩), ("_law_fan", ⟨2, S__law_fan⟩), ("_law_draw", ⟨2, S__law_draw⟩)]) (gl := gls) (ownL []) Z.d34 (Tab.cons (Tab.cons (Tab.cons (Tab.cons (Tab.nil (k := 5) Z.blt (gls_ok Z)) ((b__law_draw Z).mono (by decide))) ((b__law_fan Z).mono (by decide))) ((b__law_sticks Z).mono (by decide))) ((b__law_over Z).mono (by decide))) sc__law_pile (fun f fd F => F.binds (ps := ["tape", "most"]) fun _ _ _ _ _ _ us hl => match us, hl with | [_, _], _ => rfl) rfl (by with_unfolding_all rfl)
theorem sc__law_like : FnScope ["one", "two", "k"] ["one", "two"] (defScope (top 22)) := ⟨rfl, rfl, rfl, by decide +kernel, rfl, by decide +kernel, by decide +kernel⟩
theorem r__law_like (Z : Top K mg) : ∀ n : Nat, FnB P w K mg base (0 + n) "_law_like" 2 (S__law_like n)
  | 0 => fnB_none Z.d22 (fun f fd F => F.binds (ps := ["one", "two"]) fun _ _ _ _ _ _ us hl => match us, hl with | [_, _], _ => rfl) rfl
  | n + 1 => fnB_of (k := 0 + n) (fns := [("_law_like", ⟨2, S__law_like n⟩)]) (gl := gls) (ownL []) Z.d22 (Tab.cons (Tab.mono (Tab.nil (k := 0) Z.blt (gls_ok Z)) (Nat.le_add_right _ _)) (r__law_like Z n)) sc__law_like (fun f fd F => F.binds (ps := ["one", "two"]) fun _ _ _ _ _ _ us hl => match us, hl with | [_, _], _ => rfl) rfl (by with_unfolding_all rfl)
theorem b__law_like (Z : Top K mg) : FnB P w K mg base 30 "_law_like" 2 (S__law_like 30) := r__law_like Z 30
theorem sc__law_any : FnScope ["tape", "deep", "course", "some", "k"] ["tape", "deep"] (defScope (top 26)) := ⟨rfl, rfl, rfl, by decide +kernel, rfl, by decide +kernel, by decide +kernel⟩
theorem r__law_any (Z : Top K mg) : ∀ n : Nat, FnB P w K mg base (1 + n) "_law_any" 2 (S__law_any n)
  | 0 => fnB_none Z.d26 (fun f fd F => F.binds (ps := ["tape", "deep"]) fun _ _ _ _ _ _ us hl => match us, hl with | [_, _], _ => rfl) rfl
  | n + 1 => fnB_of (k := 1 + n) (fns := [("_law_any", ⟨2, S__law_any n⟩), ("_law_draw", ⟨2, S__law_draw⟩)]) (gl := gls) (ownL []) Z.d26 (Tab.cons (Tab.mono (Tab.cons (Tab.nil (k := 1) Z.blt (gls_ok Z)) ((b__law_draw Z).mono (by decide))) (Nat.le_add_right _ _)) (r__law_any Z n)) sc__law_any (fun f fd F => F.binds (ps := ["tape", "deep"]) fun _ _ _ _ _ _ us hl => match us, hl with | [_, _], _ => rfl) rfl (by with_unfolding_all rfl)
theorem b__law_any (Z : Top K mg) : FnB P w K mg base 31 "_law_any" 2 (S__law_any 30) := r__law_any Z 30
theorem sc__law_spoilt : FnScope ["tape", "item", "k", "rest", "course", "at"] ["tape", "item"] (defScope (top 24)) := ⟨rfl, rfl, rfl, by decide +kernel, rfl, by decide +kernel, by decide +kernel⟩
theorem r__law_spoilt (Z : Top K mg) : ∀ n : Nat, FnB P w K mg base (31 + n) "_law_spoilt" 2 (S__law_spoilt n)
  | 0 => fnB_none Z.d24 (fun f fd F => F.binds (ps := ["tape", "item"]) fun _ _ _ _ _ _ us hl => match us, hl with | [_, _], _ => rfl) rfl
  | n + 1 => fnB_of (k := 31 + n) (fns := [("_law_spoilt", ⟨2, S__law_spoilt n⟩), ("_law_any", ⟨2, S__law_any 30⟩), ("_law_whole", ⟨1, S__law_whole⟩), ("_law_draw", ⟨2, S__law_draw⟩)]) (gl := gls) (ownL [3]) Z.d24 (Tab.cons (Tab.mono (Tab.cons (Tab.cons (Tab.cons (Tab.nil (k := 31) Z.blt (gls_ok Z)) ((b__law_draw Z).mono (by decide))) ((b__law_whole Z).mono (by decide))) ((b__law_any Z).mono (by decide))) (Nat.le_add_right _ _)) (r__law_spoilt Z n)) sc__law_spoilt (fun f fd F => F.binds (ps := ["tape", "item"]) fun _ _ _ _ _ _ us hl => match us, hl with | [_, _], _ => rfl) rfl (by with_unfolding_all rfl)
theorem b__law_spoilt (Z : Top K mg) : FnB P w K mg base 61 "_law_spoilt" 2 (S__law_spoilt 30) := r__law_spoilt Z 30
theorem sc_law : FnScope ["script", "tape", "my_turn", "pile", "sticks", "overs", "one", "things", "k", "thing", "at", "pair"] ["script"] (defScope (top 36)) := ⟨rfl, rfl, rfl, by decide +kernel, rfl, by decide +kernel, by decide +kernel⟩
theorem law_ok (Z : Top K mg) (base : Heap) {fa : Addr} {fd : FuncData} (F : L2.Fun K "law" "law" (top 36) fa fd) : FnOk P w K mg base CX0 62 fa fd ["script"] (spScript K) := by
  refine law_fn (k := 61) (N := ["script", "tape", "my_turn", "pile", "sticks", "overs", "one", "things", "k", "thing", "at", "pair"]) (fns := [("_law_is_pile", ⟨1, S__law_is_pile⟩), ("_law_pile", ⟨2, S__law_pile⟩), ("_law_any", ⟨2, S__law_any 30⟩), ("_law_spoilt", ⟨2, S__law_spoilt 30⟩), ("_law_like", ⟨2, S__law_like 30⟩), ("is_pile", ⟨1, S_is_pile⟩)]) (gl := gls) (ownL [7]) (Tab.cons (Tab.cons (Tab.cons (Tab.cons (Tab.cons (Tab.cons (Tab.nil (k := 61) Z.blt (gls_ok Z)) ((b_is_pile Z).mono (by decide))) ((b__law_like Z).mono (by decide))) ((b__law_spoilt Z).mono (by decide))) ((b__law_any Z).mono (by decide))) ((b__law_pile Z).mono (by decide))) ((b__law_is_pile Z).mono (by decide))) F sc_law (by with_unfolding_all rfl) (by decide) rfl rfl (.inl rfl) rfl rfl fun ns hl => ?_
  have e : evB (evS (ownL [7]) (evE 41 (ctOf ["script", "tape", "my_turn", "pile", "sticks", "overs", "one", "things", "k", "thing", "at", "pair"] (defScope (top 36)) [("_law_is_pile", ⟨1, S__law_is_pile⟩), ("_law_pile", ⟨2, S__law_pile⟩), ("_law_any", ⟨2, S__law_any 30⟩), ("_law_spoilt", ⟨2, S__law_spoilt 30⟩), ("_law_like", ⟨2, S__law_like 30⟩), ("is_pile", ⟨1, S_is_pile⟩)] gls)) (ctOf ["script", "tape", "my_turn", "pile", "sticks", "overs", "one", "things", "k", "thing", "at", "pair"] (defScope (top 36)) [("_law_is_pile", ⟨1, S__law_is_pile⟩), ("_law_pile", ⟨2, S__law_pile⟩), ("_law_any", ⟨2, S__law_any 30⟩), ("_law_spoilt", ⟨2, S__law_spoilt 30⟩), ("_law_like", ⟨2, S__law_like 30⟩), ("is_pile", ⟨1, S_is_pile⟩)] gls) 40) (defBody (top 36)).tail = S_rest01 := by with_unfolding_all rfl
  have q := law01 ns hl
  rw [← e] at q
  exact q
end
end K01
open PySem PySem.W PyProof.Rows in
set_option maxRecDepth 100000 in
set_option maxHeartbeats 0 in
theorem PySem.Challenge.cw_spillikins_k01_piles_known_holds : PySem.Challenge.rw_spillikins_k01_piles_known.Holds := by
  w_on; o_law; k_head; (case hw => w_witness2)
  k_fill
  refine L2.walk_of (l := PySem.Challenge.rw_spillikins_k01_piles_known) (n := 63) (k := 62) (x := "script") (CX := fun _ => L2.CX0) (sp := fun w => Ev.spScript _) rfl (by decide) rfl ⟨rfl, by decide, by decide⟩ (fun w h Y => PySem.W.kIn_of Y) ?F (fun _ _ a ns hl _ hS => ⟨a, ns, rfl, hS, hl, fun _ => rfl⟩) (fun _ _ _ _ _ h => h)
  case F =>
    intro w mg fa h KX G hmg
    refine' Ev.have_def (x := "divisor") (st := K01.top 1) KX G ?a ?l ?c ?k ?_; (case a => k_is); (case l => k_is); (case c => k_is); (case k => k_is)
    intro d1
    refine' Ev.have_def (x := "fraction") (st := K01.top 2) KX G ?a ?l ?c ?k ?_; (case a => k_is); (case l => k_is); (case c => k_is); (case k => k_is)
    intro d2
    refine' Ev.have_def (x := "is_whole") (st := K01.top 3) KX G ?a ?l ?c ?k ?_; (case a => k_is); (case l => k_is); (case c => k_is); (case k => k_is)
    intro d3
    refine' Ev.have_def (x := "is_point") (st := K01.top 7) KX G ?a ?l ?c ?k ?_; (case a => k_is); (case l => k_is); (case c => k_is); (case k => k_is)
    intro d7
    refine' Ev.have_def (x := "is_stick") (st := K01.top 8) KX G ?a ?l ?c ?k ?_; (case a => k_is); (case l => k_is); (case c => k_is); (case k => k_is)
    intro d8
    refine' Ev.have_def (x := "way") (st := K01.top 9) KX G ?a ?l ?c ?k ?_; (case a => k_is); (case l => k_is); (case c => k_is); (case k => k_is)
    intro d9
    refine' Ev.have_def (x := "turn") (st := K01.top 10) KX G ?a ?l ?c ?k ?_; (case a => k_is); (case l => k_is); (case c => k_is); (case k => k_is)
    intro d10
    refine' Ev.have_def (x := "meeting") (st := K01.top 11) KX G ?a ?l ?c ?k ?_; (case a => k_is); (case l => k_is); (case c => k_is); (case k => k_is)
    intro d11
    refine' Ev.have_def (x := "on_one_line") (st := K01.top 12) KX G ?a ?l ?c ?k ?_; (case a => k_is); (case l => k_is); (case c => k_is); (case k => k_is)
    intro d12
    refine' Ev.have_def (x := "crossing") (st := K01.top 13) KX G ?a ?l ?c ?k ?_; (case a => k_is); (case l => k_is); (case c => k_is); (case k => k_is)
    intro d13
    refine' Ev.have_def (x := "are_sticks") (st := K01.top 14) KX G ?a ?l ?c ?k ?_; (case a => k_is); (case l => k_is); (case c => k_is); (case k => k_is)
    intro d14
    refine' Ev.have_def (x := "is_pair") (st := K01.top 15) KX G ?a ?l ?c ?k ?_; (case a => k_is); (case l => k_is); (case c => k_is); (case k => k_is)
    intro d15
    refine' Ev.have_def (x := "is_pile") (st := K01.top 16) KX G ?a ?l ?c ?k ?_; (case a => k_is); (case l => k_is); (case c => k_is); (case k => k_is)
    intro d16
    refine' Ev.have_def (x := "crossing_pairs") (st := K01.top 17) KX G ?a ?l ?c ?k ?_; (case a => k_is); (case l => k_is); (case c => k_is); (case k => k_is)
    intro d17
    refine' Ev.have_def (x := "_law_draw") (st := K01.top 19) KX G ?a ?l ?c ?k ?_; (case a => k_is); (case l => k_is); (case c => k_is); (case k => k_is)
    intro d19
    refine' Ev.have_def (x := "_law_whole") (st := K01.top 20) KX G ?a ?l ?c ?k ?_; (case a => k_is); (case l => k_is); (case c => k_is); (case k => k_is)
    intro d20
    refine' Ev.have_def (x := "_law_within") (st := K01.top 21) KX G ?a ?l ?c ?k ?_; (case a => k_is); (case l => k_is); (case c => k_is); (case k => k_is)
    intro d21
    refine' Ev.have_def (x := "_law_like") (st := K01.top 22) KX G ?a ?l ?c ?k ?_; (case a => k_is); (case l => k_is); (case c => k_is); (case k => k_is)
    intro d22
    refine' Ev.have_def (x := "_law_any_order") (st := K01.top 23) KX G ?a ?l ?c ?k ?_; (case a => k_is); (case l => k_is); (case c => k_is); (case k => k_is)
    intro d23
    refine' Ev.have_def (x := "_law_spoilt") (st := K01.top 24) KX G ?a ?l ?c ?k ?_; (case a => k_is); (case l => k_is); (case c => k_is); (case k => k_is)
    intro d24
    refine' Ev.have_def (x := "_law_rises") (st := K01.top 25) KX G ?a ?l ?c ?k ?_; (case a => k_is); (case l => k_is); (case c => k_is); (case k => k_is)
    intro d25
    refine' Ev.have_def (x := "_law_any") (st := K01.top 26) KX G ?a ?l ?c ?k ?_; (case a => k_is); (case l => k_is); (case c => k_is); (case k => k_is)
    intro d26
    refine' Ev.have_def (x := "_law_side") (st := K01.top 27) KX G ?a ?l ?c ?k ?_; (case a => k_is); (case l => k_is); (case c => k_is); (case k => k_is)
    intro d27
    refine' Ev.have_def (x := "_law_sides") (st := K01.top 28) KX G ?a ?l ?c ?k ?_; (case a => k_is); (case l => k_is); (case c => k_is); (case k => k_is)
    intro d28
    refine' Ev.have_def (x := "_law_meet") (st := K01.top 29) KX G ?a ?l ?c ?k ?_; (case a => k_is); (case l => k_is); (case c => k_is); (case k => k_is)
    intro d29
    refine' Ev.have_def (x := "_law_fan") (st := K01.top 30) KX G ?a ?l ?c ?k ?_; (case a => k_is); (case l => k_is); (case c => k_is); (case k => k_is)
    intro d30
    refine' Ev.have_def (x := "_law_sticks") (st := K01.top 31) KX G ?a ?l ?c ?k ?_; (case a => k_is); (case l => k_is); (case c => k_is); (case k => k_is)
    intro d31
    refine' Ev.have_def (x := "_law_pairs_of") (st := K01.top 32) KX G ?a ?l ?c ?k ?_; (case a => k_is); (case l => k_is); (case c => k_is); (case k => k_is)
    intro d32
    refine' Ev.have_def (x := "_law_over") (st := K01.top 33) KX G ?a ?l ?c ?k ?_; (case a => k_is); (case l => k_is); (case c => k_is); (case k => k_is)
    intro d33
    refine' Ev.have_def (x := "_law_pile") (st := K01.top 34) KX G ?a ?l ?c ?k ?_; (case a => k_is); (case l => k_is); (case c => k_is); (case k => k_is)
    intro d34
    refine' Ev.have_def (x := "_law_is_pile") (st := K01.top 35) KX G ?a ?l ?c ?k ?_; (case a => k_is); (case l => k_is); (case c => k_is); (case k => k_is)
    intro d35
    refine' Ev.have_def (x := "law") (st := K01.top 36) KX G ?a ?l ?c ?k ?_; (case a => k_is); (case l => k_is); (case c => k_is); (case k => k_is)
    intro d36
    have z_len := PySem.W.mg_none_of (n := "len") KX G (by k_is)
    have z_abs := PySem.W.mg_none_of (n := "abs") KX G (by k_is)
    have z_tuple := PySem.W.mg_none_of (n := "tuple") KX G (by k_is)
    have z_list := PySem.W.mg_none_of (n := "list") KX G (by k_is)
    have z_all := PySem.W.mg_none_of (n := "all") KX G (by k_is)
    have z_any := PySem.W.mg_none_of (n := "any") KX G (by k_is)
    have z_sorted := PySem.W.mg_none_of (n := "sorted") KX G (by k_is)
    have z_min := PySem.W.mg_none_of (n := "min") KX G (by k_is)
    have z_max := PySem.W.mg_none_of (n := "max") KX G (by k_is)
    have z_int := PySem.W.mg_none_of (n := "int") KX G (by k_is)
    have z_bool := PySem.W.mg_none_of (n := "bool") KX G (by k_is)
    have z_str := PySem.W.mg_none_of (n := "str") KX G (by k_is)
    have z_isinstance := PySem.W.mg_none_of (n := "isinstance") KX G (by k_is)
    have z_range := PySem.W.mg_none_of (n := "range") KX G (by k_is)
    have z_enumerate := PySem.W.mg_none_of (n := "enumerate") KX G (by k_is)
    have z_zip := PySem.W.mg_none_of (n := "zip") KX G (by k_is)
    refine' Ev.have_int (x := "MOST_STICKS") (i := 5) KX G ?a ?_; (case a => k_is)
    intro c_MOST_STICKS
    refine' Ev.have_int (x := "FAR") (i := 12) KX G ?a ?_; (case a => k_is)
    intro c_FAR
    have Z : K01.Top _ mg := ⟨d1, d2, d3, d7, d8, d9, d10, d11, d12, d13, d14, d15, d16, d17, d19, d20, d21, d22, d23, d24, d25, d26, d27, d28, d29, d30, d31, d32, d33, d34, d35, d36, fun x hx => by
      simp only [Ev.bltNames, List.mem_cons, List.not_mem_nil, or_false] at hx
      rcases hx with rfl | rfl | rfl | rfl | rfl | rfl | rfl | rfl | rfl | rfl | rfl | rfl | rfl | rfl | rfl | rfl
      · exact z_len
      · exact z_abs
      · exact z_tuple
      · exact z_list
      · exact z_all
      · exact z_any
      · exact z_sorted
      · exact z_min
      · exact z_max
      · exact z_int
      · exact z_bool
      · exact z_str
      · exact z_isinstance
      · exact z_range
      · exact z_enumerate
      · exact z_zip, c_MOST_STICKS, c_FAR⟩
    exact Ev.law_top hmg d36 (fun _ _ _ _ _ _ _ => rfl) (fun base fd F => K01.law_ok Z base F)
#print axioms PySem.Challenge.cw_spillikins_k01_piles_known_holds

