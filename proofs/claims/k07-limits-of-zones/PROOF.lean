import PyProof.Rows.All
import Wide.All
import OpenK.AllK
import Wide.FinOn
import HandS.ForMost
import HandS.Exc
import HandS.Defaults
import HandS.Wide
import HandS.Gcd
import HandS.TryMany
import HandS.WordsExc
import HandS.Flow
import HandS.Lambda
import HandS.TupAny
import HandS.TupMul
import HandS.Strs
import HandS.Small
import HandS.Iter
import HandS.Zip
import KE.GoesZip
import KE.GoesEnum
import KE.GoesRaise
import HandS.IsInst
import HandS.Words
import HandS.Text
import HandS.ExcInit
import KE.KExcSuper
import KE.KDflt
import HandS.ExcField
import PyProof.FactsAll.list_0
import PyProof.FactsAll.str_0
import PyProof.FactsAll.list_3
import PyProof.FactsAll.str_5
import PyProof.FactsAll.str_7
import HandS.RaiseMore
import HandS.More
import KE.KIntText
import KE.DataMinMax
import PyProof.Rows.StrOr
import PyProof.StrOps2
import KE.IntTextLaws
import HandS.HeadHook1
import HandS.HeadHook2
import HandS.HeadHook3
import HandS.HeadHook4
import HandS.Head0
import HandS.Head1
import HandS.Head2
import HandS.HeadEnd
import HandS.EndTab
import HandS.HeadWalk
import PyProof.ExcBaseAll.ValueError
import PyProof.ExcBaseAll.OverflowError
import PyProof.ExcBaseAll.LookupError
import HandS.Head3
import PySem.Challenge.RW_hourbound_k07_limits_of_zones
set_option Elab.async false
set_option linter.all false
set_option maxRecDepth 100000
set_option maxHeartbeats 2000000
/-! Ev1: the values of the evaluator, how they stand in the heap, readings of what it tells. -/
namespace Ev
open PySem PySem.Spec L2

/-- values: trees, and numbers of objects of the evaluator's heap -/
inductive D where
  | non | bl (b : Bool) | int (i : Int) | str (s : List Nat) | tup (l : List D) | ref (n : Nat)
instance : Inhabited D := ⟨.non⟩
abbrev KD := Sum Int (List Nat)
/-- objects: lists, dicts -/
inductive O where
  | lst (l : List D) | dct (l : List (KD × D))
instance : Inhabited O := ⟨.lst []⟩
def kOf : KD → Key
  | .inl i => .inl i
  | .inr s => .inr ⟨s.toArray⟩

variable {K : PySem.W.Frag}
mutual
def RD (K : PySem.W.Frag) (ρ : List Addr) (H : Hp) : D → V → Prop
  | .non, v => v = .non
  | .bl b, v => v = .bl b
  | .int i, v => v = .int i
  | .str s, v => v = .str ⟨s.toArray⟩
  | .tup l, v => ∃ a vs, v = .ref a ∧ SqT K H a vs ∧ RDs K ρ H l vs
  | .ref n, v => ∃ a, v = .ref a ∧ ρ[n]? = some a
def RDs (K : PySem.W.Frag) (ρ : List Addr) (H : Hp) : List D → List V → Prop
  | [], vs => vs = []
  | d :: l, vs => ∃ v r, vs = v :: r ∧ RD K ρ H d v ∧ RDs K ρ H l r
end
def RKs (K : PySem.W.Frag) (ρ : List Addr) (H : Hp) : List (KD × D) → List (Key × V) → Prop
  | [], vs => vs = []
  | p :: l, vs => ∃ v r, vs = (kOf p.1, v) :: r ∧ RD K ρ H p.2 v ∧ RKs K ρ H l r
def RO (K : PySem.W.Frag) (ρ : List Addr) (H : Hp) : O → HO → Prop
  | .lst l, o => ∃ vs, o = .lst vs ∧ RDs K ρ H l vs
  | .dct l, o => ∃ kvs, o = .dK kvs ∧ RKs K ρ H l kvs
/-- how errors are held: class c's address, its attribute's name; the tables of code objects that lambdas write -/
structure Cls where
  f : Nat → Option Addr
  fld : Nat → Str
  T : List (Addr × Str)
/-- the evaluator's heap, at the addresses ρ -/
structure RH (K : PySem.W.Frag) (C : Cls) (ρ : List Addr) (h : List O) (H : Hp) : Prop where
  len : ρ.length = h.length
  nd : ρ.Nodup
  at_ : ∀ (i : Nat) (o : O), h[i]? = some o → ∃ a ho, ρ[i]? = some a ∧ H a = some ho ∧ RO K ρ H o ho
  tabs : LamX.Tabs C.T H
/-- what is written nowhere else: all that was tracked and is none of ρ stays; the addresses that came are new -/
structure Go (K : PySem.W.Frag) (ρ : List Addr) (H : Hp) (ρ' : List Addr) (H' : Hp) : Prop where
  ext : ∃ e, ρ' = ρ ++ e ∧ ∀ b ∈ e, b ∉ ρ ∧ ∀ o, H b = some o → ∃ ps, o = .tbl ps
  keep : ∀ b o, H b = some o → b ∉ ρ → (∀ ps, o ≠ .tbl ps) → H' b = some o
  sq : ∀ a xs, SqT K H a xs → SqT K H' a xs

section
variable {C : Cls} {ρ ρ1 ρ2 ρ' : List Addr} {H H1 H2 H' : Hp} {h h' : List O}
theorem Go.refl : Go K ρ H ρ H := ⟨⟨[], by simp, by simp⟩, fun _ _ e _ _ => e, fun _ _ e => e⟩
theorem Go.trans (a : Go K ρ H ρ1 H1) (b : Go K ρ1 H1 ρ2 H2) : Go K ρ H ρ2 H2 := by
  obtain ⟨e1, rfl, f1⟩ := a.ext
  obtain ⟨e2, rfl, f2⟩ := b.ext
  have notIn : ∀ c o, H c = some o → c ∉ ρ → (∀ ps, o ≠ .tbl ps) → c ∉ ρ ++ e1 := fun c o e n t m => by
    rcases List.mem_append.mp m with m | m
    · exact n m
    · obtain ⟨ps, z⟩ := (f1 c m).2 o e
      exact t ps z
  refine ⟨⟨e1 ++ e2, by simp, fun c m => ?_⟩, fun c o e n t => b.keep c o (a.keep c o e n t) (notIn c o e n t) t, fun c xs e => b.sq c xs (a.sq c xs e)⟩
  rcases List.mem_append.mp m with m | m
  · exact f1 c m
  · obtain ⟨n, f⟩ := f2 c m
    refine ⟨fun z => n (List.mem_append_left _ z), fun o e => ?_⟩
    have nr : c ∉ ρ := fun z => n (List.mem_append_left _ z)
    cases o with
    | tbl ps => exact ⟨ps, rfl⟩
    | lst x => obtain ⟨ps, z⟩ := f _ (a.keep c _ e nr fun _ z => nomatch z); cases z
    | tup x => obtain ⟨ps, z⟩ := f _ (a.keep c _ e nr fun _ z => nomatch z); cases z
    | dK x => obtain ⟨ps, z⟩ := f _ (a.keep c _ e nr fun _ z => nomatch z); cases z
    | dT x => obtain ⟨ps, z⟩ := f _ (a.keep c _ e nr fun _ z => nomatch z); cases z
    | set x y => obtain ⟨ps, z⟩ := f _ (a.keep c _ e nr fun _ z => nomatch z); cases z
    | ins x y z => obtain ⟨ps, z⟩ := f _ (a.keep c _ e nr fun _ z => nomatch z); cases z
    | own x => obtain ⟨ps, z⟩ := f _ (a.keep c _ e nr fun _ z => nomatch z); cases z
    | xd x => obtain ⟨ps, z⟩ := f _ (a.keep c _ e nr fun _ z => nomatch z); cases z
    | met x y => obtain ⟨ps, z⟩ := f _ (a.keep c _ e nr fun _ z => nomatch z); cases z
    | rng x y => obtain ⟨ps, z⟩ := f _ (a.keep c _ e nr fun _ z => nomatch z); cases z
    | frz x y => obtain ⟨ps, z⟩ := f _ (a.keep c _ e nr fun _ z => nomatch z); cases z
    | ext x => obtain ⟨ps, z⟩ := f _ (a.keep c _ e nr fun _ z => nomatch z); cases z
theorem Go.get (g : Go K ρ H ρ' H') {n : Nat} {a : Addr} (e : ρ[n]? = some a) : ρ'[n]? = some a := by
  obtain ⟨e1, rfl, _⟩ := g.ext
  rw [List.getElem?_append_left (List.getElem?_eq_some_iff.mp e).1]
  exact e
mutual
theorem RD.go (g : Go K ρ H ρ' H') : ∀ {d : D} {v : V}, RD K ρ H d v → RD K ρ' H' d v
  | .non, _, r => by unfold RD at r ⊢; exact r
  | .bl _, _, r => by unfold RD at r ⊢; exact r
  | .int _, _, r => by unfold RD at r ⊢; exact r
  | .str _, _, r => by unfold RD at r ⊢; exact r
  | .tup l, _, r => by
    unfold RD at r ⊢
    obtain ⟨a, vs, e, s, q⟩ := r
    exact ⟨a, vs, e, g.sq a vs s, RDs.go g q⟩
  | .ref n, _, r => by
    unfold RD at r ⊢
    obtain ⟨a, e, q⟩ := r
    exact ⟨a, e, g.get q⟩
theorem RDs.go (g : Go K ρ H ρ' H') : ∀ {l : List D} {vs : List V}, RDs K ρ H l vs → RDs K ρ' H' l vs
  | [], _, r => by unfold RDs at r ⊢; exact r
  | d :: l, _, r => by
    unfold RDs at r ⊢
    obtain ⟨v, t, e, q, z⟩ := r
    exact ⟨v, t, e, RD.go g q, RDs.go g z⟩
end
theorem RKs.go (g : Go K ρ H ρ' H') : ∀ {l : List (KD × D)} {vs : List (Key × V)}, RKs K ρ H l vs → RKs K ρ' H' l vs
  | [], _, r => by unfold RKs at r ⊢; exact r
  | p :: l, _, r => by
    unfold RKs at r ⊢
    obtain ⟨v, t, e, q, z⟩ := r
    exact ⟨v, t, e, q.go g, RKs.go g z⟩
theorem RO.go (g : Go K ρ H ρ' H') {o : O} {ho : HO} (r : RO K ρ H o ho) : RO K ρ' H' o ho := by
  cases o with
  | lst l => unfold RO at r ⊢; obtain ⟨vs, e, q⟩ := r; exact ⟨vs, e, q.go g⟩
  | dct l => unfold RO at r ⊢; obtain ⟨vs, e, q⟩ := r; exact ⟨vs, e, q.go g⟩
/-- a list, a dict is no tuple -/
theorem RO.notTup {o : O} {ho : HO} (r : RO K ρ H o ho) : (∀ xs, ho ≠ .tup xs) ∧ ∀ ob u, ho ≠ .frz ob u := by
  cases o with
  | lst l => unfold RO at r; obtain ⟨vs, rfl, q⟩ := r; exact ⟨(fun _ z => nomatch z), fun _ _ z => nomatch z⟩
  | dct l => unfold RO at r; obtain ⟨vs, rfl, q⟩ := r; exact ⟨(fun _ z => nomatch z), fun _ _ z => nomatch z⟩
theorem RH.mem (r : RH K C ρ h H) {b : Addr} (m : b ∈ ρ) : ∃ (i : Nat) (o : O) (ho : HO), h[i]? = some o ∧ ρ[i]? = some b ∧ H b = some ho ∧ RO K ρ H o ho := by
  obtain ⟨i, hi⟩ := List.mem_iff_getElem?.mp m
  have lt : i < h.length := by rw [← r.len]; exact (List.getElem?_eq_some_iff.mp hi).1
  have e : h[i]? = some h[i] := List.getElem?_eq_getElem lt
  obtain ⟨a, ho, e1, e2, e3⟩ := r.at_ i _ e
  rw [hi] at e1
  cases e1
  exact ⟨i, _, ho, e, hi, e2, e3⟩
/-- the tuples stand, by what is kept -/
theorem sq_of (r : RH K C ρ h H) (k : ∀ b o, H b = some o → b ∉ ρ → (∀ ps, o ≠ .tbl ps) → H' b = some o) : ∀ a xs, SqT K H a xs → SqT K H' a xs := by
  intro a xs s
  rcases s with (s | ⟨o, s⟩) | s
  · refine .inl (.inl (k a _ s (fun m => ?_) fun _ z => nomatch z))
    obtain ⟨i, o, ho, e1, e2, e3, e4⟩ := r.mem m
    rw [s] at e3
    cases e3
    exact e4.notTup.1 xs rfl
  · refine .inl (.inr ⟨o, k a _ s (fun m => ?_) fun _ z => nomatch z⟩)
    obtain ⟨i, o', ho, e1, e2, e3, e4⟩ := r.mem m
    rw [s] at e3
    cases e3
    exact e4.notTup.2 _ _ rfl
  · exact .inr s
/-- a new object that the evaluator does not know (a tuple) -/
theorem go_new (r : RH K C ρ h H) {p : Addr} {o : HO} (n : H p = none) : Go K ρ H ρ (upd H p o) := by
  have k : ∀ b u, H b = some u → b ∉ ρ → (∀ ps, u ≠ .tbl ps) → upd H p o b = some u := fun b u e _ _ => by rw [upd_ne (ne_of_none e n)]; exact e
  exact ⟨⟨[], by simp, by simp⟩, k, sq_of r k⟩
theorem RH.new (r : RH K C ρ h H) {p : Addr} {o : HO} (n : H p = none) : RH K C ρ h (upd H p o) := by
  refine ⟨r.len, r.nd, fun i u e => ?_, r.tabs.ext fun b u e => by rw [upd_ne (ne_of_none e n)]; exact e⟩
  obtain ⟨a, ho, e1, e2, e3⟩ := r.at_ i u e
  exact ⟨a, ho, e1, by rw [upd_ne (ne_of_none e2 n)]; exact e2, e3.go (go_new r n)⟩
/-- a new object that it knows -/
theorem go_add (r : RH K C ρ h H) {p : Addr} {o : HO} (n : H p = none) : Go K ρ H (ρ ++ [p]) (upd H p o) := by
  have g := go_new (o := o) r n
  refine ⟨⟨[p], rfl, fun b m => ?_⟩, g.keep, g.sq⟩
  rw [List.mem_singleton.mp m]
  refine ⟨fun z => ?_, fun o e => by rw [n] at e; cases e⟩
  obtain ⟨_, _, _, _, _, e, _⟩ := r.mem z
  rw [n] at e
  cases e
theorem RH.add (r : RH K C ρ h H) {p : Addr} {o : HO} {u : O} (n : H p = none) (ro : RO K (ρ ++ [p]) (upd H p o) u o) : RH K C (ρ ++ [p]) (h ++ [u]) (upd H p o) := by
  refine ⟨by simp [r.len], ?_, fun i v e => ?_, r.tabs.ext fun b u e => by rw [upd_ne (ne_of_none e n)]; exact e⟩
  · rw [List.nodup_append]
    refine ⟨r.nd, by simp, fun a m b mb => ?_⟩
    obtain ⟨_, _, _, _, _, e, _⟩ := r.mem m
    have : b = p := by simpa using mb
    rw [this]
    exact ne_of_none e n
  · by_cases hi : i < h.length
    · rw [List.getElem?_append_left hi] at e
      obtain ⟨a, ho, e1, e2, e3⟩ := r.at_ i v e
      exact ⟨a, ho, (go_add (o := o) r n).get e1, by rw [upd_ne (ne_of_none e2 n)]; exact e2, e3.go (go_add r n)⟩
    · rw [List.getElem?_append_right (by omega)] at e
      have z : i - h.length = 0 := by
        have := (List.getElem?_eq_some_iff.mp e).1
        simp at this
        omega
      rw [z] at e
      simp at e
      subst e
      refine ⟨p, o, ?_, upd_same, ro⟩
      rw [List.getElem?_append_right (by rw [r.len]; omega), r.len, z]
      rfl
/-- an object that it knows is written -/
theorem go_set (r : RH K C ρ h H) {i : Nat} {p : Addr} {o : HO} (e : ρ[i]? = some p) : Go K ρ H ρ (upd H p o) := by
  have m : p ∈ ρ := List.mem_of_getElem? e
  have k : ∀ b u, H b = some u → b ∉ ρ → (∀ ps, u ≠ .tbl ps) → upd H p o b = some u := fun b u q n _ => by
    have hb : b ≠ p := fun z => n (by rw [z]; exact m)
    rw [upd_ne hb]; exact q
  exact ⟨⟨[], by simp, by simp⟩, k, sq_of r k⟩
/-- only tables of code objects are written -/
theorem go_ext (r : RH K C ρ h H) (e : LamX.ExtN H H') : Go K ρ H ρ H' := ⟨⟨[], by simp, by simp⟩, fun b u q _ t => e b u q t, sq_of r fun b u q _ t => e b u q t⟩
theorem RH.ext (r : RH K C ρ h H) (e : LamX.ExtN H H') (t : LamX.Tabs C.T H') : RH K C ρ h H' := by
  refine ⟨r.len, r.nd, fun i u q => ?_, t⟩
  obtain ⟨a, ho, e1, e2, e3⟩ := r.at_ i u q
  refine ⟨a, ho, e1, e a ho e2 fun ps z => ?_, e3.go (go_ext r e)⟩
  rw [z] at e3
  cases u <;> obtain ⟨_, w, _⟩ := e3 <;> cases w
theorem tabs_set (r : RH K C ρ h H) {i : Nat} {p : Addr} {o : HO} (e : ρ[i]? = some p) : LamX.Tabs C.T (upd H p o) := fun x hx => by
  obtain ⟨_, u, ho, _, _, e3, e4⟩ := r.mem (List.mem_of_getElem? e)
  obtain ⟨ps, h1, h2, h3⟩ := r.tabs x hx
  have ne : ∀ b v, H b = some v → (∀ u', RO K ρ H u' v → False) → b ≠ p := fun b v q k z => by
    rw [z, e3] at q
    exact k u (by rw [← Option.some.inj q]; exact e4)
  refine ⟨ps, ?_, h2, fun pos cv hc => ?_⟩
  · rw [upd_ne (ne _ _ h1 fun u' k => ?_)]
    · exact h1
    · cases u' <;> obtain ⟨_, z, _⟩ := k <;> cases z
  · obtain ⟨c, q1, q2⟩ := h3 pos cv hc
    refine ⟨c, q1, ?_⟩
    rw [upd_ne (ne _ _ q2 fun u' k => ?_)]
    · exact q2
    · unfold LamX.CodeO at k
      cases u' <;> obtain ⟨_, z, _⟩ := k <;> cases z
theorem RH.set (r : RH K C ρ h H) {i : Nat} {p : Addr} {o : HO} {u : O} (e : ρ[i]? = some p) (ro : RO K ρ (upd H p o) u o) : RH K C ρ (h.set i u) (upd H p o) := by
  have hi : i < h.length := by rw [← r.len]; exact (List.getElem?_eq_some_iff.mp e).1
  refine ⟨by simp [r.len], r.nd, fun j v ej => ?_, tabs_set r e⟩
  by_cases hj : j = i
  · subst hj
    rw [List.getElem?_set_self hi] at ej
    cases ej
    exact ⟨p, o, e, upd_same, ro⟩
  · rw [List.getElem?_set_ne (Ne.symm hj)] at ej
    obtain ⟨a, ho, e1, e2, e3⟩ := r.at_ j v ej
    refine ⟨a, ho, e1, ?_, e3.go (go_set r e)⟩
    rw [upd_ne (fun z => hj ?_)]
    · exact e2
    · subst z
      obtain ⟨h1, q1⟩ := List.getElem?_eq_some_iff.mp e1
      obtain ⟨h2, q2⟩ := List.getElem?_eq_some_iff.mp e
      exact (List.getElem_inj r.nd).mp (q1.trans q2.symm)
end

/-! ### slots -/
abbrev Sl := List (Option D)
structure RS (K : PySem.W.Frag) (ρ : List Addr) (H : Hp) (δ : Sl) (σ : St) : Prop where
  len : δ.length = σ.length
  at_ : ∀ (i : Nat) (d : D), δ[i]? = some (some d) → ∃ v, σ[i]? = some (some v) ∧ RD K ρ H d v
section
variable {C : Cls} {ρ ρ1 ρ2 ρ' : List Addr} {H H1 H2 H' : Hp} {h h' : List O} {δ : Sl} {σ : St}
theorem RS.go (s : RS K ρ H δ σ) (g : Go K ρ H ρ' H') : RS K ρ' H' δ σ := ⟨s.len, fun i d e => let ⟨v, a, b⟩ := s.at_ i d e; ⟨v, a, b.go g⟩⟩
theorem RS.set (s : RS K ρ H δ σ) {d : D} {v : V} (r : RD K ρ H d v) (i : Nat) : RS K ρ H (δ.set i (some d)) (σ.set i (some v)) := by
  refine ⟨by simp [s.len], fun j c e => ?_⟩
  by_cases hj : j = i
  · subst hj
    have hi : j < δ.length := by
      have := (List.getElem?_eq_some_iff.mp e).1
      simpa using this
    rw [List.getElem?_set_self hi] at e
    cases e
    exact ⟨v, List.getElem?_set_self (by rw [← s.len]; exact hi), r⟩
  · rw [List.getElem?_set_ne (Ne.symm hj)] at e
    obtain ⟨v', a, b⟩ := s.at_ j c e
    exact ⟨v', by rw [List.getElem?_set_ne (Ne.symm hj)]; exact a, b⟩
end

/-! ### what the evaluator tells; readings -/
/-- of an expression; an error: the number of its class, what it holds -/
inductive R (α : Type) where
  | ok (a : α) (h : List O) | exc (c : Nat) (p : D) (h : List O) | bad
/-- of a statement -/
inductive RSt where
  | nx (δ : Sl) (h : List O) | ret (d : D) (h : List O) | brk (δ : Sl) (h : List O) | cnt (δ : Sl) (h : List O) | exc (c : Nat) (p : D) (δ : Sl) (h : List O) | bad
abbrev GE := Sl → List O → R D
abbrev GB := Sl → List O → R Bool
abbrev GA := Sl → List O → R (List D)
abbrev GS := Sl → List O → RSt
/-- an error of the class c that holds p, wished -/
def Ex (K : PySem.W.Frag) (C : Cls) (W : Value → Option Addr → Hp → Prop) (ρ : List Addr) (H : Hp) (c : Nat) (p : D) (h' : List O) : Prop :=
  ∀ ρ' H' a dx v, Go K ρ H ρ' H' → RH K C ρ' h' H' → C.f c = some a → RD K ρ' H' p v → H' dx = some (.xd [(C.fld c, v)]) → W (.ref a) (some dx) H'
/-- what is asked where the evaluator tells r -/
def Res {α : Type} (K : PySem.W.Frag) (C : Cls) (E : Value → Option Addr → Hp → Prop) (ρ : List Addr) (H : Hp) (r : R α) (Q : List Addr → List O → Hp → α → Prop) : Prop := match r with
  | .ok a h' => ∀ ρ' H', Go K ρ H ρ' H' → RH K C ρ' h' H' → Q ρ' h' H' a
  | .exc c p h' => Ex K C E ρ H c p h'
  | .bad => False
def R.bind {α β : Type} (r : R α) (k : α → List O → R β) : R β := match r with
  | .ok a h => k a h
  | .exc c p h => .exc c p h
  | .bad => .bad
section
variable {α β : Type} {C : Cls} {E : Value → Option Addr → Hp → Prop} {ρ ρ1 : List Addr} {H H1 : Hp} {r : R α} {k : α → List O → R β} {h' : List O}
theorem Ex.go {c : Nat} {p : D} (x : Ex K C E ρ H c p h') (g : Go K ρ H ρ1 H1) : Ex K C E ρ1 H1 c p h' := fun ρ' H' a dx v g' => x ρ' H' a dx v (g.trans g')
theorem Res.go {Q : List Addr → List O → Hp → α → Prop} (x : Res K C E ρ H r Q) (g : Go K ρ H ρ1 H1) : Res K C E ρ1 H1 r Q := by
  cases r with
  | ok a h => exact fun ρ' H' g' => x ρ' H' (g.trans g')
  | exc c p h => exact Ex.go x g
  | bad => exact x
theorem Res.mono {Q Q' : List Addr → List O → Hp → α → Prop} (x : Res K C E ρ H r Q) (f : ∀ ρ' h' H' a, Go K ρ H ρ' H' → RH K C ρ' h' H' → Q ρ' h' H' a → Q' ρ' h' H' a) : Res K C E ρ H r Q' := by
  cases r with
  | ok a h => exact fun ρ' H' g' rh => f _ _ _ _ g' rh (x ρ' H' g' rh)
  | exc c p h => exact x
  | bad => exact x
theorem Res.bind {Q : List Addr → List O → Hp → β → Prop} (x : Res K C E ρ H (r.bind k) Q) : Res K C E ρ H r fun ρ1 h1 H1 a => Res K C E ρ1 H1 (k a h1) Q := by
  cases r with
  | ok a h => exact fun ρ' H' g' rh => Res.go x g'
  | exc c p h => exact x
  | bad => exact x
end
def rd (K : PySem.W.Frag) (C : Cls) (W : WX) (g : GE) : TE := fun σ H Q => ∃ ρ h δ, RH K C ρ h H ∧ RS K ρ H δ σ ∧ Res K C (fun x dx H' => W x dx σ H') ρ H (g δ h) fun ρ' _ H' d => ∀ v, RD K ρ' H' d v → Q v H'
def rdT (K : PySem.W.Frag) (C : Cls) (W : WX) (g : GB) : TT := fun σ H Q => ∃ ρ h δ, RH K C ρ h H ∧ RS K ρ H δ σ ∧ Res K C (fun x dx H' => W x dx σ H') ρ H (g δ h) fun _ _ H' b => Q b H'
def rdA (K : PySem.W.Frag) (C : Cls) (W : WX) (g : GA) : TA := fun σ H Q => ∃ ρ h δ, RH K C ρ h H ∧ RS K ρ H δ σ ∧ Res K C (fun x dx H' => W x dx σ H') ρ H (g δ h) fun ρ' _ H' l => ∀ vs, RDs K ρ' H' l vs → Q vs H'
def ExS (K : PySem.W.Frag) (C : Cls) (W : WX) (ρ : List Addr) (H : Hp) (c : Nat) (p : D) (δ' : Sl) (h' : List O) : Prop :=
  ∀ ρ' H' σ' a dx v, Go K ρ H ρ' H' → RH K C ρ' h' H' → RS K ρ' H' δ' σ' → C.f c = some a → RD K ρ' H' p v → H' dx = some (.xd [(C.fld c, v)]) → W (.ref a) (some dx) σ' H'
/-- what is asked where the evaluator tells r of a statement -/
def ResS (K : PySem.W.Frag) (C : Cls) (W : WX) (Dn : Ends) (ρ : List Addr) (H : Hp) (r : RSt) : Prop := match r with
  | .nx δ' h' => ∀ ρ' H' σ', Go K ρ H ρ' H' → RH K C ρ' h' H' → RS K ρ' H' δ' σ' → Dn.nx σ' H'
  | .brk δ' h' => ∀ ρ' H' σ', Go K ρ H ρ' H' → RH K C ρ' h' H' → RS K ρ' H' δ' σ' → Dn.bk σ' H'
  | .cnt δ' h' => ∀ ρ' H' σ', Go K ρ H ρ' H' → RH K C ρ' h' H' → RS K ρ' H' δ' σ' → Dn.ct σ' H'
  | .ret d h' => ∀ ρ' H' v, Go K ρ H ρ' H' → RH K C ρ' h' H' → RD K ρ' H' d v → Dn.rt v H'
  | .exc c p δ' h' => ExS K C W ρ H c p δ' h'
  | .bad => False
def rdS (K : PySem.W.Frag) (C : Cls) (W : WX) (g : GS) : TS := fun Dn σ H => ∃ ρ h δ, RH K C ρ h H ∧ RS K ρ H δ σ ∧ ResS K C W Dn ρ H (g δ h)
theorem ResS.go {C : Cls} {W : WX} {Dn : Ends} {ρ ρ1 : List Addr} {H H1 : Hp} {r : RSt} (x : ResS K C W Dn ρ H r) (g : Go K ρ H ρ1 H1) : ResS K C W Dn ρ1 H1 r := by
  cases r with
  | nx δ' h' => exact fun ρ' H' σ' g' => x ρ' H' σ' (g.trans g')
  | brk δ' h' => exact fun ρ' H' σ' g' => x ρ' H' σ' (g.trans g')
  | cnt δ' h' => exact fun ρ' H' σ' g' => x ρ' H' σ' (g.trans g')
  | ret d h' => exact fun ρ' H' v g' => x ρ' H' v (g.trans g')
  | exc c p δ' h' => exact fun ρ' H' σ' a dx v g' => x ρ' H' σ' a dx v (g.trans g')
  | bad => exact x

/-! ### names, constants, operators -/
section
variable {X : Cx} {C : Cls} {W : WX} {a b : Expr} {ga gb : GE} {pos : Pos}
theorem PE_imp {e : Expr} {t t' : TE} (h : PE X e t) (i : ∀ σ H Q, t' σ H Q → t σ H Q) : PE X e t' := ⟨fun pins s σ H Q I q => h.run pins s σ H Q I (i σ H Q q)⟩
theorem PT_imp {e : Expr} {t t' : TT} (h : PT X e t) (i : ∀ σ H Q, t' σ H Q → t σ H Q) : PT X e t' := ⟨fun pins s σ H Q I q => h.run pins s σ H Q I (i σ H Q q)⟩
theorem PA_imp {e : List Expr} {t t' : TA} (h : PA X e t) (i : ∀ σ H Q, t' σ H Q → t σ H Q) : PA X e t' := ⟨fun pos pins s σ H Q I q => h.run pos pins s σ H Q I (i σ H Q q)⟩
theorem PS_imp {e : Stmt} {t t' : TS} (h : PS X e t) (i : ∀ D σ H, t' D σ H → t D σ H) : PS X e t' := ⟨fun pins s σ H D I q => h.run pins s σ H D I (i D σ H q)⟩
theorem PSs_imp {e : List Stmt} {t t' : TS} (h : PSs X e t) (i : ∀ D σ H, t' D σ H → t D σ H) : PSs X e t' := ⟨fun pins s σ H D I q => h.run pins s σ H D I (i D σ H q)⟩
/-- the slot i -/
def gVar (i : Nat) : GE := fun δ h => match δ[i]? with
  | some (some d) => .ok d h
  | _ => .bad
def gC (d : D) : GE := fun _ h => .ok d h
theorem sVar {i : Nat} {x : Str} (h : PE X (.Name x pos) (tVar i)) : PE X (.Name x pos) (rd K C W (gVar i)) := by
  refine PE_imp h fun σ H Q ⟨ρ, hp, δ, rh, rs, m⟩ => ?_
  unfold gVar at m
  split at m
  · rename_i d e
    obtain ⟨v, e1, e2⟩ := rs.at_ i d e
    exact ⟨v, e1, m ρ H .refl rh v e2⟩
  · exact m.elim
/-- a value that is told whatever the heap is -/
theorem sC {e : Expr} {v : V} {d : D} (h : PE X e (tC v)) (r : ∀ ρ H, RD K ρ H d v) : PE X e (rd K C W (gC d)) :=
  PE_imp h fun σ H Q ⟨ρ, hp, δ, rh, rs, m⟩ => m ρ H .refl rh v (r ρ H)
theorem sInt {i : Int} {j : Nat} : PE X (.Constant (.int i) j pos) (rd K C W (gC (.int i))) := sC pe_int fun _ _ => by unfold RD; rfl
theorem sStr {s : List Nat} {x : Str} {j : Nat} (e : x = ⟨s.toArray⟩) : PE X (.Constant (.str x) j pos) (rd K C W (gC (.str s))) := sC pe_str fun _ _ => by unfold RD; rw [e]
theorem sBl {i : Bool} {j : Nat} : PE X (.Constant (.bool i) j pos) (rd K C W (gC (.bl i))) := sC pe_bl fun _ _ => by unfold RD; rfl
theorem sNon {j : Nat} : PE X (.Constant .none j pos) (rd K C W (gC .non)) := sC pe_non fun _ _ => by unfold RD; rfl
/-- a two-place operation by values -/
def g2 (f : D → D → List O → R D) (ga gb : GE) : GE := fun δ h => (ga δ h).bind fun x h1 => (gb δ h1).bind fun y h2 => f x y h2
def Ok2 (K : PySem.W.Frag) (C : Cls) (f : D → D → List O → R D) (r : R2) : Prop := ∀ E ρ h H da db x y Q, RH K C ρ h H → RD K ρ H da x → RD K ρ H db y → Res K C E ρ H (f da db h) (fun ρ' _ H' d => ∀ v, RD K ρ' H' d v → Q v H') → r x y H Q
theorem two_of {f : D → D → List O → R D} {r : R2} (hr : Ok2 K C f r) {σ : L2.St} {H : Hp} {Q : VK} (q : rd K C W (g2 f ga gb) σ H Q) : tOp r (rd K C W ga) (rd K C W gb) σ H Q := by
  obtain ⟨ρ, hp, δ, rh, rs, m⟩ := q
  exact ⟨ρ, hp, δ, rh, rs, m.bind.mono fun ρ1 h1 H1 da g1 rh1 q1 x rx => ⟨ρ1, h1, δ, rh1, rs.go g1, q1.bind.mono fun ρ2 h2 H2 db g2 rh2 q2 y ry => hr _ ρ2 h2 H2 da db x y Q rh2 (rx.go g2) ry q2⟩⟩
theorem sBin {op : Operator} {f : D → D → List O → R D} {r : R2} (ho : OpR X (binaryOp op) r) (hr : Ok2 K C f r) (ha : PE X a (rd K C W ga)) (hb : PE X b (rd K C W gb)) : PE X (.BinOp a op b pos) (rd K C W (g2 f ga gb)) :=
  PE_imp (pe_op ho ha hb) fun _ _ _ q => two_of hr q
theorem sCmp {op : CmpOp} {f : D → D → List O → R D} {r : R2} (ho : OpR X (compareOp op) r) (hr : Ok2 K C f r) (ha : PE X a (rd K C W ga)) (hb : PE X b (rd K C W gb)) (hm : behindInMarks op b = false) : PE X (.Compare a [op] [b] pos) (rd K C W (g2 f ga gb)) :=
  PE_imp (pe_cmpR ho ha hb hm) fun _ _ _ q => two_of hr q
end
end Ev
set_option Elab.async false
set_option linter.all false
set_option maxRecDepth 100000
set_option maxHeartbeats 2000000
/-! Ev2: operators by values. -/
namespace Ev
open PySem PySem.Spec L2

section
variable {K : PySem.W.Frag} {C : Cls} {X : Cx} {ρ : List Addr} {H : Hp} {h : List O}
theorem RD.of_int {i : Int} {v : V} (r : RD K ρ H (.int i) v) : v = .int i := by unfold RD at r; exact r
theorem RD.of_str {s : List Nat} {v : V} (r : RD K ρ H (.str s) v) : v = .str ⟨s.toArray⟩ := by unfold RD at r; exact r
theorem RD.of_bl {i : Bool} {v : V} (r : RD K ρ H (.bl i) v) : v = .bl i := by unfold RD at r; exact r
theorem RD.of_non {v : V} (r : RD K ρ H .non v) : v = .non := by unfold RD at r; exact r
theorem RD.of_tup {l : List D} {v : V} (r : RD K ρ H (.tup l) v) : ∃ a vs, v = .ref a ∧ SqT K H a vs ∧ RDs K ρ H l vs := by unfold RD at r; exact r
theorem RD.of_ref {n : Nat} {v : V} (r : RD K ρ H (.ref n) v) : ∃ a, v = .ref a ∧ ρ[n]? = some a := by unfold RD at r; exact r
theorem RD.int {i : Int} : RD K ρ H (.int i) (.int i) := by unfold RD; rfl
theorem RD.bl {i : Bool} : RD K ρ H (.bl i) (.bl i) := by unfold RD; rfl
theorem RD.non : RD K ρ H .non .non := by unfold RD; rfl
theorem RD.str {s : List Nat} : RD K ρ H (.str s) (.str ⟨s.toArray⟩) := by unfold RD; rfl
theorem RD.strOf {x : Str} : RD K ρ H (.str x.cps.toList) (.str x) := by unfold RD; obtain ⟨a⟩ := x; simp
theorem RD.tup {l : List D} {a : Addr} {vs : List V} (s : SqT K H a vs) (r : RDs K ρ H l vs) : RD K ρ H (.tup l) (.ref a) := by unfold RD; exact ⟨a, vs, rfl, s, r⟩
theorem RD.ref {n : Nat} {a : Addr} (e : ρ[n]? = some a) : RD K ρ H (.ref n) (.ref a) := by unfold RD; exact ⟨a, rfl, e⟩
theorem RDs.nil : RDs K ρ H [] [] := by unfold RDs; rfl
theorem RDs.cons {d : D} {l : List D} {v : V} {vs : List V} (a : RD K ρ H d v) (b : RDs K ρ H l vs) : RDs K ρ H (d :: l) (v :: vs) := by unfold RDs; exact ⟨v, vs, rfl, a, b⟩
theorem RDs.of_nil {vs : List V} (r : RDs K ρ H [] vs) : vs = [] := by unfold RDs at r; exact r
theorem RDs.of_cons {d : D} {l : List D} {vs : List V} (r : RDs K ρ H (d :: l) vs) : ∃ v t, vs = v :: t ∧ RD K ρ H d v ∧ RDs K ρ H l t := by unfold RDs at r; exact r
theorem RDs.length : ∀ {l : List D} {vs : List V}, RDs K ρ H l vs → vs.length = l.length
  | [], _, r => by rw [r.of_nil]; rfl
  | d :: l, _, r => by
    obtain ⟨v, t, rfl, _, q⟩ := r.of_cons
    simp [q.length]
theorem RDs.append : ∀ {l m : List D} {vs ws : List V}, RDs K ρ H l vs → RDs K ρ H m ws → RDs K ρ H (l ++ m) (vs ++ ws)
  | [], _, _, _, r, q => by rw [r.of_nil]; exact q
  | d :: l, _, _, _, r, q => by
    obtain ⟨v, t, rfl, a, b⟩ := r.of_cons
    exact .cons a (b.append q)
theorem RDs.get : ∀ {l : List D} {vs : List V} {i : Nat} {d : D}, RDs K ρ H l vs → l[i]? = some d → ∃ v, vs[i]? = some v ∧ RD K ρ H d v
  | [], _, _, _, _, e => by simp at e
  | c :: l, _, 0, d, r, e => by
    obtain ⟨v, t, rfl, a, b⟩ := r.of_cons
    simp at e
    subst e
    exact ⟨v, rfl, a⟩
  | c :: l, _, i + 1, d, r, e => by
    obtain ⟨v, t, rfl, a, b⟩ := r.of_cons
    obtain ⟨u, e1, e2⟩ := b.get (i := i) (d := d) (by simpa using e)
    exact ⟨u, by simpa using e1, e2⟩
theorem RDs.set {d : D} {v : V} (r : RD K ρ H d v) : ∀ {l : List D} {vs : List V} (i : Nat), RDs K ρ H l vs → RDs K ρ H (l.set i d) (vs.set i v)
  | [], _, _, q => by rw [q.of_nil]; exact .nil
  | c :: l, _, 0, q => by
    obtain ⟨u, t, rfl, a, b⟩ := q.of_cons
    exact .cons r b
  | c :: l, _, i + 1, q => by
    obtain ⟨u, t, rfl, a, b⟩ := q.of_cons
    exact .cons a (b.set r i)
theorem RDs.drop : ∀ {l : List D} {vs : List V} (n : Nat), RDs K ρ H l vs → RDs K ρ H (l.drop n) (vs.drop n)
  | [], _, n, q => by rw [q.of_nil]; simpa using RDs.nil
  | c :: l, _, 0, q => q
  | c :: l, _, n + 1, q => by
    obtain ⟨u, t, rfl, a, b⟩ := q.of_cons
    exact b.drop n
theorem RDs.take : ∀ {l : List D} {vs : List V} (n : Nat), RDs K ρ H l vs → RDs K ρ H (l.take n) (vs.take n)
  | [], _, n, q => by rw [q.of_nil]; simpa using RDs.nil
  | c :: l, _, 0, q => .nil
  | c :: l, _, n + 1, q => by
    obtain ⟨u, t, rfl, a, b⟩ := q.of_cons
    exact .cons a (b.take n)
def intsOf : List D → Option (List Int)
  | [] => some []
  | .int i :: l => (intsOf l).map (i :: ·)
  | _ => none
theorem RDs.ints : ∀ {l : List D} {ns : List Int} {vs : List V}, intsOf l = some ns → RDs K ρ H l vs → vs = ns.map V.int
  | [], _, _, e, r => by cases e; exact r.of_nil
  | .int i :: l, _, _, e, r => by
    unfold intsOf at e
    obtain ⟨ns, e1, rfl⟩ := Option.map_eq_some_iff.mp e
    obtain ⟨v, t, rfl, a, b⟩ := r.of_cons
    rw [a.of_int, b.ints e1]
    rfl
  | .non :: l, _, _, e, r => by cases e
  | .bl _ :: l, _, _, e, r => by cases e
  | .str _ :: l, _, _, e, r => by cases e
  | .tup _ :: l, _, _, e, r => by cases e
  | .ref _ :: l, _, _, e, r => by cases e
/-- a list that the evaluator knows -/
theorem RH.lst (r : RH K C ρ h H) {n : Nat} {l : List D} (e : h[n]? = some (.lst l)) : ∃ a vs, ρ[n]? = some a ∧ H a = some (.lst vs) ∧ RDs K ρ H l vs := by
  obtain ⟨a, ho, e1, e2, e3⟩ := r.at_ n _ e
  unfold RO at e3
  obtain ⟨vs, rfl, q⟩ := e3
  exact ⟨a, vs, e1, e2, q⟩
theorem RO.lst {l : List D} {vs : List V} (q : RDs K ρ H l vs) : RO K ρ H (.lst l) (.lst vs) := by unfold RO; exact ⟨vs, rfl, q⟩

/-! ### + -/
def line : Nat := 1000000
theorem line_ok {n : Nat} (e : Nat.ble n line = true) : n ≤ sizeLine := by
  have := Nat.le_of_ble_eq_true e
  rw [sizeLine_eq]
  exact Nat.le_trans this (by decide)
def addO : D → D → List O → R D
  | .int i, .int j, h => .ok (.int (i + j)) h
  | .str s, .str t, h => if Nat.ble (s.length + t.length) line then .ok (.str (s ++ t)) h else .bad
  | .tup s, .tup t, h => if Nat.ble (s.length + t.length) line then .ok (.tup (s ++ t)) h else .bad
  | .ref m, .ref n, h => match h[m]?, h[n]? with
    | some (.lst s), some (.lst t) => if Nat.ble (s.length + t.length) line then .ok (.ref h.length) (h ++ [.lst (s ++ t)]) else .bad
    | _, _ => .bad
  | _, _, _ => .bad
def rAddO (K : PySem.W.Frag) : R2 := fun x y H Q => rI0 (fun i j => .int (i + j)) x y H Q ∨ (∃ i j, x = .str i ∧ y = .str j ∧ i.length + j.length ≤ sizeLine ∧ Q (.str (i ++ j)) H) ∨ rCatA K x y H Q ∨ rCat x y H Q
theorem op_addO : OpR X (binaryOp .Add) (rAddO X.K) := op_add.or (op_add_str.or (op_catA.or op_cat))
theorem str_cat (s t : List Nat) : (⟨s.toArray⟩ : Str) ++ (⟨t.toArray⟩ : Str) = ⟨(s ++ t).toArray⟩ := by
  show (⟨s.toArray ++ t.toArray⟩ : Str) = _
  simp
theorem str_len (s : List Nat) : (⟨s.toArray⟩ : Str).length = s.length := by show s.toArray.size = _; simp
theorem ok_addO : Ok2 K C addO (rAddO K) := by
  intro E ρ h H da db x y Q rh rx ry m
  unfold addO at m
  split at m
  · cases rx.of_int; cases ry.of_int
    exact .inl ⟨_, _, rfl, rfl, m ρ H .refl rh _ .int⟩
  · split at m
    · rename_i s t hz
      cases rx.of_str; cases ry.of_str
      exact .inr (.inl ⟨_, _, rfl, rfl, by rw [str_len, str_len]; exact line_ok hz, m ρ H .refl rh _ (by rw [str_cat]; exact .str)⟩)
    · exact m.elim
  · split at m
    · rename_i s t hz
      obtain ⟨a, vs, rfl, sa, ra⟩ := rx.of_tup
      obtain ⟨b, ws, rfl, sb, rb⟩ := ry.of_tup
      refine .inr (.inr (.inl ⟨a, b, vs, ws, rfl, rfl, sa, sb, by rw [ra.length, rb.length]; exact line_ok hz, fun e => ?_, fun _ e => ?_, fun _ _ p hp => ?_⟩))
      · refine m ρ H .refl rh _ (.tup sb ?_)
        have := ra.append rb
        rw [e] at this
        simpa using this
      · refine m ρ H .refl rh _ (.tup sa ?_)
        have := ra.append rb
        rw [e] at this
        simpa using this
      · exact m ρ _ (go_new rh hp) (rh.new hp) _ (.tup (SqT.of upd_same) ((ra.append rb).go (go_new rh hp)))
    · exact m.elim
  · split at m
    · rename_i s t e1 e2
      split at m
      · rename_i hz
        obtain ⟨a, rfl, ea⟩ := rx.of_ref
        obtain ⟨b, rfl, eb⟩ := ry.of_ref
        obtain ⟨a', vs, q1, q2, q3⟩ := rh.lst e1
        obtain ⟨b', ws, p1, p2, p3⟩ := rh.lst e2
        rw [ea] at q1; cases q1
        rw [eb] at p1; cases p1
        refine .inr (.inr (.inr ⟨a, b, vs, ws, rfl, rfl, q2, p2, by rw [q3.length, p3.length]; exact line_ok hz, fun p hp => ?_⟩))
        have g := go_add (o := HO.lst (vs ++ ws)) rh hp
        refine m _ _ g (rh.add hp (.lst ((q3.append p3).go g))) _ (.ref ?_)
        rw [List.getElem?_append_right (by rw [rh.len]; exact Nat.le_refl _), rh.len]
        simp
      · exact m.elim
    · exact m.elim
  · exact m.elim
/-- a rule for two ints -/
theorem ok_int {f : Int → Int → Int} {P : Int → Int → Prop} {p : Int → Int → Bool} (hp : ∀ i j, p i j = true → P i j) :
    Ok2 K C (fun x y h => match x, y with | .int i, .int j => if p i j then .ok (.int (f i j)) h else .bad | _, _ => .bad) (rI P fun i j => .int (f i j)) := by
  intro E ρ h H da db x y Q rh rx ry m
  dsimp only at m
  split at m
  · split at m
    · rename_i hq
      cases rx.of_int; cases ry.of_int
      exact ⟨_, _, rfl, rfl, hp _ _ hq, m ρ H .refl rh _ .int⟩
    · exact m.elim
  · exact m.elim
def intO (f : Int → Int → Int) (p : Int → Int → Bool) : D → D → List O → R D := fun x y h => match x, y with | .int i, .int j => if p i j then .ok (.int (f i j)) h else .bad | _, _ => .bad
def subO := intO (fun i j => i - j) fun _ _ => true
def two64 : Int := 18446744073709551616
def small (i : Int) : Bool := decide (-two64 < i) && decide (i < two64)
theorem small_ok {i : Int} (e : small i = true) : -(2 ^ 64) < i ∧ i < 2 ^ 64 := by
  unfold small two64 at e
  rw [Bool.and_eq_true, decide_eq_true_eq, decide_eq_true_eq] at e
  exact e
def fdivO := intO Int.fdiv fun _ j => decide (j ≠ 0) && decide (j.natAbs < 1073741824)
def modO := intO Int.fmod fun _ j => decide (j ≠ 0)
def powO := intO (fun i j => i ^ j.toNat) fun i j => decide (0 ≤ j) && (decide (j ≤ 1000000) && decide (i.natAbs < 18446744073709551616))
theorem op_subO : OpR X (binaryOp .Sub) (rI (fun _ _ => True) fun i j => .int (i - j)) := fun pins s σ H x y v u Q I r1 r2 ⟨i, j, e1, e2, _, q⟩ => op_sub pins s σ H x y v u Q I r1 r2 ⟨i, j, e1, e2, q⟩
theorem ok_subO : Ok2 K C subO (rI (fun _ _ => True) fun i j => .int (i - j)) := ok_int fun _ _ _ => trivial
theorem ok_fdivO : Ok2 K C fdivO (rI CDivN fun i j => .int (i.fdiv j)) := ok_int fun _ _ e => by
  rw [Bool.and_eq_true, decide_eq_true_eq, decide_eq_true_eq] at e
  exact e
theorem ok_modO : Ok2 K C modO (rI (fun _ j => j ≠ 0) fun i j => .int (i.fmod j)) := ok_int fun _ _ e => of_decide_eq_true e
theorem ok_powO : Ok2 K C powO (rI CPow fun i j => .int (i ^ j.toNat)) := ok_int fun _ _ e => by
  rw [Bool.and_eq_true, Bool.and_eq_true, decide_eq_true_eq, decide_eq_true_eq, decide_eq_true_eq] at e
  exact ⟨e.1, e.2.1, e.2.2⟩
/-- *: ints; a list or a tuple by a number -/
def mulO : D → D → List O → R D
  | .int i, .int j, h => if small i || small j then .ok (.int (i * j)) h else .bad
  | .tup l, .int k, h => if decide (2 ≤ k) && (decide (k ≤ 1000) && (Nat.ble l.length 1000 && !l.isEmpty)) then .ok (.tup (List.replicate k.toNat l).flatten) h else .bad
  | .ref n, .int k, h => match h[n]? with
    | some (.lst l) => if decide (0 ≤ k) && (decide (k ≤ 1000) && Nat.ble l.length 1000) then .ok (.ref h.length) (h ++ [.lst (List.replicate k.toNat l).flatten]) else .bad
    | _ => .bad
  | _, _, _ => .bad
def rMulO (K : PySem.W.Frag) : R2 := fun x y H Q => rI CMul (fun i j => .int (i * j)) x y H Q ∨ rRepT K x y H Q ∨ rRep x y H Q
theorem op_mulO : OpR X (binaryOp .Mult) (rMulO X.K) := op_mul.or (op_repT.or op_rep)
theorem RDs.rep {l : List D} {vs : List V} (r : RDs K ρ H l vs) : ∀ n : Nat, RDs K ρ H (List.replicate n l).flatten (List.replicate n vs).flatten
  | 0 => by simpa using RDs.nil
  | n + 1 => by
    rw [List.replicate_succ, List.replicate_succ, List.flatten_cons, List.flatten_cons]
    exact r.append (r.rep n)
theorem ok_mulO : Ok2 K C mulO (rMulO K) := by
  intro E ρ h H da db x y Q rh rx ry m
  unfold mulO at m
  split at m
  · split at m
    · rename_i hq
      cases rx.of_int; cases ry.of_int
      refine .inl ⟨_, _, rfl, rfl, ?_, m ρ H .refl rh _ .int⟩
      rw [Bool.or_eq_true] at hq
      exact hq.elim (fun e => .inl (small_ok e)) fun e => .inr (small_ok e)
    · exact m.elim
  · split at m
    · rename_i l k hq
      simp only [Bool.and_eq_true, decide_eq_true_eq, Nat.ble_eq, Bool.not_eq_true', List.isEmpty_eq_false_iff] at hq
      obtain ⟨q1, q2, q3, q4⟩ := hq
      cases ry.of_int
      obtain ⟨a, vs, rfl, sa, ra⟩ := rx.of_tup
      refine .inr (.inl ⟨a, k, vs, rfl, rfl, sa, fun e => q4 ?_, q1, q2, by rw [ra.length]; exact q3, fun p hp => ?_⟩)
      · have := ra.length
        rw [e] at this
        exact List.eq_nil_of_length_eq_zero this.symm
      · exact m ρ _ (go_new rh hp) (rh.new hp) _ (.tup (SqT.of upd_same) ((ra.rep _).go (go_new rh hp)))
    · exact m.elim
  · rename_i n k
    split at m
    · rename_i l e1
      split at m
      · rename_i hq
        simp only [Bool.and_eq_true, decide_eq_true_eq, Nat.ble_eq] at hq
        obtain ⟨q1, q2, q3⟩ := hq
        cases ry.of_int
        obtain ⟨a, rfl, ea⟩ := rx.of_ref
        obtain ⟨a', vs, p1, p2, p3⟩ := rh.lst e1
        rw [ea] at p1; cases p1
        have hz : vs.length * k.toNat ≤ 1000 * 1000 := Nat.mul_le_mul (by rw [p3.length]; exact q3) (by omega)
        refine .inr (.inr ⟨a, k, vs, rfl, rfl, p2, by omega, by omega, by rw [sizeLine_eq]; omega, fun p hp => ?_⟩)
        have g := go_add (o := HO.lst (List.replicate k.toNat vs).flatten) rh hp
        refine m _ _ g (rh.add hp (.lst ((p3.rep _).go g))) _ (.ref ?_)
        rw [List.getElem?_append_right (by rw [rh.len]; exact Nat.le_refl _), rh.len]
        simp
      · exact m.elim
    · exact m.elim
  · exact m.elim

/-! ### ==, !=: whatever is data -/
mutual
def toPd (f : Nat → Option PyData) : D → Option PyData
  | .non => some .none
  | .bl b => some (.bool b)
  | .int i => some (.int i)
  | .str s => some (.str ⟨s.toArray⟩)
  | .tup l => (toPds f l).map .tuple
  | .ref k => f k
def toPds (f : Nat → Option PyData) : List D → Option (List PyData)
  | [] => some []
  | d :: l => match toPd f d with
    | some p => match toPds f l with
      | some q => some (p :: q)
      | none => none
    | none => none
end
def toPn (h : List O) : Nat → Nat → Option PyData
  | 0, _ => none
  | n + 1, k => match h[k]? with
    | some (.lst l) => (toPds (toPn h n) l).map .list
    | _ => none
def toP (h : List O) : D → Option PyData := toPd (toPn h 4)
mutual
theorem toPd_ok {f : Nat → Option PyData} (hf : ∀ k p v, f k = some p → RD K ρ H (.ref k) v → Dp K H v p) : ∀ {d : D} {p : PyData} {v : V}, toPd f d = some p → RD K ρ H d v → Dp K H v p
  | .non, _, _, e, r => by unfold toPd at e; cases e; rw [r.of_non]; exact .non
  | .bl b, _, _, e, r => by unfold toPd at e; cases e; rw [r.of_bl]; exact .bl b
  | .int i, _, _, e, r => by unfold toPd at e; cases e; rw [r.of_int]; exact .int i
  | .str s, _, _, e, r => by unfold toPd at e; cases e; rw [r.of_str]; exact .str _
  | .tup l, _, _, e, r => by
    unfold toPd at e
    obtain ⟨ps, e1, rfl⟩ := Option.map_eq_some_iff.mp e
    obtain ⟨a, vs, rfl, sa, ra⟩ := r.of_tup
    exact .tup sa (toPds_ok hf e1 ra)
  | .ref k, _, _, e, r => by unfold toPd at e; exact hf _ _ _ e r
theorem toPds_ok {f : Nat → Option PyData} (hf : ∀ k p v, f k = some p → RD K ρ H (.ref k) v → Dp K H v p) : ∀ {l : List D} {ps : List PyData} {vs : List V}, toPds f l = some ps → RDs K ρ H l vs → DpAll K H vs ps
  | [], _, _, e, r => by unfold toPds at e; cases e; rw [r.of_nil]; exact .nil
  | d :: l, _, _, e, r => by
    unfold toPds at e
    split at e
    · rename_i p e1
      split at e
      · rename_i q e2
        cases e
        obtain ⟨v, t, rfl, a, b⟩ := r.of_cons
        exact .cons (toPd_ok hf e1 a) (toPds_ok hf e2 b)
      · cases e
    · cases e
end
theorem toPn_ok (rh : RH K C ρ h H) : ∀ (n : Nat) (k : Nat) (p : PyData) (v : V), toPn h n k = some p → RD K ρ H (.ref k) v → Dp K H v p
  | 0, _, _, _, e, _ => by unfold toPn at e; cases e
  | n + 1, k, _, _, e, r => by
    unfold toPn at e
    split at e
    · rename_i l e1
      obtain ⟨ps, e2, rfl⟩ := Option.map_eq_some_iff.mp e
      obtain ⟨a, rfl, ea⟩ := r.of_ref
      obtain ⟨a', vs, p1, p2, p3⟩ := rh.lst e1
      rw [ea] at p1; cases p1
      exact .lst (SqL.of p2) (toPds_ok (toPn_ok rh n) e2 p3)
    · cases e
theorem toP_ok (rh : RH K C ρ h H) {d : D} {p : PyData} {v : V} (e : toP h d = some p) (r : RD K ρ H d v) : Dp K H v p := toPd_ok (toPn_ok rh 4) e r
def eqO (neg : Bool) : D → D → List O → R D := fun x y h => match toP h x, toP h y with
  | some p, some q => if SeqAt.shaped p && SeqAt.shaped q then .ok (.bl (if neg then !PyData.eqv p q else PyData.eqv p q)) h else .bad
  | _, _ => .bad
def rEqO (K : PySem.W.Frag) (neg : Bool) : R2 := if neg then rNeD K else rEqD K
theorem ok_eqO (neg : Bool) : Ok2 K C (eqO neg) (rEqO K neg) := by
  intro E ρ h H da db x y Q rh rx ry m
  unfold eqO at m
  split at m
  · rename_i p q e1 e2
    split at m
    · rename_i hs
      rw [Bool.and_eq_true] at hs
      have z := m ρ H .refl rh _ .bl
      cases neg with
      | true => exact ⟨p, q, toP_ok rh e1 rx, toP_ok rh e2 ry, hs.1, hs.2, z⟩
      | false => exact ⟨p, q, toP_ok rh e1 rx, toP_ok rh e2 ry, hs.1, hs.2, z⟩
    · exact m.elim
  · exact m.elim
theorem op_eqO (hu : X.A.units + 64 < cLine) (neg : Bool) : OpR X (compareOp (if neg then .NotEq else .Eq)) (rEqO X.K neg) := by
  cases neg with
  | true => exact op_neD hu
  | false => exact op_eqD hu

/-! ### <, <=, >, >= -/
inductive Co where
  | lt | le | gt | ge
def Co.op : Co → CmpOp
  | .lt => .Lt | .le => .LtE | .gt => .Gt | .ge => .GtE
def Co.int (c : Co) (i j : Int) : Bool := match c with
  | .lt => decide (i < j) | .le => decide (i ≤ j) | .gt => decide (j < i) | .ge => decide (j ≤ i)
def Co.str (c : Co) (i j : List Nat) : Bool := match c with
  | .lt => decide (i < j) | .le => !decide (j < i) | .gt => decide (j < i) | .ge => !decide (i < j)
def ltO (c : Co) : D → D → List O → R D := fun x y h => match x, y with
  | .int i, .int j => .ok (.bl (c.int i j)) h
  | .str s, .str t => .ok (.bl (c.str s t)) h
  | .tup s, .tup t => match c, intsOf s, intsOf t with
    | .lt, some ns, some ms => .ok (.bl (HT.lexLt ns ms)) h
    | _, _, _ => .bad
  | _, _ => .bad
def rLtO (K : PySem.W.Frag) (c : Co) : R2 := fun x y H Q => rI0 (fun i j => .bl (c.int i j)) x y H Q ∨ (∃ i j, x = .str i ∧ y = .str j ∧ Q (.bl (c.str i.cps.toList j.cps.toList)) H) ∨ (c = .lt ∧ rLtT K x y H Q)
theorem op_ltO (hu : X.A.units < cLine) (c : Co) : OpR X (compareOp c.op) (rLtO X.K c) := by
  intro pins s σ H x y v u Q I r1 r2 q
  rcases q with q | q | ⟨e, q⟩
  · cases c with
    | lt => exact op_lt pins s σ H x y v u Q I r1 r2 q
    | le => exact op_le pins s σ H x y v u Q I r1 r2 q
    | gt => exact op_gt pins s σ H x y v u Q I r1 r2 q
    | ge => exact op_ge pins s σ H x y v u Q I r1 r2 q
  · cases c with
    | lt => exact op_lt_str pins s σ H x y v u Q I r1 r2 q
    | le => exact op_le_str pins s σ H x y v u Q I r1 r2 q
    | gt => exact op_gt_str pins s σ H x y v u Q I r1 r2 q
    | ge => exact op_ge_str pins s σ H x y v u Q I r1 r2 q
  · subst e
    exact op_ltT hu pins s σ H x y v u Q I r1 r2 q
theorem ok_ltO (c : Co) : Ok2 K C (ltO c) (rLtO K c) := by
  intro E ρ h H da db x y Q rh rx ry m
  unfold ltO at m
  split at m
  · cases rx.of_int; cases ry.of_int
    exact .inl ⟨_, _, rfl, rfl, m ρ H .refl rh _ .bl⟩
  · cases rx.of_str; cases ry.of_str
    exact .inr (.inl ⟨_, _, rfl, rfl, m ρ H .refl rh _ (by simpa using RD.bl)⟩)
  · split at m
    · rename_i s t ns ms e1 e2
      obtain ⟨a, vs, rfl, sa, ra⟩ := rx.of_tup
      obtain ⟨b, ws, rfl, sb, rb⟩ := ry.of_tup
      rw [ra.ints e1] at sa
      rw [rb.ints e2] at sb
      exact .inr (.inr ⟨rfl, a, b, ns, ms, rfl, rfl, sa, sb, m ρ H .refl rh _ .bl⟩)
    · exact m.elim
  · exact m.elim
end
end Ev
set_option Elab.async false
set_option linter.all false
set_option maxRecDepth 100000
set_option maxHeartbeats 2000000
/-! Ev3: in, is, truth, displays, subscripts. -/
namespace Ev
open PySem PySem.Spec L2

section
variable {K : PySem.W.Frag} {C : Cls} {W : WX} {X : Cx} {ρ : List Addr} {H : Hp} {h : List O}
/-! ### is None -/
def isNon : D → Bool
  | .non => true
  | _ => false
theorem isNon_ok {d : D} {v : V} (r : RD K ρ H d v) : decide (v = .non) = isNon d := by
  cases d with
  | non => rw [r.of_non]; rfl
  | bl b => rw [r.of_bl]; rfl
  | int i => rw [r.of_int]; rfl
  | str s => rw [r.of_str]; rfl
  | tup l => obtain ⟨a, vs, rfl, _⟩ := r.of_tup; rfl
  | ref n => obtain ⟨a, rfl, _⟩ := r.of_ref; rfl
def isO (neg : Bool) : D → D → List O → R D := fun x y h => match y with
  | .non => .ok (.bl (if neg then !isNon x else isNon x)) h
  | _ => .bad
def rIsO (neg : Bool) : R2 := fun x y H Q => y = .non ∧ Q (.bl (if neg then !decide (x = .non) else decide (x = .non))) H
theorem op_isO (neg : Bool) : OpR X (compareOp (if neg then .IsNot else .Is)) (rIsO neg) := by
  cases neg with
  | true => exact op_notN
  | false => exact op_isN
theorem ok_isO (neg : Bool) : Ok2 K C (isO neg) (rIsO neg) := by
  intro E ρ h H da db x y Q rh rx ry m
  unfold isO at m
  split at m
  · refine ⟨ry.of_non, m ρ H .refl rh _ ?_⟩
    rw [isNon_ok rx]
    exact .bl
  · exact m.elim

/-! ### in -/
def flatOf : D → Option V
  | .non => some .non
  | .bl b => some (.bl b)
  | .int i => some (.int i)
  | .str s => some (.str ⟨s.toArray⟩)
  | _ => none
theorem flatOf_ok {d : D} {u v : V} (e : flatOf d = some u) (r : RD K ρ H d v) : v = u ∧ flatV u = true := by
  cases d with
  | non => cases e; exact ⟨r.of_non, rfl⟩
  | bl b => cases e; exact ⟨r.of_bl, rfl⟩
  | int i => cases e; exact ⟨r.of_int, rfl⟩
  | str s => cases e; exact ⟨r.of_str, rfl⟩
  | tup l => cases e
  | ref n => cases e
def flatsOf : List D → Option (List V)
  | [] => some []
  | d :: l => match flatOf d with
    | some u => match flatsOf l with
      | some us => some (u :: us)
      | none => none
    | none => none
theorem flatsOf_ok : ∀ {l : List D} {us vs : List V}, flatsOf l = some us → RDs K ρ H l vs → vs = us ∧ us.all flatV = true
  | [], _, _, e, r => by cases e; exact ⟨r.of_nil, rfl⟩
  | d :: l, _, _, e, r => by
    unfold flatsOf at e
    split at e
    · rename_i u e1
      split at e
      · rename_i us e2
        cases e
        obtain ⟨v, t, rfl, a, b⟩ := r.of_cons
        obtain ⟨q1, q2⟩ := flatOf_ok e1 a
        obtain ⟨q3, q4⟩ := flatsOf_ok e2 b
        exact ⟨by rw [q1, q3], by rw [List.all_cons, q2, q4]; rfl⟩
      · cases e
    · cases e
/-- a dict's keys -/
def kdOf : D → Option KD
  | .int i => some (.inl i)
  | .str s => some (.inr s)
  | _ => none
def keyBeq : KD → KD → Bool
  | .inl i, .inl j => decide (i = j)
  | .inr s, .inr t => decide (s = t)
  | _, _ => false
theorem keyBeq_iff {a b : KD} : keyBeq a b = true ↔ a = b := by
  cases a <;> cases b <;> simp [keyBeq]
theorem kOf_inj {a b : KD} : kOf a = kOf b ↔ a = b := by
  cases a <;> cases b <;> simp [kOf]
def dlook (k : KD) : List (KD × D) → Option D
  | [] => none
  | p :: l => if keyBeq p.1 k then some p.2 else dlook k l
def dmap (k : KD) (v : D) : List (KD × D) → List (KD × D)
  | [] => []
  | p :: l => (if keyBeq p.1 k then (p.1, v) else p) :: dmap k v l
def dput (k : KD) (v : D) (l : List (KD × D)) : List (KD × D) := match dlook k l with
  | some _ => dmap k v l
  | none => l ++ [(k, v)]
theorem kdOf_ok {d : D} {k : KD} {v : V} (e : kdOf d = some k) (r : RD K ρ H d v) : v = kV (kOf k) := by
  cases d with
  | int i => cases e; exact r.of_int
  | str s => cases e; exact r.of_str
  | _ => cases e
theorem RKs.look {k : KD} : ∀ {l : List (KD × D)} {kvs : List (Key × V)}, RKs K ρ H l kvs → (∀ d, dlook k l = some d → ∃ v, valV kvs (kOf k) = some v ∧ RD K ρ H d v) ∧ (dlook k l = none → valV kvs (kOf k) = none)
  | [], _, r => by
    unfold RKs at r
    subst r
    exact ⟨fun d e => (by cases e), fun _ => rfl⟩
  | p :: l, _, r => by
    unfold RKs at r
    obtain ⟨v, t, rfl, a, b⟩ := r
    obtain ⟨q1, q2⟩ := RKs.look (k := k) b
    unfold dlook
    by_cases hk : p.1 = k
    · rw [if_pos (keyBeq_iff.mpr hk)]
      refine ⟨fun d e => ?_, fun e => (by cases e)⟩
      cases e
      exact ⟨v, valV_pos (kOf_inj.mpr hk), a⟩
    · rw [if_neg (fun z => hk (keyBeq_iff.mp z)), valV_neg (fun z => hk (kOf_inj.mp z))]
      exact ⟨q1, q2⟩
theorem RH.dct (r : RH K C ρ h H) {n : Nat} {l : List (KD × D)} (e : h[n]? = some (.dct l)) : ∃ a kvs, ρ[n]? = some a ∧ H a = some (.dK kvs) ∧ RKs K ρ H l kvs := by
  obtain ⟨a, ho, e1, e2, e3⟩ := r.at_ n _ e
  unfold RO at e3
  obtain ⟨vs, rfl, q⟩ := e3
  exact ⟨a, vs, e1, e2, q⟩
def inB (x : D) (y : D) (h : List O) : Option Bool := match y with
  | .tup l => match flatOf x, flatsOf l with
    | some u, some us => some (inV u us)
    | _, _ => none
  | .str t => match x with
    | .str [c] => some (decide (c ∈ t))
    | .str s => some (!(Builtin.Str.occurrences (⟨t.toArray⟩ : Str) (⟨s.toArray⟩ : Str) 0 t.length 1).isEmpty)
    | _ => none
  | .ref n => match h[n]? with
    | some (.lst l) => match flatOf x, flatsOf l with
      | some u, some us => some (inV u us)
      | _, _ => none
    | some (.dct l) => match kdOf x with
      | some k => some (dlook k l).isSome
      | none => none
    | none => none
  | _ => none
def inO (neg : Bool) : D → D → List O → R D := fun x y h => match inB x y h with
  | some b => .ok (.bl (if neg then !b else b)) h
  | none => .bad
def rInO (K : PySem.W.Frag) (neg : Bool) : R2 := fun x y H Q => rIn K neg x y H Q ∨ (∃ (c : Nat) (z : Str), x = .str ⟨#[c]⟩ ∧ y = .str z ∧ Q (.bl (if neg then !decide (c ∈ z.cps.toList) else decide (c ∈ z.cps.toList))) H) ∨
  (∃ i j, x = .str i ∧ y = .str j ∧ Q (.bl (if neg then !(!(Builtin.Str.occurrences j i 0 j.length 1).isEmpty) else !(Builtin.Str.occurrences j i 0 j.length 1).isEmpty)) H) ∨ ∃ a o, y = .ref a ∧ DGet H a x o ∧ Q (.bl (if neg then !o.isSome else o.isSome)) H
theorem op_inO (hu : X.A.units + 1 < cLine) (neg : Bool) : OpR X (compareOp (if neg then .NotIn else .In)) (rInO X.K neg) := by
  intro pins s σ H x y v u Q I r1 r2 q
  cases neg with
  | true =>
    rcases q with q | ⟨c, z, q⟩ | q | ⟨a, o, rfl, g, q⟩
    · exact op_notIn_seq pins s σ H x y v u Q I r1 r2 q
    · exact op_notIn_sign pins s σ H x y v u Q I r1 r2 ⟨c, z, q⟩
    · exact op_notIn_str pins s σ H x y v u Q I r1 r2 q
    · obtain rfl : u = Value.ref a := r2
      exact d_notIn hu I g r1 fun s3 I3 => ⟨.bl (!o.isSome), H, I3, rfl, q⟩
  | false =>
    rcases q with q | ⟨c, z, q⟩ | q | ⟨a, o, rfl, g, q⟩
    · exact op_in_seq pins s σ H x y v u Q I r1 r2 q
    · exact op_in_sign pins s σ H x y v u Q I r1 r2 ⟨c, z, q⟩
    · exact op_in_str pins s σ H x y v u Q I r1 r2 q
    · obtain rfl : u = Value.ref a := r2
      exact d_in hu I g r1 fun s3 I3 => ⟨.bl o.isSome, H, I3, rfl, q⟩
theorem ok_inO (neg : Bool) : Ok2 K C (inO neg) (rInO K neg) := by
  intro E ρ h H da db x y Q rh rx ry m
  unfold inO at m
  split at m
  · rename_i b e
    have z := m ρ H .refl rh _ .bl
    unfold inB at e
    split at e
    · split at e
      · rename_i l u us e1 e2
        cases e
        obtain ⟨a, vs, rfl, sa, ra⟩ := ry.of_tup
        obtain ⟨q1, q2⟩ := flatOf_ok e1 rx
        obtain ⟨q3, q4⟩ := flatsOf_ok e2 ra
        subst q1 q3
        exact .inl ⟨a, _, rfl, .inr sa, q2, q4, z⟩
      · cases e
    · split at e
      · rename_i t c
        cases e
        cases rx.of_str; cases ry.of_str
        exact .inr (.inl ⟨c, _, by simp, rfl, z⟩)
      · rename_i t s _
        cases e
        cases rx.of_str; cases ry.of_str
        refine .inr (.inr (.inl ⟨_, _, rfl, rfl, ?_⟩))
        rw [str_len]
        exact z
      · cases e
    · split at e
      · rename_i n l e0
        split at e
        · rename_i u us e1 e2
          cases e
          obtain ⟨a, rfl, ea⟩ := ry.of_ref
          obtain ⟨a', vs, p1, p2, p3⟩ := rh.lst e0
          rw [ea] at p1; cases p1
          obtain ⟨q1, q2⟩ := flatOf_ok e1 rx
          obtain ⟨q3, q4⟩ := flatsOf_ok e2 p3
          subst q1 q3
          exact .inl ⟨a, _, rfl, .inl (SqL.of p2), q2, q4, z⟩
        · cases e
      · rename_i n l e0
        split at e
        · rename_i k e1
          cases e
          obtain ⟨a, rfl, ea⟩ := ry.of_ref
          obtain ⟨a', kvs, p1, p2, p3⟩ := rh.dct e0
          rw [ea] at p1; cases p1
          have hx := kdOf_ok e1 rx
          subst hx
          obtain ⟨q1, q2⟩ := RKs.look (k := k) p3
          refine .inr (.inr (.inr ⟨a, valV kvs (kOf k), rfl, DGet.k p2, ?_⟩))
          have e3 : (valV kvs (kOf k)).isSome = (dlook k l).isSome := by
            cases q : dlook k l with
            | none => rw [q2 q]; rfl
            | some d => obtain ⟨v, e4, _⟩ := q1 d q; rw [e4]; rfl
          rw [e3]
          exact z
        · cases e
      · cases e
    · cases e
  · exact m.elim

/-! ### truth -/
def truO : D → List O → Option Bool
  | .non, _ => some false
  | .bl b, _ => some b
  | .int i, _ => some (i != 0)
  | .str s, _ => if Nat.ble s.length line then some (!s.isEmpty) else none
  | .tup l, _ => some (!l.isEmpty)
  | .ref n, h => match h[n]? with
    | some (.lst l) => some (!l.isEmpty)
    | some (.dct l) => some (!l.isEmpty)
    | none => none
theorem RDs.isEmpty {l : List D} {vs : List V} (r : RDs K ρ H l vs) : vs.isEmpty = l.isEmpty := by
  have := r.length
  cases l <;> cases vs <;> simp_all
theorem RKs.length : ∀ {l : List (KD × D)} {vs : List (Key × V)}, RKs K ρ H l vs → vs.length = l.length
  | [], _, r => by unfold RKs at r; rw [r]; rfl
  | p :: l, _, r => by
    unfold RKs at r
    obtain ⟨v, t, rfl, a, b⟩ := r
    simp [RKs.length b]
theorem truO_ok {d : D} {v : V} {b : Bool} (rh : RH K C ρ h H) (r : RD K ρ H d v) (e : truO d h = some b) : TruV K v H b := by
  cases d with
  | non => rw [r.of_non]; cases e; rfl
  | bl c => rw [r.of_bl]; cases e; rfl
  | int i => rw [r.of_int]; cases e; rfl
  | str s =>
    rw [r.of_str]
    simp only [truO] at e
    split at e
    · rename_i hz
      cases e
      refine ⟨by rw [str_len]; exact line_ok hz, ?_⟩
      rw [str_len]
      cases s with
      | nil => rfl
      | cons c l =>
        show true = _
        have : ((((c :: l).length : Nat) : Int) != 0) = true := by
          rw [bne_iff_ne]
          simp only [List.length_cons]
          omega
        exact this.symm
    · cases e
  | tup l =>
    obtain ⟨a, vs, rfl, sa, ra⟩ := r.of_tup
    cases e
    exact .inr (.inl ⟨vs, sa, by rw [ra.isEmpty]⟩)
  | ref n =>
    obtain ⟨a, rfl, ea⟩ := r.of_ref
    simp only [truO] at e
    split at e
    · rename_i l e0
      cases e
      obtain ⟨a', vs, p1, p2, p3⟩ := rh.lst e0
      rw [ea] at p1; cases p1
      exact .inl ⟨vs, SqL.of p2, by rw [p3.isEmpty]⟩
    · rename_i l e0
      cases e
      obtain ⟨a', vs, p1, p2, p3⟩ := rh.dct e0
      rw [ea] at p1; cases p1
      refine .inr (.inr ⟨vs, p2, ?_⟩)
      have := p3.length
      cases l <;> cases vs <;> simp_all
    · cases e
end
end Ev
set_option Elab.async false
set_option linter.all false
set_option maxRecDepth 100000
set_option maxHeartbeats 2000000
/-! Ev4: tests, and | or | not, if-else, displays, subscripts. -/
namespace Ev
open PySem PySem.Spec L2

section
variable {C : Cls} {W : WX} {X : Cx} {a b c : Expr} {ga gb gc : GE} {pos : Pos}
/-! ### tests -/
def gTru (g : GE) : GB := fun δ h => (g δ h).bind fun d h1 => match truO d h1 with
  | some b => .ok b h1
  | none => .bad
def gBl (g : GE) : GB := fun δ h => (g δ h).bind fun d h1 => match d with
  | .bl b => .ok b h1
  | _ => .bad
theorem tTru_of {σ : L2.St} {H : Hp} {Q : Bool → Hp → Prop} (q : rdT X.K C W (gTru ga) σ H Q) : rd X.K C W ga σ H fun x H' => ∃ k, TruV X.K x H' k ∧ Q k H' := by
  obtain ⟨ρ, h, δ, rh, rs, m⟩ := q
  refine ⟨ρ, h, δ, rh, rs, m.bind.mono fun ρ1 h1 H1 d g1 rh1 q1 v rv => ?_⟩
  cases e : truO d h1 with
  | none => rw [e] at q1; exact q1.elim
  | some b => rw [e] at q1; exact ⟨b, truO_ok rh1 rv e, q1 ρ1 H1 .refl rh1⟩
theorem tBl_of {K : PySem.W.Frag} {σ : L2.St} {H : Hp} {Q : Bool → Hp → Prop} (q : rdT K C W (gBl ga) σ H Q) : rd K C W ga σ H fun x H' => ∃ k, x = .bl k ∧ Q k H' := by
  obtain ⟨ρ, h, δ, rh, rs, m⟩ := q
  refine ⟨ρ, h, δ, rh, rs, m.bind.mono fun ρ1 h1 H1 d g1 rh1 q1 v rv => ?_⟩
  cases d with
  | bl b => exact ⟨b, rv.of_bl, q1 ρ1 H1 .refl rh1⟩
  | _ => exact q1.elim
/-- an expression of any kind -/
theorem sTru (ha : PE X a (rd X.K C W ga)) (he : ∀ whole, isTrue a X.env whole = (do let v ← whole; standAt a.pos; holding [v] (truthy v))) : PT X a (rdT X.K C W (gTru ga)) :=
  PT_imp (pt_truth ha he) fun _ _ _ q => tTru_of q
theorem sCmpT {op : CmpOp} {f : D → D → List O → R D} {r : R2} (ho : OpR X (compareOp op) r) (hr : Ok2 X.K C f r) (ha : PE X a (rd X.K C W ga)) (hb : PE X b (rd X.K C W gb)) (hm : behindInMarks op b = false) :
    PT X (.Compare a [op] [b] pos) (rdT X.K C W (gBl (g2 f ga gb))) :=
  PT_imp (pt_cmpR ho ha hb hm) fun _ _ _ q => two_of hr (tBl_of q)
/-! ### chains -/
def g3 (f f' : D → D → List O → R D) (ga gb gc : GE) : GE := fun δ h => (ga δ h).bind fun x h1 => (gb δ h1).bind fun y h2 => (f x y h2).bind fun z h3 => match z with
  | .bl true => (gc δ h3).bind fun w h4 => f' y w h4
  | .bl false => .ok (.bl false) h3
  | _ => .bad
theorem three_of {K : PySem.W.Frag} {f f' : D → D → List O → R D} {r r' : R2} (hr : Ok2 K C f r) (hr' : Ok2 K C f' r') {σ : L2.St} {H : Hp} {Q : VK} (q : rd K C W (g3 f f' ga gb gc) σ H Q) : tChain r r' (rd K C W ga) (rd K C W gb) (rd K C W gc) σ H Q := by
  obtain ⟨ρ, hp, δ, rh, rs, m⟩ := q
  refine ⟨ρ, hp, δ, rh, rs, m.bind.mono fun ρ1 h1 H1 da g1 rh1 q1 x rx => ⟨ρ1, h1, δ, rh1, rs.go g1, q1.bind.mono fun ρ2 h2 H2 db g2 rh2 q2 y ry => ?_⟩⟩
  refine hr _ ρ2 h2 H2 da db x y _ rh2 (rx.go g2) ry (q2.bind.mono fun ρ3 h3 H3 dz g3 rh3 q3 z rz => ?_)
  cases dz with
  | bl k =>
    refine ⟨k, rz.of_bl, ?_⟩
    cases k with
    | true =>
      rw [if_pos rfl]
      exact ⟨ρ3, h3, δ, rh3, ((rs.go g1).go g2).go g3, q3.bind.mono fun ρ4 h4 H4 dw g4 rh4 q4 w rw' => hr' _ ρ4 h4 H4 db dw y w Q rh4 ((ry.go g3).go g4) rw' q4⟩
    | false =>
      rw [if_neg Bool.false_ne_true]
      exact q3 ρ3 H3 .refl rh3 _ .bl
  | _ => exact q3.elim
theorem sChain {op op' : CmpOp} {f f' : D → D → List O → R D} {r r' : R2} (ho : OpR X (compareOp op) r) (hr : Ok2 X.K C f r) (ho' : OpR X (compareOp op') r') (hr' : Ok2 X.K C f' r') (ha : PE X a (rd X.K C W ga)) (hb : PE X b (rd X.K C W gb)) (hc : PE X c (rd X.K C W gc))
    (hm : lastMarks [op, op'] [b, c] = false) : PE X (.Compare a [op, op'] [b, c] pos) (rd X.K C W (g3 f f' ga gb gc)) := PE_imp (pe_chain ho ho' ha hb hc hm) fun _ _ _ q => three_of hr hr' q
theorem sChainT {op op' : CmpOp} {f f' : D → D → List O → R D} {r r' : R2} (ho : OpR X (compareOp op) r) (hr : Ok2 X.K C f r) (ho' : OpR X (compareOp op') r') (hr' : Ok2 X.K C f' r') (ha : PE X a (rd X.K C W ga)) (hb : PE X b (rd X.K C W gb)) (hc : PE X c (rd X.K C W gc))
    (hm : lastMarks [op, op'] [b, c] = false) : PT X (.Compare a [op, op'] [b, c] pos) (rdT X.K C W (gBl (g3 f f' ga gb gc))) := PT_imp (pt_chain ho ho' ha hb hc hm) fun _ _ _ q => three_of hr hr' (tBl_of q)
/-! ### and, or, not -/
def gAndT (t u : GB) : GB := fun δ h => (t δ h).bind fun b h1 => if b then u δ h1 else .ok false h1
def gOrT (t u : GB) : GB := fun δ h => (t δ h).bind fun b h1 => if b then .ok true h1 else u δ h1
def gNotT (t : GB) : GB := fun δ h => (t δ h).bind fun b h1 => .ok (!b) h1
theorem PW_imp {e : Expr} {t t' : TT} (h : PW X e t) (i : ∀ σ H Q, t' σ H Q → t σ H Q) : PW X e t' := ⟨fun w pins s σ H Q I q => h.run w pins s σ H Q I (i σ H Q q)⟩
theorem sAnd1 {t : GB} (h : PT X a (rdT X.K C W t)) : PW X (.BoolOp .And [a] pos) (rdT X.K C W t) := pw_and1 h
theorem sOr1 {t : GB} (h : PT X a (rdT X.K C W t)) : PW X (.BoolOp .Or [a] pos) (rdT X.K C W t) := pw_or1 h
theorem sAnd {t u : GB} {rest : List Expr} (ha : PT X a (rdT X.K C W t)) (hb : PW X (.BoolOp .And (b :: rest) pos) (rdT X.K C W u)) : PW X (.BoolOp .And (a :: b :: rest) pos) (rdT X.K C W (gAndT t u)) :=
  PW_imp (pw_and ha hb) fun σ H Q ⟨ρ, h, δ, rh, rs, m⟩ => ⟨ρ, h, δ, rh, rs, m.bind.mono fun ρ1 h1 H1 k g1 rh1 q1 => by
    cases k with
    | true => rw [if_pos rfl] at q1 ⊢; exact ⟨ρ1, h1, δ, rh1, rs.go g1, q1⟩
    | false => rw [if_neg Bool.false_ne_true] at q1 ⊢; exact q1 ρ1 H1 .refl rh1⟩
theorem sOr {t u : GB} {rest : List Expr} (ha : PT X a (rdT X.K C W t)) (hb : PW X (.BoolOp .Or (b :: rest) pos) (rdT X.K C W u)) : PW X (.BoolOp .Or (a :: b :: rest) pos) (rdT X.K C W (gOrT t u)) :=
  PW_imp (pw_or ha hb) fun σ H Q ⟨ρ, h, δ, rh, rs, m⟩ => ⟨ρ, h, δ, rh, rs, m.bind.mono fun ρ1 h1 H1 k g1 rh1 q1 => by
    cases k with
    | true => rw [if_pos rfl] at q1 ⊢; exact q1 ρ1 H1 .refl rh1
    | false => rw [if_neg Bool.false_ne_true] at q1 ⊢; exact ⟨ρ1, h1, δ, rh1, rs.go g1, q1⟩⟩
theorem sNotT {t : GB} (ha : PT X a (rdT X.K C W t)) : PT X (.UnaryOp .Not a pos) (rdT X.K C W (gNotT t)) :=
  PT_imp (pt_not ha) fun σ H Q ⟨ρ, h, δ, rh, rs, m⟩ => ⟨ρ, h, δ, rh, rs, m.bind.mono fun ρ1 h1 H1 k g1 rh1 q1 => q1 ρ1 H1 .refl rh1⟩
/-- .. as values, by truth -/
def gAndV (g g' : GE) : GE := fun δ h => (g δ h).bind fun d h1 => match truO d h1 with
  | some true => g' δ h1
  | some false => .ok d h1
  | none => .bad
def gOrV (g g' : GE) : GE := fun δ h => (g δ h).bind fun d h1 => match truO d h1 with
  | some true => .ok d h1
  | some false => g' δ h1
  | none => .bad
def gNotV (g : GE) : GE := fun δ h => (g δ h).bind fun d h1 => match truO d h1 with
  | some b => .ok (.bl (!b)) h1
  | none => .bad
theorem sOneV {op : BoolOp} (h : PE X a (rd X.K C W ga)) : PE X (.BoolOp op [a] pos) (rd X.K C W ga) := pe_one h
theorem sAndV {rest : List Expr} (ha : PE X a (rd X.K C W ga)) (hb : PE X (.BoolOp .And (b :: rest) pos) (rd X.K C W gb)) : PE X (.BoolOp .And (a :: b :: rest) pos) (rd X.K C W (gAndV ga gb)) :=
  PE_imp (pe_andT ha hb) fun σ H Q ⟨ρ, h, δ, rh, rs, m⟩ => ⟨ρ, h, δ, rh, rs, m.bind.mono fun ρ1 h1 H1 d g1 rh1 q1 v rv => by
    split at q1
    · rename_i e
      refine ⟨true, truO_ok rh1 rv e, ?_⟩
      rw [if_pos rfl]
      exact ⟨ρ1, h1, δ, rh1, rs.go g1, q1⟩
    · rename_i e
      refine ⟨false, truO_ok rh1 rv e, ?_⟩
      rw [if_neg Bool.false_ne_true]
      exact q1 ρ1 H1 .refl rh1 v rv
    · exact q1.elim⟩
theorem sOrV {rest : List Expr} (ha : PE X a (rd X.K C W ga)) (hb : PE X (.BoolOp .Or (b :: rest) pos) (rd X.K C W gb)) : PE X (.BoolOp .Or (a :: b :: rest) pos) (rd X.K C W (gOrV ga gb)) :=
  PE_imp (pe_orT ha hb) fun σ H Q ⟨ρ, h, δ, rh, rs, m⟩ => ⟨ρ, h, δ, rh, rs, m.bind.mono fun ρ1 h1 H1 d g1 rh1 q1 v rv => by
    split at q1
    · rename_i e
      refine ⟨true, truO_ok rh1 rv e, ?_⟩
      rw [if_pos rfl]
      exact q1 ρ1 H1 .refl rh1 v rv
    · rename_i e
      refine ⟨false, truO_ok rh1 rv e, ?_⟩
      rw [if_neg Bool.false_ne_true]
      exact ⟨ρ1, h1, δ, rh1, rs.go g1, q1⟩
    · exact q1.elim⟩
theorem sNotV (ha : PE X a (rd X.K C W ga)) : PE X (.UnaryOp .Not a pos) (rd X.K C W (gNotV ga)) :=
  PE_imp (pe_notT ha) fun σ H Q ⟨ρ, h, δ, rh, rs, m⟩ => ⟨ρ, h, δ, rh, rs, m.bind.mono fun ρ1 h1 H1 d g1 rh1 q1 v rv => by
    split at q1
    · rename_i b e
      exact ⟨b, truO_ok rh1 rv e, q1 ρ1 H1 .refl rh1 _ .bl⟩
    · exact q1.elim⟩
def gIf (t : GB) (g g' : GE) : GE := fun δ h => (t δ h).bind fun b h1 => if b then g δ h1 else g' δ h1
theorem sIf {t : GB} (hc : PT X c (rdT X.K C W t)) (ha : PE X a (rd X.K C W ga)) (hb : PE X b (rd X.K C W gb)) : PE X (.IfExp c a b pos) (rd X.K C W (gIf t ga gb)) :=
  PE_imp (pe_ifExp hc ha hb) fun σ H Q ⟨ρ, h, δ, rh, rs, m⟩ => ⟨ρ, h, δ, rh, rs, m.bind.mono fun ρ1 h1 H1 k g1 rh1 q1 => by
    cases k with
    | true => rw [if_pos rfl] at q1 ⊢; exact ⟨ρ1, h1, δ, rh1, rs.go g1, q1⟩
    | false => rw [if_neg Bool.false_ne_true] at q1 ⊢; exact ⟨ρ1, h1, δ, rh1, rs.go g1, q1⟩⟩
def gNeg (g : GE) : GE := fun δ h => (g δ h).bind fun d h1 => match d with
  | .int i => .ok (.int (-i)) h1
  | _ => .bad
theorem sNeg (ha : PE X a (rd X.K C W ga)) : PE X (.UnaryOp .USub a pos) (rd X.K C W (gNeg ga)) :=
  PE_imp (pe_un un_neg ha) fun σ H Q ⟨ρ, h, δ, rh, rs, m⟩ => ⟨ρ, h, δ, rh, rs, m.bind.mono fun ρ1 h1 H1 d g1 rh1 q1 v rv => by
    cases d with
    | int i => exact ⟨i, rv.of_int, q1 ρ1 H1 .refl rh1 _ .int⟩
    | _ => exact q1.elim⟩
/-! ### lists of arguments; tuples, lists -/
def gNil : GA := fun _ h => .ok [] h
def gCons (g : GE) (t : GA) : GA := fun δ h => (g δ h).bind fun d h1 => (t δ h1).bind fun l h2 => .ok (d :: l) h2
theorem sNil : PA X [] (rdA X.K C W gNil) := PA_imp pa_nil fun σ H Q ⟨ρ, h, δ, rh, rs, m⟩ => m ρ H .refl rh _ .nil
theorem sCons {es : List Expr} {t : GA} (ha : PE X a (rd X.K C W ga)) (hr : PA X es (rdA X.K C W t)) (hs : starEach (a :: es) X.env = (false, eval a X.env) :: starEach es X.env) : PA X (a :: es) (rdA X.K C W (gCons ga t)) :=
  PA_imp (pa_cons ha hr hs) fun σ H Q ⟨ρ, h, δ, rh, rs, m⟩ => ⟨ρ, h, δ, rh, rs, m.bind.mono fun ρ1 h1 H1 d g1 rh1 q1 v rv => ⟨ρ1, h1, δ, rh1, rs.go g1, q1.bind.mono fun ρ2 h2 H2 l g2 rh2 q2 vs rvs => q2 ρ2 H2 .refl rh2 _ (.cons (rv.go g2) rvs)⟩⟩
def gTup (t : GA) : GE := fun δ h => (t δ h).bind fun l h1 => if Nat.ble l.length line then .ok (.tup l) h1 else .bad
def gLst (t : GA) : GE := fun δ h => (t δ h).bind fun l h1 => if Nat.ble l.length line then .ok (.ref h1.length) (h1 ++ [.lst l]) else .bad
theorem RD_new {K : PySem.W.Frag} {ρ : List Addr} {h : List O} {H : Hp} {p : Addr} {H' : Hp} (rh : RH K C ρ h H) : RD K (ρ ++ [p]) H' (.ref h.length) (.ref p) := by
  refine .ref ?_
  rw [List.getElem?_append_right (by rw [rh.len]; exact Nat.le_refl _), rh.len]
  simp
theorem sTup {es : List Expr} {t : GA} {k : Nat} (h : PA X es (rdA X.K C W t)) : PE X (.Tuple es k pos) (rd X.K C W (gTup t)) :=
  PE_imp (pe_tup h) fun σ H Q ⟨ρ, h, δ, rh, rs, m⟩ => ⟨ρ, h, δ, rh, rs, m.bind.mono fun ρ1 h1 H1 l g1 rh1 q1 vs rvs => by
    split at q1
    · rename_i hz
      exact ⟨by rw [rvs.length]; exact line_ok hz, fun p hp => q1 ρ1 _ (go_new rh1 hp) (rh1.new hp) _ (.tup (SqT.of upd_same) (rvs.go (go_new rh1 hp)))⟩
    · exact q1.elim⟩
theorem sLst {es : List Expr} {t : GA} (h : PA X es (rdA X.K C W t)) : PE X (.List es pos) (rd X.K C W (gLst t)) :=
  PE_imp (pe_lst h) fun σ H Q ⟨ρ, h, δ, rh, rs, m⟩ => ⟨ρ, h, δ, rh, rs, m.bind.mono fun ρ1 h1 H1 l g1 rh1 q1 vs rvs => by
    split at q1
    · rename_i hz
      exact ⟨by rw [rvs.length]; exact line_ok hz, fun p hp => q1 _ _ (go_add rh1 hp) (rh1.add hp (.lst (rvs.go (go_add rh1 hp)))) _ (RD_new rh1)⟩
    · exact q1.elim⟩
/-! ### subscripts -/
def ixD {α : Type} (l : List α) (i : Int) : Option α := atI l i
def ixO : D → D → List O → R D
  | .tup l, .int i, h => match atI l i with
    | some d => .ok d h
    | none => .bad
  | .str s, .int i, h => if Nat.ble s.length line then (match atI s i with
    | some c => .ok (.str [c]) h
    | none => .bad) else .bad
  | .ref n, y, h => match h[n]? with
    | some (.lst l) => match y with
      | .int i => match atI l i with
        | some d => .ok d h
        | none => .bad
      | _ => .bad
    | some (.dct l) => match kdOf y with
      | some k => match dlook k l with
        | some d => .ok d h
        | none => .bad
      | none => .bad
    | none => .bad
  | _, _, _ => .bad
def rIxD : R2 := fun x y H Q => ∃ a v, x = .ref a ∧ DGet H a y (some v) ∧ Q v H
theorem ix_dct (hu : X.A.units + 1 < cLine) : IxR X rIxD := by
  intro value slice pins s σ H x y v u Q I rx ry ⟨a, w, ex, g, q⟩ hs
  subst ex
  obtain rfl : v = Value.ref a := rx
  exact PyProof.Rows.tail_any (dict_typeIs I g) PySem.F.slot_dict_getitem.lookup (d_getItem hu I g ry fun w' s3 I3 rw' => ⟨_, H, I3, rw', q⟩) hs
def rIxO (K : PySem.W.Frag) : R2 := fun x y H Q => rIx K x y H Q ∨ rIxD x y H Q
theorem RDs.atI {K : PySem.W.Frag} {ρ : List Addr} {H : Hp} {l : List D} {vs : List V} {i : Int} {d : D} (r : RDs K ρ H l vs) (e : L2.atI l i = some d) : ∃ v, L2.atI vs i = some v ∧ RD K ρ H d v := by
  unfold L2.atI at e ⊢
  obtain ⟨j, e1, e2⟩ := Option.bind_eq_some_iff.mp e
  rw [r.length, e1]
  exact r.get e2
theorem ok_ixO {K : PySem.W.Frag} : Ok2 K C ixO (rIxO K) := by
  intro E ρ h H da db x y Q rh rx ry m
  unfold ixO at m
  split at m
  · split at m
    · rename_i e
      cases ry.of_int
      obtain ⟨a, vs, rfl, sa, ra⟩ := rx.of_tup
      obtain ⟨v, e1, rv⟩ := ra.atI e
      exact .inl (.inr (.inl ⟨a, vs, _, v, rfl, rfl, sa, e1, m ρ H .refl rh v rv⟩))
    · exact m.elim
  · split at m
    · rename_i hz
      split at m
      · rename_i c e
        cases ry.of_int; cases rx.of_str
        exact .inl (.inr (.inr ⟨_, _, c, rfl, rfl, by rw [str_len]; exact line_ok hz, by simpa using e, m ρ H .refl rh _ (by unfold RD; rfl)⟩))
      · exact m.elim
    · exact m.elim
  · obtain ⟨a, rfl, ea⟩ := rx.of_ref
    split at m
    · rename_i l e0
      split at m
      · split at m
        · rename_i e
          cases ry.of_int
          obtain ⟨a', vs, p1, p2, p3⟩ := rh.lst e0
          rw [ea] at p1; cases p1
          obtain ⟨v, e1, rv⟩ := p3.atI e
          exact .inl (.inl ⟨a, vs, _, v, rfl, rfl, SqL.of p2, e1, m ρ H .refl rh v rv⟩)
        · exact m.elim
      · exact m.elim
    · rename_i l e0
      split at m
      · rename_i k ek
        split at m
        · rename_i d ed
          obtain ⟨a', kvs, p1, p2, p3⟩ := rh.dct e0
          rw [ea] at p1; cases p1
          cases kdOf_ok ek ry
          obtain ⟨v, e1, rv⟩ := (RKs.look (k := k) p3).1 d ed
          refine .inr ⟨a, v, rfl, ?_, m ρ H .refl rh v rv⟩
          rw [← e1]
          exact DGet.k p2
        · exact m.elim
      · exact m.elim
    · exact m.elim
  · exact m.elim
theorem sIx (hu : X.A.units + 1 < cLine) (ha : PE X a (rd X.K C W ga)) (hb : PE X b (rd X.K C W gb)) (hs : PlainIx b) : PE X (.Subscript a b pos) (rd X.K C W (g2 ixO ga gb)) :=
  PE_imp (pe_ix (ix_seq.or (ix_dct hu)) ha hb hs) fun _ _ _ q => two_of ok_ixO q
end
end Ev
set_option Elab.async false
set_option linter.all false
set_option maxRecDepth 100000
set_option maxHeartbeats 2000000
/-! Ev5: defs and calls; statements. -/
namespace Ev
open PySem PySem.Spec L2

/-! ### defs -/
abbrev GF := List D → List O → R D
def spF (K : PySem.W.Frag) (C : Cls) (n : Nat) (G : GF) : Sp := fun vs H Q E => ∃ ρ h l, RH K C ρ h H ∧ RDs K ρ H l vs ∧ l.length = n ∧ Res K C E ρ H (G l h) fun ρ' _ H' d => ∀ v, RD K ρ' H' d v → Q v H'
theorem spF_len {K : PySem.W.Frag} {C : Cls} {n : Nat} {G : GF} : ∀ vs H Q E, spF K C n G vs H Q E → vs.length = n := fun _ _ _ _ ⟨_, _, _, _, r, e, _⟩ => by rw [r.length, e]
/-- what a body makes: N names, n of them parameters -/
def fOf (N n : Nat) (g : GS) : GF := fun l h => match g (l.map some ++ List.replicate (N - n) none) h with
  | .nx _ h' => .ok .non h'
  | .ret d h' => .ok d h'
  | .exc c p _ h' => .exc c p h'
  | _ => .bad
theorem RS_start {K : PySem.W.Frag} {ρ : List Addr} {H : Hp} {l : List D} {vs : List V} (N : List Str) (r : RDs K ρ H l vs) : RS K ρ H (l.map some ++ List.replicate (N.length - l.length) none) (L2.start N vs) := by
  have len := r.length
  refine ⟨by unfold L2.start; simp [len], fun i d e => ?_⟩
  by_cases hi : i < l.length
  · rw [List.getElem?_append_left (by simpa using hi), List.getElem?_map] at e
    cases q : l[i]? with
    | none => rw [q] at e; cases e
    | some c =>
      rw [q] at e
      cases e
      obtain ⟨v, e1, e2⟩ := r.get q
      refine ⟨v, ?_, e2⟩
      unfold L2.start
      rw [List.getElem?_append_left (by simp [len, hi]), List.getElem?_map, e1]
      rfl
  · rw [List.getElem?_append_right (by simpa using hi), List.getElem?_replicate] at e
    split at e <;> cases e
/-- the state in which a def's body runs -/
abbrev bx (P : Program) (w : World) (K : PySem.W.Frag) (mg : Str → Option Value) (base : Heap) (N : List Str) (qual : Str) (sc : Scope) (f : Addr) (cdv : Value) (A : Around) (outer : List Env) (s : Shared) (H : Hp) (E : XK) : Cx :=
  cxOf (L2.CX P w) P w K mg base N qual sc f cdv A outer s H E
/-- what a body wishes of errors -/
abbrev wF (E : XK) : WX := fun c dx _ H => E c dx H
section
variable {P : Program} {w : World} {K : PySem.W.Frag} {mg : Str → Option Value} {base : Heap} {C : Cls}
theorem bx_takes {N : List Str} {qual : Str} {sc : Scope} {f : Addr} {cdv : Value} {A : Around} {outer : List Env} {s : Shared} {H : Hp} {E : XK} : Takes (bx P w K mg base N qual sc f cdv A outer s H E) (wF E) :=
  takes_of rfl rfl rfl rfl
theorem bx_passes {N : List Str} {qual : Str} {sc : Scope} {f : Addr} {cdv : Value} {A : Around} {outer : List Env} {s : Shared} {H : Hp} {E : XK} :
    PassesOwn (model (bx P w K mg base N qual sc f cdv A outer s H E).prog (bx P w K mg base N qual sc f cdv A outer s H E).w) (bx P w K mg base N qual sc f cdv A outer s H E).A (bx P w K mg base N qual sc f cdv A outer s H E).env (bx P w K mg base N qual sc f cdv A outer s H E).xe := passes_of rfl
/-- a def that may be called by its name -/
structure Cal (P : Program) (w : World) (K : PySem.W.Frag) (mg : Str → Option Value) (base : Heap) (C : Cls) (k : Nat) (x : Str) (n : Nat) (G : GF) : Prop where
  ex : ∃ (f : Addr) (fd : FuncData) (ps : List Str), FnOk P w K mg base (L2.CX P w) k f fd ps (spF K C n G) ∧ mg x = some (.ref f) ∧ PySem.W.keepIn K (.ref f) = true ∧ Binds K fd ps []
/-- a def of the text, behind the top -/
structure Dfn (K : PySem.W.Frag) (mg : Str → Option Value) (x : Str) (st : Stmt) (ps : List Str) : Prop where
  ex : ∃ (f : Addr) (fd : FuncData), L2.Fun K x x st f fd ∧ mg x = some (.ref f) ∧ Binds K fd ps []
theorem cal_of {x : Str} {st : Stmt} {ps : List Str} (N : List Str) {k : Nat} {g : GS} (F : Dfn K mg x st ps) (S : FnScope N ps (defScope st))
    (hb : ∀ (f : Addr) (cdv : Value) (A : Around) (outer : List Env) (s : Shared) (H : Hp) (E : XK), Room k (bx P w K mg base N x (defScope st) f cdv A outer s H E).A →
      PSs (bx P w K mg base N x (defScope st) f cdv A outer s H E) (defBody st) (rdS K C (wF E) g)) : Cal P w K mg base C (k + 1) x ps.length (fOf N.length ps.length g) := by
  obtain ⟨f, fd, F, m, b⟩ := F.ex
  refine ⟨f, fd, ps, L2.Fun.okX F S spF_len fun cdv A outer s H vs Q E hr hsp => ?_, m, F.kp, b⟩
  refine ⟨_, hb f cdv A outer s H E hr, ?_⟩
  obtain ⟨ρ, h, l, rh, rl, e, m⟩ := hsp
  refine ⟨ρ, h, _, rh, RS_start N rl, ?_⟩
  rw [e]
  unfold fOf at m
  revert m
  cases g (l.map some ++ List.replicate (N.length - ps.length) none) h with
  | nx δ' h' => exact fun m ρ' H' σ' g' r' _ => m ρ' H' g' r' _ .non
  | ret d h' => exact fun m ρ' H' v g' r' q => m ρ' H' g' r' v q
  | brk δ' h' => exact fun m => m.elim
  | cnt δ' h' => exact fun m => m.elim
  | exc c p δ' h' => exact fun m ρ' H' σ' a dx v g' r' _ => m ρ' H' a dx v g' r'
  | bad => exact fun m => m.elim
end

/-! ### calls -/
def gCall (n : Nat) (G : GF) (t : GA) : GE := fun δ h => (t δ h).bind fun l h1 => if Nat.beq l.length n then G l h1 else .bad
section
variable {X : Cx} {C : Cls} {W : WX} {x : Str} {p pos : Pos} {e : Expr} {es : List Expr} {n k j : Nat} {G : GF} {t : GA}
theorem call_of {K : PySem.W.Frag} {σ : L2.St} {H : Hp} {Q : VK} (q : rd K C W (gCall n G t) σ H Q) : tCallS (spF K C n G) (WE W) (rdA K C W t) σ H Q := by
  obtain ⟨ρ, h, δ, rh, rs, m⟩ := q
  refine ⟨ρ, h, δ, rh, rs, m.bind.mono fun ρ1 h1 H1 l g1 rh1 q1 vs rvs => ?_⟩
  split at q1
  · rename_i hl
    exact ⟨ρ1, h1, l, rh1, rvs, Nat.eq_of_beq_eq_true hl, q1⟩
  · exact q1.elim
theorem sCall (c : Cal X.prog X.w X.K X.mg X.base C k x n G) (hr : Room j X.A) (hk : k ≤ j) (hg : Gl X x) (tk : Takes X W) (ha : PA X (e :: es) (rdA X.K C W t))
    (hdb : (x == ("__debug__" : Str)) = false := by decide) (he : starEach (e :: es) X.env = (false, eval e X.env) :: starEach es X.env := by rfl) (hpl : (backTo pos (starEach es X.env)).any (·.1) = false := by rfl) :
    PE X (.Call (.Name x p) (e :: es) [] pos) (rd X.K C W (gCall n G t)) := by
  obtain ⟨f, fd, ps, F, m, kp, b⟩ := c.ex
  exact PE_imp (pe_callS (F.mono hk) hr hg m kp b (passAt tk) ha hdb he hpl) fun _ _ _ q => call_of q
theorem sCall0 (c : Cal X.prog X.w X.K X.mg X.base C k x n G) (hr : Room j X.A) (hk : k ≤ j) (hg : Gl X x) (tk : Takes X W) (hdb : (x == ("__debug__" : Str)) = false := by decide) :
    PE X (.Call (.Name x p) [] [] pos) (rd X.K C W (gCall n G gNil)) := by
  obtain ⟨f, fd, ps, F, m, kp, b⟩ := c.ex
  refine ⟨fun pins s σ H Q I h => ?_⟩
  refine wpAny_Call_Name_kw (ld_glob I hg m ?_ hdb)
  obtain ⟨ρ, h, δ, rh, rs, q⟩ := h
  unfold gCall gNil at q
  simp only [R.bind] at q
  refine PySem.W.callWith_K0 I.kIn kp (run_fnS (F.mono hk) hr b (passAt tk σ) I .nil ?_)
  split at q
  · rename_i hl
    exact ⟨ρ, h, [], rh, .nil, Nat.eq_of_beq_eq_true hl, q⟩
  · exact q.elim
end

/-! ### statements -/
def RSt.seq (r : RSt) (g : GS) : RSt := match r with
  | .nx δ h => g δ h
  | r => r
theorem ResS.seq {K : PySem.W.Frag} {C : Cls} {W : WX} {Dn : Ends} {ρ : List Addr} {H : Hp} {r : RSt} {g : GS} {D' : Ends} (x : ResS K C W Dn ρ H (r.seq g)) (h1 : D'.rt = Dn.rt) (h2 : D'.bk = Dn.bk) (h3 : D'.ct = Dn.ct)
    (h4 : ∀ ρ' H' σ' δ' h', Go K ρ H ρ' H' → RH K C ρ' h' H' → RS K ρ' H' δ' σ' → ResS K C W Dn ρ' H' (g δ' h') → D'.nx σ' H') : ResS K C W D' ρ H r := by
  cases r with
  | nx δ' h' => exact fun ρ' H' σ' g' rh rs => h4 _ _ _ _ _ g' rh rs (ResS.go x g')
  | ret d h' => intro ρ' H' v g' rh q; rw [h1]; exact x ρ' H' v g' rh q
  | brk δ' h' => intro ρ' H' σ' g' rh q; rw [h2]; exact x ρ' H' σ' g' rh q
  | cnt δ' h' => intro ρ' H' σ' g' rh q; rw [h3]; exact x ρ' H' σ' g' rh q
  | exc c p δ' h' => exact x
  | bad => exact x
def sNext : GS := fun δ h => .nx δ h
def sSeq (a b : GS) : GS := fun δ h => (a δ h).seq b
section
variable {X : Cx} {C : Cls} {W : WX} {st : Stmt} {rest : List Stmt} {e c : Expr} {ga : GE} {gs gs' : GS} {t : GB} {pos : Pos}
theorem zNil : PSs X [] (rdS X.K C W sNext) := PSs_imp pss_nil fun D σ H ⟨ρ, h, δ, rh, rs, m⟩ => m ρ H σ .refl rh rs
theorem zCons (h1 : PS X st (rdS X.K C W gs)) (h2 : PSs X rest (rdS X.K C W gs')) : PSs X (st :: rest) (rdS X.K C W (sSeq gs gs')) :=
  PSs_imp (pss_cons h1 h2) fun D σ H ⟨ρ, h, δ, rh, rs, m⟩ => ⟨ρ, h, δ, rh, rs, ResS.seq (D' := { D with nx := rdS X.K C W gs' D }) m rfl rfl rfl fun ρ' H' σ' δ' h' g' rh' rs' q => ⟨ρ', h', δ', rh', rs', q⟩⟩
theorem zOne (h1 : PS X st (rdS X.K C W gs)) : PSs X [st] (rdS X.K C W gs) := pss_one h1
/-- an expression's answer, then a statement's -/
def R.toS {α : Type} (r : R α) (δ : Sl) (k : α → List O → RSt) : RSt := match r with
  | .ok a h => k a h
  | .exc c p h => .exc c p δ h
  | .bad => .bad
theorem ResS.toS {α : Type} {K : PySem.W.Frag} {Dn : Ends} {ρ : List Addr} {H : Hp} {r : R α} {δ : Sl} {σ : L2.St} {k : α → List O → RSt} (x : ResS K C W Dn ρ H (r.toS δ k)) (rs : RS K ρ H δ σ) :
    Res K C (fun x dx H' => W x dx σ H') ρ H r fun ρ' h' H' a => ResS K C W Dn ρ' H' (k a h') := by
  cases r with
  | ok a h => exact fun ρ' H' g' rh => ResS.go x g'
  | exc c p h => exact fun ρ' H' a dx v g' rh => x ρ' H' σ a dx v g' rh (rs.go g')
  | bad => exact x
def sDrop (g : GE) : GS := fun δ h => (g δ h).toS δ fun _ h1 => .nx δ h1
def sRet (g : GE) : GS := fun δ h => (g δ h).toS δ fun d h1 => .ret d h1
def sRetN : GS := fun _ h => .ret .non h
def sIfS (t : GB) (a b : GS) : GS := fun δ h => (t δ h).toS δ fun k h1 => if k then a δ h1 else b δ h1
def sPut (i : Nat) (g : GE) : GS := fun δ h => (g δ h).toS δ fun d h1 => .nx (δ.set i (some d)) h1
theorem zExpr (he : PE X e (rd X.K C W ga)) (hs : swapsWith e none pos.line X.env = pure false := by rfl) : PS X (.Expr e pos) (rdS X.K C W (sDrop ga)) :=
  PS_imp (ps_expr he hs) fun D σ H ⟨ρ, h, δ, rh, rs, m⟩ => ⟨ρ, h, δ, rh, rs, (m.toS rs).mono fun ρ1 h1 H1 d g1 rh1 q1 v rv => q1 ρ1 H1 σ .refl rh1 (rs.go g1)⟩
theorem zRet (he : PE X e (rd X.K C W ga)) : PS X (.Return (some e) pos) (rdS X.K C W (sRet ga)) :=
  PS_imp (ps_ret he) fun D σ H ⟨ρ, h, δ, rh, rs, m⟩ => ⟨ρ, h, δ, rh, rs, (m.toS rs).mono fun ρ1 h1 H1 d g1 rh1 q1 v rv => q1 ρ1 H1 v .refl rh1 rv⟩
theorem zRetN : PS X (.Return none pos) (rdS X.K C W sRetN) := PS_imp ps_retN fun D σ H ⟨ρ, h, δ, rh, rs, m⟩ => m ρ H _ .refl rh .non
theorem zPass : PS X (.Pass pos) (rdS X.K C W sNext) := PS_imp ps_pass fun D σ H ⟨ρ, h, δ, rh, rs, m⟩ => m ρ H σ .refl rh rs
theorem zIf {a b : List Stmt} (hc : PT X c (rdT X.K C W t)) (ha : PSs X a (rdS X.K C W gs)) (hb : PSs X b (rdS X.K C W gs')) : PS X (.If c a b pos) (rdS X.K C W (sIfS t gs gs')) :=
  PS_imp (ps_if hc ha hb) fun D σ H ⟨ρ, h, δ, rh, rs, m⟩ => ⟨ρ, h, δ, rh, rs, (m.toS rs).mono fun ρ1 h1 H1 k g1 rh1 q1 => by
    cases k with
    | true => rw [if_pos rfl] at q1 ⊢; exact ⟨ρ1, h1, δ, rh1, rs.go g1, q1⟩
    | false => rw [if_neg Bool.false_ne_true] at q1 ⊢; exact ⟨ρ1, h1, δ, rh1, rs.go g1, q1⟩⟩
theorem zSet {i : Nat} {x : Str} {pos' : Pos} (he : PE X e (rd X.K C W ga)) (hN : X.N.Nodup) (hi : X.N[i]? = some x) (hx : Loc X.env.scope x) (hs : swapsWith e (some (.Name x pos')) pos.line X.env = pure false := by rfl) (hf : X.fn x = true ∨ X.env.scope.names.lookup x = some .local := by first | exact .inl rfl | exact .inr rfl) :
    PS X (.Assign [.Name x pos'] e pos) (rdS X.K C W (sPut i ga)) :=
  PS_imp (ps_set hN hi hx he hs hf) fun D σ H ⟨ρ, h, δ, rh, rs, m⟩ => ⟨ρ, h, δ, rh, rs, (m.toS rs).mono fun ρ1 h1 H1 d g1 rh1 q1 v rv => q1 ρ1 H1 _ .refl rh1 ((rs.go g1).set rv i)⟩
/-- code that is never come to -/
def gBad {α : Type} : Sl → List O → R α := fun _ _ => .bad
def sBad : GS := fun _ _ => .bad
theorem eBad : PE X e (rd X.K C W gBad) := ⟨fun _ _ _ _ _ _ ⟨_, _, _, _, _, m⟩ => m.elim⟩
theorem tBad : PT X e (rdT X.K C W gBad) := ⟨fun _ _ _ _ _ _ ⟨_, _, _, _, _, m⟩ => m.elim⟩
theorem zBad : PS X st (rdS X.K C W sBad) := ⟨fun _ _ _ _ _ _ ⟨_, _, _, _, _, m⟩ => m.elim⟩
theorem zsBad {sts : List Stmt} : PSs X sts (rdS X.K C W sBad) := ⟨fun _ _ _ _ _ _ ⟨_, _, _, _, _, m⟩ => m.elim⟩
end
end Ev
set_option Elab.async false
set_option linter.all false
set_option maxRecDepth 100000
set_option maxHeartbeats 2000000
/-! Ev6: targets. -/
namespace Ev
open PySem PySem.Spec L2

abbrev GT := D → Sl → List O → Option (Sl × List O)
abbrev GTs := List D → Sl → List O → Option (Sl × List O)
/-- what is asked where a target tells r -/
def ResG (K : PySem.W.Frag) (C : Cls) (ρ : List Addr) (H : Hp) (r : Option (Sl × List O)) (Q : L2.St → Hp → Prop) : Prop := match r with
  | some (δ', h') => ∀ ρ' H' σ', Go K ρ H ρ' H' → RH K C ρ' h' H' → RS K ρ' H' δ' σ' → Q σ' H'
  | none => False
def rdG (K : PySem.W.Frag) (C : Cls) (g : GT) : TG := fun v σ H Q => ∃ ρ h δ d, RH K C ρ h H ∧ RS K ρ H δ σ ∧ RD K ρ H d v ∧ ResG K C ρ H (g d δ h) Q
def rdGs (K : PySem.W.Frag) (C : Cls) (g : GTs) : TGs := fun vs σ H Q => ∃ ρ h δ l, RH K C ρ h H ∧ RS K ρ H δ σ ∧ RDs K ρ H l vs ∧ ResG K C ρ H (g l δ h) Q
section
variable {X : Cx} {C : Cls} {W : WX} {e tg a b : Expr} {es : List Expr} {gt : GT} {gts : GTs} {ga gb : GE} {pos : Pos}
theorem PG_imp {t t' : TG} (h : PG X e t) (i : ∀ v σ H Q, t' v σ H Q → t v σ H Q) : PG X e t' := ⟨fun pins s σ H v u Q I r q => h.run pins s σ H v u Q I r (i v σ H Q q)⟩
theorem PGs_imp {t t' : TGs} (h : PGs X es t) (i : ∀ v σ H Q, t' v σ H Q → t v σ H Q) : PGs X es t' := ⟨fun pins s σ H v u Q I r q => h.run pins s σ H v u Q I r (i v σ H Q q)⟩
theorem ResG.go {K : PySem.W.Frag} {ρ ρ1 : List Addr} {H H1 : Hp} {r : Option (Sl × List O)} {Q : L2.St → Hp → Prop} (x : ResG K C ρ H r Q) (g : Go K ρ H ρ1 H1) : ResG K C ρ1 H1 r Q := by
  cases r with
  | none => exact x
  | some p => exact fun ρ' H' σ' g' => x ρ' H' σ' (g.trans g')
theorem ResG.mono {K : PySem.W.Frag} {ρ : List Addr} {H : Hp} {r : Option (Sl × List O)} {Q Q' : L2.St → Hp → Prop} (x : ResG K C ρ H r Q) (f : ∀ σ H, Q σ H → Q' σ H) : ResG K C ρ H r Q' := by
  cases r with
  | none => exact x
  | some p => exact fun ρ' H' σ' g' rh rs => f _ _ (x ρ' H' σ' g' rh rs)
def tName (i : Nat) : GT := fun d δ h => some (δ.set i (some d), h)
theorem yName {i : Nat} {x : Str} (hN : X.N.Nodup) (hi : X.N[i]? = some x) (hx : Loc X.env.scope x) (hf : X.fn x = true ∨ X.env.scope.names.lookup x = some .local := by first | exact .inl rfl | exact .inr rfl) : PG X (.Name x pos) (rdG X.K C (tName i)) :=
  PG_imp (pg_name hN hi hx hf) fun v σ H Q ⟨ρ, h, δ, d, rh, rs, rv, m⟩ => m ρ H _ .refl rh (rs.set rv i)
def tNilT : GTs := fun l δ h => match l with
  | [] => some (δ, h)
  | _ => none
def tConsT (g : GT) (gs : GTs) : GTs := fun l δ h => match l with
  | d :: r => match g d δ h with
    | some (δ', h') => gs r δ' h'
    | none => none
  | [] => none
theorem yNil : PGs X [] (rdGs X.K C tNilT) := PGs_imp pgs_nil fun vs σ H Q ⟨ρ, h, δ, l, rh, rs, rv, m⟩ => by
  cases l with
  | nil => exact ⟨rv.of_nil, m ρ H σ .refl rh rs⟩
  | cons d r => exact m.elim
theorem yCons (h1 : PG X e (rdG X.K C gt)) (h2 : PGs X es (rdGs X.K C gts)) (hs : (assignEach (e :: es) X.env).map (·.2) = assign e X.env :: (assignEach es X.env).map (·.2) := by rfl) : PGs X (e :: es) (rdGs X.K C (tConsT gt gts)) :=
  PGs_imp (pgs_cons h1 h2 hs) fun vs σ H Q ⟨ρ, h, δ, l, rh, rs, rv, m⟩ => by
    cases l with
    | nil => exact m.elim
    | cons d r =>
      obtain ⟨v, t, rfl, r1, r2⟩ := rv.of_cons
      refine ⟨v, t, rfl, ρ, h, δ, d, rh, rs, r1, ?_⟩
      unfold tConsT at m
      simp only at m
      cases q : gt d δ h with
      | none => rw [q] at m; exact m.elim
      | some p =>
        obtain ⟨δ', h'⟩ := p
        rw [q] at m
        exact fun ρ' H' σ' g' rh' rs' => ⟨ρ', h', δ', r, rh', rs', r2.go g', ResG.go m g'⟩
def tTupT (g : GTs) (n : Nat) : GT := fun d δ h => match d with
  | .tup l => if Nat.beq l.length n then g l δ h else none
  | _ => none
theorem yTup {k n : Nat} (hc : X.calm = true) (h : PGs X es (rdGs X.K C gts)) (hn : (assignEach es X.env).length = n := by rfl) (hst : (assignEach es X.env).findIdx? (·.1) = none := by rfl) : PG X (.Tuple es k pos) (rdG X.K C (tTupT gts n)) :=
  PG_imp (pg_tup hc h hn hst) fun v σ H Q ⟨ρ, h, δ, d, rh, rs, rv, m⟩ => by
    cases d with
    | tup l =>
      obtain ⟨a, vs, rfl, sa, ra⟩ := rv.of_tup
      unfold tTupT at m
      simp only at m
      split at m
      · rename_i hl
        exact ⟨a, vs, rfl, sa, by rw [ra.length]; exact Nat.eq_of_beq_eq_true hl, ρ, h, δ, l, rh, rs, ra, m⟩
      · exact m.elim
    | _ => exact m.elim
/-- o[i] = v -/
def putO (o i v : D) (h : List O) : Option (List O) := match o with
  | .ref n => match h[n]? with
    | some (.lst l) => match i with
      | .int k => match ixN l.length k with
        | some j => some (h.set n (.lst (l.set j v)))
        | none => none
      | _ => none
    | some (.dct l) => match kdOf i with
      | some k => if Nat.blt l.length line then some (h.set n (.dct (dput k v l))) else none
      | none => none
    | none => none
  | _ => none
def tSubT (ga gb : GE) : GT := fun d δ h => match ga δ h with
  | .ok o h1 => match gb δ h1 with
    | .ok i h2 => match putO o i d h2 with
      | some h3 => some (δ, h3)
      | none => none
    | _ => none
  | _ => none
def rSetO : TSet := fun o i v H Q => rSetL o i v H Q ∨ rSetD o i v H Q
theorem set_O (hu : X.A.units + 1 < cLine) : PSet X rSetO := by
  intro pins s σ H o i v ov iv u Q I r1 r2 r3 h
  rcases h with h | h
  · exact set_list pins s σ H o i v ov iv u Q I r1 r2 r3 h
  · exact set_dict hu pins s σ H o i v ov iv u Q I r1 r2 r3 h
theorem RKs.map {K : PySem.W.Frag} {ρ : List Addr} {H : Hp} {k : KD} {d : D} {v : V} (rv : RD K ρ H d v) : ∀ {l : List (KD × D)} {kvs : List (Key × V)}, RKs K ρ H l kvs → RKs K ρ H (dmap k d l) (kvs.map fun kv => if kv.1 = kOf k then (kv.1, v) else kv)
  | [], _, r => by
    unfold RKs at r
    subst r
    unfold dmap RKs
    rfl
  | p :: l, _, r => by
    unfold RKs at r
    obtain ⟨w, t, rfl, r1, r2⟩ := r
    unfold dmap
    by_cases hk : p.1 = k
    · rw [if_pos (keyBeq_iff.mpr hk), List.map_cons, if_pos (kOf_inj.mpr hk)]
      unfold RKs
      exact ⟨v, _, rfl, rv, RKs.map rv r2⟩
    · rw [if_neg (fun z => hk (keyBeq_iff.mp z)), List.map_cons, if_neg (fun z => hk (kOf_inj.mp z))]
      unfold RKs
      exact ⟨w, _, rfl, r1, RKs.map rv r2⟩
theorem RKs.snoc {K : PySem.W.Frag} {ρ : List Addr} {H : Hp} {k : KD} {d : D} {v : V} (rv : RD K ρ H d v) : ∀ {l : List (KD × D)} {kvs : List (Key × V)}, RKs K ρ H l kvs → RKs K ρ H (l ++ [(k, d)]) (kvs ++ [(kOf k, v)])
  | [], _, r => by
    unfold RKs at r
    subst r
    exact ⟨v, [], rfl, rv, rfl⟩
  | p :: l, _, r => by
    unfold RKs at r
    obtain ⟨w, t, rfl, r1, r2⟩ := r
    exact ⟨w, _, rfl, r1, RKs.snoc rv r2⟩
theorem RKs.put {K : PySem.W.Frag} {ρ : List Addr} {H : Hp} {k : KD} {d : D} {v : V} {l : List (KD × D)} {kvs : List (Key × V)} (r : RKs K ρ H l kvs) (rv : RD K ρ H d v) : RKs K ρ H (dput k d l) (putK kvs (kOf k) v) := by
  obtain ⟨q1, q2⟩ := r.look (k := k)
  unfold dput putK
  rw [valV_any]
  cases e : dlook k l with
  | none =>
    rw [q2 e]
    exact r.snoc rv
  | some c =>
    obtain ⟨w, e1, _⟩ := q1 c e
    rw [e1]
    exact r.map rv
theorem putO_ok {K : PySem.W.Frag} {ρ : List Addr} {H : Hp} {h h' : List O} {o i d : D} {x y v : V} {Q : Hp → Prop} (rh : RH K C ρ h H) (r1 : RD K ρ H o x) (r2 : RD K ρ H i y) (r3 : RD K ρ H d v) (e : putO o i d h = some h')
    (q : ∀ H', Go K ρ H ρ H' → RH K C ρ h' H' → Q H') : rSetO x y v H Q := by
  unfold putO at e
  split at e
  · rename_i n
    obtain ⟨a, rfl, ea⟩ := r1.of_ref
    split at e
    · rename_i l e0
      split at e
      · rename_i k
        split at e
        · rename_i j ej
          cases e
          obtain ⟨a', vs, p1, p2, p3⟩ := rh.lst e0
          rw [ea] at p1; cases p1
          cases r2.of_int
          refine .inl ⟨a, vs, k, j, rfl, rfl, p2, by rw [p3.length]; exact ej, q _ (go_set rh ea) (rh.set ea ?_)⟩
          exact .lst ((RDs.set r3 j p3).go (go_set rh ea))
        · cases e
      · cases e
    · rename_i l e0
      split at e
      · rename_i k ek
        split at e
        · rename_i hl
          cases e
          obtain ⟨a', kvs, p1, p2, p3⟩ := rh.dct e0
          rw [ea] at p1; cases p1
          cases kdOf_ok ek r2
          refine .inr ⟨a, _, rfl, DPut.k p2 ?_, q _ (go_set rh ea) (rh.set ea ?_)⟩
          · rw [p3.length]
            have : l.length < line := by simpa using hl
            exact Nat.lt_of_lt_of_le this (line_ok (Nat.ble_eq.mpr (Nat.le_refl _)))
          · exact ⟨_, rfl, (p3.put r3).go (go_set rh ea)⟩
        · cases e
      · cases e
    · cases e
  · cases e
theorem ySub (hu : X.A.units + 1 < cLine) (ha : PE X a (rd X.K C W ga)) (hb : PE X b (rd X.K C W gb)) (hs : ∀ v, assign (.Subscript a b pos) X.env v = (do
      let ov ← holding [v] (eval a X.env)
      let iv ← holding [v, ov] (eval b X.env)
      standAt pos
      holding [v, ov, iv] (setItem ov iv v)
      release [v, ov, iv] []) := by intro _; rfl) : PG X (.Subscript a b pos) (rdG X.K C (tSubT ga gb)) :=
  PG_imp (pg_sub ha hb (set_O hu) hs) fun v σ H Q ⟨ρ, h, δ, d, rh, rs, rv, m⟩ => by
    unfold tSubT at m
    cases e1 : ga δ h with
    | bad => rw [e1] at m; exact m.elim
    | exc c p h' => rw [e1] at m; exact m.elim
    | ok o h1 =>
      rw [e1] at m
      simp only at m
      refine ⟨ρ, h, δ, rh, rs, ?_⟩
      rw [e1]
      intro ρ1 H1 g1 rh1 x rx
      cases e2 : gb δ h1 with
      | bad => rw [e2] at m; exact m.elim
      | exc c p h' => rw [e2] at m; exact m.elim
      | ok i h2 =>
        rw [e2] at m
        simp only at m
        refine ⟨ρ1, h1, δ, rh1, rs.go g1, ?_⟩
        rw [e2]
        intro ρ2 H2 g2 rh2 y ry
        cases e3 : putO o i d h2 with
        | none => rw [e3] at m; exact m.elim
        | some h3 =>
          rw [e3] at m
          exact putO_ok rh2 (rx.go g2) ry ((rv.go g1).go g2) e3 fun H3 g3 rh3 => m ρ2 H3 σ ((g1.trans g2).trans g3) rh3 (((rs.go g1).go g2).go g3)
/-- target = value -/
def sAsg (g : GE) (t : GT) : GS := fun δ h => (g δ h).toS δ fun d h1 => match t d δ h1 with
  | some (δ', h') => .nx δ' h'
  | none => .bad
theorem zAsg (he : PE X e (rd X.K C W ga)) (hg : PG X tg (rdG X.K C gt)) (hs : swapsWithSole [tg] e pos.line X.env = pure false := by rfl) (hw : swappedStores [tg] e X.env = pure none := by rfl)
    (h1 : (assignEach [tg] X.env).map (·.2) = [assign tg X.env] := by rfl) : PS X (.Assign [tg] e pos) (rdS X.K C W (sAsg ga gt)) :=
  PS_imp (ps_asg he hg hs hw h1) fun D σ H ⟨ρ, h, δ, rh, rs, m⟩ => ⟨ρ, h, δ, rh, rs, (m.toS rs).mono fun ρ1 h1 H1 d g1 rh1 q1 v rv => ⟨ρ1, h1, δ, d, rh1, rs.go g1, rv, by
    cases e : gt d δ h1 with
    | none => rw [e] at q1; exact q1.elim
    | some p =>
      obtain ⟨δ', h'⟩ := p
      rw [e] at q1
      exact q1⟩⟩
/-- a, b = x, y: plain local names -/
def sPar (i j : Nat) (t : GA) : GS := fun δ h => (t δ h).toS δ fun l h1 => match l with
  | [c, d] => .nx ((δ.set i (some c)).set j (some d)) h1
  | _ => .bad
theorem zPar {i j : Nat} {x y : Str} {t : GA} {px py pt : Pos} {kt k2 pt2} (ha : PA X [a, b] (rdA X.K C W t)) (hc : X.calm = true) (hN : X.N.Nodup) (hi : X.N[i]? = some x) (hj : X.N[j]? = some y) (hij : i ≠ j)
    (hx : X.env.scope.names.lookup x = some .local) (hy : X.env.scope.names.lookup y = some .local) (hw : swappedStores [.Tuple [.Name x px, .Name y py] kt pt] (.Tuple [a, b] k2 pt2) X.env = pure (some [x, y]))
    (hs : swapsWithSole [.Tuple [.Name x px, .Name y py] kt pt] (.Tuple [a, b] k2 pt2) pos.line X.env = pure false := by rfl) :
    PS X (.Assign [.Tuple [.Name x px, .Name y py] kt pt] (.Tuple [a, b] k2 pt2) pos) (rdS X.K C W (sPar i j t)) :=
  PS_imp (ps_par hc hN hi hj hij hx hy ha hw hs) fun D σ H ⟨ρ, h, δ, rh, rs, m⟩ => ⟨ρ, h, δ, rh, rs, (m.toS rs).mono fun ρ1 h1 H1 l g1 rh1 q1 vs rvs => by
    split at q1
    · rename_i c d
      obtain ⟨v, t1, rfl, r1, rr⟩ := rvs.of_cons
      obtain ⟨w, t2, rfl, r2, rr2⟩ := rr.of_cons
      obtain rfl := rr2.of_nil
      exact ⟨v, w, rfl, q1 ρ1 H1 _ .refl rh1 (((rs.go g1).set r1 i).set r2 j)⟩
    · exact q1.elim⟩
end
end Ev
set_option Elab.async false
set_option linter.all false
set_option maxRecDepth 100000
set_option maxHeartbeats 2000000
/-! Ev7: enumerate and zip over lists and tuples, in any mix. -/
namespace Ev
open PySem PySem.Spec L2

inductive Kd where
  | lst | tup
namespace Kd
def sq (K : PySem.W.Frag) (H : Hp) : Kd → Addr → List V → Prop
  | .lst => SqL K H
  | .tup => SqT K H
def held (h : Heap) : Kd → Addr → Array Value → Prop
  | .lst => fun a x => h.IsList a x
  | .tup => fun a x => h.IsTuple a x
def itr (h : Heap) : Kd → Addr → Addr → Nat → Prop
  | .lst => fun e a i => h.IsListIter e a i
  | .tup => fun e a i => h.IsTupleIter e a i
def cls : Kd → String
  | .lst => "list_iterator"
  | .tup => "tuple_iterator"
def obj (κ : Kd) (a : Addr) : Obj := { cls := .type κ.cls, data := .fields #[.ref a, .int 0 0] }
theorem itr_at {κ : Kd} {h : Heap} {e a : Addr} {i : Nat} (x : κ.itr h e a i) : ∃ o, h.get? e = some o ∧ o.cls = .type κ.cls ∧ o.data = .fields #[.ref a, .int i 0] := by
  cases κ <;> exact x
theorem itr_mk {κ : Kd} {h : Heap} {e a : Addr} {i : Nat} (x : ∃ o, h.get? e = some o ∧ o.cls = .type κ.cls ∧ o.data = .fields #[.ref a, .int i 0]) : κ.itr h e a i := by
  cases κ <;> exact x
theorem held_at {κ : Kd} {h : Heap} {a : Addr} {x : Array Value} (q : κ.held h a x) : ∃ o n, h.get? a = some o ∧ o.data = .seq x n := by
  cases κ <;> obtain ⟨o, e, _, n, d⟩ := q <;> exact ⟨o, n, e, d⟩
theorem draws (κ : Kd) {prog : Program} {w : World} {A : Around} (hh : A.handled = none) (it a : Addr) (hne : a ≠ it) (x : Array Value) :
    Draws prog w A it [it, a] x.size (fun i v => x[i]? = some v) (fun i h => κ.itr h it a i ∧ κ.held h a x) := by
  cases κ with
  | lst => exact Draws.list hh it a hne x
  | tup => exact Draws.tuple hh it a hne x
theorem begins (κ : Kd) (a : Addr) (x : Array Value) : Begins (.ref a) (κ.obj a) fun h => κ.held h a x := by
  cases κ with
  | lst => exact begins_list a x
  | tup => exact begins_tuple a x
section
variable {X : Cx} {pins : List (Addr × Obj)} {σ : L2.St} {H : Hp} {s : Shared} {a : Addr} {xs ys : List V} {κ : Kd}
theorem at_ (I : Inv X pins σ H s) (q : κ.sq X.K H a xs) : ∃ l : List Value, Vals xs l ∧ κ.held s.heap a l.toArray := by
  cases κ with
  | lst => obtain ⟨l, r, p, _⟩ := I.list q; exact ⟨l, r, p.isList⟩
  | tup => obtain ⟨l, r, p, _⟩ := I.tuple q; exact ⟨l, r, p⟩
theorem inj (I : Inv X pins σ H s) (q : κ.sq X.K H a xs) (q' : κ.sq X.K H a ys) : xs = ys := by
  cases κ with
  | lst => exact I.list_inj q q'
  | tup => exact I.tuple_inj q q'
theorem ne_itr {κ' : Kd} {h : Heap} {e b : Addr} {i : Nat} {x : Array Value} (q : κ.held h a x) (q' : κ'.itr h e b i) : a ≠ e := fun z => by
  obtain ⟨o, n, e1, d⟩ := held_at q
  obtain ⟨o', e2, _, d'⟩ := itr_at q'
  rw [z, e2] at e1
  cases e1
  rw [d'] at d
  cases d
theorem ne_rec {h : Heap} {e : Addr} {x : Array Value} {o' : Obj} {vs : Array Value} (q : κ.held h a x) (e2 : h.get? e = some o') (d' : o'.data = .fields vs) : a ≠ e := fun z => by
  obtain ⟨o, n, e1, d⟩ := held_at q
  rw [z, e2] at e1
  cases e1
  rw [d'] at d
  cases d
theorem itr_keep {κ : Kd} {h h' : Heap} {e a : Addr} {i : Nat} (q : κ.itr h e a i) (k : ∀ o, h.get? e = some o → h'.get? e = some o) : κ.itr h' e a i := by
  obtain ⟨o, e1, c, d⟩ := itr_at q
  exact itr_mk ⟨o, k o e1, c, d⟩
end
end Kd

/-! ### enumerate -/
def ItE (K : PySem.W.Frag) (κ : Kd) (a : Addr) : It :=
  ⟨fun i H => ∃ (l : List V) (c : V), κ.sq K H a l ∧ l[i]? = some c,
   fun i H y H' => ∃ (T : Addr) (c : V), y = .ref T ∧ H T = none ∧ H' = upd H T (.tup [.int (i : Nat), c]) ∧ ∀ l, κ.sq K H a l → l[i]? = some c,
   fun i H => ∃ l : List V, κ.sq K H a l ∧ l.length ≤ i⟩
theorem turnE {P : Program} {w : World} {K : PySem.W.Frag} {es : List Expr} {kk : Nat} {tp : Pos} (κ : Kd) (a e it : Addr) :
    Turn P w K (.Tuple es kk tp) (ItE K κ a) [e, it] e (fun i h => (∃ u, IsEnum h e it ((i : Nat) : Int) u) ∧ κ.itr h it a i ∧ e ≠ it) where
  mem := List.mem_cons_self ..
  obj := fun i h ⟨⟨u, q1⟩, q2, _⟩ b m => by
    rcases List.mem_cons.mp m with z | m
    · rw [z]; exact ⟨_, q1, fun v z => nomatch z⟩
    · rw [List.mem_singleton.mp m]
      obtain ⟨o, e1, _, d⟩ := Kd.itr_at q2
      exact ⟨o, e1, fun v z => by rw [d] at z; cases z⟩
  keep := fun i h h' ⟨⟨u, q1⟩, q2, q3⟩ k => ⟨⟨u, k e (List.mem_cons_self ..) _ q1⟩, Kd.itr_keep q2 fun o => k it (List.mem_cons_of_mem _ (List.mem_cons_self ..)) o, q3⟩
  item := by
    rintro X rfl rfl rfl calm i pins s σ H E I free ⟨⟨old, q1⟩, q2, q3⟩ ⟨l, c, sq, lc⟩
    obtain ⟨us, rel, hd⟩ := Kd.at_ I sq
    obtain ⟨u, eu, ru⟩ := rel.get lc
    have ie : e < s.heap.objs.size := Heap.lt_size q1
    have iit : it < s.heap.objs.size := by obtain ⟨o, z, _⟩ := Kd.itr_at q2; exact Heap.lt_size z
    have nae : a ≠ e := Kd.ne_rec hd q1 rfl
    have DR := κ.draws (prog := X.prog) (w := X.w) (A := X.A.in1) (I.ok.hd calm) it a (Kd.ne_itr hd q2) us.toArray
    refine wpAny_pyNext_enum_itemD DR q1 ⟨q2, hd⟩ (i := i) ?_ q3 ?_ fun x h' tk px out st tup sz kp => ⟨_, rfl, ?_⟩
    · have := (List.getElem?_eq_some_iff.mp eu).1
      simpa using this
    · intro z
      rcases List.mem_cons.mp z with z | z
      · exact q3 z
      · exact nae (List.mem_singleton.mp z).symm
    · obtain rfl : x = u := by
        have z : us[i]? = some x := by simpa using px
        rw [eu] at z
        exact (Option.some.inj z).symm
      refine wpAny_letOwnedTupleGo_enum (s := { s with heap := h', toks := tk + 1 }) out fun h2 e2 same => ?_
      have tup2 : h2.get? s.heap.objs.size = some { cls := .type "tuple", data := .seq #[.int i tk, x] } := (same.2 _ (Nat.ne_of_gt ie)).trans tup
      have J : Inv X pins σ (upd H s.heap.objs.size (.tup [.int (i : Nat), c])) { s with heap := h2, toks := tk + 1 } := by
        refine I.turnedNew (ch := [e, it]) (fun b o nb z => (same.2 b fun z => nb (by simp [z])).trans (kp b o (fun z => nb (by simp [z])) (fun z => nb (by simp [z])) z)) free (Nat.le_refl _) ⟨by show 2 ≤ sizeLine; decide, [.int i tk, x], .cons ⟨_, rfl⟩ (.cons ru .nil), ⟨_, tup2, rfl, _, rfl⟩⟩
      refine ⟨.ref s.heap.objs.size, _, J, rfl, ⟨_, c, rfl, I.hok.fresh (Nat.le_refl _), rfl, fun l' z => by rw [Kd.inj I z sq]; exact lc⟩, ⟨⟨x, ?_⟩, Kd.itr_keep st.1 fun o z => (same.2 it (Ne.symm q3)).trans z, q3⟩, fun b m => ?_⟩
      · rw [show ((i + 1 : Nat) : Int) = (i : Int) + 1 by omega]
        exact e2
      · have lt : b < s.heap.objs.size := by
          rcases List.mem_cons.mp m with z | m
          · rw [z]; exact ie
          · rw [List.mem_singleton.mp m]; exact iit
        rw [upd_ne (Nat.ne_of_lt lt)]
        exact (free b m).1
  done := by
    rintro X rfl rfl rfl calm i pins s σ H E I free ⟨⟨old, q1⟩, q2, q3⟩ ⟨l, sq, ll⟩
    obtain ⟨us, rel, hd⟩ := Kd.at_ I sq
    have len := rel.length
    obtain ⟨f0, f1, f2, f3, f4, f5⟩ := free it (List.mem_cons_of_mem _ (List.mem_cons_self ..))
    cases κ with
    | lst =>
      exact wpAny_pyNext_enum_end (I.ok.hd calm) q1 q2 hd (by simp; omega) fun h' k => ⟨rfl, I.turned (t' := s.toks) (fun b o nb z => k b o nb z) f0 f1 f3 f4 f5⟩
    | tup =>
      have nit : a ≠ it := Kd.ne_itr hd q2
      have DR : Draws X.prog X.w X.A.in1 it [it, a] i (fun _ _ => False) (fun j h => j = i ∧ h.IsTupleIter it a i ∧ h.IsTuple a us.toArray) := {
        live := fun _ _ st => let ⟨o, z, _⟩ := st.2.1; ⟨o, z⟩
        frame := fun _ _ _ st k => ⟨st.1, st.2.1.at fun o z => k it (by simp) o z, st.2.2.at fun o z => k a (by simp) o z⟩
        item := fun j s Q E lt st _ => absurd st.1 (Nat.ne_of_lt lt)
        done := fun s Q E st k => wpAny_nextOf_tuple_end (I.ok.hd calm) st.2.1 st.2.2 (by simp; omega) k }
      exact wpAny_pyNext_enum_endD DR q1 ⟨rfl, q2, hd⟩ fun h' k => ⟨rfl, I.turned (t' := s.toks) (fun b o nb z => k b o nb z) f0 f1 f3 f4 f5⟩
  self := fun A i s Q E ⟨⟨_, q1⟩, _⟩ h => wpAny_pyIter_enum q1 h

theorem meets_enum1 {v : Value} {o : Obj} {H : Heap → Prop} (B : Begins v o H) :
    Meets (Builtin.«enumerate.__new__» ⟨[.type "enumerate", v], []⟩) (fun _ R s => H s.heap ∧
      R (.ok (.ret (.ref (s.heap.push o).objs.size))) { s with heap := (s.heap.push o).push { cls := .type "enumerate", data := .fields #[.none, .bool false, .ref s.heap.objs.size, rawInt 0, .none, .none] } }) :=
  .of_wp fun prog w A R s q => by
    obtain ⟨hp, g, d, tk, os⟩ := s
    obtain ⟨q1, q⟩ := q
    have sub := sub_enumerate
    have go : ∀ {A' : Around} {E : Value → Shared → Prop} {Q : Value → Shared → Prop}, Q (.ref hp.objs.size) ⟨hp.push o, g, d, tk, os⟩ → wpAny (model prog w) A' (pyIter v) Q E ⟨hp, g, d, tk, os⟩ :=
      fun z => B.iter prog w _ _ ⟨hp, g, d, tk, os⟩ _ q1 z
    wp_walk using go
    refine wpAny_stack_any fun st => wpAny_pure ?_
    split
    · rename_i c _ _ _ _ _
      cases (c == Value.type "enumerate") <;> (wp_walk using go; exact ⟨_, rfl, q⟩)
    · wp_walk using go
      exact ⟨_, rfl, q⟩
theorem enum1 {prog : Program} {w : World} {A : Around} {E : Value → Shared → Prop} {s : Shared} {v : Value} {o : Obj} {H : Heap → Prop} {Q : Value → Shared → Prop} (B : Begins v o H) (h1 : H s.heap)
    (q : ∀ h', IsEnum h' (s.heap.objs.size + 1) s.heap.objs.size 0 .none → h'.get? s.heap.objs.size = some o → (∀ b u, s.heap.get? b = some u → h'.get? b = some u) → Q (.ref (s.heap.objs.size + 1)) { s with heap := h' }) :
    wpAny (model prog w) A (call (.type "enumerate") [v]) Q E s := by
  refine callType_new F.called_enumerate (by decide) (F.typeCall_enumerate_1 _) (F.newCall_enumerate_1 _) (fun x => F.args_object_init_2 x _) F.entry_enumerate_new (meets_enum1 B) ⟨h1, ?_⟩
  have sz : (s.heap.push o).objs.size = s.heap.objs.size + 1 := Heap.size_push ..
  show _ ∧ _
  rw [sz]
  have at1 : IsEnum ((s.heap.push o).push { cls := .type "enumerate", data := .fields #[.none, .bool false, .ref s.heap.objs.size, rawInt 0, .none, .none] }) (s.heap.objs.size + 1) s.heap.objs.size 0 .none := by
    have z := Heap.get?_push_size (s.heap.push o) (o := { cls := .type "enumerate", data := .fields #[.none, .bool false, .ref s.heap.objs.size, rawInt 0, .none, .none] }) rfl
    rw [sz] at z
    exact z
  exact ⟨⟨_, at1, rfl⟩, q _ at1 (Heap.get?_push_of_some _ (Heap.get?_push_size _ B.free)) fun b u z => Heap.get?_push_of_some _ (Heap.get?_push_of_some _ z)⟩
def iEnu (K : PySem.W.Frag) (ta : TA) : TI := fun σ H R => ta σ H fun vs H1 => ∃ κ a l, vs = [.ref a] ∧ Kd.sq K H1 κ a l ∧ R (ItE K κ a) H1
theorem pi_enu {X : Cx} {e : Expr} {ta : TA} {p pos tp : Pos} {es : List Expr} {kk : Nat} (hg : Gl X "enumerate") (hm : X.mg "enumerate" = none) (ha : PA X [e] ta) (hs : starEach [e] X.env = [(false, eval e X.env)] := by rfl) :
    PI X (.Tuple es kk tp) (.Call (.Name "enumerate" p) [e] [] pos) (iEnu X.K ta) := by
  refine ⟨fun pins s σ H R I h => PyProof.Rows.Call_ (ld_blt I hg hm PyProof.Rows.boot_enumerate (PyProof.Rows.callWith_type1 (thn (ha.run pos pins s σ H _ I h) fun us s1 ⟨vs, H1, I1, r1, κ, a, l, ev, sq, q⟩ => ?_) hs rfl))⟩
  subst ev
  cases r1 with
  | cons r rr =>
    cases rr
    cases r
    obtain ⟨ws, rel, hd⟩ := Kd.at_ I1 sq
    refine enum1 (κ.begins a ws.toArray) hd fun h' q1 q2 k => wpAny_pyIter_enum q1 ?_
    refine ⟨s1.heap.objs.size + 1, [s1.heap.objs.size + 1, s1.heap.objs.size], _, _, H1, rfl, I1.kept (t' := s1.toks) k, turnE κ a (s1.heap.objs.size + 1) s1.heap.objs.size, ⟨⟨.none, q1⟩, Kd.itr_mk ⟨_, q2, rfl, rfl⟩, Nat.succ_ne_self _⟩, fun b m => ?_, q⟩
    have le : s1.heap.objs.size ≤ b := by
      rcases List.mem_cons.mp m with z | m
      · rw [z]; exact Nat.le_succ _
      · rw [List.mem_singleton.mp m]; exact Nat.le_refl _
    exact I1.fpOk le (I1.hok.fresh le)
end Ev
set_option Elab.async false
set_option linter.all false
set_option maxRecDepth 100000
set_option maxHeartbeats 2000000
/-! Ev8: zip over lists and tuples, in any mix. -/
namespace Ev
open PySem PySem.Spec L2

/-- at the end of one of them, the other one may stand anywhere -/
theorem Kd.ends (κ : Kd) {prog : Program} {w : World} {A : Around} (hh : A.handled = none) (it a : Addr) (hne : a ≠ it) (x : Array Value) :
    Draws prog w A it [it, a] x.size (fun i v => x[i]? = some v) (fun i h => κ.itr h it a i ∧ κ.held h a x) := κ.draws hh it a hne x
def ItZ (K : PySem.W.Frag) (κ : Kd) (a : Addr) (κ' : Kd) (b : Addr) : It :=
  ⟨fun i H => ∃ (l l' : List V) (c c' : V), κ.sq K H a l ∧ κ'.sq K H b l' ∧ l[i]? = some c ∧ l'[i]? = some c',
   fun i H y H' => ∃ (T : Addr) (c c' : V), y = .ref T ∧ H T = none ∧ H' = upd H T (.tup [c, c']) ∧ (∀ l, κ.sq K H a l → l[i]? = some c) ∧ ∀ l, κ'.sq K H b l → l[i]? = some c',
   fun i H => ∃ l l' : List V, κ.sq K H a l ∧ κ'.sq K H b l' ∧ i ≤ l.length ∧ i ≤ l'.length ∧ (i = l.length ∨ i = l'.length)⟩
theorem turnZ {P : Program} {w : World} {K : PySem.W.Frag} {es : List Expr} {kk : Nat} {tp : Pos} (κ κ' : Kd) {a b z TI TO i1 i2 : Addr} (S : ZipSep2 z TI TO i1 i2 [i1, a] [i2, b]) :
    Turn P w K (.Tuple es kk tp) (ItZ K κ a κ' b) [z, TI, TO, i1, i2] z (fun i h => IsZip h z TI TO .none ∧ IsTupOf2 h TI (.ref i1) (.ref i2) ∧ (∃ x y, IsTupOf2 h TO x y) ∧ κ.itr h i1 a i ∧ κ'.itr h i2 b i) where
  mem := List.mem_cons_self ..
  obj := fun i h ⟨q1, q2, ⟨x, y, q3⟩, q4, q5⟩ c m => by
    obtain ⟨o1, e1, _, d1⟩ := Kd.itr_at q4
    obtain ⟨o2, e2, _, d2⟩ := Kd.itr_at q5
    have m : c = z ∨ c = TI ∨ c = TO ∨ c = i1 ∨ c = i2 := by simpa using m
    rcases m with m | m | m | m | m <;> rw [m]
    · exact ⟨_, q1, fun v z => nomatch z⟩
    · exact ⟨_, q2, fun v z => nomatch z⟩
    · exact ⟨_, q3, fun v z => nomatch z⟩
    · exact ⟨o1, e1, fun v z => by rw [d1] at z; cases z⟩
    · exact ⟨o2, e2, fun v z => by rw [d2] at z; cases z⟩
  keep := fun i h h' ⟨q1, q2, ⟨x, y, q3⟩, q4, q5⟩ k =>
    ⟨k z (by simp) _ q1, k TI (by simp) _ q2, ⟨x, y, k TO (by simp) _ q3⟩, Kd.itr_keep q4 fun o => k i1 (by simp) o, Kd.itr_keep q5 fun o => k i2 (by simp) o⟩
  item := by
    rintro X rfl rfl rfl calm i pins s σ H E I free ⟨q1, q2, ⟨x0, y0, q3⟩, q4, q5⟩ ⟨l, l', c, c', sq, sq', lc, lc'⟩
    obtain ⟨us, rel, hd⟩ := Kd.at_ I sq
    obtain ⟨us', rel', hd'⟩ := Kd.at_ I sq'
    obtain ⟨u, eu, ru⟩ := rel.get lc
    obtain ⟨u', eu', ru'⟩ := rel'.get lc'
    have iz : z < s.heap.objs.size := Heap.lt_size q1
    have D1 := κ.draws (prog := X.prog) (w := X.w) (A := X.A.in1) (I.ok.hd calm) i1 a (Kd.ne_itr hd q4) us.toArray
    have D2 := κ'.draws (prog := X.prog) (w := X.w) (A := X.A.in1) (I.ok.hd calm) i2 b (Kd.ne_itr hd' q5) us'.toArray
    refine wpAny_pyNext_zipD2_item S D1 D2 q1 q2 q3 ⟨q4, hd⟩ ⟨q5, hd'⟩ (i := i) ?_ ?_ fun x x' h' tk px px' z1 t1 s1 s2 tup sz kp => ⟨_, rfl, ?_⟩
    · have := (List.getElem?_eq_some_iff.mp eu).1
      simpa using this
    · have := (List.getElem?_eq_some_iff.mp eu').1
      simpa using this
    · obtain rfl : x = u := by
        have z : us[i]? = some x := by simpa using px
        rw [eu] at z
        exact (Option.some.inj z).symm
      obtain rfl : x' = u' := by
        have z : us'[i]? = some x' := by simpa using px'
        rw [eu'] at z
        exact (Option.some.inj z).symm
      refine wpAny_letOwnedTupleGo_zip (s := { s with heap := h', toks := tk }) z1 fun h2 z2 same => ?_
      have tup2 : h2.get? s.heap.objs.size = some { cls := .type "tuple", data := .seq #[x, x'] } := (same.2 _ (Nat.ne_of_gt iz)).trans tup
      have J : Inv X pins σ (upd H s.heap.objs.size (.tup [c, c'])) { s with heap := h2, toks := tk } := by
        refine I.turnedNew (ch := [z, TI, TO, i1, i2]) (fun b o nb q => (same.2 b fun z => nb (by simp [z])).trans (kp b o (fun z => nb (by simp [z])) (fun z => nb (by simp [z])) (fun z => nb (by simp [z])) (fun z => nb (by simp [z])) q)) free (Nat.le_refl _) ⟨by show 2 ≤ sizeLine; decide, [x, x'], .cons ru (.cons ru' .nil), ⟨_, tup2, rfl, _, rfl⟩⟩
      refine ⟨.ref s.heap.objs.size, _, J, rfl, ⟨_, c, c', rfl, I.hok.fresh (Nat.le_refl _), rfl, fun l' z => by rw [Kd.inj I z sq]; exact lc, fun l' z => by rw [Kd.inj I z sq']; exact lc'⟩, ⟨z2, ?_, ⟨x, x', ?_⟩, ?_, ?_⟩, fun c m => ?_⟩
      · exact (same.2 _ S.TIz).trans (kp _ _ S.TIz S.TITO S.TIi1 S.TIi2 q2)
      · exact (same.2 _ S.TOz).trans t1
      · exact Kd.itr_keep s1.1 fun o q => (same.2 i1 (Ne.symm S.zi1)).trans q
      · exact Kd.itr_keep s2.1 fun o q => (same.2 i2 (Ne.symm S.zi2)).trans q
      · have lt : c < s.heap.objs.size := by
          obtain ⟨o1, e1, _⟩ := Kd.itr_at q4
          obtain ⟨o2, e2, _⟩ := Kd.itr_at q5
          have m : c = z ∨ c = TI ∨ c = TO ∨ c = i1 ∨ c = i2 := by simpa using m
          rcases m with m | m | m | m | m <;> rw [m]
          · exact iz
          · exact Heap.lt_size q2
          · exact Heap.lt_size q3
          · exact Heap.lt_size e1
          · exact Heap.lt_size e2
        rw [upd_ne (Nat.ne_of_lt lt)]
        exact (free c m).1
  done := by
    rintro X rfl rfl rfl calm i pins s σ H E I free ⟨q1, q2, ⟨x0, y0, q3⟩, q4, q5⟩ ⟨l, l', sq, sq', le, le', en⟩
    obtain ⟨us, rel, hd⟩ := Kd.at_ I sq
    obtain ⟨us', rel', hd'⟩ := Kd.at_ I sq'
    have len := rel.length
    have len' := rel'.length
    have D1 := κ.draws (prog := X.prog) (w := X.w) (A := X.A.in1) (I.ok.hd calm) i1 a (Kd.ne_itr hd q4) us.toArray
    have D2 := κ'.draws (prog := X.prog) (w := X.w) (A := X.A.in1) (I.ok.hd calm) i2 b (Kd.ne_itr hd' q5) us'.toArray
    refine wpAny_pyNext_zipD2_end S D1 D2 q1 q2 q3 ⟨q4, hd⟩ ⟨q5, hd'⟩ (i := i) (by simp; omega) (by simp; omega) (by simp; omega) fun h' tk kp => ⟨rfl, I.turnedL (t' := tk) (ch := [z, TI, TO, i1, i2]) (fun c o nb q => ?_) free⟩
    exact kp c o (fun z => nb (by simp [z])) (fun z => nb (by simp [z])) (fun z => nb (by simp [z])) (fun z => nb (by simp [z])) q
  self := fun A i s Q E ⟨q1, _⟩ h => wpAny_pyIter_zip q1 h
theorem zne {x y : Nat} (h : x ≠ y) : @Ne Addr x y := h
theorem zmem {x y y' : Nat} (h : x ≠ y) (h' : x ≠ y') : ¬ (@Membership.mem Addr (List Addr) _ [y, y'] x) := fun m => by
  rcases List.mem_cons.mp m with z | m
  · exact h z
  · exact h' (List.mem_singleton.mp m)
theorem zsep (n a b : Nat) (la : a < n) (lb : b < n) : ZipSep2 (n + 4) (n + 2) (n + 3) n (n + 1) [n, a] [n + 1, b] :=
  ⟨zne (by omega), zne (by omega), zne (by omega), zne (by omega), List.mem_cons_self .., zmem (by omega) (by omega), zmem (by omega) (by omega), zne (by omega), List.mem_cons_self .., zmem (by omega) (by omega), zmem (by omega) (by omega), zmem (by omega) (by omega), zmem (by omega) (by omega)⟩
theorem zle (n c : Nat) (m : @Membership.mem Addr (List Addr) _ [n + 4, n + 2, n + 3, n, n + 1] c) : n ≤ c := by
  have m : c = n + 4 ∨ c = n + 2 ∨ c = n + 3 ∨ c = n ∨ c = n + 1 := by simpa using m
  omega
def iZp (K : PySem.W.Frag) (ta : TA) : TI := fun σ H R => ta σ H fun vs H1 => ∃ κ a l κ' b l', vs = [.ref a, .ref b] ∧ Kd.sq K H1 κ a l ∧ Kd.sq K H1 κ' b l' ∧ R (ItZ K κ a κ' b) H1
theorem pi_zp {X : Cx} {e e2 : Expr} {ta : TA} {p pos tp : Pos} {es : List Expr} {kk : Nat} (hg : Gl X "zip") (hm : X.mg "zip" = none) (ha : PA X [e, e2] ta)
    (hs : starEach [e, e2] X.env = (false, eval e X.env) :: starEach [e2] X.env := by rfl) (hpl : (backTo pos (starEach [e2] X.env)).any (·.1) = false := by rfl) :
    PI X (.Tuple es kk tp) (.Call (.Name "zip" p) [e, e2] [] pos) (iZp X.K ta) := by
  refine ⟨fun pins s σ H R I h => PyProof.Rows.Call_ (ld_blt I hg hm PyProof.Rows.boot_zip (PyProof.Rows.callWith_type1 (thn (ha.run pos pins s σ H _ I h) fun us s1 ⟨vs, H1, I1, r1, κ, a, l, κ', b, l', ev, sq, sq', q⟩ => ?_) hs hpl))⟩
  subst ev
  cases r1 with
  | cons r rr =>
    cases rr with
    | cons r' rr =>
      cases rr
      cases r
      cases r'
      obtain ⟨ws, rel, hd⟩ := Kd.at_ I1 sq
      obtain ⟨ws', rel', hd'⟩ := Kd.at_ I1 sq'
      have la : a < s1.heap.objs.size := by obtain ⟨o, n, z, _⟩ := Kd.held_at hd; exact Heap.lt_size z
      have lb : b < s1.heap.objs.size := by obtain ⟨o, n, z, _⟩ := Kd.held_at hd'; exact Heap.lt_size z
      refine zip_begins2 (κ.begins a ws.toArray) (κ'.begins b ws'.toArray) hd hd' fun h' z1 z2 z3 z4 z5 sz k => wpAny_pyIter_zip z1 ?_
      have S : ZipSep2 (s1.heap.objs.size + 4) (s1.heap.objs.size + 2) (s1.heap.objs.size + 3) s1.heap.objs.size (s1.heap.objs.size + 1) [s1.heap.objs.size, a] [s1.heap.objs.size + 1, b] := by
        exact zsep _ a b la lb
      refine ⟨s1.heap.objs.size + 4, [s1.heap.objs.size + 4, s1.heap.objs.size + 2, s1.heap.objs.size + 3, s1.heap.objs.size, s1.heap.objs.size + 1], _, _, H1, rfl, I1.kept (t' := s1.toks) k, turnZ κ κ' S, ⟨z1, z2, ⟨_, _, z3⟩, Kd.itr_mk ⟨_, z4, rfl, rfl⟩, Kd.itr_mk ⟨_, z5, rfl, rfl⟩⟩, fun c m => ?_, q⟩
      have le : s1.heap.objs.size ≤ c := by
        exact zle _ c m
      exact I1.fpOk le (I1.hok.fresh le)
end Ev
set_option Elab.async false
set_option linter.all false
set_option maxRecDepth 100000
set_option maxHeartbeats 2000000
/-! Ev9: what is walked; for. -/
namespace Ev
open PySem PySem.Spec L2

/-- what a loop walks -/
inductive SI where
  | rng (lo : Int) (n : Nat) | sgn (s : List Nat) | tup (l : List D) | lst (n : Nat) | enu (s : SI) | zip (a b : SI)
def SI.items : SI → List O → Option (List D)
  | .tup l, _ => some l
  | .lst n, h => match h[n]? with
    | some (.lst l) => some l
    | _ => none
  | _, _ => none
/-- at turn i: the item; none: the end; nothing: not covered -/
def SI.at : SI → Nat → List O → Option (Option D)
  | .rng lo n, i, _ => some (if Nat.blt i n then some (.int (lo + i)) else none)
  | .sgn s, i, _ => some (match s[i]? with
    | some c => some (.str [c])
    | none => none)
  | .enu s, i, h => match s.items h with
    | some l => some (match l[i]? with
      | some d => some (.tup [.int (i : Nat), d])
      | none => none)
    | none => none
  | .zip a b, i, h => match a.items h, b.items h with
    | some l, some m => match l[i]?, m[i]? with
      | some c, some d => some (some (.tup [c, d]))
      | _, _ => if Nat.ble i l.length && Nat.ble i m.length then some none else none
    | _, _ => none
  | .tup l, i, _ => some l[i]?
  | .lst n, i, h => match h[n]? with
    | some (.lst l) => some l[i]?
    | _ => none
def SI.fuel : SI → List O → Nat
  | .rng _ n, _ => n + 1
  | .sgn s, _ => s.length + 1
  | .tup l, _ => l.length + 1
  | .lst n, h => match h[n]? with
    | some (.lst l) => l.length + 1
    | _ => 0
  | .enu s, h => s.fuel h
  | .zip a _, h => a.fuel h
def Real (K : PySem.W.Frag) (C : Cls) (ρ0 : List Addr) (H0 : Hp) (S : SI) (J : It) : Prop := ∀ ρ h H i, Go K ρ0 H0 ρ H → RH K C ρ h H →
  (∀ d, S.at i h = some (some d) → J.go i H ∧ ∀ x H', J.yld i H x H' → Go K ρ H ρ H' ∧ RH K C ρ h H' ∧ RD K ρ H' d x) ∧ (S.at i h = some none → J.stop i H)
section
variable {K : PySem.W.Frag} {C : Cls} {ρ : List Addr} {H : Hp}
theorem Real.go {ρ1 : List Addr} {H1 : Hp} {S : SI} {J : It} (x : Real K C ρ H S J) (g : Go K ρ H ρ1 H1) : Real K C ρ1 H1 S J := fun ρ' h H' i g' rh => x ρ' h H' i (g.trans g') rh
theorem real_rng {lo : Int} {n : Nat} : Real K C ρ H (.rng lo n) (Itr lo n) := fun ρ' h H' i _ rh => by
  refine ⟨fun d e => ?_, fun e => ?_⟩
  · have e := Option.some.inj e
    split at e
    · rename_i hi
      cases e
      have hi : i < n := by simpa using hi
      exact ⟨hi, fun x H2 ⟨e1, e2⟩ => by subst e1 e2; exact ⟨.refl, rh, .int⟩⟩
    · cases e
  · have e := Option.some.inj e
    split at e
    · cases e
    · rename_i hi
      have hi : ¬ i < n := by simpa using hi
      exact Nat.le_of_not_lt hi
theorem real_sgn {s : List Nat} : Real K C ρ H (.sgn s) (Its ⟨s.toArray⟩) := fun ρ' h H' i _ rh => by
  refine ⟨fun d e => ?_, fun e => ?_⟩
  · have e := Option.some.inj e
    split at e
    · rename_i c ec
      cases e
      refine ⟨(by simpa using (List.getElem?_eq_some_iff.mp ec).1 : i < s.toArray.size), fun x H2 ⟨e1, c', e2, e3⟩ => ?_⟩
      subst e1 e3
      have z : s[i]? = some c' := by simpa using e2
      rw [ec] at z
      cases z
      exact ⟨.refl, rh, .str⟩
    · cases e
  · have e := Option.some.inj e
    split at e
    · cases e
    · rename_i ec
      exact (by simpa using List.getElem?_eq_none_iff.mp ec : (s.toArray).size ≤ i)
/-- S tells what stands at a -/
def SqO (K : PySem.W.Frag) (ρ : List Addr) (H : Hp) (κ : Kd) (a : Addr) : SI → Prop
  | .tup l => κ = .tup ∧ ∃ vs, SqT K H a vs ∧ RDs K ρ H l vs
  | .lst n => κ = .lst ∧ ρ[n]? = some a
  | _ => False
theorem SqO.at_ {κ : Kd} {a : Addr} {S : SI} {ρ' : List Addr} {H' : Hp} {h : List O} {l : List D} (x : SqO K ρ H κ a S) (g : Go K ρ H ρ' H') (rh : RH K C ρ' h H') (e : S.items h = some l) : ∃ vs, κ.sq K H' a vs ∧ RDs K ρ' H' l vs := by
  cases S with
  | tup m =>
    obtain ⟨rfl, vs, s, r⟩ := x
    cases e
    exact ⟨vs, g.sq a vs s, r.go g⟩
  | lst n =>
    obtain ⟨rfl, ea⟩ := x
    have e : (match h[n]? with
      | some (.lst l) => some l
      | _ => none) = some l := e
    split at e
    · rename_i m em
      cases e
      obtain ⟨a', vs, p1, p2, p3⟩ := rh.lst em
      rw [g.get ea] at p1
      cases p1
      exact ⟨vs, SqL.of p2, p3⟩
    · cases e
  | _ => exact x.elim
theorem real_tup {l : List D} {a : Addr} {vs : List V} (s : SqT K H a vs) (r : RDs K ρ H l vs) : Real K C ρ H (.tup l) (Itt K a) := fun ρ' h H' i g rh => by
  have s' := g.sq a vs s
  have r' := r.go g
  refine ⟨fun d e => ?_, fun e => ?_⟩
  · obtain ⟨v, e1, rv⟩ := r'.get (Option.some.inj e)
    refine ⟨⟨vs, v, s', e1⟩, fun x H2 ⟨e2, e3⟩ => ?_⟩
    subst e2
    have z := e3 vs s'
    rw [e1] at z
    cases z
    exact ⟨.refl, rh, rv⟩
  · exact ⟨vs, s', by rw [r'.length]; exact List.getElem?_eq_none_iff.mp (Option.some.inj e)⟩
theorem real_lst {n : Nat} {a : Addr} (ea : ρ[n]? = some a) : Real K C ρ H (.lst n) (Itl K a) := fun ρ' h H' i g rh => by
  have key : ∀ r, SI.at (.lst n) i h = some r → ∃ l vs, H' a = some (.lst vs) ∧ RDs K ρ' H' l vs ∧ l[i]? = r := fun r e => by
    have e : (match h[n]? with
      | some (.lst l) => some l[i]?
      | _ => none) = some r := e
    split at e
    · rename_i l em
      obtain ⟨a', vs, p1, p2, p3⟩ := rh.lst em
      rw [g.get ea] at p1
      cases p1
      exact ⟨l, vs, p2, p3, Option.some.inj e⟩
    · cases e
  refine ⟨fun d e => ?_, fun e => ?_⟩
  · obtain ⟨l, vs, p2, p3, e⟩ := key _ e
    obtain ⟨v, e1, rv⟩ := p3.get e
    refine ⟨⟨vs, v, SqL.of p2, e1⟩, fun x H2 ⟨e2, e3⟩ => ?_⟩
    subst e2
    have z := e3 vs (SqL.of p2)
    rw [e1] at z
    cases z
    exact ⟨.refl, rh, rv⟩
  · obtain ⟨l, vs, p2, p3, e⟩ := key _ e
    exact ⟨vs, SqL.of p2, by rw [p3.length]; exact List.getElem?_eq_none_iff.mp e⟩
theorem real_enu {κ : Kd} {a : Addr} {S : SI} (x : SqO K ρ H κ a S) : Real K C ρ H (.enu S) (ItE K κ a) := fun ρ' h H' i g rh => by
  have key : ∀ r, SI.at (.enu S) i h = some r → ∃ l vs, κ.sq K H' a vs ∧ RDs K ρ' H' l vs ∧ (match l[i]? with
      | some d => some (D.tup [.int (i : Nat), d])
      | none => none) = r := fun r e => by
    have e : (match S.items h with
      | some l => some (match l[i]? with
        | some d => some (D.tup [.int (i : Nat), d])
        | none => none)
      | none => none) = some r := e
    split at e
    · rename_i l em
      obtain ⟨vs, s, rs⟩ := x.at_ g rh em
      exact ⟨l, vs, s, rs, Option.some.inj e⟩
    · cases e
  refine ⟨fun d e => ?_, fun e => ?_⟩
  · obtain ⟨l, vs, s, rs, e⟩ := key _ e
    split at e
    · rename_i c ec
      cases e
      obtain ⟨v, e1, rv⟩ := rs.get ec
      refine ⟨⟨vs, v, s, e1⟩, fun y H2 ⟨T, c, e2, e3, e4, e5⟩ => ?_⟩
      subst e2 e4
      have z := e5 vs s
      rw [e1] at z
      cases z
      exact ⟨go_new rh e3, rh.new e3, .tup (SqT.of upd_same) (.cons .int (.cons (rv.go (go_new rh e3)) .nil))⟩
    · cases e
  · obtain ⟨l, vs, s, rs, e⟩ := key _ e
    split at e
    · cases e
    · rename_i ec
      exact ⟨vs, s, by rw [rs.length]; exact List.getElem?_eq_none_iff.mp ec⟩
theorem real_zip {κ κ' : Kd} {a b : Addr} {S S' : SI} (x : SqO K ρ H κ a S) (x' : SqO K ρ H κ' b S') : Real K C ρ H (.zip S S') (ItZ K κ a κ' b) := fun ρ' h H' i g rh => by
  have key : ∀ r, SI.at (.zip S S') i h = some r → ∃ l m vs ws, κ.sq K H' a vs ∧ RDs K ρ' H' l vs ∧ κ'.sq K H' b ws ∧ RDs K ρ' H' m ws ∧ (match l[i]?, m[i]? with
      | some c, some d => some (some (D.tup [c, d]))
      | _, _ => if Nat.ble i l.length && Nat.ble i m.length then some none else none) = some r := fun r e => by
    have e : (match S.items h, S'.items h with
      | some l, some m => match l[i]?, m[i]? with
        | some c, some d => some (some (D.tup [c, d]))
        | _, _ => if Nat.ble i l.length && Nat.ble i m.length then some none else none
      | _, _ => none) = some r := e
    split at e
    · rename_i l m em em'
      obtain ⟨vs, s, rs⟩ := x.at_ g rh em
      obtain ⟨ws, s', rs'⟩ := x'.at_ g rh em'
      exact ⟨l, m, vs, ws, s, rs, s', rs', e⟩
    · cases e
  refine ⟨fun d e => ?_, fun e => ?_⟩
  · obtain ⟨l, m, vs, ws, s, rs, s', rs', e⟩ := key _ e
    split at e
    · rename_i c c' ec ec'
      cases e
      obtain ⟨v, e1, rv⟩ := rs.get ec
      obtain ⟨v', e1', rv'⟩ := rs'.get ec'
      refine ⟨⟨vs, ws, v, v', s, s', e1, e1'⟩, fun y H2 ⟨T, u, u', e2, e3, e4, e5, e6⟩ => ?_⟩
      subst e2 e4
      have z := e5 vs s
      rw [e1] at z
      cases z
      have z := e6 ws s'
      rw [e1'] at z
      cases z
      exact ⟨go_new rh e3, rh.new e3, .tup (SqT.of upd_same) (.cons (rv.go (go_new rh e3)) (.cons (rv'.go (go_new rh e3)) .nil))⟩
    · split at e <;> cases e
  · obtain ⟨l, m, vs, ws, s, rs, s', rs', e⟩ := key _ e
    have one : l[i]? = none ∨ m[i]? = none := by
      cases q : l[i]? with
      | none => exact .inl rfl
      | some c =>
        cases q' : m[i]? with
        | none => exact .inr rfl
        | some d => rw [q, q'] at e; cases e
    have le : i ≤ l.length ∧ i ≤ m.length := by
      split at e
      · cases e
      · split at e
        · rename_i le
          simpa only [Bool.and_eq_true, Nat.ble_eq] using le
        · cases e
    refine ⟨vs, ws, s, s', by rw [rs.length]; exact le.1, by rw [rs'.length]; exact le.2, ?_⟩
    rw [rs.length, rs'.length]
    rcases one with z | z
    · have := List.getElem?_eq_none_iff.mp z
      exact .inl (Nat.le_antisymm le.1 this)
    · have := List.getElem?_eq_none_iff.mp z
      exact .inr (Nat.le_antisymm le.2 this)
end

/-! ### what an iterable tells -/
abbrev GI := Sl → List O → R SI
def rdI (K : PySem.W.Frag) (C : Cls) (W : WX) (g : GI) : TI := fun σ H R => ∃ ρ h δ, RH K C ρ h H ∧ RS K ρ H δ σ ∧ Res K C (fun x dx H' => W x dx σ H') ρ H (g δ h) fun ρ' _ H' S => ∀ J, Real K C ρ' H' S J → R J H'
theorem PI_imp {X : Cx} {tg e : Expr} {t t' : TI} (h : PI X tg e t) (i : ∀ σ H R, t' σ H R → t σ H R) : PI X tg e t' := ⟨fun pins s σ H R I q => h.run pins s σ H R I (i σ H R q)⟩
def siOf (d : D) (h : List O) : Option SI := match d with
  | .tup l => some (.tup l)
  | .ref n => match h[n]? with
    | some (.lst _) => some (.lst n)
    | _ => none
  | .str s => some (.sgn s)
  | _ => none
def R.opt {α : Type} (o : Option α) (h : List O) : R α := match o with
  | some a => .ok a h
  | none => .bad
def iVal (g : GE) : GI := fun δ h => (g δ h).bind fun d h1 => R.opt (siOf d h1) h1
def iRng1 (t : GA) : GI := fun δ h => (t δ h).bind fun l h1 => match l with
  | [.int j] => if decide (-(2 ^ 62) ≤ j) && decide (j < 2 ^ 62) then .ok (.rng 0 j.toNat) h1 else .bad
  | _ => .bad
def iRng2 (t : GA) : GI := fun δ h => (t δ h).bind fun l h1 => match l with
  | [.int i, .int j] => if decide (-(2 ^ 62) ≤ i) && decide (i < 2 ^ 62) && (decide (-(2 ^ 62) ≤ j) && decide (j < 2 ^ 62)) then .ok (.rng i (j - i).toNat) h1 else .bad
  | _ => .bad
def sqOf (d : D) (h : List O) : Option SI := match d with
  | .tup l => some (.tup l)
  | .ref n => match h[n]? with
    | some (.lst _) => some (.lst n)
    | _ => none
  | _ => none
def iEnum (t : GA) : GI := fun δ h => (t δ h).bind fun l h1 => match l with
  | [d] => match sqOf d h1 with
    | some S => .ok (.enu S) h1
    | none => .bad
  | _ => .bad
def iZip (t : GA) : GI := fun δ h => (t δ h).bind fun l h1 => match l with
  | [c, d] => match sqOf c h1, sqOf d h1 with
    | some S, some S' => .ok (.zip S S') h1
    | _, _ => .bad
  | _ => .bad
theorem sqOf_ok {K : PySem.W.Frag} {C : Cls} {ρ : List Addr} {H : Hp} {h : List O} {d : D} {v : V} {S : SI} (rh : RH K C ρ h H) (r : RD K ρ H d v) (e : sqOf d h = some S) : ∃ κ a l, v = .ref a ∧ Kd.sq K H κ a l ∧ SqO K ρ H κ a S := by
  unfold sqOf at e
  split at e
  · cases e
    obtain ⟨a, vs, rfl, s, rs⟩ := r.of_tup
    exact ⟨.tup, a, vs, rfl, s, rfl, vs, s, rs⟩
  · split at e
    · rename_i l em
      cases e
      obtain ⟨a, rfl, ea⟩ := r.of_ref
      obtain ⟨a', vs, p1, p2, p3⟩ := rh.lst em
      rw [ea] at p1
      cases p1
      exact ⟨.lst, a, vs, rfl, SqL.of p2, rfl, ea⟩
    · cases e
  · cases e
section
variable {X : Cx} {C : Cls} {W : WX} {tg e a b : Expr} {ga : GE} {t : GA} {p pos tp : Pos} {es : List Expr} {kk : Nat}
theorem pi_val {te : TE} (he : PE X e te) : PI X tg e (fun σ H R => te σ H fun x H1 => (∃ a, x = .ref a ∧ (∃ l, SqL X.K H1 a l) ∧ R (Itl X.K a) H1) ∨ (∃ a, x = .ref a ∧ (∃ l, SqT X.K H1 a l) ∧ R (Itt X.K a) H1) ∨ ∃ z, x = .str z ∧ R (Its z) H1) := by
  refine ⟨fun pins s σ H R I h => thn (he.run pins s σ H _ I h) fun v s1 ⟨x, H1, I1, r1, q⟩ => ?_⟩
  rcases q with ⟨a, rfl, ⟨l, sq⟩, q⟩ | ⟨a, rfl, ⟨l, sq⟩, q⟩ | ⟨z, rfl, q⟩
  · cases r1
    obtain ⟨us, rel, p, _⟩ := I1.list sq
    exact wpAny_pyIter_list p.isList (pi_one (tk := s1.toks) I1 _ (turn_list a _) ⟨_, Heap.get?_push_size _ rfl, rfl, rfl⟩ q)
  · cases r1
    obtain ⟨us, rel, p, _⟩ := I1.tuple sq
    exact wpAny_pyIter_tuple (t := a) (items := us.toArray) p (pi_one (tk := s1.toks) I1 _ (turn_tuple a _) ⟨_, Heap.get?_push_size _ rfl, rfl, rfl⟩ q)
  · obtain ⟨t, rfl⟩ := r1
    refine wpAny_pyIter_strU (pi_one (tk := s1.toks) I1 _ (turn_str _ z t (strIterType z) ?_) ⟨_, Heap.get?_push_size _ rfl, rfl, rfl⟩ q)
    unfold strIterType
    split
    · exact .inl rfl
    · exact .inr rfl
theorem jVal (he : PE X e (rd X.K C W ga)) : PI X tg e (rdI X.K C W (iVal ga)) :=
  PI_imp (pi_val he) fun σ H R ⟨ρ, h, δ, rh, rs, m⟩ => ⟨ρ, h, δ, rh, rs, m.bind.mono fun ρ1 h1 H1 d g1 rh1 q1 v rv => by
    cases ed : siOf d h1 with
    | none => rw [ed] at q1; exact q1.elim
    | some S =>
      rw [ed] at q1
      have q2 := q1 ρ1 H1 .refl rh1
      unfold siOf at ed
      split at ed
      · cases ed
        obtain ⟨a, vs, rfl, s, rs⟩ := rv.of_tup
        exact .inr (.inl ⟨a, rfl, ⟨vs, s⟩, q2 _ (real_tup s rs)⟩)
      · split at ed
        · rename_i l em
          cases ed
          obtain ⟨a, rfl, ea⟩ := rv.of_ref
          obtain ⟨a', vs, p1, p2, p3⟩ := rh1.lst em
          rw [ea] at p1
          cases p1
          exact .inl ⟨a, rfl, ⟨vs, SqL.of p2⟩, q2 _ (real_lst ea)⟩
        · cases ed
      · cases ed
        cases rv.of_str
        exact .inr (.inr ⟨_, rfl, q2 _ real_sgn⟩)
      · cases ed⟩
theorem jRng1 (hg : Gl X "range") (hm : X.mg "range" = none) (ha : PA X [a] (rdA X.K C W t)) (hs : starEach [a] X.env = [(false, eval a X.env)] := by rfl) : PI X tg (.Call (.Name "range" p) [a] [] pos) (rdI X.K C W (iRng1 t)) :=
  PI_imp (pi_range1 hg hm ha hs) fun σ H R ⟨ρ, h, δ, rh, rs, m⟩ => ⟨ρ, h, δ, rh, rs, m.bind.mono fun ρ1 h1 H1 l g1 rh1 q1 vs rvs => by
    split at q1
    · rename_i j
      obtain ⟨v, r, rfl, r1, rr⟩ := rvs.of_cons
      obtain rfl := rr.of_nil
      split at q1
      · rename_i le
        rw [Bool.and_eq_true, decide_eq_true_eq, decide_eq_true_eq] at le
        exact ⟨j, by rw [r1.of_int], le.1, le.2, q1 ρ1 H1 .refl rh1 _ real_rng⟩
      · exact q1.elim
    · exact q1.elim⟩
theorem jRng2 (hg : Gl X "range") (hm : X.mg "range" = none) (ha : PA X [a, b] (rdA X.K C W t)) (hs : starEach [a, b] X.env = [(false, eval a X.env), (false, eval b X.env)] := by rfl) (hs2 : starEach [b] X.env = [(false, eval b X.env)] := by rfl) :
    PI X tg (.Call (.Name "range" p) [a, b] [] pos) (rdI X.K C W (iRng2 t)) :=
  PI_imp (pi_range2 hg hm ha hs hs2) fun σ H R ⟨ρ, h, δ, rh, rs, m⟩ => ⟨ρ, h, δ, rh, rs, m.bind.mono fun ρ1 h1 H1 l g1 rh1 q1 vs rvs => by
    split at q1
    · rename_i i j
      obtain ⟨v, r, rfl, r1, rr⟩ := rvs.of_cons
      obtain ⟨v', r', rfl, r2, rr2⟩ := rr.of_cons
      obtain rfl := rr2.of_nil
      split at q1
      · rename_i le
        simp only [Bool.and_eq_true, decide_eq_true_eq] at le
        exact ⟨i, j, by rw [r1.of_int, r2.of_int], ⟨le.1.1, le.1.2, le.2.1, le.2.2⟩, q1 ρ1 H1 .refl rh1 _ real_rng⟩
      · exact q1.elim
    · exact q1.elim⟩
theorem jEnum (hg : Gl X "enumerate") (hm : X.mg "enumerate" = none) (ha : PA X [e] (rdA X.K C W t)) (hs : starEach [e] X.env = [(false, eval e X.env)] := by rfl) : PI X (.Tuple es kk tp) (.Call (.Name "enumerate" p) [e] [] pos) (rdI X.K C W (iEnum t)) :=
  PI_imp (pi_enu hg hm ha hs) fun σ H R ⟨ρ, h, δ, rh, rs, m⟩ => ⟨ρ, h, δ, rh, rs, m.bind.mono fun ρ1 h1 H1 l g1 rh1 q1 vs rvs => by
    split at q1
    · rename_i d
      obtain ⟨v, r, rfl, r1, rr⟩ := rvs.of_cons
      obtain rfl := rr.of_nil
      cases e : sqOf d h1 with
      | none => rw [e] at q1; exact q1.elim
      | some S =>
        rw [e] at q1
        obtain ⟨κ, a, l, rfl, s, so⟩ := sqOf_ok rh1 r1 e
        exact ⟨κ, a, l, rfl, s, q1 ρ1 H1 .refl rh1 _ (real_enu so)⟩
    · exact q1.elim⟩
theorem jZip (hg : Gl X "zip") (hm : X.mg "zip" = none) (ha : PA X [a, b] (rdA X.K C W t)) (hs : starEach [a, b] X.env = (false, eval a X.env) :: starEach [b] X.env := by rfl) (hpl : (backTo pos (starEach [b] X.env)).any (·.1) = false := by rfl) :
    PI X (.Tuple es kk tp) (.Call (.Name "zip" p) [a, b] [] pos) (rdI X.K C W (iZip t)) :=
  PI_imp (pi_zp hg hm ha hs hpl) fun σ H R ⟨ρ, h, δ, rh, rs, m⟩ => ⟨ρ, h, δ, rh, rs, m.bind.mono fun ρ1 h1 H1 l g1 rh1 q1 vs rvs => by
    split at q1
    · rename_i c d
      obtain ⟨v, r, rfl, r1, rr⟩ := rvs.of_cons
      obtain ⟨v', r', rfl, r2, rr2⟩ := rr.of_cons
      obtain rfl := rr2.of_nil
      split at q1
      · rename_i S S' e e'
        obtain ⟨κ, a, l, rfl, s, so⟩ := sqOf_ok rh1 r1 e
        obtain ⟨κ', b, l', rfl, s', so'⟩ := sqOf_ok rh1 r2 e'
        exact ⟨κ, a, l, κ', b, l', rfl, s, s', q1 ρ1 H1 .refl rh1 _ (real_zip so so')⟩
      · exact q1.elim
    · exact q1.elim⟩

/-! ### for -/
def forO (S : SI) (t : GT) (b : GS) : Nat → Nat → GS
  | 0, _ => fun _ _ => .bad
  | m + 1, i => fun δ h => match S.at i h with
    | some (some d) => match t d δ h with
      | some (δ1, h1) => match b δ1 h1 with
        | .nx δ2 h2 => forO S t b m (i + 1) δ2 h2
        | .cnt δ2 h2 => forO S t b m (i + 1) δ2 h2
        | .brk δ2 h2 => .nx δ2 h2
        | r => r
      | none => .bad
    | some none => .nx δ h
    | none => .bad
def sFor (gi : GI) (t : GT) (b : GS) : GS := fun δ h => (gi δ h).toS δ fun S h1 => forO S t b (S.fuel h1) 0 δ h1
theorem zFor {body : List Stmt} {gi : GI} {gt : GT} {gb : GS} (hi : PI X tg e (rdI X.K C W gi)) (hg : PG X tg (rdG X.K C gt)) (hb : PSs X body (rdS X.K C W gb)) (hp : PassesOwn (model X.prog X.w) X.A X.env X.xe) (hc : X.calm = true)
    (hs : ∀ x, foldedSetIterable e X.env x = pure x := by intro _; rfl) : PS X (.For tg e body [] pos) (rdS X.K C W (sFor gi gt gb)) :=
  PS_imp (ps_for hp hc hi hg hb hs) fun D σ H ⟨ρ, h, δ, rh, rs, m⟩ => ⟨ρ, h, δ, rh, rs, (m.toS rs).mono fun ρ1 h1 H1 S g1 rh1 q1 J real => by
    refine ⟨fun i m σ H => ∃ ρ h δ, Go X.K ρ1 H1 ρ H ∧ RH X.K C ρ h H ∧ RS X.K ρ H δ σ ∧ ResS X.K C W D ρ H (forO S gt gb m i δ h), ⟨_, ρ1, h1, δ, .refl, rh1, rs.go g1, q1⟩, ?_⟩
    rintro i m σ H ⟨ρ, h, δ, go, rh, rs, q⟩
    cases m with
    | zero => exact q.elim
    | succ m =>
      obtain ⟨k1, k2⟩ := real ρ h H i go rh
      unfold forO at q
      split at q
      · rename_i d ed
        obtain ⟨a1, a2⟩ := k1 d ed
        refine .inr ⟨a1, fun σ' H' => ∃ ρ h δ, Go X.K ρ1 H1 ρ H' ∧ RH X.K C ρ h H' ∧ RS X.K ρ H' δ σ' ∧ ResS X.K C W D ρ H' (forO S gt gb m (i + 1) δ h), fun σ' H' z => ⟨m, Nat.lt_succ_self m, z⟩, fun x H' y => ?_⟩
        obtain ⟨gy, rhy, rdy⟩ := a2 x H' y
        refine ⟨ρ, h, δ, d, rhy, rs.go gy, rdy, ?_⟩
        split at q
        · rename_i δ1 h1' et
          rw [et]
          intro ρ2 H2 σ2 g2 rh2 rs2
          refine ⟨ρ2, h1', δ1, rh2, rs2, ?_⟩
          have q := ResS.go q (gy.trans g2)
          have gg := (go.trans gy).trans g2
          revert q
          cases gb δ1 h1' with
          | nx δ2 h2 => exact fun q ρ3 H3 σ3 g3 rh3 rs3 => ⟨ρ3, h2, δ2, gg.trans g3, rh3, rs3, ResS.go q g3⟩
          | cnt δ2 h2 => exact fun q ρ3 H3 σ3 g3 rh3 rs3 => ⟨ρ3, h2, δ2, gg.trans g3, rh3, rs3, ResS.go q g3⟩
          | brk δ2 h2 => exact fun q ρ3 H3 σ3 g3 rh3 rs3 => q ρ3 H3 σ3 g3 rh3 rs3
          | ret d h2 => exact fun q ρ3 H3 v g3 rh3 r3 => q ρ3 H3 v g3 rh3 r3
          | exc c p δ2 h2 => exact fun q => q
          | bad => exact fun q => q
        · exact q.elim
      · rename_i ed
        exact .inl ⟨k2 ed, q ρ H σ .refl rh rs⟩
      · exact q.elim⟩
end
end Ev
set_option Elab.async false
set_option linter.all false
set_option maxRecDepth 100000
set_option maxHeartbeats 2000000
/-! Ev10: list comprehensions that let nothing out. -/
namespace Ev
open PySem PySem.Spec L2

/-! ### targets that write only their own slots -/
def rdGv (K : PySem.W.Frag) (C : Cls) (vs : List Nat) (g : GT) : TG := fun v σ H Q => ∃ ρ h δ d, RH K C ρ h H ∧ RS K ρ H δ σ ∧ RD K ρ H d v ∧ ResG K C ρ H (g d δ h) fun σ' H' => wipe σ' vs = wipe σ vs → Q σ' H'
def rdGvs (K : PySem.W.Frag) (C : Cls) (vs : List Nat) (g : GTs) : TGs := fun us σ H Q => ∃ ρ h δ l, RH K C ρ h H ∧ RS K ρ H δ σ ∧ RDs K ρ H l us ∧ ResG K C ρ H (g l δ h) fun σ' H' => wipe σ' vs = wipe σ vs → Q σ' H'
theorem wipe_set {σ : L2.St} {i : Nat} {x : Option V} : ∀ {vs : List Nat}, i ∈ vs → wipe (σ.set i x) vs = wipe σ vs
  | v :: vs, m => by
    unfold wipe
    by_cases e : i = v
    · subst e
      by_cases m' : i ∈ vs
      · rw [wipe_set m']
      · have key : ∀ (ws : List Nat), i ∉ ws → wipe (σ.set i x) ws = (wipe σ ws).set i x := fun ws => by
          induction ws with
          | nil => intro _; rfl
          | cons w ws ih =>
            intro n
            have n1 : i ≠ w := fun z => n (by simp [z])
            unfold wipe
            rw [ih fun z => n (List.mem_cons_of_mem _ z), List.set_comm _ _ n1]
        rw [key vs m', List.set_set]
    · rcases List.mem_cons.mp m with z | m
      · exact absurd z e
      · rw [wipe_set m]
theorem wipe_wipe {σ : L2.St} {vs : List Nat} : wipe (wipe σ vs) vs = wipe σ vs := by
  have key : ∀ (ws : List Nat), (∀ w ∈ ws, w ∈ vs) → wipe (wipe σ ws) vs = wipe σ vs := fun ws => by
    induction ws with
    | nil => intro _; rfl
    | cons w ws ih =>
      intro n
      show wipe ((wipe σ ws).set w none) vs = _
      rw [wipe_set (n w (List.mem_cons_self ..)), ih fun z hz => n z (List.mem_cons_of_mem _ hz)]
  exact key vs fun _ h => h
section
variable {X : Cx} {C : Cls} {W : WX} {e tg : Expr} {es : List Expr} {gt : GT} {gts : GTs} {pos : Pos} {vs : List Nat}
theorem yNameV {i : Nat} {x : Str} (hN : X.N.Nodup) (hi : X.N[i]? = some x) (hx : Loc X.env.scope x) (hf : X.fn x = true ∨ X.env.scope.names.lookup x = some .local) (m : i ∈ vs) : PG X (.Name x pos) (rdGv X.K C vs (tName i)) :=
  PG_imp (pg_name hN hi hx hf) fun v σ H Q ⟨ρ, h, δ, d, rh, rs, rv, q⟩ => q ρ H _ .refl rh (rs.set rv i) (wipe_set m)
theorem yNilV : PGs X [] (rdGvs X.K C vs tNilT) := PGs_imp pgs_nil fun us σ H Q ⟨ρ, h, δ, l, rh, rs, rv, q⟩ => by
  cases l with
  | nil => exact ⟨rv.of_nil, q ρ H σ .refl rh rs rfl⟩
  | cons d r => exact q.elim
theorem yConsV (h1 : PG X e (rdGv X.K C vs gt)) (h2 : PGs X es (rdGvs X.K C vs gts)) (hs : (assignEach (e :: es) X.env).map (·.2) = assign e X.env :: (assignEach es X.env).map (·.2) := by rfl) : PGs X (e :: es) (rdGvs X.K C vs (tConsT gt gts)) :=
  PGs_imp (pgs_cons h1 h2 hs) fun us σ H Q ⟨ρ, h, δ, l, rh, rs, rv, q⟩ => by
    cases l with
    | nil => exact q.elim
    | cons d r =>
      obtain ⟨v, t, rfl, r1, r2⟩ := rv.of_cons
      refine ⟨v, t, rfl, ρ, h, δ, d, rh, rs, r1, ?_⟩
      unfold tConsT at q
      simp only at q
      cases z : gt d δ h with
      | none => rw [z] at q; exact q.elim
      | some p =>
        obtain ⟨δ', h'⟩ := p
        rw [z] at q
        exact fun ρ' H' σ' g' rh' rs' e1 => ⟨ρ', h', δ', r, rh', rs', r2.go g', (ResG.go q g').mono fun _ _ k e2 => k (e2.trans e1)⟩
theorem yTupV {k n : Nat} (hc : X.calm = true) (h : PGs X es (rdGvs X.K C vs gts)) (hn : (assignEach es X.env).length = n := by rfl) (hst : (assignEach es X.env).findIdx? (·.1) = none := by rfl) : PG X (.Tuple es k pos) (rdGv X.K C vs (tTupT gts n)) :=
  PG_imp (pg_tup hc h hn hst) fun v σ H Q ⟨ρ, h, δ, d, rh, rs, rv, m⟩ => by
    cases d with
    | tup l =>
      obtain ⟨a, ws, rfl, sa, ra⟩ := rv.of_tup
      unfold tTupT at m
      simp only at m
      split at m
      · rename_i hl
        exact ⟨a, ws, rfl, sa, by rw [ra.length]; exact Nat.eq_of_beq_eq_true hl, ρ, h, δ, l, rh, rs, ra, m⟩
      · exact m.elim
    | _ => exact m.elim
end
/-! ### the loop -/
def wipeD (δ : Sl) : List Nat → Sl
  | [] => δ
  | v :: vs => (wipeD δ vs).set v none
theorem RS.wipe {K : PySem.W.Frag} {ρ : List Addr} {H : Hp} {δ : Sl} {σ : L2.St} (r : RS K ρ H δ σ) : ∀ vs : List Nat, RS K ρ H (wipeD δ vs) (L2.wipe σ vs)
  | [] => r
  | v :: vs => by
    have q := RS.wipe r vs
    refine ⟨by unfold wipeD L2.wipe; simp [q.len], fun i d e => ?_⟩
    unfold wipeD at e
    unfold L2.wipe
    by_cases hi : v = i
    · subst hi
      by_cases lt : v < (wipeD δ vs).length
      · rw [List.getElem?_set_self lt] at e; cases e
      · rw [List.getElem?_eq_none (by simpa using lt)] at e; cases e
    · rw [List.getElem?_set_ne hi] at e ⊢
      exact q.at_ i d e
def R.noX {α : Type} (r : R α) : R α := match r with
  | .ok a h => .ok a h
  | _ => .bad
def noE {α : Type} (g : Sl → List O → R α) : Sl → List O → R α := fun δ h => (g δ h).noX
theorem Res.noX {α : Type} {K : PySem.W.Frag} {C : Cls} {E E' : Value → Option Addr → Hp → Prop} {ρ : List Addr} {H : Hp} {r : R α} {Q : List Addr → List O → Hp → α → Prop} (x : Res K C E ρ H r.noX Q) : Res K C E' ρ H r Q := by
  cases r with
  | ok a h => exact x
  | exc c p h => exact x.elim
  | bad => exact x.elim
def lcO (S : SI) (t : GT) (tt : GB) (ge : GE) (n : Nat) (δ0 : Sl) : Nat → Nat → List O → R Unit
  | 0, _, _ => .bad
  | m + 1, i, h => match S.at i h with
    | some (some d) => match t d δ0 h with
      | some (δ1, h1) => (tt δ1 h1).bind fun b h2 => if b then (ge δ1 h2).bind fun y h3 => match h3[n]? with
          | some (.lst acc) => if Nat.blt acc.length line then lcO S t tt ge n δ0 m (i + 1) (h3.set n (.lst (acc ++ [y]))) else .bad
          | _ => .bad
        else lcO S t tt ge n δ0 m (i + 1) h2
      | none => .bad
    | some none => .ok () h
    | none => .bad
def gLc (gi : GI) (t : GT) (tt : GB) (ge : GE) (vs : List Nat) : GE := fun δ h => (gi δ h).bind fun S h1 => (lcO S t tt ge h1.length (wipeD δ vs) (S.fuel h1) 0 (h1 ++ [.lst []])).bind fun _ h2 => .ok (.ref h1.length) h2
def gYes : GB := fun _ h => .ok true h
theorem RDs.snoc {K : PySem.W.Frag} {ρ : List Addr} {H : Hp} {l : List D} {vs : List V} {d : D} {v : V} (r : RDs K ρ H l vs) (q : RD K ρ H d v) : RDs K ρ H (l ++ [d]) (vs ++ [v]) := r.append (.cons q .nil)
/-- the readings of a comprehension's parts, put together; E': what its block wishes -/
theorem lc_of {K : PySem.W.Frag} {C : Cls} {W Wb : WX} {gi : GI} {gt : GT} {tt : GB} {ge : GE} {vs : List Nat} {σ : L2.St} {H : Hp} {Q : VK} (hW : ∀ σ' cls d H, W cls d σ H → Wb cls d σ' H) (q : rd K C W (gLc gi gt tt ge vs) σ H Q) :
    tLc (rdI K C W gi) (rdGv K C vs gt) (rdT K C Wb tt) (rd K C Wb ge) vs σ H Q := by
  have ex : ∀ {α : Type} {ρ : List Addr} {H : Hp} {r : R α} {P : List Addr → List O → Hp → α → Prop} (σ' : L2.St), Res K C (fun x dx H' => W x dx σ H') ρ H r P → Res K C (fun x dx H' => Wb x dx σ' H') ρ H r P := fun σ' x => by
    cases ‹R _› with
    | ok a h => exact x
    | exc c p h => exact fun ρ' H' a dx v g rh e r z => hW σ' _ _ _ (x ρ' H' a dx v g rh e r z)
    | bad => exact x.elim
  obtain ⟨ρ, h, δ, rh, rs, m⟩ := q
  refine ⟨ρ, h, δ, rh, rs, m.bind.mono fun ρ1 h1 H1 S g1 rh1 q1 J real D hD => ?_⟩
  have rs1 := (rs.go g1).go (go_add (o := .lst []) rh1 hD)
  have rs0 := rs1.wipe vs
  have rh0 : RH K C (ρ1 ++ [D]) (h1 ++ [.lst []]) (upd H1 D (.lst [])) := rh1.add hD (.lst .nil)
  have e0 : (ρ1 ++ [D])[h1.length]? = some D := by
    obtain ⟨a, e, z⟩ := (RD_new (H' := upd H1 D (.lst [])) (p := D) rh1).of_ref
    cases e
    exact z
  refine ⟨fun i m H => ∃ ρ h, Go K (ρ1 ++ [D]) (upd H1 D (.lst [])) ρ H ∧ RH K C ρ h H ∧ Res K C (fun x dx H' => W x dx σ H') ρ H (lcO S gt tt ge h1.length (wipeD δ vs) m i h) fun _ _ H' _ => Q (.ref D) H',
    ⟨S.fuel h1, ρ1 ++ [D], h1 ++ [.lst []], .refl, rh0, ?_⟩, ?_⟩
  · exact (q1.bind.go (go_add rh1 hD)).mono fun ρ2 h2 H2 _ g2 rh2 q2 => q2 ρ2 H2 .refl rh2 _ (.ref (g2.get e0))
  · rintro i m H ⟨ρ, h, go, rh, q⟩
    cases m with
    | zero => exact q.elim
    | succ m =>
      obtain ⟨k1, k2⟩ := real ρ h H i ((go_add (o := .lst []) rh1 hD).trans go) rh
      unfold lcO at q
      split at q
      · rename_i d ed
        obtain ⟨a1, a2⟩ := k1 d ed
        refine .inr ⟨a1, fun H' => ∃ ρ h, Go K (ρ1 ++ [D]) (upd H1 D (.lst [])) ρ H' ∧ RH K C ρ h H' ∧ Res K C (fun x dx H' => W x dx σ H') ρ H' (lcO S gt tt ge h1.length (wipeD δ vs) m (i + 1) h) fun _ _ H' _ => Q (.ref D) H', fun H' z => ⟨m, Nat.lt_succ_self m, z⟩, fun x H' y => ?_⟩
        obtain ⟨gy, rhy, rdy⟩ := a2 x H' y
        refine ⟨ρ, h, wipeD δ vs, d, rhy, (rs0.go go).go gy, rdy, ?_⟩
        split at q
        · rename_i δ1 h1' et
          rw [et]
          intro ρ2 H2 σ2 g2 rh2 rs2 ew
          refine ⟨ew.trans wipe_wipe, ρ2, h1', δ1, rh2, rs2, ex σ2 ((q.go (gy.trans g2)).bind.mono fun ρ3 h3 H3 b g3 rh3 q3 => ?_)⟩
          have gg := ((go.trans gy).trans g2).trans g3
          cases b with
          | false =>
            simp only [Bool.false_eq_true, if_false] at q3 ⊢
            exact ⟨ρ3, h3, gg, rh3, q3⟩
          | true =>
            simp only [if_true] at q3 ⊢
            refine ⟨ρ3, h3, δ1, rh3, rs2.go g3, ex σ2 (q3.bind.mono fun ρ4 h4 H4 y g4 rh4 q4 v rv => ?_)⟩
            have gg4 := gg.trans g4
            split at q4
            · rename_i acc ea
              obtain ⟨a', ws, p1, p2, p3⟩ := rh4.lst ea
              have ed : ρ4[h1.length]? = some D := gg4.get e0
              rw [ed] at p1
              cases p1
              split at q4
              · rename_i lt
                have lt : acc.length < line := by simpa using lt
                refine ⟨ws, p2, ?_, ρ4, _, gg4.trans (go_set rh4 ed), rh4.set ed (.lst ((p3.snoc rv).go (go_set rh4 ed))), q4.go (go_set rh4 ed)⟩
                rw [p3.length]
                exact Nat.lt_of_lt_of_le lt (line_ok (Nat.ble_eq.mpr (Nat.le_refl _)))
              · exact q4.elim
            · exact q4.elim
        · exact q.elim
      · rename_i ed
        exact .inl ⟨k2 ed, q ρ H .refl rh⟩
      · exact q.elim
section
variable {X : Cx} {C : Cls} {W : WX} {elt tg iter : Expr} {ifs : List Expr} {scope : Scope} {own : List (Str × Nat)} {pos : Pos} {gi : GI} {gt : GT} {tt : GB} {ge : GE}
abbrev W0 : WX := fun _ _ _ _ => False
theorem PTs_imp {t t' : TT} (h : PTs X ifs t) (i : ∀ σ H Q, t' σ H Q → t σ H Q) : PTs X ifs t' := ⟨fun pins s σ H Q I q => h.run pins s σ H Q I (i σ H Q q)⟩
theorem tsNil : PTs X [] (rdT X.K C W gYes) := PTs_imp pts_nil fun σ H Q ⟨ρ, h, δ, rh, rs, m⟩ => m ρ H .refl rh
theorem tsOne {c : Expr} {t : GB} (h : PT X c (rdT X.K C W t)) : PTs X [c] (rdT X.K C W t) := pts_one h
theorem lc0_of {K : PySem.W.Frag} {vs : List Nat} {σ : L2.St} {H : Hp} {Q : VK} (q : rd K C W (gLc gi gt (noE tt) (noE ge) vs) σ H Q) : tLc (rdI K C W gi) (rdGv K C vs gt) (rdT K C W0 tt) (rd K C W0 ge) vs σ H Q := by
  have z := lc_of (Wb := fun cls d _ H => W cls d σ H) (fun _ _ _ _ k => k) q
  obtain ⟨ρ, h, δ, rh, rs, m⟩ := z
  refine ⟨ρ, h, δ, rh, rs, m.mono fun ρ1 h1 H1 S g1 rh1 q1 J real D hD => ?_⟩
  obtain ⟨Wi, w0, turn⟩ := q1 J real D hD
  refine ⟨Wi, w0, fun i m H w => ?_⟩
  rcases turn i m H w with z | ⟨go, Nx, hN, step⟩
  · exact .inl z
  · refine .inr ⟨go, Nx, hN, fun x H' y => ?_⟩
    obtain ⟨ρ, h, δ, d, rh, rs, rv, q⟩ := step x H' y
    refine ⟨ρ, h, δ, d, rh, rs, rv, q.mono fun σ2 H2 k e => ?_⟩
    obtain ⟨e1, ρ, h, δ, rh, rs, q⟩ := k e
    refine ⟨e1, ρ, h, δ, rh, rs, Res.noX (r := tt δ h) (q.mono fun ρ3 h3 H3 b g3 rh3 q3 => ?_)⟩
    cases b with
    | false => exact q3
    | true =>
      obtain ⟨ρ, h, δ, rh, rs, q⟩ := q3
      exact ⟨ρ, h, δ, rh, rs, Res.noX (r := ge δ h) q⟩
theorem sLc0 (hc : X.calm = true) (hN : X.N.Nodup) (hi : PI X tg iter (rdI X.K C W gi)) (ok : BlkOk X.N X.env.scope scope own)
    (hg : ∀ (s : Shared) (H : Hp) (a : Addr) (cl : List (Str × Addr)) (fp : List Addr), PG (X.blk s H scope (compEnvC scope cl a X.env) fp) tg (rdGv X.K C (own.map (·.2)) gt))
    (ht : ∀ (s : Shared) (H : Hp) (a : Addr) (cl : List (Str × Addr)) (fp : List Addr), PTs (X.blk s H scope (compEnvC scope cl a X.env) fp) ifs (rdT X.K C W0 tt))
    (he : ∀ (s : Shared) (H : Hp) (a : Addr) (cl : List (Str × Addr)) (fp : List Addr), PE (X.blk s H scope (compEnvC scope cl a X.env) fp) elt (rd X.K C W0 ge)) (hs : ∀ x, foldedSetIterable iter X.env x = pure x := by intro _; rfl) :
    PE X (.ListComp elt [⟨tg, iter, ifs, 0⟩] scope pos) (rd X.K C W (gLc gi gt (noE tt) (noE ge) (own.map (·.2)))) :=
  PE_imp (pe_lc hc hN hi ok hg ht he hs) fun _ _ _ q => lc0_of q
end
end Ev
set_option Elab.async false
set_option linter.all false
set_option maxRecDepth 100000
set_option maxHeartbeats 2000000
/-! Ev11: list comprehensions out of which an error may come. -/
namespace Ev
open PySem PySem.Spec L2

section
variable {M : Model} {A : Around} {E : Value → Shared → Prop} {s : Shared} {Z : Obj → Prop} {base : Heap} {env : Env} {outer l : List Env} {L e : Addr} {fl : Value}
/-- a frame notes an error that bears some traceback already -/
theorem look_any {Q : Unit → Shared → Prop} (st : HandSPX.Steady Z) (frs : A.frames = some (env :: outer)) (hf : env.frame = some L) (stay : base.StaysIn s.heap) (new : base.get? e = none) (ff : s.heap.FunFrames base (env :: outer)) (tz : HandSPX.TracedZ s.heap base e Z fl)
    (q : ∀ h', HandSPX.HeldZ base (env :: outer) e Z L h' → s.heap.UpToSlots h' → Q () { s with heap := h' }) : wpAny M A (noteFrame (.ref e) env) Q E s := by
  have tz0 := tz
  obtain ⟨oe, vs, T, oT, ts, e1, z, d, v1, nT, ne, eT, dT, t3⟩ := tz
  unfold noteFrame
  simp only [hf]
  refine wpAny_bind (wpAny_field e1 d v1 ?_)
  rw [if_pos (by simp : (Value.ref T != Value.none) = true)]
  refine wpAny_bind (wpAny_field eT dT t3 ?_)
  by_cases same : fl = rawInt L
  · rw [if_pos (by rw [same]; simp : (fl == rawInt L) = true)]
    exact wpAny_pure (q s.heap ⟨stay, new, ff, by rw [← same]; exact tz0⟩ (.refl _))
  · rw [if_neg (by simpa using same : ¬ (fl == rawInt L) = true)]
    refine wpAny_bind (wpAny_setField eT dT (Array.getElem?_eq_some_iff.mp t3).1 ?_)
    have other : ∀ b, b ≠ T → (s.heap.update T (Obj.mapFields (·.setIfInBounds 3 Value.none))).get? b = s.heap.get? b := fun b nb => Heap.get?_update_other _ _ (Ne.symm nb)
    have norec : ∀ b o, s.heap.get? b = some o → (∀ vs, o.data ≠ .fields vs) → b ≠ T := fun b o q n z => by
      rw [z, eT] at q
      cases q
      exact n ts dT
    refine HandSPX.wpAny_entryZ st frs (ff.of_keeps fun b o q n => ⟨o, (other b (norec b o q n)).trans q, rfl⟩) hf ((other e (Ne.symm ne)).trans e1)
      (fun b o q => (other b fun z => by rw [z, nT] at q; cases q).trans (stay b o q)) new d (Array.getElem?_eq_some_iff.mp v1).1 z fun h' ⟨n1, n2, n3, n4⟩ => ?_
    exact q h' ⟨n1, new, n2, n3⟩ fun b o q n => n4 b o ((other b (norec b o q n)).trans q) n
end
/-- a record's traceback stands while a block of names is let go -/
theorem traced_same {h h' base base' : Heap} {e c : Addr} {Z : Obj → Prop} {fl : Value} {m : Str → Option Value} (t : HandSPX.TracedZ h base e Z fl) (n : h.Ns c m) (s : Heap.SameBut c h h') (k : ∀ b, base.get? b = none → base'.get? b = none) : HandSPX.TracedZ h' base' e Z fl := by
  obtain ⟨oe, vs, T, oT, ts, e1, z, d, v1, nT, ne, eT, dT, t3⟩ := t
  obtain ⟨oc, es, ep, ec, dc, _⟩ := n
  have nc : ∀ b o ws, h.get? b = some o → o.data = .fields ws → b ≠ c := fun b o ws q dq z => by
    rw [z, ec] at q
    cases q
    rw [dc] at dq
    cases dq
  exact ⟨oe, vs, T, oT, ts, (s.2 e (nc _ _ _ e1 d)).trans e1, z, d, v1, k _ nT, ne, (s.2 T (nc _ _ _ eT dT)).trans eT, dT, t3⟩

section
variable {X : Cx} {pins : List (Addr × Obj)} {σ : L2.St} {H : Hp} {s3 : Shared}
/-- an error in a block's air falls out of the comprehension, into the def's air -/
theorem falls {W : WX} {scope : Scope} {cl : List (Str × Addr)} {fp : List Addr} {H3 : Hp} (hs : X.stack = X.env :: X.outer) (hf : X.env.frame = some X.env.locals) (tk : Takes X W) (I3 : Inv X pins σ H3 s3)
    (fok : ∀ b ∈ fp, FpOk X pins H3 b) {u : Value} {s' : Shared}
    (x : XE (X.blk s3 H3 scope (compEnvC scope cl s3.heap.objs.size X.env) fp) (fun cls d _ H => W cls d σ H) u s') :
    notedBy (model X.prog X.w) X.A (compEnvC scope cl s3.heap.objs.size X.env) (CompFails (model X.prog X.w) X.A X.xe (compEnvC scope cl s3.heap.objs.size X.env)) u s' := by
  obtain ⟨a, B, sI, pins', σ', H', cls, d, rfl, I, nb, up, sky, na, os, ag, w⟩ := x
  have nb : ∀ b o, sI.heap.get? b = some o → b ∉ frs X.stack → B.get? b = some o := nb
  have frm : X.A.frames = some (X.env :: X.outer) := by rw [← hs]; exact I3.ok.frames
  obtain ⟨m, nsI, _⟩ := I.loc
  have nsI : sI.heap.Ns s3.heap.objs.size m := nsI
  obtain ⟨G, G1, G2⟩ := restrict sI.heap fun b => !decide (b = s3.heap.objs.size)
  obtain ⟨B', B1, B2⟩ := restrict B fun b => !decide (b = s3.heap.objs.size)
  have g1 : ∀ b, b ≠ s3.heap.objs.size → G.get? b = sI.heap.get? b := fun b n => G1 b (by simp [n])
  have gs : ∀ b o, G.get? b = some o → b ≠ s3.heap.objs.size ∧ sI.heap.get? b = some o := fun b o q => by
    have n : b ≠ s3.heap.objs.size := fun z => by
      rw [G2 b (by simp [z])] at q
      cases q
    exact ⟨n, by rw [← g1 b n]; exact q⟩
  have b1 : ∀ b, b ≠ s3.heap.objs.size → B'.get? b = B.get? b := fun b n => B1 b (by simp [n])
  have bs : ∀ b o, B'.get? b = some o → b ≠ s3.heap.objs.size ∧ B.get? b = some o := fun b o q => by
    have n : b ≠ s3.heap.objs.size := fun z => by
      rw [B2 b (by simp [z])] at q
      cases q
    exact ⟨n, by rw [← b1 b n]; exact q⟩
  have bn : ∀ b, B.get? b = none → B'.get? b = none := fun b q => by
    cases z : B'.get? b with
    | none => rfl
    | some o => rw [(bs b o z).2] at q; cases q
  have old : ∀ b o, s3.heap.get? b = some o → b ≠ s3.heap.objs.size := fun b o q => Nat.ne_of_lt (Heap.lt_size q)
  have nC : H' s3.heap.objs.size = none := I.free
  -- the state without the error and without the block's names
  have IG : Inv X pins σ H' { sI with heap := G } := by
    refine I3.call' (ch := fp) I.os ⟨fun b o q n nf nx => ?_, fun b o q n nf nx => ?_, fun b o q n nx => I.base.free b o q n nx, fun b o q nx => ?_, I.base.tups, I.base.frzs, I.base.tbls⟩ (fun b u q => ?_) I.bare
      fun b m => ⟨(fok b m).2.2.2.1, (fok b m).2.1, (fok b m).2.2.2.2.1, (fok b m).2.2.2.2.2⟩
    · exact (g1 b (old b o q)).trans (I.base.keep b o q n nf nx)
    · obtain ⟨sl, z⟩ := I.base.slot b o q n nf nx
      exact ⟨sl, (g1 b (old b o q)).trans z⟩
    · obtain ⟨o', z⟩ := I.base.there b o q nx
      exact ⟨o', (g1 b (old b o q)).trans z⟩
    · refine (I.hok b u q).stay (fun c v hc z => (g1 c fun e => ?_).trans z) (fun _ r => r) fun _ _ r => r
      rcases hc with hc | hc
      · rw [← hc, e, nC] at q
        cases q
      · rw [e, nC] at hc
        cases hc
  -- noted by the def's frame
  have held : ∀ h1, HandSPX.HeldZ B (X.env :: X.outer) a (Zc cls d) X.env.locals h1 → s'.heap.UpToSlots h1 → CompFails (model X.prog X.w) X.A X.xe (compEnvC scope cl s3.heap.objs.size X.env) (.ref a) { s' with heap := h1 } := by
    intro h1 ⟨st, new, ff, tz⟩ up1
    have ns1 : h1.Ns s3.heap.objs.size m := nsI.upToSlots (up.trans up1)
    refine ⟨m, ns1, fun h2 m2 ns2 same => ?_⟩
    have same : Heap.SameBut s3.heap.objs.size h1 h2 := same
    have ns2 : h2.Ns s3.heap.objs.size m2 := ns2
    have tz2 := traced_same (base' := B') tz ns1 same bn
    have hz2 : HandSPX.HeldZ B' (X.env :: X.outer) a (Zc cls d) X.env.locals h2 := by
      refine ⟨fun b o q => ?_, bn _ new, funFrames_none (Heap.FunFrames.sameBut same ns2 ff) fun b mb => ?_, tz2⟩
      · obtain ⟨n, q⟩ := bs b o q
        exact (same.2 b n).trans (st b o q)
      · exact bn b (ff.mem mb).1
    obtain ⟨oe, vs, T, oT, ts, e1, z, dd, v1, _⟩ := id tz2
    unfold passOn
    refine wpAny_bind (wpAny_field e1 dd v1 ?_)
    rw [if_neg (by simp : ¬ (Value.ref T == Value.none) = true)]
    show wpAny _ _ (setFlight (.ref a) X.env.frame >>= fun _ => throw (.ref a)) _ _ _
    rw [hf]
    refine wpAny_bind (HandSPX.setFlight_onZ (s := { s' with heap := h2 }) hz2 fun h3 hz3 up3 => wpAny_throw (tk _ _ ?_))
    refine ⟨a, B', { sI with heap := G }, pins, σ, H', cls, d, rfl, IG, fun b o q n => ?_, fun b o q nf => ?_, .inr (.inr (by rw [hs]; exact hz3)), na, os, ag, w⟩
    · obtain ⟨n1, q⟩ := gs b o q
      exact (b1 b n1).trans (nb b o q n)
    · obtain ⟨n1, q⟩ := gs b o q
      obtain ⟨sl, q1⟩ := (up.trans up1) b o q nf
      exact up3 b { o with slots := sl } ((same.2 b n1).trans q1) nf
  show wpAny _ _ (noteFrame (.ref a) (compEnvC scope cl s3.heap.objs.size X.env)) _ _ s'
  rw [noteFrame_env (.ref a) (cenv := compEnvC scope cl s3.heap.objs.size X.env) (env := X.env) rfl]
  have sky : Sky B (X.env :: X.outer) a (Zc cls d) s3.heap.objs.size s'.heap := by rw [← hs]; exact sky
  rcases sky with ⟨st, new, ff, oe, vs, e1, z, dd, v1⟩ | fl | ⟨st, new, ff, tz⟩
  · exact HandSPX.look_newZ Zc.steady frm ff hf e1 st new dd v1 z held
  · exact HandSPX.looks_onZ Zc.steady frm hf fl held
  · exact look_any Zc.steady frm hf st new ff tz held

/-- a block whose errors fall out of it -/
abbrev blkE (X : Cx) (s : Shared) (H : Hp) (scope : Scope) (cl : List (Str × Addr)) (fp : List Addr) : Cx :=
  (X.blk s H scope (compEnvC scope cl s.heap.objs.size X.env) fp).wish (notedBy (model X.prog X.w) X.A (compEnvC scope cl s.heap.objs.size X.env) (CompFails (model X.prog X.w) X.A X.xe (compEnvC scope cl s.heap.objs.size X.env)))
theorem XE.unwish {Y : Cx} {E : Value → Shared → Prop} {W : WX} {u : Value} {s' : Shared} (x : XE (Y.wish E) W u s') : XE Y W u s' := by
  obtain ⟨a, B, sI, pins', σ', H', cls, d, e, I, nb, up, sky, na, os, ag, w⟩ := x
  exact ⟨a, B, sI, pins', σ', H', cls, d, e, I.unwish, nb, up, sky, na, os, ag, w⟩
theorem blkE_takes {W : WX} {scope : Scope} {cl : List (Str × Addr)} {fp : List Addr} {H3 : Hp} (hs : X.stack = X.env :: X.outer) (hf : X.env.frame = some X.env.locals) (tk : Takes X W) (I3 : Inv X pins σ H3 s3) (fok : ∀ b ∈ fp, FpOk X pins H3 b) :
    Takes (blkE X s3 H3 scope cl fp) (fun cls d _ H => W cls d σ H) := fun _ _ x => falls hs hf tk I3 fok (XE.unwish x)
end
end Ev
set_option Elab.async false
set_option linter.all false
set_option maxRecDepth 100000
set_option maxHeartbeats 2000000
/-! Ev12: list comprehensions out of which an error may come: the rule. -/
namespace Ev
open PySem PySem.Spec L2

section
variable {X : Cx}
theorem lcx_core {pins : List (Addr × Obj)} {s : Shared} {σ : L2.St} {H : Hp} {Q : VK} {W : WX} {elt tg iter : Expr} {ifs : List Expr} {scope : Scope} {own : List (Str × Nat)} {pos pos' : Pos} {wi : TI} {g : TG} {tt : TT} {te : TE} {use : Option (Value → Sem Unit)} {Qf : Value → Shared → Prop}
    (hstk : X.stack = X.env :: X.outer) (hfr : X.env.frame = some X.env.locals) (tk : Takes X W) (hc : X.calm = true) (hN : X.N.Nodup) (I : Inv X pins σ H s) (hi : PI X tg iter wi) (ok : BlkOk X.N X.env.scope scope own)
    (hg : ∀ s H cl fp, PG (blkE X s H scope cl fp) tg g) (ht : ∀ s H cl fp, Takes (blkE X s H scope cl fp) (fun cls d _ H => W cls d σ H) → PTs (blkE X s H scope cl fp) ifs tt)
    (he : ∀ s H cl fp, Takes (blkE X s H scope cl fp) (fun cls d _ H => W cls d σ H) → PE (blkE X s H scope cl fp) elt te) (hs : ∀ x, foldedSetIterable iter X.env x = pure x)
    (h : tLc wi g tt te (own.map (·.2)) σ H Q)
    (fin : ∀ D cenv s' m H', Inv X pins σ H' s' → Q (.ref D) H' → s'.heap.Ns cenv.locals m → FpOk X pins H' cenv.locals → compEnds (model X.prog X.w) X.A X.xe use Qf (.ref D) cenv (.ok .next) s') :
    wpAny (model X.prog X.w) X.A (comprehension (.ListComp elt [⟨tg, iter, ifs, 0⟩] scope pos) scope X.env pos' (newList []) false (eval iter X.env) use) Qf X.xe s := by
  have cap : ∀ y ∈ scope.names, y.2 = .free → ∃ c, X.env.cells.lookup y.1 = some c := fun y my e => (ok.free y my e).elim (fun k => I.ok.has _ (.inl k)) fun k => I.ok.has _ (.inr k)
  refine comprehension_at (use := use) rfl hs (closure_ok cap) ok.kind (fun y my e => by rw [ok.uniq y my, e]) (thn (hi.run pins s σ H _ I h) fun xv s1 hx => thn hx fun itv s2 ⟨it, fp, tn, J, H2, ei, I2, T, st2, f2, q⟩ => ?_)
  subst ei
  refine wpAny_newObj_type (newEnv_comp ?_) (by show 0 ≤ sizeLine; decide)
  generalize eD : s2.heap.objs.size = D
  have dn : H2 D = none := I2.hok.fresh (Nat.le_of_eq eD)
  obtain ⟨Wi, ⟨m0, w0⟩, turn⟩ := q D dn
  generalize e3 : ({ s2 with heap := s2.heap.push { cls := .type "list", data := .seq ([] : List Value).toArray } } : Shared) = s3
  have k3 : s3.heap = s2.heap.push { cls := .type "list", data := .seq ([] : List Value).toArray } := by rw [← e3]
  have I3 : Inv X pins σ (upd H2 D (.lst [])) s3 := by
    rw [← e3]
    refine I2.laid (t' := s2.toks) (fun b o z => Heap.get?_push_of_some _ z) (Nat.le_of_eq eD) ⟨Nat.zero_le _, [], 0, .nil, ?_⟩
    rw [← eD]
    exact Heap.get?_push_size _ rfl
  have small : ∀ b ∈ fp, b < s2.heap.objs.size := fun b mb => by
    obtain ⟨o, z, _⟩ := T.obj _ _ st2 b mb
    exact Heap.lt_size z
  have f3 : ∀ b ∈ fp, FpOk X pins (upd H2 D (.lst [])) b ∧ b < s3.heap.objs.size := fun b mb => by
    have lt := small b mb
    refine ⟨⟨?_, (f2 b mb).2⟩, by rw [k3, Heap.size_push]; exact Nat.lt_succ_of_lt lt⟩
    rw [upd_ne (by rw [← eD]; exact Nat.ne_of_lt lt)]
    exact (f2 b mb).1
  have st3 : tn 0 s3.heap := T.keep _ _ _ st2 fun b _ o z => by rw [k3]; exact Heap.get?_push_of_some _ z
  have I4 := block_start I3 ok hN f3
  generalize e5 : cellsFrom (s3.heap.objs.size + 1) scope.names (cloFrom X.env.cells scope.names []) = cl at I4
  generalize e6 : upd H2 D (.lst []) = H3 at I3 I4 w0 f3
  have tkb : Takes (blkE X s3 H3 scope cl fp) (fun cls d _ H => W cls d σ H) := blkE_takes hstk hfr tk I3 fun b mb => (f3 b mb).1
  have pg := hg s3 H3 cl fp
  have pt := ht s3 H3 cl fp tkb
  have pe := he s3 H3 cl fp tkb
  have I4 : Inv (blkE X s3 H3 scope cl fp) [] (wipe σ (own.map (·.2))) H3 { s3 with heap := pushCells (s3.heap.push { cls := .type "dict", data := .dict #[] }) scope.names } := I4.wish _
  show codeAny _ _ (.compStart (.ListComp elt [⟨tg, iter, ifs, 0⟩] scope pos) 0 (.ref it) (.ref D) (compEnvC scope cl s3.heap.objs.size X.env))
    (compEnds (model X.prog X.w) X.A X.xe use Qf (.ref D) (compEnvC scope cl s3.heap.objs.size X.env)) { s3 with heap := pushCells (s3.heap.push { cls := .type "dict", data := .dict #[] }) scope.names }
  have none3 : ∀ b ∈ fp, H3 b = none := fun b mb => (f3 b mb).1.1
  generalize e7 : ({ s3 with heap := pushCells (s3.heap.push { cls := .type "dict", data := .dict #[] }) scope.names } : Shared) = s4 at I4 ⊢
  have st4 : tn 0 s4.heap := T.keep _ _ _ st3 fun b _ o z => by rw [← e7]; exact pushCells_keeps _ _ _ _ (Heap.get?_push_of_some _ z)
  have stat : ∀ {σ' : L2.St} {H' : Hp} {s' : Shared}, Inv (blkE X s3 H3 scope cl fp) [] σ' H' s' → (∀ b ∈ fp, H' b = none) → ∀ b ∈ fp, FpOk (blkE X s3 H3 scope cl fp) [] H' b := fun J n b mb =>
    ⟨n b mb, (J.ok.exf b mb).1, J.ok.exfs b mb, .inl mb, fun x c z => (J.ok.exf b mb).2 x c z, fun p z => absurd (show p ∈ ([] : List (Addr × Obj)) ++ [] from z) (by simp)⟩
  have loop : codeAny (model X.prog X.w) X.A (.compLoop (.ListComp elt [⟨tg, iter, ifs, 0⟩] scope pos) 0 (.ref it) (.ref D) (compEnvC scope cl s3.heap.objs.size X.env)) (compEnds (model X.prog X.w) X.A X.xe use Qf (.ref D) (compEnvC scope cl s3.heap.objs.size X.env)) s4 := by
    refine compLoop_any (fun n s' => ∃ i H', Inv (blkE X s3 H3 scope cl fp) [] (wipe σ (own.map (·.2))) H' s' ∧ tn i s'.heap ∧ (∀ b ∈ fp, H' b = none) ∧ Wi i n H') ?_ m0 ⟨0, H3, I4, st4, none3, w0⟩
    have exE : (fun e s' => compEnds (model X.prog X.w) X.A X.xe use Qf (.ref D) (compEnvC scope cl s3.heap.objs.size X.env) (.error e) s') = CompFails (model X.prog X.w) X.A X.xe (compEnvC scope cl s3.heap.objs.size X.env) := by
      funext e s'
      cases use <;> rfl
    rw [exE]
    rintro n s5 ⟨i, H5, I5, st5, n5, w5⟩
    rcases turn i n H5 w5 with ⟨stop, qq⟩ | ⟨go, Nx, hNx, step⟩
    · refine thn (T.done (blkE X s3 H3 scope cl fp) rfl rfl rfl hc i [] s5 _ H5 (blkE X s3 H3 scope cl fp).xe I5 (stat I5 n5) st5 stop) fun r s6 ⟨er, I6⟩ => ?_
      subst er
      have I7 : Inv X pins σ H5 s6 := I3.call' (ch := fp) I6.os I6.base I6.hok I6.bare fun b mb => ⟨(f3 b mb).1.2.2.2.1, (f3 b mb).1.2.1, (f3 b mb).1.2.2.2.2.1, (f3 b mb).1.2.2.2.2.2⟩
      have nC : H5 s3.heap.objs.size = none := I6.free
      obtain ⟨m, ns, _⟩ := I6.loc
      exact fin D (compEnvC scope cl s3.heap.objs.size X.env) s6 m H5 I7 qq ns (I3.fpOk (Nat.le_refl _) nC)
    · refine thn (T.item (blkE X s3 H3 scope cl fp) rfl rfl rfl hc i [] s5 _ H5 (blkE X s3 H3 scope cl fp).xe I5 (stat I5 n5) st5 go) fun r s6 ⟨u, er, h6⟩ => ?_
      subst er
      refine thn h6 fun _ s7 ⟨x, H7, I7, r7, y7, st7, n7⟩ => ?_
      refine thn (pg.run _ s7 _ H7 x u _ (I7.pinned (stat I7 n7) (T.obj _ _ st7)) r7 (step x H7 y7)) fun _ s8 ⟨σ8, H8, I8, ew, q8⟩ => ?_
      refine thn (pt.run _ s8 σ8 H8 _ I8 q8) fun b s9 ⟨H9, I9, q9⟩ => ?_
      have back : ∀ {s' : Shared} {H' : Hp}, Inv (blkE X s3 H3 scope cl fp) ([] ++ pinsAt fp s7.heap) σ8 H' s' → Nx H' → ∃ m, m < n ∧ ∃ i H', Inv (blkE X s3 H3 scope cl fp) [] (wipe σ (own.map (·.2))) H' s' ∧ tn i s'.heap ∧ (∀ b ∈ fp, H' b = none) ∧ Wi i m H' := fun {s' H'} J nx => by
        obtain ⟨m', lt, w'⟩ := hNx H' nx
        have held : ∀ b ∈ fp, ∀ o, s7.heap.get? b = some o → s'.heap.get? b = some o ∧ H' b = none := fun b mb o z =>
          let p := J.pin (b, o) (List.mem_append_right _ (List.mem_append_right _ (mem_pinsAt mb z)))
          ⟨p.1, p.2.1⟩
        refine ⟨m', lt, i + 1, H', (J.unpinned (pins := [])).weak (by rw [← ew, wipe_length]) (fun j v z => ?_), T.keep _ _ _ st7 fun b mb o z => (held b mb o z).1, fun b mb => ?_, w'⟩
        · rw [← ew] at z
          exact (wipe_some z).1
        · obtain ⟨o, z, _⟩ := T.obj _ _ st7 b mb
          exact (held b mb o z).2
      cases b with
      | false =>
        simp only [Bool.false_eq_true, if_false] at q9 ⊢
        exact back I9 q9
      | true =>
        simp only [if_true] at q9 ⊢
        refine thn (pe.run _ s9 σ8 H9 _ I9 q9) fun z s10 ⟨y, H10, I10, r10, acc, d10, z10, nx⟩ => ?_
        exact app_ok (X := blkE X s3 H3 scope cl fp) I10 d10 z10 r10 fun s11 I11 => back I11 nx
  exact codeAny_compStart_list loop (T.self X.A 0 _ _ _ st4 loop)

variable {C : Cls} {W : WX} {elt tg iter : Expr} {ifs : List Expr} {scope : Scope} {own : List (Str × Nat)} {pos : Pos} {gi : GI} {gt : GT} {tt : GB} {ge : GE}
/-- what a block's parts have to be -/
abbrev wB (W : WX) (σ : L2.St) : WX := fun cls d _ H => W cls d σ H
theorem sLc (hstk : X.stack = X.env :: X.outer) (hfr : X.env.frame = some X.env.locals) (tk : Takes X W) (hc : X.calm = true) (hN : X.N.Nodup) (hi : PI X tg iter (rdI X.K C W gi)) (ok : BlkOk X.N X.env.scope scope own)
    (hg : ∀ s H cl fp, PG (blkE X s H scope cl fp) tg (rdGv X.K C (own.map (·.2)) gt))
    (ht : ∀ s H cl fp W', Takes (blkE X s H scope cl fp) W' → PTs (blkE X s H scope cl fp) ifs (rdT X.K C W' tt))
    (he : ∀ s H cl fp W', Takes (blkE X s H scope cl fp) W' → PE (blkE X s H scope cl fp) elt (rd X.K C W' ge)) (hs : ∀ x, foldedSetIterable iter X.env x = pure x := by intro _; rfl) :
    PE X (.ListComp elt [⟨tg, iter, ifs, 0⟩] scope pos) (rd X.K C W (gLc gi gt tt ge (own.map (·.2)))) := by
  refine ⟨fun pins s σ H Q I h => ?_⟩
  rw [eval_ListComp]
  refine lcx_core (Q := Q) hstk hfr tk hc hN I hi ok hg (fun s H cl fp tb => ht s H cl fp (wB W σ) tb) (fun s H cl fp tb => he s H cl fp (wB W σ) tb) hs (lc_of (fun _ _ _ _ k => k) h) fun D cenv s' m H' I' q ns f => ⟨m, ns, fun h2 same => ?_⟩
  exact ⟨.ref D, H', I'.turned (t' := s'.toks) (fun b o n z => (same.2 b n).trans z) f.1 f.2.1 f.2.2.2.1 f.2.2.2.2.1 f.2.2.2.2.2, rfl, q⟩
/-- name = [..] -/
theorem zSetLc {i : Nat} {y : Str} {py spos : Pos} (hstk : X.stack = X.env :: X.outer) (hfr : X.env.frame = some X.env.locals) (tk : Takes X W) (hc : X.calm = true) (hN : X.N.Nodup) (hy : X.N[i]? = some y) (hyl : X.env.scope.names.lookup y = some .local)
    (hsw : swapsWith (.ListComp elt [⟨tg, iter, ifs, 0⟩] scope pos) (some (.Name y py)) spos.line X.env = pure true) (hi : PI X tg iter (rdI X.K C W gi)) (ok : BlkOk X.N X.env.scope scope own)
    (hg : ∀ s H cl fp, PG (blkE X s H scope cl fp) tg (rdGv X.K C (own.map (·.2)) gt))
    (ht : ∀ s H cl fp W', Takes (blkE X s H scope cl fp) W' → PTs (blkE X s H scope cl fp) ifs (rdT X.K C W' tt))
    (he : ∀ s H cl fp W', Takes (blkE X s H scope cl fp) W' → PE (blkE X s H scope cl fp) elt (rd X.K C W' ge)) (hs : ∀ x, foldedSetIterable iter X.env x = pure x := by intro _; rfl) :
    PS X (.Assign [.Name y py] (.ListComp elt [⟨tg, iter, ifs, 0⟩] scope pos) spos) (rdS X.K C W (sPut i (gLc gi gt tt ge (own.map (·.2))))) := by
  refine ⟨fun pins s σ H D I ⟨ρ, h, δ, rh, rs, q⟩ => ?_⟩
  rw [exec_Assign_Name_used _ _ _ _ hsw]
  refine wpAny_bind (wpAny_standAt (wpAny_bind ?_))
  show wpAny _ X.A (do let _ ← comprehension (.ListComp elt [⟨tg, iter, ifs, 0⟩] scope pos) scope X.env (firstIterPos [⟨tg, iter, ifs, 0⟩] pos) (newList []) false (eval iter X.env) (some (assign (.Name y py) X.env))) _ _ s
  have rd1 : rd X.K C W (gLc gi gt tt ge (own.map (·.2))) σ H fun v H' => D.nx (σ.set i (some v)) H' :=
    ⟨ρ, h, δ, rh, rs, (q.toS rs).mono fun ρ1 h1 H1 d g1 rh1 q1 v rv => q1 ρ1 H1 _ .refl rh1 ((rs.go g1).set rv i)⟩
  refine wpAny_bind (thn (lcx_core (Q := fun v H' => D.nx (σ.set i (some v)) H') (Qf := fun _ s' => SP X pins D .next s') hstk hfr tk hc hN I hi ok hg (fun s H cl fp tb => ht s H cl fp (wB W σ) tb) (fun s H cl fp tb => he s H cl fp (wB W σ) tb) hs (lc_of (fun _ _ _ _ k => k) rd1) fun L cenv s' m H' I' q ns f => ?_) fun _ s' z => wpAny_pure (wpAny_pure z))
  show wpAny _ _ (assign (.Name y py) X.env (.ref L)) _ _ _
  refine wpAny_assign_Name (store_ok2 (v := V.ref L) I' hN hy (.inl hyl) rfl (fun s2 I2 ⟨a, same, ha⟩ => ?_) (.inr hyl))
  have na : cenv.locals ≠ a := by
    rcases ha with z | z
    · rw [z]; exact f.2.1
    · exact fun e => f.2.2.2.2.1 y a z e.symm
  exact ⟨m, ns.sameBut same na, fun h3 same3 => ⟨_, H', I2.turned (t' := s2.toks) (fun b o n z => (same3.2 b n).trans z) f.1 f.2.1 f.2.2.2.1 f.2.2.2.2.1 f.2.2.2.2.2, q⟩⟩
end
end Ev
set_option Elab.async false
set_option linter.all false
set_option maxRecDepth 100000
set_option maxHeartbeats 2000000
/-! Ev13: built-in functions and types, called. -/
namespace Ev
open PySem PySem.Spec L2

abbrev FB := List D → List O → R D
def OkB (K : PySem.W.Frag) (C : Cls) (f : FB) (r : List V → Hp → VK → Prop) : Prop := ∀ E ρ h H l vs Q, RH K C ρ h H → RDs K ρ H l vs → Res K C E ρ H (f l h) (fun ρ' _ H' d => ∀ v, RD K ρ' H' d v → Q v H') → r vs H Q
def gB (f : FB) (t : GA) : GE := fun δ h => (t δ h).bind fun l h1 => f l h1
section
variable {X : Cx} {C : Cls} {W : WX} {x : Str} {p pos : Pos} {e : Expr} {es : List Expr} {t : GA} {f : FB} {r : List V → Hp → VK → Prop} {id T : String}
theorem b_of {K : PySem.W.Frag} (hr : OkB K C f r) {σ : L2.St} {H : Hp} {Q : VK} (q : rd K C W (gB f t) σ H Q) : tCB r (rdA K C W t) σ H Q := by
  obtain ⟨ρ, h, δ, rh, rs, m⟩ := q
  exact ⟨ρ, h, δ, rh, rs, m.bind.mono fun ρ1 h1 H1 l g1 rh1 q1 vs rvs => hr _ ρ1 h1 H1 l vs Q rh1 rvs q1⟩
theorem sB (hc : CallR X (.builtin id) r) (hr : OkB X.K C f r) (hg : Gl X x) (hm : X.mg x = none) (hv : bootBuiltins x = some (.builtin id)) (ha : PA X (e :: es) (rdA X.K C W t)) (hn : x ≠ "__name__" := by decide) (hdb : (x == ("__debug__" : Str)) = false := by decide)
    (he : starEach (e :: es) X.env = (false, eval e X.env) :: starEach es X.env := by rfl) (hpl : (backTo pos (starEach es X.env)).any (·.1) = false := by rfl) : PE X (.Call (.Name x p) (e :: es) [] pos) (rd X.K C W (gB f t)) :=
  PE_imp (pe_callB hc hg hm hv ha hn hdb he hpl) fun _ _ _ q => b_of hr q
theorem sTy (hc : CallR X (.type T) r) (hr : OkB X.K C f r) (hg : Gl X x) (hm : X.mg x = none) (hv : bootBuiltins x = some (.type T)) (ha : PA X (e :: es) (rdA X.K C W t)) (hn : x ≠ "__name__" := by decide) (hdb : (x == ("__debug__" : Str)) = false := by decide)
    (he : starEach (e :: es) X.env = (false, eval e X.env) :: starEach es X.env := by rfl) (hpl : (backTo pos (starEach es X.env)).any (·.1) = false := by rfl) : PE X (.Call (.Name x p) (e :: es) [] pos) (rd X.K C W (gB f t)) :=
  PE_imp (pe_callTy hc hg hm hv ha hn hdb he hpl) fun _ _ _ q => b_of hr q
/-- a built-in function under a module's own name (from math import gcd) -/
theorem sBg (hc : CallR X (.builtin id) r) (hr : OkB X.K C f r) (hg : Gl X x) (hm : X.mg x = some (.builtin id)) (ha : PA X (e :: es) (rdA X.K C W t)) (hdb : (x == ("__debug__" : Str)) = false := by decide)
    (he : starEach (e :: es) X.env = (false, eval e X.env) :: starEach es X.env := by rfl) (hpl : (backTo pos (starEach es X.env)).any (·.1) = false := by rfl) : PE X (.Call (.Name x p) (e :: es) [] pos) (rd X.K C W (gB f t)) :=
  PE_imp (pe_callBfun hc hg hm ha hdb he hpl) fun _ _ _ q => b_of hr q
end
section
variable {K : PySem.W.Frag} {C : Cls} {ρ : List Addr} {H : Hp} {h : List O}
/-! ### len -/
def lenD (d : D) (h : List O) : Option Nat := match d with
  | .str s => if Nat.ble s.length line then some s.length else none
  | .tup l => some l.length
  | .ref n => match h[n]? with
    | some (.lst l) => some l.length
    | some (.dct l) => some l.length
    | none => none
  | _ => none
def bLen : FB := fun l h => match l with
  | [d] => match lenD d h with
    | some n => .ok (.int (n : Nat)) h
    | none => .bad
  | _ => .bad
def rLenO (K : PySem.W.Frag) : List V → Hp → VK → Prop := fun vs H Q => (∃ x n, vs = [x] ∧ LenV K x H n ∧ Q (.int n) H) ∨ ∃ a kvs, vs = [V.ref a] ∧ H a = some (.dK kvs) ∧ Q (.int kvs.length) H
theorem RDs.one {d : D} {vs : List V} (r : RDs K ρ H [d] vs) : ∃ v, vs = [v] ∧ RD K ρ H d v := by
  obtain ⟨v, t, rfl, a, b⟩ := r.of_cons
  obtain rfl := b.of_nil
  exact ⟨v, rfl, a⟩
theorem RDs.two {d e : D} {vs : List V} (r : RDs K ρ H [d, e] vs) : ∃ v w, vs = [v, w] ∧ RD K ρ H d v ∧ RD K ρ H e w := by
  obtain ⟨v, t, rfl, a, b⟩ := r.of_cons
  obtain ⟨w, rfl, c⟩ := b.one
  exact ⟨v, w, rfl, a, c⟩
theorem ok_len : OkB K C bLen (rLenO K) := by
  intro E ρ h H l vs Q rh rvs m
  unfold bLen at m
  split at m
  · rename_i d
    obtain ⟨v, rfl, rv⟩ := rvs.one
    split at m
    · rename_i n e
      have z := m ρ H .refl rh _ .int
      unfold lenD at e
      split at e
      · split at e
        · rename_i s hl
          cases e
          cases rv.of_str
          exact .inl ⟨_, _, rfl, ⟨by rw [str_len]; exact line_ok hl, by rw [str_len]⟩, z⟩
        · cases e
      · cases e
        obtain ⟨a, ws, rfl, s, rs⟩ := rv.of_tup
        exact .inl ⟨_, _, rfl, .inr ⟨ws, s, rs.length.symm⟩, z⟩
      · rename_i k
        obtain ⟨a, rfl, ea⟩ := rv.of_ref
        split at e
        · rename_i l' el
          cases e
          obtain ⟨a', ws, p1, p2, p3⟩ := rh.lst el
          rw [ea] at p1; cases p1
          exact .inl ⟨_, _, rfl, .inl ⟨ws, SqL.of p2, p3.length.symm⟩, z⟩
        · rename_i l' el
          cases e
          obtain ⟨a', kvs, p1, p2, p3⟩ := rh.dct el
          rw [ea] at p1; cases p1
          refine .inr ⟨_, kvs, rfl, p2, ?_⟩
          rw [p3.length]
          exact z
        · cases e
      · cases e
    · exact m.elim
  · exact m.elim
/-! ### numbers -/
def bAbs : FB := fun l h => match l with
  | [.int i] => .ok (.int (if i < 0 then -i else i)) h
  | _ => .bad
theorem ok_abs : OkB K C bAbs (fun xs H Q => ∃ i, xs = [.int i] ∧ Q (.int (if i < 0 then -i else i)) H) := by
  intro E ρ h H l vs Q rh rvs m
  unfold bAbs at m
  split at m
  · obtain ⟨v, rfl, rv⟩ := rvs.one
    cases rv.of_int
    exact ⟨_, rfl, m ρ H .refl rh _ .int⟩
  · exact m.elim
def bI2 (f : Int → Int → Int) : FB := fun l h => match l with
  | [.int i, .int j] => .ok (.int (f i j)) h
  | _ => .bad
theorem ok_i2 {f : Int → Int → Int} : OkB K C (bI2 f) (fun xs H Q => ∃ i j, xs = [.int i, .int j] ∧ Q (.int (f i j)) H) := by
  intro E ρ h H l vs Q rh rvs m
  unfold bI2 at m
  split at m
  · obtain ⟨v, w, rfl, rv, rw'⟩ := rvs.two
    cases rv.of_int
    cases rw'.of_int
    exact ⟨_, _, rfl, m ρ H .refl rh _ .int⟩
  · exact m.elim
def bMax2 : FB := bI2 fun i j => if j > i then j else i
def bMin2 : FB := bI2 fun i j => if j < i then j else i
def bGcd : FB := bI2 fun a b => ((Nat.gcd a.natAbs b.natAbs : Nat) : Int)
theorem ok_max2 : OkB K C bMax2 (fun xs H Q => ∃ i j, xs = [.int i, .int j] ∧ Q (.int (if j > i then j else i)) H) := ok_i2
theorem ok_min2 : OkB K C bMin2 (fun xs H Q => ∃ i j, xs = [.int i, .int j] ∧ Q (.int (if j < i then j else i)) H) := ok_i2
theorem ok_gcd : OkB K C bGcd rGcd := ok_i2
/-! ### all, any over a list of bools -/
def boolsOf : List D → Option (List Bool)
  | [] => some []
  | .bl b :: l => match boolsOf l with
    | some bs => some (b :: bs)
    | none => none
  | _ :: _ => none
theorem RDs.bools : ∀ {l : List D} {bs : List Bool} {vs : List V}, boolsOf l = some bs → RDs K ρ H l vs → vs = bs.map V.bl
  | [], _, _, e, r => by cases e; rw [r.of_nil]; rfl
  | d :: l, _, _, e, r => by
    unfold boolsOf at e
    split at e
    · rename_i z; cases z
    · rename_i b l' z
      cases z
      split at e
      · rename_i bs e1
        cases e
        obtain ⟨v, t, rfl, r1, r2⟩ := r.of_cons
        rw [r1.of_bl, RDs.bools e1 r2]
        rfl
      · cases e
    · cases e
def bQuant (f : List Bool → Bool) : FB := fun l h => match l with
  | [.ref n] => match h[n]? with
    | some (.lst l) => match boolsOf l with
      | some bs => .ok (.bl (f bs)) h
      | none => .bad
    | _ => .bad
  | _ => .bad
theorem ok_quant {f : List Bool → Bool} : OkB K C (bQuant f) (fun vs H Q => ∃ (a : Addr) (bs : List Bool), vs = [V.ref a] ∧ SqL K H a (bs.map V.bl) ∧ Q (.bl (f bs)) H) := by
  intro E ρ h H l vs Q rh rvs m
  unfold bQuant at m
  split at m
  · rename_i n
    split at m
    · rename_i l' el
      split at m
      · rename_i bs eb
        obtain ⟨v, rfl, rv⟩ := rvs.one
        obtain ⟨a, rfl, ea⟩ := rv.of_ref
        obtain ⟨a', ws, p1, p2, p3⟩ := rh.lst el
        rw [ea] at p1; cases p1
        refine ⟨a, bs, rfl, ?_, m ρ H .refl rh _ .bl⟩
        rw [← RDs.bools eb p3]
        exact SqL.of p2
      · exact m.elim
    · exact m.elim
  · exact m.elim
def bAll : FB := bQuant fun bs => bs.all id
def bAny : FB := bQuant fun bs => bs.any id
theorem ok_all : OkB K C bAll (rAll K) := ok_quant
theorem ok_any : OkB K C bAny (rAny K) := ok_quant
/-! ### tuple, list -/
def bTuple : FB := fun l h => match l with
  | [.tup l] => .ok (.tup l) h
  | [.ref n] => match h[n]? with
    | some (.lst l) => .ok (.tup l) h
    | _ => .bad
  | _ => .bad
theorem ok_tuple : OkB K C bTuple (fun xs H Q => ∃ p ys, xs = [.ref p] ∧ ((SqL K H p ys ∧ ∀ l, H l = none → Q (.ref l) (upd H l (.tup ys))) ∨ (SqT K H p ys ∧ Q (.ref p) H))) := by
  intro E ρ h H l vs Q rh rvs m
  unfold bTuple at m
  split at m
  · obtain ⟨v, rfl, rv⟩ := rvs.one
    obtain ⟨a, ws, rfl, s, rs⟩ := rv.of_tup
    exact ⟨a, ws, rfl, .inr ⟨s, m ρ H .refl rh _ (.tup s rs)⟩⟩
  · split at m
    · rename_i l' el
      obtain ⟨v, rfl, rv⟩ := rvs.one
      obtain ⟨a, rfl, ea⟩ := rv.of_ref
      obtain ⟨a', ws, p1, p2, p3⟩ := rh.lst el
      rw [ea] at p1; cases p1
      exact ⟨a, ws, rfl, .inl ⟨SqL.of p2, fun p hp => m ρ _ (go_new rh hp) (rh.new hp) _ (.tup (SqT.of upd_same) (p3.go (go_new rh hp)))⟩⟩
    · exact m.elim
  · exact m.elim
def bList : FB := fun l h => match l with
  | [d] => match (sqOf d h).bind fun S => S.items h with
    | some l => .ok (.ref h.length) (h ++ [.lst l])
    | none => .bad
  | _ => .bad
theorem ok_list : OkB K C bList (fun xs H Q => ∃ p ys, xs = [.ref p] ∧ (SqL K H p ys ∨ SqT K H p ys) ∧ ∀ l, H l = none → Q (.ref l) (upd H l (.lst ys))) := by
  intro E ρ h H l vs Q rh rvs m
  unfold bList at m
  split at m
  · rename_i d
    obtain ⟨v, rfl, rv⟩ := rvs.one
    split at m
    · rename_i l' el
      obtain ⟨S, e1, e2⟩ := Option.bind_eq_some_iff.mp el
      obtain ⟨κ, a, ys, rfl, s, so⟩ := sqOf_ok rh rv e1
      obtain ⟨ws, s', rs⟩ := so.at_ .refl rh e2
      refine ⟨a, ws, rfl, ?_, fun p hp => m _ _ (go_add rh hp) (rh.add hp (.lst (rs.go (go_add rh hp)))) _ (RD_new rh)⟩
      cases κ with
      | lst => exact .inl s'
      | tup => exact .inr s'
    · exact m.elim
  · exact m.elim
end
/-! ### isinstance -/
def tyN : Nat → String
  | 0 => "int"
  | 1 => "bool"
  | 2 => "str"
  | 3 => "tuple"
  | 4 => "list"
  | 5 => "dict"
  | _ => "NoneType"
def isiN (j i : Nat) : Bool := Nat.beq j i || (Nat.beq j 1 && Nat.beq i 0)
theorem kit_tab : ∀ i < 6, ∀ j < 7, L2.kitB (tyN j) (tyN i) = some (isiN j i) := by decide +kernel
def tyD (d : D) (h : List O) : Option Nat := match d with
  | .non => some 6
  | .bl _ => some 1
  | .int _ => some 0
  | .str _ => some 2
  | .tup _ => some 3
  | .ref n => match h[n]? with
    | some (.lst _) => some 4
    | some (.dct _) => some 5
    | none => none
def gIsi (i : Nat) (g : GE) : GE := fun δ h => (g δ h).bind fun d h1 => match tyD d h1 with
  | some j => .ok (.bl (isiN j i)) h1
  | none => .bad
theorem tyD_ok {K : PySem.W.Frag} {C : Cls} {ρ : List Addr} {H : Hp} {h : List O} {d : D} {v : V} {j : Nat} (rh : RH K C ρ h H) (r : RD K ρ H d v) (e : tyD d h = some j) : j < 7 ∧ TyX K H v (.type (tyN j)) := by
  unfold tyD at e
  split at e
  · cases e; rw [r.of_non]; exact ⟨by decide, .base .non⟩
  · cases e; rw [r.of_bl]; exact ⟨by decide, .base (.bl _)⟩
  · cases e; rw [r.of_int]; exact ⟨by decide, .base (.int _)⟩
  · cases e; rw [r.of_str]; exact ⟨by decide, .base (.str _)⟩
  · cases e
    obtain ⟨a, vs, rfl, s, _⟩ := r.of_tup
    refine ⟨by decide, ?_⟩
    rcases s with (s | ⟨o, s⟩) | ⟨o, its, n, k1, k2, _⟩
    · exact .base (.tup s)
    · exact .fTuple s
    · exact .kTuple k1 k2
  · obtain ⟨a, rfl, ea⟩ := r.of_ref
    split at e
    · rename_i l el
      cases e
      obtain ⟨a', vs, p1, p2, p3⟩ := rh.lst el
      rw [ea] at p1; cases p1
      exact ⟨by decide, .base (.lst p2)⟩
    · rename_i l el
      cases e
      obtain ⟨a', vs, p1, p2, p3⟩ := rh.dct el
      rw [ea] at p1; cases p1
      exact ⟨by decide, .base (.dK p2)⟩
    · cases e
theorem boot_isi : bootBuiltins "isinstance" = some (.builtin "isinstance") := by decide +kernel
section
variable {X : Cx} {C : Cls} {W : WX} {e : Expr} {ga : GE}
theorem sIsi {T : String} {p p2 pos : Pos} (i : Nat) (hi : i < 6) (hT : tyN i = T) (ha : PE X e (rd X.K C W ga)) (hg : Gl X "isinstance") (hm : X.mg "isinstance" = none) (hgT : Gl X (Str.ofString T)) (hmT : X.mg (Str.ofString T) = none) (hvT : bootBuiltins (Str.ofString T) = some (.type T))
    (hn : Str.ofString T ≠ "__name__" := by decide) (hd : (Str.ofString T == ("__debug__" : Str)) = false := by decide)
    (hs : starEach [e, .Name (Str.ofString T) p2] X.env = (false, eval e X.env) :: starEach [.Name (Str.ofString T) p2] X.env := by rfl) (hs2 : starEach [.Name (Str.ofString T) p2] X.env = (false, eval (.Name (Str.ofString T) p2) X.env) :: starEach [] X.env := by rfl)
    (hpl : (backTo pos (starEach [.Name (Str.ofString T) p2] X.env)).any (·.1) = false := by rfl) :
    PE X (.Call (.Name "isinstance" p) [e, .Name (Str.ofString T) p2] [] pos) (rd X.K C W (gIsi i ga)) :=
  PE_imp (pe_callB call_isi hg hm boot_isi (pa_cons ha (pa_cons (pe_bltn (v := .ty T) hgT hmT hvT rfl hn hd) pa_nil hs2) hs) (by decide) (by decide) hs hpl) fun σ H Q ⟨ρ, h, δ, rh, rs, m⟩ =>
    ⟨ρ, h, δ, rh, rs, m.bind.mono fun ρ1 h1 H1 d g1 rh1 q1 v rv => by
      split at q1
      · rename_i j ej
        obtain ⟨lt, ty⟩ := tyD_ok rh1 rv ej
        refine ⟨v, .ty T, _, .type T, isiN j i, rfl, .ty T, ty, ?_, q1 ρ1 H1 .refl rh1 _ .bl⟩
        rw [← hT]
        exact kit_ty (kit_tab i hi j lt)
      · exact q1.elim⟩
end
end Ev
set_option Elab.async false
set_option linter.all false
set_option maxRecDepth 100000
set_option maxHeartbeats 2000000
/-! Ev14: methods of built-in types; slices; texts and numbers. -/
namespace Ev
open PySem PySem.Spec L2

/-! ### methods: 0 a text's, 1 a list's, 2 a dict's -/
abbrev FM := D → List D → List O → R D
def recv (k : Nat) (d : D) (h : List O) : Bool := match d with
  | .str _ => Nat.beq k 0
  | .ref n => match h[n]? with
    | some (.lst _) => Nat.beq k 1
    | some (.dct _) => Nat.beq k 2
    | none => false
  | _ => false
def recN : Nat → String
  | 0 => "str"
  | 1 => "list"
  | _ => "dict"
def gM (k : Nat) (f : FM) (g : GE) (t : GA) : GE := fun δ h => (g δ h).bind fun d h1 => if recv k d h1 then (t δ h1).bind fun l h2 => f d l h2 else .bad
def OkM (K : PySem.W.Frag) (C : Cls) (f : FM) (r : V → List V → Hp → VK → Prop) : Prop := ∀ E ρ h H d l v vs Q, RH K C ρ h H → RD K ρ H d v → RDs K ρ H l vs → Res K C E ρ H (f d l h) (fun ρ' _ H' d => ∀ v, RD K ρ' H' d v → Q v H') → r v vs H Q
section
variable {K : PySem.W.Frag} {C : Cls} {ρ : List Addr} {H : Hp} {h : List O}
theorem recv_ok {k : Nat} {d : D} {v : V} (rh : RH K C ρ h H) (r : RD K ρ H d v) (e : recv k d h = true) : tyV K (recN k) v H := by
  unfold recv at e
  split at e
  · rw [r.of_str]
    rw [Nat.eq_of_beq_eq_true e]
    exact (rfl : recN 0 = "str")
  · obtain ⟨a, rfl, ea⟩ := r.of_ref
    split at e
    · rename_i l el
      obtain ⟨a', vs, p1, p2, p3⟩ := rh.lst el
      rw [ea] at p1; cases p1
      rw [Nat.eq_of_beq_eq_true e]
      exact .inl ⟨rfl, vs, SqL.of p2⟩
    · rename_i l el
      obtain ⟨a', vs, p1, p2, p3⟩ := rh.dct el
      rw [ea] at p1; cases p1
      rw [Nat.eq_of_beq_eq_true e]
      exact .inr (.inr (.inl ⟨rfl, .inl ⟨vs, p2⟩⟩))
    · cases e
  · cases e
end
section
variable {X : Cx} {C : Cls} {W : WX} {o e : Expr} {es : List Expr} {go : GE} {t : GA} {f : FM} {r : V → List V → Hp → VK → Prop} {name : Str} {apos cpos : Pos} {id : String} {k : Nat}
theorem m_of {K : PySem.W.Frag} (hr : OkM K C f r) {σ : L2.St} {H : Hp} {Q : VK} (q : rd K C W (gM k f go t) σ H Q) : tBM K (recN k) r (rd K C W go) (rdA K C W t) σ H Q := by
  obtain ⟨ρ, h, δ, rh, rs, m⟩ := q
  refine ⟨ρ, h, δ, rh, rs, m.bind.mono fun ρ1 h1 H1 d g1 rh1 q1 v rv => ?_⟩
  split at q1
  · rename_i er
    exact ⟨recv_ok rh1 rv er, ρ1, h1, δ, rh1, rs.go g1, q1.bind.mono fun ρ2 h2 H2 l g2 rh2 q2 vs rvs => hr _ ρ2 h2 H2 d l v vs Q rh2 (rv.go g2) rvs q2⟩
  · exact q1.elim
theorem sM (pa : PlainAttrs (recN k)) (slot : Slot (recN k) name id) (hty : typeOf (.builtin id) = pure (.type "method_descriptor")) (hm : MtR X id r) (hr : OkM X.K C f r) (ho : PE X o (rd X.K C W go)) (ha : PA X (e :: es) (rdA X.K C W t))
    (hbase : attributeBase o name X.env (eval o X.env) = eval o X.env := by rfl)
    (hfew : ((backTo cpos (starEach (e :: es) X.env)).all (fun x => !x.1) && (backToKw cpos (keywordEach [] X.env)).all (fun x => x.1.isSome)
      && decide ((e :: es).length + ([] : List Keyword).length + (if ([] : List Keyword).isEmpty then 0 else 1) < 30)) = true := by rfl)
    (hline : (apos.endLine == cpos.line) = true := by rfl) (hs : starEach (e :: es) X.env = (false, eval e X.env) :: starEach es X.env := by rfl) (hplain : (backTo cpos (starEach es X.env)).any (·.1) = false := by rfl) :
    PE X (.Call (.Attribute o name apos) (e :: es) [] cpos) (rd X.K C W (gM k f go t)) :=
  PE_imp (pe_bm pa slot hty hm ho ha hbase hfew hline hs hplain) fun _ _ _ q => m_of hr q
end
section
variable {K : PySem.W.Frag} {C : Cls} {ρ : List Addr} {H : Hp} {h : List O}
def mAppend : FM := fun d l h => match d, l with
  | .ref n, [x] => match h[n]? with
    | some (.lst ys) => if Nat.blt ys.length line then .ok .non (h.set n (.lst (ys ++ [x]))) else .bad
    | _ => .bad
  | _, _ => .bad
theorem lt_line {n : Nat} (h : Nat.blt n line = true) : n < sizeLine := Nat.lt_of_lt_of_le (by simpa using h) (line_ok (Nat.ble_eq.mpr (Nat.le_refl _)))
theorem ok_append : OkM K C mAppend rAppend := by
  intro E ρ h H d l v vs Q rh rv rvs m
  unfold mAppend at m
  split at m
  · rename_i n x
    split at m
    · rename_i ys ey
      split at m
      · rename_i lt
        obtain ⟨a, rfl, ea⟩ := rv.of_ref
        obtain ⟨a', ws, p1, p2, p3⟩ := rh.lst ey
        rw [ea] at p1; cases p1
        obtain ⟨w, rfl, rw'⟩ := rvs.one
        exact ⟨a, ws, w, rfl, rfl, p2, by rw [p3.length]; exact lt_line lt, m ρ _ (go_set rh ea) (rh.set ea (.lst ((p3.snoc rw').go (go_set rh ea)))) _ .non⟩
      · exact m.elim
    · exact m.elim
  · exact m.elim
def strsOf : List D → Option (List Str)
  | [] => some []
  | .str s :: l => match strsOf l with
    | some r => some (⟨s.toArray⟩ :: r)
    | none => none
  | _ :: _ => none
theorem RDs.strs : ∀ {l : List D} {ss : List Str} {vs : List V}, strsOf l = some ss → RDs K ρ H l vs → vs = ss.map V.str
  | [], _, _, e, r => by cases e; rw [r.of_nil]; rfl
  | d :: l, _, _, e, r => by
    unfold strsOf at e
    split at e
    · rename_i z; cases z
    · rename_i s l' z
      cases z
      split at e
      · rename_i q e1
        cases e
        obtain ⟨v, t, rfl, r1, r2⟩ := r.of_cons
        rw [r1.of_str, RDs.strs e1 r2]
        rfl
      · cases e
    · cases e
theorem RDs.ofStrs : ∀ ss : List Str, RDs K ρ H (ss.map fun s => D.str s.cps.toList) (ss.map V.str)
  | [] => .nil
  | s :: r => .cons .strOf (RDs.ofStrs r)
def sumLen : List Str → Nat
  | [] => 0
  | s :: r => s.length + sumLen r
theorem sumLen_eq : ∀ ss : List Str, sumLen ss = (ss.map (·.length)).sum
  | [] => rfl
  | s :: r => by show s.length + sumLen r = _; rw [sumLen_eq r]; rfl
def mJoin : FM := fun d l h => match d, l with
  | .str a, [c] => match (sqOf c h).bind fun S => S.items h with
    | some ys => match strsOf ys with
      | some ss => if Nat.ble (sumLen ss + ss.length * a.length) 16777216 then .ok (.str (Txt.join ⟨a.toArray⟩ ss).cps.toList) h else .bad
      | none => .bad
    | none => .bad
  | _, _ => .bad
theorem ok_join : OkM K C mJoin (fun x xs H Q => ∃ a p, ∃ ys : List Str, x = .str a ∧ xs = [.ref p] ∧ (SqL K H p (ys.map V.str) ∨ SqT K H p (ys.map V.str)) ∧
    (ys.map (·.length)).sum + ys.length * a.length ≤ 16777216 ∧ Q (.str (Txt.join a ys)) H) := by
  intro E ρ h H d l v vs Q rh rv rvs m
  unfold mJoin at m
  split at m
  · rename_i a c
    split at m
    · rename_i ys ey
      split at m
      · rename_i ss es
        split at m
        · rename_i le
          cases rv.of_str
          obtain ⟨w, rfl, rw'⟩ := rvs.one
          obtain ⟨S, e1, e2⟩ := Option.bind_eq_some_iff.mp ey
          obtain ⟨κ, p, zs, rfl, s, so⟩ := sqOf_ok rh rw' e1
          obtain ⟨ws, s', rs⟩ := so.at_ .refl rh e2
          have hw := RDs.strs es rs
          subst hw
          refine ⟨_, p, ss, rfl, rfl, ?_, ?_, m ρ H .refl rh _ .strOf⟩
          · cases κ with
            | lst => exact .inl s'
            | tup => exact .inr s'
          · rw [← sumLen_eq]
            have := Nat.le_of_ble_eq_true le
            show sumLen ss + ss.length * (⟨a.toArray⟩ : Str).length ≤ _
            rw [str_len]
            exact this
        · exact m.elim
      · exact m.elim
    · exact m.elim
  · exact m.elim
def mSplit : FM := fun d l h => match d, l with
  | .str a, [.str b] => if Nat.blt 0 b.length && Nat.ble (a.length + 2) line then .ok (.ref h.length) (h ++ [.lst ((Txt.split ⟨a.toArray⟩ ⟨b.toArray⟩).map fun s => D.str s.cps.toList)]) else .bad
  | _, _ => .bad
theorem ok_split : OkM K C mSplit (fun x xs H Q => ∃ a b, x = .str a ∧ xs = [.str b] ∧ (b.length == 0) = false ∧ a.length + 2 ≤ sizeLine ∧ rNewStrs (Txt.split a b) H Q) := by
  intro E ρ h H d l v vs Q rh rv rvs m
  unfold mSplit at m
  split at m
  · rename_i a b
    split at m
    · rename_i c
      rw [Bool.and_eq_true] at c
      cases rv.of_str
      obtain ⟨w, rfl, rw'⟩ := rvs.one
      cases rw'.of_str
      refine ⟨_, _, rfl, rfl, ?_, ?_, fun p hp => m _ _ (go_add rh hp) (rh.add hp (.lst (RDs.ofStrs _))) _ (RD_new rh)⟩
      · have c1 : 0 < b.length := by simpa using c.1
        rw [str_len, beq_eq_false_iff_ne]
        omega
      · rw [str_len]
        exact line_ok c.2
    · exact m.elim
  · exact m.elim
end
end Ev
set_option Elab.async false
set_option linter.all false
set_option maxRecDepth 100000
set_option maxHeartbeats 2000000
/-! Ev15: slices, displays of dicts, numbers as texts. -/
namespace Ev
open PySem PySem.Spec L2

/-! ### slices -/
def cutL {α : Type} (l : List α) (lo hi : Option Int) : List α := (l.drop (HT.sIx l.length 0 lo)).take (HT.sIx l.length l.length hi - HT.sIx l.length 0 lo)
def gPart : Option GE → Sl → List O → R (Option Int)
  | none => fun _ h => .ok none h
  | some g => fun δ h => (g δ h).bind fun d h1 => match d with
    | .int i => .ok (some i) h1
    | _ => .bad
def slO (d : D) (lo hi : Option Int) (h : List O) : R D := match d with
  | .str s => if Nat.ble s.length line then .ok (.str (cutL s lo hi)) h else .bad
  | .tup l => .ok (.tup (cutL l lo hi)) h
  | .ref n => match h[n]? with
    | some (.lst l) => .ok (.ref h.length) (h ++ [.lst (cutL l lo hi)])
    | _ => .bad
  | _ => .bad
def gSl (g : GE) (pl ph : Option GE) : GE := fun δ h => (g δ h).bind fun d h1 => (gPart pl δ h1).bind fun lo h2 => (gPart ph δ h2).bind fun hi h3 => slO d lo hi h3
section
variable {X : Cx} {C : Cls} {W : WX} {e : Expr} {ga : GE} {lo hi : Option Expr} {pl ph : Option GE} {pos p2 : Pos}
def rdO (K : PySem.W.Frag) (C : Cls) (W : WX) (p : Option GE) : TO := fun σ H Q => ∃ ρ h δ, RH K C ρ h H ∧ RS K ρ H δ σ ∧ Res K C (fun x dx H' => W x dx σ H') ρ H (gPart p δ h) fun _ _ H' o => Q o H'
theorem PO_imp {e : Option Expr} {t t' : TO} (h : PO X e t) (i : ∀ σ H Q, t' σ H Q → t σ H Q) : PO X e t' := ⟨fun pins s σ H Q I q => h.run pins s σ H Q I (i σ H Q q)⟩
theorem oNone : PO X none (rdO X.K C W none) := PO_imp po_none fun σ H Q ⟨ρ, h, δ, rh, rs, m⟩ => m ρ H .refl rh
theorem oSome (ha : PE X e (rd X.K C W ga)) : PO X (some e) (rdO X.K C W (some ga)) := PO_imp (po_some ha) fun σ H Q ⟨ρ, h, δ, rh, rs, m⟩ => ⟨ρ, h, δ, rh, rs, by
  refine Res.mono (Res.bind (r := ga δ h) m) fun ρ1 h1 H1 d g1 rh1 q1 v rv => ?_
  cases d with
  | int i => exact ⟨i, rv.of_int, q1 ρ1 H1 .refl rh1⟩
  | _ => exact q1.elim⟩
theorem RDs.cut {K : PySem.W.Frag} {ρ : List Addr} {H : Hp} {l : List D} {vs : List V} (r : RDs K ρ H l vs) (lo hi : Option Int) : RDs K ρ H (cutL l lo hi) (cutV vs lo hi) := by
  unfold cutL cutV
  rw [r.length]
  exact (r.drop _).take _
theorem cut_whole {α : Type} {l : List α} {lo hi : Option Int} (w : HT.sIx l.length 0 lo = 0 ∧ HT.sIx l.length l.length hi = l.length) : cutL l lo hi = l := by
  unfold cutL
  rw [w.1, w.2]
  simp
def rSlO (K : PySem.W.Frag) : V → Option Int → Option Int → Hp → VK → Prop := fun x lo hi H Q => rSlS x lo hi H Q ∨ rSlA K x lo hi H Q ∨ rSlL K x lo hi H Q
theorem sl_O : SlR X (rSlO X.K) := sl_str.or (sl_tupA.or sl_list)
theorem slO_ok {K : PySem.W.Frag} {ρ : List Addr} {h : List O} {H : Hp} {d : D} {v : V} {lo hi : Option Int} {E : Value → Option Addr → Hp → Prop} {Q : VK} (rh : RH K C ρ h H) (rv : RD K ρ H d v)
    (m : Res K C E ρ H (slO d lo hi h) (fun ρ' _ H' d => ∀ v, RD K ρ' H' d v → Q v H')) : rSlO K v lo hi H Q := by
  unfold slO at m
  split at m
  · split at m
    · rename_i s le
      cases rv.of_str
      refine .inl ⟨_, rfl, by rw [str_len]; exact line_ok le, m ρ H .refl rh _ ?_⟩
      unfold RD cutS cutL
      rw [str_len]
    · exact m.elim
  · rename_i l
    obtain ⟨a, vs, rfl, s, rs⟩ := rv.of_tup
    refine .inr (.inl ⟨a, vs, rfl, s, fun w => m ρ H .refl rh _ ?_, fun _ p hp => m ρ _ (go_new rh hp) (rh.new hp) _ (.tup (SqT.of upd_same) ((rs.cut lo hi).go (go_new rh hp)))⟩)
    rw [rs.length] at w
    rw [cut_whole w]
    exact .tup s rs
  · split at m
    · rename_i l el
      obtain ⟨a, rfl, ea⟩ := rv.of_ref
      obtain ⟨a', ws, p1, p2, p3⟩ := rh.lst el
      rw [ea] at p1; cases p1
      exact .inr (.inr ⟨a, ws, rfl, SqL.of p2, fun p hp => m _ _ (go_add rh hp) (rh.add hp (.lst ((p3.cut lo hi).go (go_add rh hp)))) _ (RD_new rh)⟩)
    · exact m.elim
  · exact m.elim
theorem sSl (ha : PE X e (rd X.K C W ga)) (hl : PO X lo (rdO X.K C W pl)) (hh : PO X hi (rdO X.K C W ph)) : PE X (.Subscript e (.Slice lo hi none p2) pos) (rd X.K C W (gSl ga pl ph)) :=
  PE_imp (pe_slice sl_O ha hl hh) fun σ H Q ⟨ρ, h, δ, rh, rs, m⟩ => ⟨ρ, h, δ, rh, rs, m.bind.mono fun ρ1 h1 H1 d g1 rh1 q1 v rv => ⟨ρ1, h1, δ, rh1, rs.go g1, q1.bind.mono fun ρ2 h2 H2 l g2 rh2 q2 =>
    ⟨ρ2, h2, δ, rh2, (rs.go g1).go g2, q2.bind.mono fun ρ3 h3 H3 u g3 rh3 q3 => slO_ok rh3 ((rv.go g2).go g3) q3⟩⟩⟩
/-! ### displays of dicts -/
def gPairs : List (GE × GE) → Sl → List O → R (List (D × D))
  | [] => fun _ h => .ok [] h
  | p :: r => fun δ h => (p.1 δ h).bind fun k h1 => (p.2 δ h1).bind fun v h2 => (gPairs r δ h2).bind fun l h3 => .ok ((k, v) :: l) h3
def dmerge (acc : List (KD × D)) : List (D × D) → Option (List (KD × D))
  | [] => some acc
  | p :: r => match kdOf p.1 with
    | some k => dmerge (dput k p.2 acc) r
    | none => none
def gDict (ps : List (GE × GE)) : GE := fun δ h => (gPairs ps δ (h ++ [.dct []])).bind fun l h1 => match h1[h.length]? with
  | some (.dct []) => if Nat.ble l.length 15 then match dmerge [] l with
      | some m => .ok (.ref h.length) (h1.set h.length (.dct m))
      | none => .bad
    else .bad
  | _ => .bad
def gDict0 : GE := fun _ h => .ok (.ref h.length) (h ++ [.dct []])
theorem sDict0 : PE X (.Dict [] [] pos) (rd X.K C W gDict0) := PE_imp pe_dnewK fun σ H Q ⟨ρ, h, δ, rh, rs, m⟩ p hp => m _ _ (go_add rh hp) (rh.add hp ⟨[], rfl, rfl⟩) _ (RD_new rh)
def RPs (K : PySem.W.Frag) (ρ : List Addr) (H : Hp) : List (D × D) → List (V × V) → Prop
  | [], ps => ps = []
  | q :: l, ps => ∃ k v r, ps = (k, v) :: r ∧ RD K ρ H q.1 k ∧ RD K ρ H q.2 v ∧ RPs K ρ H l r
theorem RPs.go {K : PySem.W.Frag} {ρ ρ' : List Addr} {H H' : Hp} (g : Go K ρ H ρ' H') : ∀ {l : List (D × D)} {ps : List (V × V)}, RPs K ρ H l ps → RPs K ρ' H' l ps
  | [], _, r => r
  | q :: l, _, ⟨k, v, r, e, a, b, c⟩ => ⟨k, v, r, e, a.go g, b.go g, RPs.go g c⟩
theorem RO.dct0 {K : PySem.W.Frag} {ρ : List Addr} {H : Hp} : RO K ρ H (.dct []) (.dK []) := ⟨[], rfl, rfl⟩
theorem pairs_of {K : PySem.W.Frag} {σ : L2.St} {P : List (V × V) → Hp → Prop} : ∀ (ps : List (GE × GE)) {ρ : List Addr} {h : List O} {H : Hp} {δ : Sl}, RH K C ρ h H → RS K ρ H δ σ →
    Res K C (fun x dx H' => W x dx σ H') ρ H (gPairs ps δ h) (fun ρ' h' H' l => ∀ vs, RPs K ρ' H' l vs → P vs H') → tPairs (ps.map fun p => (rd K C W p.1, rd K C W p.2)) σ H P
  | [], ρ, h, H, δ, rh, rs, m => m ρ H .refl rh [] rfl
  | p :: r, ρ, h, H, δ, rh, rs, m => by
    unfold gPairs at m
    refine ⟨ρ, h, δ, rh, rs, m.bind.mono fun ρ1 h1 H1 k g1 rh1 q1 x rx => ⟨ρ1, h1, δ, rh1, rs.go g1, q1.bind.mono fun ρ2 h2 H2 v g2 rh2 q2 y ry => ?_⟩⟩
    refine pairs_of r rh2 ((rs.go g1).go g2) (q2.bind.mono fun ρ3 h3 H3 l g3 rh3 q3 vs rvs => ?_)
    exact q3 ρ3 H3 .refl rh3 _ ⟨x, y, vs, rfl, (rx.go g2).go g3, ry.go g3, rvs⟩
theorem dmerge_ok {K : PySem.W.Frag} {ρ : List Addr} {H : Hp} : ∀ {l : List (D × D)} {ps : List (V × V)} {acc m : List (KD × D)} {kvs : List (Key × V)}, RPs K ρ H l ps → RKs K ρ H acc kvs → dmerge acc l = some m →
    ∃ more : List (Key × V), ps = more.map (fun kv => (kV kv.1, kv.2)) ∧ more.length = l.length ∧ RKs K ρ H m (mergeK kvs more)
  | [], _, acc, m, kvs, r, rk, e => by
    cases e
    exact ⟨[], r, rfl, rk⟩
  | q :: l, _, acc, m, kvs, ⟨k, v, t, ep, a, b, c⟩, rk, e => by
    unfold dmerge at e
    split at e
    · rename_i kd ek
      obtain ⟨more, e1, e2, e3⟩ := dmerge_ok c (rk.put b) e
      refine ⟨(kOf kd, v) :: more, ?_, by simp [e2], e3⟩
      rw [ep, kdOf_ok ek a, e1]
      rfl
    · cases e
theorem sDict {keys : List (Option Expr)} {values : List Expr} {ps : List (GE × GE)} (h : PPs X pos keys values (ps.map fun p => (rd X.K C W p.1, rd X.K C W p.2))) (hall : keys.all (·.isSome) = true) (hl : keys.length = values.length) (h0 : keys ≠ []) (h15 : keys.length ≤ 15) :
    PE X (.Dict keys values pos) (rd X.K C W (gDict ps)) :=
  PE_imp (pe_disp h hall hl h0 h15) fun σ H Q ⟨ρ, h, δ, rh, rs, m⟩ p hp => by
    have e0 : (ρ ++ [p])[h.length]? = some p := by
      obtain ⟨a, e, z⟩ := (RD_new (H' := upd H p (.dK [])) (p := p) rh).of_ref
      cases e
      exact z
    refine pairs_of ps (rh.add hp RO.dct0) (rs.go (go_add rh hp)) ((m.bind.go (go_add rh hp)).mono fun ρ1 h1 H1 l g1 rh1 q1 vs rvs => ?_)
    split at q1
    · rename_i e1
      obtain ⟨a', kvs, p1, p2, p3⟩ := rh1.dct e1
      have ea : ρ1[h.length]? = some p := g1.get e0
      rw [ea] at p1; cases p1
      have : kvs = [] := p3
      subst this
      split at q1
      · rename_i le
        split at q1
        · rename_i mm em
          obtain ⟨more, e2, e3, e4⟩ := dmerge_ok rvs (show RKs X.K ρ1 H1 [] [] from rfl) em
          exact ⟨p2, more, e2, by rw [e3]; exact Nat.le_of_ble_eq_true le, q1 ρ1 _ (go_set rh1 ea) (rh1.set ea ⟨_, rfl, e4.go (go_set rh1 ea)⟩) _ (.ref ea)⟩
        · exact q1.elim
      · exact q1.elim
    · exact q1.elim
theorem ppNil : PPs X pos [] [] (([] : List (GE × GE)).map fun p => (rd X.K C W p.1, rd X.K C W p.2)) := pps_nil
theorem ppCons {k v : Expr} {ks : List (Option Expr)} {vs : List Expr} {gk gv : GE} {ps : List (GE × GE)} (hk : PE X k (rd X.K C W gk)) (hv : PE X v (rd X.K C W gv)) (hr : PPs X pos ks vs (ps.map fun p => (rd X.K C W p.1, rd X.K C W p.2))) :
    PPs X pos (some k :: ks) (v :: vs) (((gk, gv) :: ps).map fun p => (rd X.K C W p.1, rd X.K C W p.2)) := pps_cons hk hv hr
end
end Ev
set_option Elab.async false
set_option linter.all false
set_option maxRecDepth 100000
set_option maxHeartbeats 2000000
/-! Ev16: an own error's __init__ (super().__init__(text, x); self.f = x), run. -/
namespace Ev
open PySem PySem.W PySem.Calls PyProof.Rows PySem.HandSPX
open PySem.Builtin PySem.Builtin.ObjectAttr

theorem excTail_ne {bmB l : List Value} (n : bmB.isEmpty = false) (e : excTail bmB l = true) : l.isEmpty = false := by
  cases l with
  | nil =>
    have : [] = bmB := beq_iff_eq.mp e
    rw [← this] at n
    exact n
  | cons _ _ => rfl
section
variable {prog : Program} {w : World} {A : Around} {R : Result → Shared → Prop} {hp : Heap} {g : Array GenState} {d : Drawn} {t : Nat} {os : OsState}
/-- the first attribute of an own error over any built-in one -/
theorem osaB {K : Frag} {name : Str} {tk : Tok} {v : Value} {x C : Addr} {fv : Array Value} {cd : ClassData} {bmB : List Value} (nB : bmB.isEmpty = false) (ob : bmB.contains (.type "object") = true) (pass : ∀ self : Value, refuseLoop self "__setattr__" bmB = pure ())
    (X : K.In hp) (hx : hp.get? x = some { cls := .ref C, data := .fields fv }) (hcd : clsIn K C = some cd) (hm : excTail bmB cd.mro = true) (hh : cd.hasDict = true) (ha : findIn K (.ref C) name = some none)
    (q : ∀ h' tk' dx, (∀ b o, b ≠ x → hp.get? b = some o → h'.get? b = some o) → hp.objs.size ≤ dx → dx ≠ x → h'.get? x = some { cls := .ref C, dict := some dx, data := .fields fv } →
      h'.Ns1 dx (fun y => if y = name then some v else none) → R (.ok (.ret .none)) ⟨h', g, d, tk', os⟩) :
    codeAny (model prog w) A (.call (.builtin "object.__setattr__") ⟨[.ref x, .str name tk, v], []⟩) R ⟨hp, g, d, t, os⟩ := by
  have I : InstAt hp x { cls := .ref C, data := .fields fv } C none := ⟨hx, rfl, rfl, trivial⟩
  have SF := F.store_object
  have hob : cd.mro.contains (.type "object") = true := (excTail_contains "object" _ hm).trans ob
  have apart : x ≠ hp.objs.size := Nat.ne_of_lt (Heap.lt_size hx)
  have sub : Looks (model prog w) hp (isInstance (.ref x) (.type "object")) true := I.type.andThen (looks_mroIn X (by unfold mroIn; rw [hcd, Option.bind_some, if_neg (by rw [excTail_ne nB hm]; decide), hob]))
  refine codeAny_call_builtin SF.slot.plain SF.entry (@check_slot (model prog w) _ _ ⟨hp, g, d, t, os⟩ "object.__setattr__" "object" "__setattr__" (.ref x) [.str name tk, v] [] _ SF.kind SF.split sub (SF.args (.ref x) (.str name tk) v) ?_)
  have way : Looks (model prog w) hp (mroOf (.ref C)) cd.mro := (looks_clsIn X hcd).andThen .now
  have none_ : Looks (model prog w) hp (storeTaker? none) none := .now
  have cls_ : Looks (model prog w) hp (classData C) cd := looks_clsIn X hcd
  rw [osa_eq, refuse_eq]
  refine wpAny_bind (wpAny_bind (I.type.at (wpAny_bind (way.at ?_))))
  rw [excTail_pass _ (pass _) _ hm]
  refine wpAny_pure (wpAny_bind (I.type.at (wpAny_bind ((looks_findIn X ha).at (wpAny_bind (none_.at ?_))))))
  show wpAny _ _ (storeInOwnDict (.ref x) (.ref C) (.str name tk) name v false) _ _ _
  obtain ⟨nm, bs, mro, ns, qn, hd, sn, sb, ab, col, del⟩ := cd
  dsimp only at hh
  subst hh
  unfold storeInOwnDict ownDictForStores
  repeat (first | with_reducible refine store_in_new ?_ ?_ | with_reducible refine wpAny_loadPart_at hx ?_ | with_reducible refine cls_.at ?_ | wp_step)
  · exact ⟨_, #[], _, (Heap.get?_update_ne _ _ _ _ apart.symm).trans (Heap.get?_push_at rfl rfl), rfl, fun e he => absurd he (by simp), fun _ => rfl⟩
  · intro h' tk' n' same
    have hx1 : (hp.push { cls := .type "dict", data := .dict #[] }).get? x = some { cls := .ref C, data := .fields fv } := Heap.get?_push_of_some _ hx
    refine q h' tk' hp.objs.size (fun b o nb z => ?_) (Nat.le_refl _) apart.symm ?_ n'
    · exact (same.2 b (Nat.ne_of_lt (Heap.lt_size z))).trans ((Heap.get?_update_ne _ _ _ _ nb).trans (Heap.get?_push_of_some _ z))
    · exact (same.2 x apart).trans (Heap.get?_update_self _ hx1 rfl)
end

/-- what is known of an own error's class: at C; its __init__ at fI (parameters sf, pl), which keeps its argument as fld -/
structure ErrK (P : Program) (K : Frag) (C fI : Addr) (B newId initId : String) (bmB : List Value) (fld sf pl : Str) : Prop where
  fb : ExcBaseFacts B newId initId bmB
  pass : ∀ self : Value, refuseLoop self "__setattr__" bmB = pure ()
  nB : bmB.isEmpty = false
  ob : bmB.contains (.type "object") = true
  kf : KxsFacts B initId
  q : excInitIn K C bmB newId = true
  cd : ∃ cd, clsIn K C = some cd ∧ excTail bmB cd.mro = true ∧ cd.hasDict = true
  init : findIn K (.ref C) "__init__" = some (some (.ref fI))
  tI : typeIn K (.ref fI) = some (.type "function")
  fn : ∃ (qual : Str) (params : Arguments) (scope : Scope) (msg : Str) (j : Nat) (p0 p1 p2 p3 p4 p5 p6 p7 p8 p9 p10 : Pos) (dV kV doc pm : Value) (an : Option Addr) (cda cc : Addr) (ct oc : Value) (od : Option Addr) (osl : Array (Option Value))
    (ccl : Value) (cdd : Option Addr) (vs : Array Value) (ccs : Array (Option Value)) (file : Str) (tf : Tok) (cl : Value) (cld : Option Addr) (csl : Array (Option Value)) (ar : Arg),
    K.lookup fI = some ⟨oc, od, .func (ksFn "__init__" qual params [.Expr (.Call (.Attribute (.Call (.Name "super" p0) [] [] p1) "__init__" p2) [.Constant (.str msg) j p3, .Name pl p4] [] p5) p6, .Assign [.Attribute (.Name sf p7) fld p8] (.Name pl p9) p10] scope dV kV doc pm an (.ref cda) ct cc), osl⟩ ∧
    codeIn K (.ref cda) qual = true ∧ K.lookup cda = some ⟨ccl, cdd, .fields vs, ccs⟩ ∧ vs[2]? = some (.str file tf) ∧ ((P.main.file : Str) == file) = true ∧ K.lookup cc = some ⟨cl, cld, .cell (some (.ref C)), csl⟩ ∧
    (params.posonlyargs ++ params.args).head? = some ar ∧ ar.arg = sf ∧
    (∀ (self u : Value), bindArgs (ksFn "__init__" qual params [.Expr (.Call (.Attribute (.Call (.Name "super" p0) [] [] p1) "__init__" p2) [.Constant (.str msg) j p3, .Name pl p4] [] p5) p6, .Assign [.Attribute (.Name sf p7) fld p8] (.Name pl p9) p10] scope dV kV doc pm an (.ref cda) ct cc) ⟨[self, u], []⟩ = pure [(sf, self), (pl, u)]) ∧
    scope.kind = .function ∧ scope.isCoroutine = false ∧ scope.isGenerator = false ∧ (∀ x ∈ scope.names, x.2 ≠ .cell) ∧ scope.names.lookup sf = some .local ∧ scope.names.lookup pl = some .local ∧ scope.names.lookup ("super" : Str) = some .globalImplicit ∧ scope.names.lookup ("__class__" : Str) = some .free ∧
    ∃ how : Sem Bool, ∀ env : Env, eval (.Call (.Attribute (.Call (.Name "super" p0) [] [] p1) "__init__" p2) [.Constant (.str msg) j p3, .Name pl p4] [] p5) env = (do
      let ov ← attributeBase (.Call (.Name "super" p0) [] [] p1) "__init__" env (eval (.Call (.Name "super" p0) [] [] p1) env)
      standAt p2.atName
      let (f, first) ← holding [ov] (getMethod ov "__init__" how)
      callWith p5 f first (backTo p5 (starEach [.Constant (.str msg) j p3, .Name pl p4] env)) [])
  apart : (sf == pl) = false
  dbg : (pl == ("__debug__" : Str)) = false ∧ (sf == ("__debug__" : Str)) = false
  noSuper : nsIn K mainGlobals "super" = some none
  third : nsIn K cStatics "thirdparty.any" = some none
  sup : ks_superIn K C C "__init__" = some (some (.builtin initId))
  subB : subIn K (.ref C) (.type B) = some true
  self : mroIn K C (.ref C) = some true
  sa : findIn K (.ref C) "__setattr__" = some (some (.builtin "object.__setattr__"))
  noF : findIn K (.ref C) fld = some none
  exC : subIn K (.ref C) (.type "BaseException") = some true
  tyC : typeIn K (.ref C) = some (.type "type")
  kC : keepIn K (.ref C) = true
  top : (P.main.scope.names.lookup ("super" : Str)).isSome = false
theorem boot_super : bootBuiltins "super" = some (.type "super") := by decide +kernel
section
variable {prog : Program} {w : World} {A : Around} {s : Shared} {R : Result → Shared → Prop} {K : Frag} {C fI : Addr} {B newId initId : String} {bmB : List Value} {fld sf pl : Str} {mg mb : Str → Option Value}
theorem init_run (Z : ErrK prog K C fI B newId initId bmB fld sf pl) {x t0 : Addr} {u : Value} (room : A.depth < recursionLimit) (X : K.In s.heap) (nl : s.heap.NoLimit) (hg : s.heap.Ns mainGlobals mg) (hmg : mg "super" = none) (hb : s.heap.Ns builtinsNs mb) (hbb : mb "super" = some (.type "super"))
    (hx : s.heap.get? x = some (excObj C t0 none .none)) (nk : K.lookup x = none)
    (hR : ∀ h' tk dx t1, (∀ b o, b ≠ x → s.heap.get? b = some o → h'.get? b = some o) → s.heap.objs.size ≤ dx → dx ≠ x → h'.get? x = some (excObj C t1 (some dx) .none) → h'.Ns1 dx (fun y => if y = fld then some u else none) → R (.ok (.ret .none)) { s with heap := h', toks := tk }) :
    codeAny (model prog w) A (.call (.ref fI) ⟨[.ref x, u], []⟩) R s := by
  obtain ⟨qual, params, scope, msg, j, p0, p1, p2, p3, p4, p5, p6, p7, p8, p9, p10, dV, kV, doc, pm, an, cda, cc, ct, oc, od, osl, ccl, cdd, vs, ccs, file, tf, cl, cld, csl, ar, f1, f2, f3, f4, f5, f6, f7, f8, f9, k1, k2, k3, k4, k5, k6, k7, k8, how, he⟩ := Z.fn
  obtain ⟨kd, nms, isg, isc, fut⟩ := scope
  have k1 : kd = .function := k1
  subst k1
  obtain ⟨cd, c1, c2, c3⟩ := Z.cd
  obtain ⟨oD, hD, hDt⟩ : ∃ oD, K.lookup C = some oD ∧ oD.data = .cls cd := by
    have z := c1
    unfold clsIn at z
    split at z
    · rename_i c d cd' sl ho
      cases z
      exact ⟨_, ho, rfl⟩
    · cases z
  refine ks_codeAny_call_defAt (fd := ksFn "__init__" qual params _ ⟨.function, nms, isg, isc, fut⟩ dV kV doc pm an (.ref cda) ct cc) (binds := [(sf, .ref x), (pl, u)]) room (X _ _ f1) rfl nl (codeRec_of X f2) rfl (BindsTo.of_eq (f9 _ _)) k4 (fun y hy => ?_) (fun h1 ns1 kp1 => ?_) k2 k3 rfl
  · simp only [List.mem_cons, List.not_mem_nil, or_false] at hy
    rcases hy with rfl | rfl
    · exact k5
    · exact k6
  obtain ⟨hp, g, d, t, os⟩ := s
  have X : K.In hp := X
  have X1 : K.In h1 := X.keeps kp1
  have L0 : hp.objs.size < h1.objs.size := ns1.lt
  have hx1 : h1.get? x = some (excObj C t0 none .none) := kp1 _ _ hx
  have nsf : ([(sf, Value.ref x), (pl, u)] : List (Str × Value)).reverse.lookup sf = some (.ref x) := by
    show List.lookup sf [(pl, u), (sf, .ref x)] = _
    rw [List.lookup_cons, Z.apart, List.lookup_cons, beq_self_eq_true]
  have npl : ([(sf, Value.ref x), (pl, u)] : List (Str × Value)).reverse.lookup pl = some u := by
    show List.lookup pl [(pl, u), (sf, .ref x)] = _
    rw [List.lookup_cons, beq_self_eq_true]
  have xC : x ≠ C := fun z => by
    have e := X _ _ hD
    have e' : hp.get? x = _ := hx
    rw [z, e] at e'
    cases e'
    cases hDt
  show _root_.PySem.wpAt (model prog w) (A.deeper (ksEnv qual ⟨.function, nms, isg, isc, fut⟩ hp.objs.size fI (.ref cda) cc)) (.func _ (ksEnv qual ⟨.function, nms, isg, isc, fut⟩ hp.objs.size fI (.ref cda) cc)) (execs _ (ksEnv qual ⟨.function, nms, isg, isc, fut⟩ hp.objs.size fI (.ref cda) cc)) _ _ _
  refine ks_wpAt_execs_cons (ks_wpAt_Expr_any (ks_wpAt_MethodCall (ks_wpAt_super_base (fd := ksFn "__init__" qual params _ ⟨.function, nms, isg, isc, fut⟩ dV kV doc pm an (.ref cda) ct cc) k7 k8 (by decide) rfl (X1 _ _ f1) rfl f7 rfl (X1 _ _ f3) rfl f4 f5 Z.top ?_) (he _)))
  -- super()
  refine ks_loadName_global rfl k7 (loadGlobal_builtin (hg.keeps kp1) hmg (hb.keeps kp1) hbb ⟨rfl, ?_⟩)
  refine wpAny_loadName_free rfl k8 rfl ⟨_, X1 _ _ f6, rfl⟩ ?_
  rw [f8]
  refine wpAny_loadName_local rfl k5 ns1 nsf ?_
  refine ks_wpAny_isType_cls (X1 _ _ hD) hDt ⟨rfl, ?_⟩
  refine ks_wpAny_call_super (X1 _ _ hD) hDt hx1 rfl (fun c z => nomatch z) (looks_mroIn X1 Z.self) fun h2 e2 kp2 => ?_
  have X2 : K.In h2 := X1.keeps kp2
  have hx2 := kp2 _ _ hx1
  have I2 : InstAt h2 x (excObj C t0 none .none) C none := ⟨hx2, rfl, rfl, trivial⟩
  -- .__init__
  refine kxs_getMethod Z.kf e2 (looks_opaque X2 Z.third) (l₀ := cd.mro) (l := (cd.mro.dropWhile (· != .ref C)).drop 1) (fun A Q E s k q => wpAny_bind ((looks_clsIn X2 c1) A _ E s k (wpAny_pure q))) rfl X2 ?_ (I2.type.andThen (looks_subIn X2 Z.subB)) xC (by decide) ?_
  · have z := Z.sup
    unfold ks_superIn at z
    rw [c1] at z
    exact z
  have kp3 : ∀ b o, h2.get? b = some o → (h2.push (kxs_mw initId x)).get? b = some o := fun b o z => Heap.get?_push_of_some _ z
  have ns3 : (h2.push (kxs_mw initId x)).Ns hp.objs.size fun y => [(sf, Value.ref x), (pl, u)].reverse.lookup y := (ns1.keeps kp2).keeps kp3
  refine kxs_callWith (i := initId) (x := x) rfl (evalArgs_plain (spliced_cons (Calls.Constant_str (k := j) (pos := p3) ?_)))
  refine spliced_cons (x := PySem.eval (.Name pl p4) (ksEnv qual ⟨.function, nms, isg, isc, fut⟩ hp.objs.size fI (.ref cda) cc)) (wpAny_Name (wpAny_loadName_local rfl k6 ns3 npl ?_) Z.dbg.1)
  refine spliced_nil ⟨Heap.get?_push_size _ rfl, ?_⟩
  -- the built-in __init__, called
  obtain ⟨nm, N', qn, bs, bm, hdct, sn, sub, ab, col, dd, q0, q1, q2, q3, q5, hC, hT⟩ := excInit_of (X2.keeps kp3) Z.q
  have hx3 := kp3 _ _ hx2
  refine wpAny_call (codeAny_of_tree ?_)
  show wpAny _ (Around.in1 _) (callAny (.ref h2.objs.size) ⟨[.str msg _, u], []⟩) _ _ _
  simp only [callAny]
  refine wpAny_bind (wpAny_load (Heap.get?_push_size _ rfl) ?_)
  simp only [kxs_mw, show (Value.type "method-wrapper" == Value.type "method" || Value.type "method-wrapper" == Value.type "builtin_function_or_method" || Value.type "method-wrapper" == Value.type "method-wrapper") = true by decide, if_true]
  refine KFB.if_so (by decide) ?_
  refine wpAny_bind (check_bound_init Z.fb.toExcCallFacts hC hx3 rfl ?_)
  refine wpAny_bind (wpAny_pure (wpAny_pure ?_))
  refine ⟨plainId_quiet Z.fb.init.plain _, codeAny_builtin Z.fb.initEntry ?_⟩
  refine exc_init_tree (cls := .ref C) (t0 := t0) (dv := none) (c2 := .none) (c3 := .none) (b4 := .bool false) hx3 (by show 2 ≤ sizeLine; decide) fun h4 kp4 hx4 ht4 => ?_
  -- self.f = x
  have up : ∀ b o, b ≠ x → hp.get? b = some o → h4.get? b = some o := fun b o n z => kp4 b o n (kp3 b o (kp2 b o (kp1 b o z)))
  have X4 : K.In h4 := fun b o z => kp4 b o (fun e => by
    have y : K.lookup b = some o := z
    rw [e, nk] at y
    cases y) (X2.keeps kp3 _ _ z)
  have ns4 : h4.Ns hp.objs.size fun y => [(sf, Value.ref x), (pl, u)].reverse.lookup y := by
    obtain ⟨oL, es, ep, hL, r⟩ := ns3
    exact ⟨oL, es, ep, kp4 _ _ (fun z => by
      have y := Heap.lt_size (show hp.get? x = _ from hx)
      rw [← z] at y
      exact Nat.lt_irrefl _ y) hL, r⟩
  refine ks_wpAt_execs_cons (ks_wpAt_Assign_Attr (wpAt_of_wpAny (wpAny_Name (wpAny_loadName_local rfl k6 ns4 npl (wpAny_Name (wpAny_loadName_local rfl k5 ns4 nsf ?_) Z.dbg.2)) Z.dbg.1)))
  have I4 : InstAt h4 x (excObj C _ none .none) C none := ⟨hx4, rfl, rfl, trivial⟩
  refine set_plain X4 I4 Z.sa (osaB Z.nB Z.ob Z.pass X4 hx4 c1 c2 c3 Z.noF fun h5 tk5 dx kp5 ge ne hx5 ns5 => ?_)
  refine wpAt_of_wpAny (wpAny_execs_nil ?_)
  have big : hp.objs.size ≤ dx := Nat.le_trans (Nat.le_of_lt ns4.lt) ge
  exact hR h5 tk5 dx _ (fun b o n z => kp5 b o n (up b o n z)) big ne hx5 ns5
end
end Ev
set_option Elab.async false
set_option linter.all false
set_option maxRecDepth 100000
set_option maxHeartbeats 2000000
/-! Ev17: raise of an own error. -/
namespace Ev
open PySem PySem.Spec L2

section
variable {X : Cx} {Ca fI : Addr} {B newId initId : String} {bmB : List Value} {fld sf pl x : Str} {e : Expr} {ta : TA} {p pos : Pos}
/-- C(e) -/
theorem pmk_err (Z : ErrK X.prog X.K Ca fI B newId initId bmB fld sf pl) {k : Nat} (hr : Room (k + 1) X.A) (hsup : X.mg "super" = none) (hg : Gl X x) (hm : X.mg x = some (.ref Ca)) (ha : PA X [e] ta)
    (hdb : (x == ("__debug__" : Str)) = false := by decide) (he : starEach [e] X.env = (false, eval e X.env) :: starEach [] X.env := by rfl) (hpl : (backTo pos (starEach [] X.env)).any (·.1) = false := by rfl) :
    PMk X (.Call (.Name x p) [e] [] pos) (fun σ H Q => ta σ H fun vs H1 => ∃ v, vs = [v] ∧ ∀ dx, H1 dx = none → Q (.ref Ca) (some dx) (upd H1 dx (.xd [(fld, v)]))) := by
  intro pins s σ H Q I h
  refine wpAny_Call_Name_kw (ld_glob I hg hm ?_ hdb)
  refine PySem.W.callWith_K (h₀ := X.base) I.ok.mod.kin Z.kC (thn (ha.run pos pins s σ H _ I h) fun us s1 ⟨vs, H1, I1, r1, v, ev, q1⟩ => ⟨I1.kIn, ?_⟩) he hpl
  show wpAny _ _ (call (.ref Ca) us) _ _ _
  subst ev
  obtain ⟨u, rfl, ru⟩ : ∃ u, us = [u] ∧ RelV v u := by
    cases r1 with
    | cons r rr =>
      cases rr
      exact ⟨_, rfl, r⟩
  obtain ⟨hp, g, dr, tk, os⟩ := s1
  obtain ⟨nm, N', qn, bs, bm, hdct, sn, sub, ab, col, dd, k0, k1, k2, k3, k5, hC, hT⟩ := PySem.W.excInit_of (I1.kIn) Z.q
  obtain ⟨mb, hb, hbb⟩ := I1.mod.blt
  have kk : ∀ b o, hp.get? b = some o → ((hp.push (PySem.W.kdv_tup [u])).push (PySem.HandSPX.excO Ca hp.objs.size)).get? b = some o := fun b o z => Heap.get?_push_of_some _ (Heap.get?_push_of_some _ z)
  have hx : ((hp.push (PySem.W.kdv_tup [u])).push (PySem.HandSPX.excO Ca hp.objs.size)).get? (hp.objs.size + 1) = some (PySem.HandSPX.excO Ca hp.objs.size) := by heap_get
  have bk : ∀ b o, X.base.get? b = some o → ((hp.push (PySem.W.kdv_tup [u])).push (PySem.HandSPX.excO Ca hp.objs.size)).get? b = some o := fun b o z => kk b o (I1.bk b o z)
  have sz : ((hp.push (PySem.W.kdv_tup [u])).push (PySem.HandSPX.excO Ca hp.objs.size)).objs.size = hp.objs.size + 2 := by rw [Heap.size_push, Heap.size_push]
  have nk : X.K.lookup (hp.objs.size + 1) = none := by
    cases z : X.K.lookup (hp.objs.size + 1) with
    | none => rfl
    | some o =>
      have y := Heap.lt_size (I1.kIn _ _ z)
      exact absurd y (Nat.not_lt.mpr (Nat.le_succ _))
  refine wpAny_call (PySem.HandSPX.call_own Z.fb hT hC (PySem.W.looks_findIn I1.kIn Z.init) (fun self => PySem.W.bind_fn I1.kIn self Z.tI) (by show 1 ≤ sizeLine; decide) ?_)
  refine init_run Z (hr.make Ca [u] []).depth (I1.mod.kin.keeps bk) (I1.mod.nolimit.keeps bk) (I1.mod.glob.keeps bk) hsup (hb.keeps bk) ((hbb _ (by decide)).trans boot_super) hx nk fun h' tk' dx t1 kp ge ne hx' ns => ⟨rfl, ?_⟩
  have sm : ∀ b o, hp.get? b = some o → b ≠ hp.objs.size + 1 := fun b o z => Nat.ne_of_lt (Nat.lt_succ_of_lt (Heap.lt_size z))
  obtain ⟨G, G1, G2⟩ := restrict h' fun b => !decide (b = hp.objs.size + 1)
  have g1 : ∀ b, b ≠ hp.objs.size + 1 → G.get? b = h'.get? b := fun b n => G1 b (by simp [n])
  have le : hp.objs.size ≤ dx := by
    rw [sz] at ge
    exact Nat.le_trans (Nat.le_add_right _ 2) ge
  have dn : H1 dx = none := I1.hok.fresh le
  have IG : Inv X pins σ (upd H1 dx (.xd [(fld, v)])) ⟨G, g, dr, tk', os⟩ := by
    refine I1.laid (t' := tk') (fun b o z => (g1 b (sm b o z)).trans (kp b o (sm b o z) (kk b o z))) le ⟨_, ns.at fun o z => (g1 dx ne).trans z, fun f => relO_put (fs := []) (mA := fun _ => none) ru (fun _ => True.intro) f⟩
  refine ⟨hp.objs.size + 1, _, _, ⟨G, g, dr, tk', os⟩, _, .ref Ca, some dx, rfl, IG, fun b o z => ?_, G2 _ (by simp), hx', ⟨rfl, rfl⟩, rfl, rfl, ?_, rfl, I1.bare, raises_own Z.exC Z.tyC, q1 dx dn⟩
  · have n : b ≠ hp.objs.size + 1 := fun y => by
      rw [G2 b (by simp [y])] at z
      cases z
    exact (g1 b n).symm.trans z
  · rw [upd_ne (Ne.symm ne)]
    exact I1.hok.fresh (Nat.le_succ _)
variable {C : Cls} {W : WX} {ga : GE} {rpos : Pos}
def sRaise (c : Nat) (g : GE) : GS := fun δ h => (g δ h).toS δ fun d h1 => .exc c d δ h1
theorem zRaise (c : Nat) (hc : C.f c = some Ca) (Z : ErrK X.prog X.K Ca fI B newId initId bmB (C.fld c) sf pl) {k : Nat} (hr : Room (k + 1) X.A) (hsup : X.mg "super" = none) (hg : Gl X x) (hm : X.mg x = some (.ref Ca)) (calm : X.calm = true) (tk : Takes X W) (ha : PE X e (rd X.K C W ga))
    (hdb : (x == ("__debug__" : Str)) = false := by decide) (he : starEach [e] X.env = (false, eval e X.env) :: starEach [] X.env := by rfl) (hpl : (backTo pos (starEach [] X.env)).any (·.1) = false := by rfl) :
    PS X (.Raise (some (.Call (.Name x p) [e] [] pos)) none rpos) (rdS X.K C W (sRaise c ga)) :=
  PS_imp (ps_raise calm tk (pmk_err Z hr hsup hg hm (pa_cons ha pa_nil he) hdb he hpl)) fun D σ H ⟨ρ, h, δ, rh, rs, m⟩ => ⟨ρ, h, δ, rh, rs, (m.toS rs).mono fun ρ1 h1 H1 d g1 rh1 q1 v rv => ⟨v, rfl, fun dx hdx =>
    q1 ρ1 _ σ Ca dx v (go_new rh1 hdx) (rh1.new hdx) ((rs.go g1).go (go_new rh1 hdx)) hc (rv.go (go_new rh1 hdx)) upd_same⟩⟩
end
end Ev
set_option Elab.async false
set_option linter.all false
set_option maxRecDepth 100000
set_option maxHeartbeats 2000000
/-! Ev18: a lambda, without parameters or with one that has a default, handed to a def that calls it. -/
namespace Ev
open PySem PySem.Spec PyProof.Rows L2 LamX

/-- a lambda's defaults: none, or one value -/
def DfAt (h : Heap) (H : Hp) (fr : List Addr) (dV : Value) (dv : List Value) : Prop := (dV = .none ∧ dv = []) ∨ ∃ T, dV = .ref T ∧ h.get? T = some (PySem.W.kdv_tup dv) ∧ H T = none ∧ T ∉ fr
abbrev lamObj (q : Str) (params : Arguments) (body : Expr) (scope : Scope) (clos : List (Str × Addr)) (dV doc pm : Value) (c' : Addr) (ctv : Value) : Obj := PySem.W.kdv_obj "<lambda>" q params (.expr body) scope clos dV doc pm c' ctv
section
variable {X : Cx} {pins : List (Addr × Obj)} {σ : L2.St} {H : Hp} {s : Shared}
/-- what the maker of a lambda tells -/
def LamMade (X : Cx) (pins : List (Addr × Obj)) (σ : L2.St) (H : Hp) (T : List (Addr × Str)) (params : Arguments) (body : Expr) (scope : Scope) (dvs : List V) (Q : Value → Shared → Prop) : Prop :=
  ∀ (f c' : Addr) (dV doc pm ctv : Value) (dv : List Value) (H1 : Hp) (s' : Shared), Inv X pins σ H1 s' → ExtN H H1 → Tabs T H1 → s'.heap.get? f = some (lamObj (X.env.qual ++ "<lambda>") params body scope (cloFrom X.env.cells scope.names []) dV doc pm c' ctv) →
    H1 f = none → f ∉ frs X.stack → H1 c' = some (CodeO c' (X.env.qual ++ "<lambda>")) → DfAt s'.heap H1 (frs X.stack) dV dv → Vals dvs dv → Q (.ref f) s'
theorem mkLam {T : List (Addr × Str)} {c P : Addr} {params : Arguments} {body : Expr} {scope : Scope} {pos : Pos} {E : Value → Shared → Prop} {Q : Value → Shared → Prop} (I : Inv X pins σ H s) (TB : TabB X.base X.mg c P) (hcode : X.env.code = .ref c)
    (hm : (P, X.env.qual ++ "<lambda>") ∈ T) (hu : ∀ p ∈ T, p.1 = P → p.2 = X.env.qual ++ "<lambda>") (hT : Tabs T H) (hdef : defaultsOf params X.env = ([], [])) (hfree : ∀ y ∈ scope.names, y.2 = .free → ∃ c, X.env.cells.lookup y.1 = some c)
    (h : LamMade X pins σ H T params body scope [] Q) : wpAny (model X.prog X.w) X.A (eval (.Lambda params body scope pos) X.env) Q E s :=
  lam_make2 I TB hcode hm hu hT hdef hfree fun f c' pm ctv H1 s' I1 eN T1 hf hfn hfr hco => h f c' .none .none pm ctv [] H1 s' I1 eN T1 hf hfn hfr hco (.inl ⟨rfl, rfl⟩) .nil
theorem mkLamD {T : List (Addr × Str)} {c P : Addr} {params : Arguments} {body : Expr} {scope : Scope} {pos pd : Pos} {i : Int} {jd : Nat} {E : Value → Shared → Prop} {Q : Value → Shared → Prop} (I : Inv X pins σ H s) (TB : TabB X.base X.mg c P) (hcode : X.env.code = .ref c)
    (hm : (P, X.env.qual ++ "<lambda>") ∈ T) (hu : ∀ p ∈ T, p.1 = P → p.2 = X.env.qual ++ "<lambda>") (hT : Tabs T H) (hd : params.defaults = [.Constant (.int i) jd pd]) (hk : params.kw_defaults = []) (hfree : ∀ y ∈ scope.names, y.2 = .free → ∃ c, X.env.cells.lookup y.1 = some c)
    (h : LamMade X pins σ H T params body scope [.int i] Q) : wpAny (model X.prog X.w) X.A (eval (.Lambda params body scope pos) X.env) Q E s := by
  obtain ⟨ps, hP, ht, ha⟩ := hT _ hm
  refine PySem.W.kdv_lam (by rw [hd]; rfl) hk ?_
  rw [hd]
  refine PySem.W.kdv_all1 (wpAny_Constant_int (PySem.W.kdv_all0 ?_))
  rw [makeFunction_eq]
  simp only [List.zip_nil_right, List.filterMap_nil, List.isEmpty_nil, if_true, pure_bind, List.isEmpty_cons, Bool.false_eq_true, if_false]
  refine wpAny_bind (wpAny_newTextTuple ?_)
  have I0 : Inv X pins σ H { s with heap := s.heap.push (PySem.W.kdv_tup [.int i s.toks]), toks := s.toks + 1 } := I.kept fun b o e => Heap.get?_push_of_some _ e
  have tT : (s.heap.push (PySem.W.kdv_tup [.int i s.toks])).get? s.heap.objs.size = some (PySem.W.kdv_tup [.int i s.toks]) := Heap.get?_push_size _ rfl
  have nofr : ∀ f, s.heap.objs.size ≤ f → f ∉ frs X.stack := fun f hf z => by
    rcases List.mem_cons.mp (I.stkSub _ z) with e | e
    · have h1 := I.lt
      rw [← e] at h1
      exact Nat.lt_irrefl _ (Nat.lt_of_lt_of_le h1 hf)
    · exact I.nofs hf e
  have big : s.heap.objs.size ≤ (s.heap.push (PySem.W.kdv_tup [.int i s.toks])).objs.size := by rw [Heap.size_push]; exact Nat.le_succ _
  have hP' : (s.heap.push (PySem.W.kdv_tup [.int i s.toks])).get? P = some { cls := .none, data := .fields ps } := I0.hok P _ hP
  have df : ∀ {h' : Heap} {H1 : Hp} {o : Obj}, (∀ b o, b ≠ P → (s.heap.push (PySem.W.kdv_tup [.int i s.toks])).get? b = some o → h'.get? b = some o) → H1 s.heap.objs.size = none → DfAt (h'.push o) H1 (frs X.stack) (.ref s.heap.objs.size) [.int i s.toks] := fun {h' H1 o} k n =>
    .inr ⟨_, rfl, Heap.get?_push_of_some _ (k _ _ (fun z => by
      have y := Heap.lt_size (I.hok P _ hP)
      rw [← z] at y
      exact Nat.lt_irrefl _ y) tT), n, nofr _ (Nat.le_refl _)⟩
  have nH : H s.heap.objs.size = none := I.hok.fresh (Nat.le_refl _)
  cases hc : codeAmong pos ps.toList with
  | none =>
    refine PySem.W.kdv_makeTail (mg := X.mg) (c := c) (P := P) (ps := ps) (closure_ok hfree) I.ok.glob (I.mod.glob.keeps I0.bk) hcode (TB.code.keeps I0.bk) hP' ht hc TB.gP (TB.bm.keeps I0.bk) fun c' ctv doc h' tk hx hge hlt hrec htb => ?_
    obtain ⟨c2, oc, vs, t, e2, hoc, hd, hv⟩ := hrec
    cases e2
    have sz : s.heap.objs.size ≤ h'.objs.size := Nat.le_trans big (Nat.le_trans hge (Nat.le_of_lt hlt))
    have nC : H c' = none := I.hok.fresh (Nat.le_trans big hge)
    have I1 := inv_table (t' := tk) (more := #[rawInt pos.line, rawInt pos.col, .ref c']) (h' := h'.push (lamObj (X.env.qual ++ "<lambda>") params body scope (cloFrom X.env.cells scope.names []) (.ref s.heap.objs.size) doc ((X.mg "__name__").getD .none) c' ctv)) I0 hP
      (fun b o nb e => Heap.get?_push_of_some _ (hx b o nb e)) (Heap.get?_push_of_some _ htb) hge ⟨oc, vs, t, Heap.get?_push_of_some _ hoc, hd, hv⟩
    have eN : ExtN H (upd (upd H P (.tbl (ps ++ #[rawInt pos.line, rawInt pos.col, .ref c']))) c' (CodeO c' (X.env.qual ++ "<lambda>"))) := fun b o e n => by
      rw [upd_ne (ne_of_none e nC), upd_ne (fun z => n ps (Option.some.inj (e.symm.trans (by rw [z]; exact hP))))]
      exact e
    have eL : (ps ++ #[rawInt pos.line, rawInt pos.col, .ref c']).toList = ps.toList ++ [rawInt pos.line, rawInt pos.col, .ref c'] := by simp
    have nP : s.heap.objs.size ≠ P := Nat.ne_of_gt (Heap.lt_size (I.hok P _ hP))
    have nc : s.heap.objs.size ≠ c' := fun z => by
      rw [Heap.size_push, ← z] at hge
      exact Nat.not_succ_le_self _ hge
    refine h h'.objs.size c' (.ref s.heap.objs.size) doc ((X.mg "__name__").getD .none) ctv [.int i s.toks] _ _ I1 eN (fun p hp => ?_) (Heap.get?_push_size _ rfl) ?_ (nofr _ sz) upd_same (df hx (by rw [upd_ne nc, upd_ne nP]; exact nH)) (.cons ⟨_, rfl⟩ .nil)
    · by_cases hb : p.1 = P
      · rw [hu p hp hb, hb]
        refine ⟨_, by rw [upd_ne (ne_of_none hP nC), upd_same], by rw [eL]; exact PySem.TriplesOk_snoc _ _ _ _ ht, fun p' cv hcv => ?_⟩
        rw [eL] at hcv
        rcases among_app _ ht hcv with z | z
        · obtain ⟨c0, e1, e2⟩ := ha p' cv z
          exact ⟨c0, e1, eN _ _ e2 codeO_ne⟩
        · exact ⟨c', z, upd_same⟩
      · obtain ⟨qs, a1, a2, a3⟩ := hT p hp
        refine ⟨qs, by rw [upd_ne (ne_of_none a1 nC), upd_ne hb]; exact a1, a2, fun p' cv hcv => ?_⟩
        obtain ⟨c0, e1, e2⟩ := a3 p' cv hcv
        exact ⟨c0, e1, eN _ _ e2 codeO_ne⟩
    · rw [upd_ne (Nat.ne_of_gt hlt), upd_ne (Nat.ne_of_gt (Nat.lt_of_lt_of_le (Heap.lt_size (I.hok P _ hP)) sz))]
      exact I.hok.fresh sz
  | some cv =>
    obtain ⟨c', e, hco⟩ := ha pos cv hc
    subst e
    refine PySem.W.kdv_makeTailHit (mg := X.mg) (c := c) (P := P) (ps := ps) (closure_ok hfree) I.ok.glob (I.mod.glob.keeps I0.bk) hcode (TB.code.keeps I0.bk) hP' ht hc (TB.bm.keeps I0.bk) fun ctv doc h' tk hx hsz => ?_
    have sz : s.heap.objs.size ≤ h'.objs.size := Nat.le_trans big hsz
    have I1 : Inv X pins σ H { s with heap := h'.push (lamObj (X.env.qual ++ "<lambda>") params body scope (cloFrom X.env.cells scope.names []) (.ref s.heap.objs.size) doc ((X.mg "__name__").getD .none) c' ctv), toks := tk } :=
      I0.kept fun b o e => Heap.get?_push_of_some _ (hx b o e)
    exact h h'.objs.size c' (.ref s.heap.objs.size) doc ((X.mg "__name__").getD .none) ctv [.int i s.toks] H _ I1 (ExtN.refl H) hT (Heap.get?_push_size _ rfl) (I.hok.fresh sz) (nofr _ sz) hco (df (fun b o _ z => hx b o z) nH) (.cons ⟨_, rfl⟩ .nil)
end
end Ev
set_option Elab.async false
set_option linter.all false
set_option maxRecDepth 100000
set_option maxHeartbeats 2000000
/-! Ev19: try with several clauses, each with or without a name. -/
namespace Ev
open PySem PySem.Spec PyProof.Rows L2

abbrev Clause := Value × Option Nat × (Addr → Value → Option Addr → TS)
/-- what is wanted behind a suite: its name is gone -/
def gone (o : Option Nat) (D : Ends) : Ends := match o with
  | none => D
  | some i => { nx := fun σ' H' => D.nx (σ'.set i none) H', rt := D.rt, bk := fun σ' H' => D.bk (σ'.set i none) H', ct := fun σ' H' => D.ct (σ'.set i none) H' }
def named (o : Option Nat) (σ : L2.St) (a : Addr) : L2.St := match o with
  | none => σ
  | some i => σ.set i (some (.ref a))
def wCl (K : PySem.W.Frag) (Wout : WX) (D : Ends) : List Clause → WX
  | [] => Wout
  | p :: r => fun cls d σ H => ∃ b, PySem.W.exmOne K cls p.1 = some b ∧ (b = true → ∀ a, H a = none → p.2.2 a cls d (gone p.2.1 D) (named p.2.1 σ a) H) ∧ (b = false → wCl K Wout D r cls d σ H)
/-- the name of a clause, and its slot -/
def NameOk (X : Cx) : Option Str → Option Nat → Prop
  | none, none => True
  | some n, some i => X.N[i]? = some n ∧ X.env.kindOf n = some .local
  | _, _ => False
inductive Cls? (X : Cx) : List ExceptHandler → List Clause → Prop
  | nil : Cls? X [] []
  | cons {x : Str} {c : Value} {n : Option Str} {o : Option Nat} {ts : Addr → Value → Option Addr → TS} {b₀ : Stmt} {suite : List Stmt} {np pos' : Pos} {hds : List ExceptHandler} {l : List Clause} (hc : Names X x c) (hn : NameOk X n o)
      (hsu : ∀ (a : Addr) (oe : Obj) (cls : Value) (d : Option Addr) (pn : List (Addr × Obj)), Zc cls d oe → (∃ vs, oe.data = .fields vs) → PSs (X.suite a ((a, oe) :: pn)) (b₀ :: suite) (ts a cls d)) (r : Cls? X hds l) :
      Cls? X (.ExceptHandler (some (.Name x np)) n (b₀ :: suite) pos' :: hds) ((c, o, ts) :: l)
section
variable {X : Cx} {body : List Stmt} {h₀ : ExceptHandler} {hds : List ExceptHandler} {l : List Clause} {pos : Pos} {tb : WX → TS} {Wout : WX}
theorem ps_try_cl (hs : X.stack = X.env :: X.outer) (hf : X.env.frame = some X.env.locals) (hN : X.N.Nodup) (tk : Takes X Wout)
    (hb : ∀ (W : WX) (pn : List (Addr × Obj)) (xe : Value → Shared → Prop), Takes (X.tr pn xe) W → PassesOwn (model X.prog X.w) X.A X.env xe → PSs (X.tr pn xe) body (tb W))
    (hh : Cls? X (h₀ :: hds) l) : PS X (.Try body (h₀ :: hds) [] [] pos) (fun D σ H => tb (fun cls d σ' H' => σ'.length = X.N.length → wCl X.K Wout D l cls d σ' H') D σ H) := by
  refine ⟨fun pins s σ H D I h => ?_⟩
  have ok := I.ok
  have frm : X.A.frames = some (X.env :: X.outer) := by rw [ok.frames, hs]
  refine wpAny_Try_except ?_
  refine wpAny_mono ((hb (fun cls d σ' H' => σ'.length = X.N.length → wCl X.K Wout D l cls d σ' H') (X.pn ++ pins) (fun e s₁ => wpAny (model X.prog X.w) X.A (noteFrame e X.env) (fun _ s₂ => wpAny (model X.prog X.w) X.A (setFlight e none) (fun _ s₃ =>
    wpAny (model X.prog X.w) X.A (handleBy e X.env (h₀ :: hds)) (SP X pins D) X.xe s₃) X.xe s₂) X.xe s₁) (fun u s' xx => ?_) PassesOwn.looking).run [] s σ H D (I.toTry _) h) (fun f s1 hsp => ?_) (fun e s1 he => he)
  · obtain ⟨a, B, sI, pins', σ', H', cls, d, rfl, J', nb, up, sky, na, os, ag, w⟩ := xx
    have J : Inv X pins σ' H' sI := J'.ofTry ok
    have sky1 : Sky B (X.env :: X.outer) a (Zc cls d) X.env.locals s'.heap := by rw [← hs]; exact sky
    show wpAny (model X.prog X.w) X.A (noteFrame (.ref a) X.env) _ _ _
    refine Sky.land Zc.steady frm hf sky1 fun h3 fl3 up3 => ?_
    have J3 : Inv X pins σ' H' { s' with heap := h3 } := J.landed nb fl3.1 (up.trans up3) os ag
    obtain ⟨oe3, vs3, e3, z3, d3⟩ := fl3.there
    have notIn : a ∉ frs (X.env :: X.outer) := fun m => by
      obtain ⟨_, o', e', nf⟩ := fl3.2.2.1.mem m
      rw [e3] at e'
      cases e'
      exact nf _ d3
    have nL : a ≠ X.env.locals := fun z => notIn (List.mem_filterMap.mpr ⟨X.env, List.mem_cons_self, by rw [hf, z]⟩)
    have nF : a ∉ X.fs := fun m => by
      obtain ⟨e, he, q⟩ := List.mem_filterMap.mp m
      exact notIn (List.mem_filterMap.mpr ⟨e, List.mem_cons_of_mem _ he, q⟩)
    have S3 := J3.suite e3 d3 na nL nF
    have go : ∀ {hs' : List ExceptHandler} {l' : List Clause}, Cls? X hs' l' → wCl X.K Wout D l' cls d σ' H' → wpAny (model X.prog X.w) X.A (handleBy (.ref a) X.env hs') (SP X pins D) X.xe { s' with heap := h3 } := by
      intro hs' l' ck
      induction ck with
      | nil =>
        intro w
        refine wpAny_handleBy_nil ?_
        obtain ⟨k1, k2, k3, oe, vs, T, oT, ts', he, hz, hd, h1, hr⟩ := id fl3
        unfold PySem.passOn
        refine wpAny_bind (wpAny_field he hd h1 ?_)
        rw [if_neg (by simp : ¬ (Value.ref T == Value.none) = true)]
        have fin : wpAny (model X.prog X.w) X.A (setFlight (.ref a) X.env.frame) (fun _ s4 => wpAny (model X.prog X.w) X.A (throw (.ref a) : Sem Flow) (SP X pins D) X.xe s4) X.xe { s' with heap := h3 } := by
          rw [hf]
          exact HandSPX.setFlight_upZ fl3 fun h4 hh4 up4 => wpAny_throw (tk _ _ ⟨a, B, sI, pins, σ', H', cls, d, rfl, J, nb, (up.trans up3).trans up4, .inr (.inr (by rw [hs]; exact hh4)), na, os, ag, w⟩)
        first
          | exact wpAny_bind (wpAny_pure (wpAny_bind fin))
          | exact wpAny_bind fin
      | @cons x c n o ts b₀ suite np pos' hds2 l2 hc hn hsu r ih =>
        intro ⟨b, hb1, yes, no⟩
        refine wpAny_handleBy_cons (codeAny_handlers_test ?_) (by intro q; cases q)
        have LT : PySem.W.Looks (model X.prog X.w) h3 (typeOf (.ref a)) cls := fun A Q E s k q => wpAny_typeOf_ref (k _ _ e3) (by rw [z3.1]; exact q)
        have LM := PySem.W.exm_one (M := model X.prog X.w) (J3.kIn) LT hb1
        have test : ∀ {Q : Value → Shared → Prop} {E : Value → Shared → Prop}, Q c { s' with heap := h3 } → wpAny (model X.prog X.w) (X.A.mark (some (.ref a))) (eval (.Name x np) X.env) Q E { s' with heap := h3 } := fun {Q E} q => by
          obtain ⟨hg, hdbg, hm | ⟨hm, hv, hnn⟩⟩ := hc
          · exact ld_glob (X := X.suite a ((a, oe3) :: (X.pn ++ pins))) S3 hg hm q hdbg
          · exact ld_blt (X := X.suite a ((a, oe3) :: (X.pn ++ pins))) S3 hg hm hv q hnn hdbg
        refine test (LM.here ?_)
        cases b with
        | false =>
          show wpAny _ X.A (handleBy (.ref a) X.env hds2) _ _ _
          exact ih (no rfl)
        | true =>
          have suite_ : ∀ h4, HandSPX.FlyingZ B (X.env :: X.outer) a (Zc cls d) h4 → h3.UpToSlots h4 → ∃ oe4, Zc cls d oe4 ∧ (∃ vs, oe4.data = .fields vs) ∧ Inv (X.suite a ((a, oe4) :: (X.pn ++ pins))) [] σ' H' { s' with heap := h4 } := fun h4 fl4 up4 => by
            have J4 : Inv X pins σ' H' { s' with heap := h4 } := J.landed nb fl4.1 ((up.trans up3).trans up4) os ag
            obtain ⟨oe4, vs4, e4, z4, d4⟩ := fl4.there
            exact ⟨oe4, z4, ⟨vs4, d4⟩, J4.suite e4 d4 na nL nF⟩
          cases n with
          | none =>
            cases o with
            | some i => exact hn.elim
            | none =>
              refine codeAny_handlers_suite (HandSPX.lands_againZ fl3 fun h4 fl4 up4 => ?_)
              obtain ⟨oe4, z4, d4, S4⟩ := suite_ h4 fl4 up4
              refine wpAny_mono ((hsu a oe4 cls d (X.pn ++ pins) z4 d4).run [] _ _ H' _ S4 (yes rfl a na)) (fun f s6 hsp => ?_) (fun _ _ z => False.elim z)
              cases f with
              | next => obtain ⟨σ6, H6, S6, q6⟩ := hsp; exact ⟨_, _, S6.unsuite ok, q6⟩
              | brk => obtain ⟨σ6, H6, S6, q6⟩ := hsp; exact ⟨_, _, S6.unsuite ok, q6⟩
              | cont => obtain ⟨σ6, H6, S6, q6⟩ := hsp; exact ⟨_, _, S6.unsuite ok, q6⟩
              | ret u => obtain ⟨v6, σ6, H6, S6, r6, q6⟩ := hsp; exact ⟨_, _, _, S6.unsuite ok, r6, q6⟩
          | some n =>
            cases o with
            | none => exact hn.elim
            | some i =>
              obtain ⟨hi, hln⟩ := hn
              refine codeAny_handlers_suite_as (HandSPX.lands_againZ fl3 fun h4 fl4 up4 => ?_)
              obtain ⟨oe4, z4, d4, S4⟩ := suite_ h4 fl4 up4
              refine store_ok (X := X.suite a ((a, oe4) :: (X.pn ++ pins))) (v := .ref a) S4 hN hi (.inl hln) rfl (fun s5 S5 => ?_) (.inr hln)
              refine wpAny_mono ((hsu a oe4 cls d (X.pn ++ pins) z4 d4).run [] s5 _ H' _ S5 (yes rfl a na)) (fun f s6 hsp => ?_) (fun _ _ z => False.elim z)
              have away : ∀ {σ6 : L2.St} {H6 : Hp} {Q : Shared → Prop}, Inv (X.suite a ((a, oe4) :: (X.pn ++ pins))) [] σ6 H6 s6 → (∀ s7, Inv X pins (σ6.set i none) H6 s7 → Q s7) →
                  wpAny (model X.prog X.w) X.A (do bindName X.env n .none; unbindBehindTheSuite X.env n pos') (fun _ s7 => Q s7) X.xe s6 := fun S6 q => gone_ok (S6.unsuite ok) hN hi hln q
              cases f with
              | next => obtain ⟨σ6, H6, S6, q6⟩ := hsp; exact away S6 fun s7 J7 => ⟨_, _, J7, q6⟩
              | brk => obtain ⟨σ6, H6, S6, q6⟩ := hsp; exact away S6 fun s7 J7 => ⟨_, _, J7, q6⟩
              | cont => obtain ⟨σ6, H6, S6, q6⟩ := hsp; exact away S6 fun s7 J7 => ⟨_, _, J7, q6⟩
              | ret u => obtain ⟨v6, σ6, H6, S6, r6, q6⟩ := hsp; exact away S6 fun s7 J7 => ⟨_, _, _, J7, r6, q6⟩
    exact go hh (w J'.len)
  · cases f with
    | next => obtain ⟨σ', H', J', q⟩ := hsp; exact wpAny_execs_nil ⟨σ', H', J'.ofTry ok, q⟩
    | brk => obtain ⟨σ', H', J', q⟩ := hsp; exact ⟨σ', H', J'.ofTry ok, q⟩
    | cont => obtain ⟨σ', H', J', q⟩ := hsp; exact ⟨σ', H', J'.ofTry ok, q⟩
    | ret u => obtain ⟨v, σ', H', J', r, q⟩ := hsp; exact ⟨v, σ', H', J'.ofTry ok, r, q⟩
end
end Ev
set_option Elab.async false
set_option linter.all false
set_option maxRecDepth 100000
set_option maxHeartbeats 2000000
/-! Ev20: the def that got a lambda calls it. -/
namespace Ev
open PySem PySem.Spec PyProof.Rows L2 LamX

/-- a lambda's names: captured ones and globals, and parameters that no slot stands for -/
structure LamK (N : List Str) (sc scope : Scope) : Prop where
  kind : scope.kind = .function
  co : scope.isCoroutine = false
  gen : scope.isGenerator = false
  own : ∀ y ∈ scope.names, y.2 ≠ .cell ∧ (y.2 = .local → y.1 ∉ N)
  free : ∀ y ∈ scope.names, y.2 = .free → sc.names.lookup y.1 = some .cell ∨ sc.names.lookup y.1 = some .free
def lamKB (N : List Str) (sc scope : Scope) : Bool :=
  decide (scope.kind = .function) && !scope.isCoroutine && !scope.isGenerator && scope.names.all fun y => !decide (y.2 = .cell) && (!decide (y.2 = .local) || decide (y.1 ∉ N)) && (!decide (y.2 = .free) || decide (sc.names.lookup y.1 = some .cell) || decide (sc.names.lookup y.1 = some .free))
theorem lamK_by {N : List Str} {sc scope : Scope} (h : lamKB N sc scope = true) : LamK N sc scope := by
  unfold lamKB at h
  simp only [Bool.and_eq_true, Bool.or_eq_true, Bool.not_eq_true', decide_eq_true_eq, decide_eq_false_iff_not, List.all_eq_true] at h
  obtain ⟨⟨⟨h1, h2⟩, h3⟩, h4⟩ := h
  refine ⟨h1, h2, h3, fun y hy => ⟨(h4 y hy).1.1, fun e => ?_⟩, fun y hy e => ?_⟩
  · rcases (h4 y hy).1.2 with z | z
    · exact absurd e z
    · exact z
  · rcases (h4 y hy).2 with (z | z) | z
    · exact absurd e z
    · exact .inl z
    · exact .inr z
theorem LamK.has {X : Cx} {scope : Scope} (L : LamK X.N X.env.scope scope) (ok : X.Ok) : ∀ y ∈ scope.names, y.2 = .free → ∃ c, X.env.cells.lookup y.1 = some c := fun y hy e => by
  rcases L.free y hy e with k | k
  · exact ok.has _ (.inl k)
  · exact ok.has _ (.inr k)
/-- how a lambda's parameters xs are bound, by its n defaults alone -/
def LamB (params : Arguments) (body : Expr) (scope : Scope) (xs : List Str) (n : Nat) : Prop :=
  ∀ (q : Str) (cl : List (Str × Addr)) (dV doc pm cv ctv : Value) (dv : List Value) (s : Shared), dv.length = n → ((dV = .none ∧ dv = []) ∨ ∃ T, dV = .ref T ∧ s.heap.get? T = some (PySem.W.kdv_tup dv)) →
    BindsTo s (PySem.W.kdv_fn "<lambda>" q params (.expr body) scope cl dV doc pm cv ctv) ⟨[], []⟩ (xs.zip dv)
theorem lamB0 {params : Arguments} {body : Expr} {scope : Scope} (h : ∀ (q : Str) (cl : List (Str × Addr)) (dV doc pm cv ctv : Value), bindArgs (PySem.W.kdv_fn "<lambda>" q params (.expr body) scope cl dV doc pm cv ctv) ⟨[], []⟩ = pure []) : LamB params body scope [] 0 :=
  fun q cl dV doc pm cv ctv dv s e _ => by
    obtain rfl := List.eq_nil_of_length_eq_zero e
    exact .of_eq (h q cl dV doc pm cv ctv)
theorem lamB1 {params : Arguments} {body : Expr} {scope : Scope} {x : Str} (h : ∀ (q : Str) (cl : List (Str × Addr)) (T : Addr) (doc pm cv ctv : Value), ∃ k : Option (Array Value) → Sem (List (Str × Value)),
    bindArgs (PySem.W.kdv_fn "<lambda>" q params (.expr body) scope cl (.ref T) doc pm cv ctv) ⟨[], []⟩ = seqItems? (.ref T) >>= k ∧ ∀ v, k (some #[v]) = pure [(x, v)]) : LamB params body scope [x] 1 := fun q cl dV doc pm cv ctv dv s e d => by
  obtain ⟨v, rfl⟩ : ∃ v, dv = [v] := by
    match dv, e with
    | [v], _ => exact ⟨v, rfl⟩
  rcases d with ⟨_, z⟩ | ⟨T, rfl, hT⟩
  · cases z
  · obtain ⟨k, k1, k2⟩ := h q cl T doc pm cv ctv
    exact BindsTo.of_defaults rfl hT rfl k1 (k2 v)
section
variable {X : Cx} {pins : List (Addr × Obj)} {σ : L2.St} {H HZ : Hp} {s s1 : Shared}
theorem lam_startD {A : Around} {outer : List Env} {E : XK} {scope : Scope} {f c' : Addr} {h₁ : Heap} {tk : Nat} {binds : List (Str × Value)} (I : Inv X pins σ H s) (L : LamK X.N X.env.scope scope) (e0 : Env0 X.prog X.w X.K X.mg X.base A outer s1 HZ) (hd : A.handled = none)
    (un : Un (frs X.stack) [] H HZ s.heap s1.heap) (hns : h₁.Ns s1.heap.objs.size fun y => binds.reverse.lookup y) (kp : ∀ b o, s1.heap.get? b = some o → h₁.get? b = some o) :
    Inv (lamCx X A outer s1 HZ E scope f c') [] σ HZ { s1 with heap := h₁, toks := tk } := by
  have hfree := L.has I.ok
  have same : ∀ {y c}, (cloFrom X.env.cells scope.names []).lookup y = some c → X.env.cells.lookup y = some c := fun {y c} e => by
    rcases cloFrom_mem (PySem.mem_of_lookup e) with hm | ⟨h1, h2⟩
    · cases hm
    · obtain ⟨c1, hc⟩ := hfree _ h1 rfl
      have hc : X.env.cells.lookup y = some c1 := hc
      obtain rfl : c = c1 := by rw [h2, hc]; rfl
      exact hc
  have look : ∀ {y}, scope.names.lookup y = some .free → ∃ c, (cloFrom X.env.cells scope.names []).lookup y = some c := fun {y} hl =>
    mem_lookup (cloFrom_has (cells := X.env.cells) (acc := []) (PySem.mem_of_lookup hl))
  have cellK : ∀ {c : Addr} {v : Option Value}, H c = none → s.heap.IsCell c v → h₁.IsCell c v := fun {c v} n ⟨o, ho, hd⟩ => by
    obtain ⟨sl, q⟩ := un.any ho n (by simp)
    exact ⟨_, kp _ _ q, hd⟩
  have noA : ∀ b : Addr, b ∉ (lamCx X A outer s1 HZ E scope f c').ex := fun b z => absurd (show b ∈ ([] : List Addr) from z) (by simp)
  refine ⟨⟨e0.mod, L.kind, rfl, rfl, Nat.le_refl _, fun y z c e1 e2 => I.ok.inj y z c (same e1) (same e2), fun y hy => ?_, fun y c z _ => ?_, fun _ => hd, Around.frames_deeper e0.frames, .inr ⟨rfl, rfl⟩, fun b z => absurd z (noA b), e0.bs, e0.bsz, fun b _ _ => noA b,
      fun b z => absurd z (noA b), e0.funs, e0.frf⟩,
    rfl, e0.bare, Un.kept kp, ⟨_, hns, fun i y v e1 e2 e3 => ?_⟩, fun y c e => ?_, e0.hok.fresh (Nat.le_refl _), fun y c e => ?_, fun q hq => absurd (show q ∈ ([] : List (Addr × Obj)) ++ [] from hq) (by simp), e0.hok.kept kp, I.len⟩
  · have hy : scope.names.lookup y = some .cell ∨ scope.names.lookup y = some .free := hy
    rcases hy with hy | hy
    · exact absurd rfl (L.own _ (PySem.mem_of_lookup hy)).1
    · exact look hy
  · have z : false = true := z
    cases z
  · have e3 : Vis scope y := e3
    rcases e3 with k | k | k
    · exact absurd (List.mem_of_getElem? e1) ((L.own _ (PySem.mem_of_lookup k)).2 rfl)
    · exact absurd rfl (L.own _ (PySem.mem_of_lookup k)).1
    · obtain ⟨m, hn, hl⟩ := I.loc
      have vis : Vis X.env.scope y := (L.free _ (PySem.mem_of_lookup k) rfl).elim (fun k => .inr (.inl k)) (fun k => .inr (.inr k))
      obtain ⟨w', r, q⟩ := hl i y v e1 e2 vis
      obtain ⟨c2, h2⟩ := look k
      refine ⟨w', r, .inr ⟨.inr k, c2, h2, ?_⟩⟩
      have c1 := same h2
      rcases q with ⟨k', _⟩ | ⟨_, c3, e', z⟩
      · have k' : X.env.scope.names.lookup y = some .local := k'
        rcases L.free _ (PySem.mem_of_lookup k) rfl with k2 | k2 <;> rw [show X.env.scope.names.lookup y = _ from k2] at k' <;> cases k'
      · rw [c1] at e'
        cases e'
        exact cellK (I.freeC y _ c1) z
  · obtain ⟨w', z⟩ := I.cell y c (same e)
    exact ⟨w', cellK (I.freeC y c (same e)) z⟩
  · obtain ⟨v, o, ho, hd⟩ := I.cell y c (same e)
    exact un.free c o ho (I.freeC y c (same e)) (by simp)
/-- x(), in the def that got the lambda -/
theorem pe_actD {CXg : CXT} {Eg : XK} {Ng : List Str} {qg : Str} {sg : Scope} {g f c' : Addr} {cdg dV doc pm ctv : Value} {dv : List Value} {xs : List Str} {params : Arguments} {body : Expr} {scope : Scope} {k i : Nat} {a : Str} {pn : List (Addr × Obj)} {xe : Value → Shared → Prop} {W : WX} {E : XK} {tb : TE} {p1 p2 : Pos}
    (I : Inv X pins σ H s) (L : LamK X.N X.env.scope scope) (hf : s.heap.get? f = some (lamObj (X.env.qual ++ "<lambda>") params body scope (cloFrom X.env.cells scope.names []) dV doc pm c' ctv)) (hfn : H f = none) (hfr : f ∉ frs X.stack)
    (df : DfAt s.heap H (frs X.stack) dV dv) (hxs : ∀ x ∈ xs, scope.names.lookup x = some .local) (hbind : LamB params body scope xs dv.length)
    (tk : Takes ((cxOf CXg X.prog X.w X.K X.mg X.base Ng qg sg g cdg X.A X.stack s H Eg).tr pn xe) W) (hW : ∀ cls d σ' H', E cls d H' → W cls d σ' H') (hr : Room (k + 1) (X.A.deeper (envOfC qg sg s.heap.objs.size g cdg)))
    (hbody : ∀ (A : Around) (outer : List Env) (s : Shared) (H : Hp), Room k (A.deeper (lamEnv X scope s.heap.objs.size f c')) → PE (lamCx X A outer s H E scope f c') body tb)
    (hN : Ng[i]? = some a) (hv : Vis sg a) (hd : (a == ("__debug__" : Str)) = false := by decide) (hcd : (a == ("__classdict__" : Str)) = false := by decide) :
    PE ((cxOf CXg X.prog X.w X.K X.mg X.base Ng qg sg g cdg X.A X.stack s H Eg).tr pn xe) (.Call (.Name a p1) [] [] p2)
      (fun σZ HZ Q => σZ[i]? = some (some (.ref f)) ∧ HZ c' = some (CodeO c' (X.env.qual ++ "<lambda>")) ∧ tb σ HZ Q) := by
  refine ⟨fun pinsZ sZ σZ HZ Q IZ ⟨hs, hc, ht⟩ => ?_⟩
  refine wpAny_Call_Name_kw (thn ((pe_var (pos := p1) (i := i) hN hv hd hcd).run pinsZ sZ σZ HZ (fun v H1 => v = .ref f ∧ H1 = HZ) IZ ⟨.ref f, hs, rfl, rfl⟩) fun u s1 ⟨v, H1, I1, r1, ev, eH⟩ => ?_)
  subst ev
  rw [eH] at I1
  obtain rfl : u = Value.ref f := r1
  have stay : ∀ b o, s.heap.get? b = some o → H b = none → b ∉ frs X.stack → s1.heap.get? b = some o := fun b o e n fr => I1.base.keep b o e n fr (fun z => nomatch (show b ∈ ([] : List Addr) from z))
  have of1 := stay f _ hf hfn hfr
  refine PySem.W.callWith_F0 ⟨_, _, _, _, of1⟩ ?_
  have un : Un (frs X.stack) [] H HZ s.heap s1.heap := I1.base
  obtain ⟨⟨oc, vs, t, hoc, hdc, hvc⟩, _, _⟩ := I1.hok c' _ hc
  have df1 : (dV = .none ∧ dv = []) ∨ ∃ T, dV = .ref T ∧ s1.heap.get? T = some (PySem.W.kdv_tup dv) := by
    rcases df with z | ⟨T, e, h1, h2, h3⟩
    · exact .inl z
    · exact .inr ⟨T, e, stay T _ h1 h2 h3⟩
  have rc : codeAny (model X.prog X.w) (X.A.deeper (envOfC qg sg s.heap.objs.size g cdg)) (.call (.ref f) ⟨[], []⟩) (CR (L2.CX X.prog X.w) (envOfC qg sg s.heap.objs.size g cdg :: X.stack) X.prog X.w HZ s1 Q E) s1 := by
    refine PySem.W.kla_callFunE hr.depth of1 rfl L.co L.gen rfl ⟨c', oc, vs, t, rfl, hoc, hdc, hvc⟩ (hbind _ _ _ _ _ _ _ dv s1 rfl df1 _ _ _ _ ?_)
    refine wpAny_newFunctionEnv (fun y hy => (L.own y hy).1) (fun y hy => hxs _ (List.of_mem_zip hy).1) (fun h₁ hns hsb => ⟨I1.nolimit.fresh _ hsb, ?_⟩) L.kind
    show codeAny _ _ (.expr body (lamEnv X scope s1.heap.objs.size f c')) _ _
    have kp : ∀ b o, s1.heap.get? b = some o → h₁.get? b = some o := fun b o e => hsb.extBut b o (Nat.ne_of_lt (Heap.lt_size e)) (Heap.get?_push_of_some _ e)
    have J : Inv (lamCx X (X.A.deeper (envOfC qg sg s.heap.objs.size g cdg)) (envOfC qg sg s.heap.objs.size g cdg :: X.stack) s1 HZ E scope f c') [] σ HZ { s1 with heap := h₁, toks := s1.toks + (xs.zip dv).length } :=
      lam_startD I L I1.env0 hr.hd un hns kp
    refine PySem.W.kla_codeExpr (wpAny_mono ((hbody _ _ s1 HZ (hr.deeper _)).run [] _ _ HZ Q J ht) (fun v s' hq => ?_) fun e s' hq => hq)
    obtain ⟨w', H', J', rv, q⟩ := hq
    exact ⟨w', H', J'.os, J'.bare, J'.base, J'.hok, rv, q⟩
  have hx : Passes (L2.CX X.prog X.w) ((cxOf CXg X.prog X.w X.K X.mg X.base Ng qg sg g cdg X.A X.stack s H Eg).tr pn xe) E := passes_call tk hW
  refine wpAny_call (codeAny_mono rc fun r s' hq => ?_)
  cases r with
  | error e => exact hx pinsZ σZ HZ s1 e s' I1 hq
  | ok fl =>
    cases fl with
    | ret u => exact I1.after hq
    | next => exact False.elim hq
    | brk => exact False.elim hq
    | cont => exact False.elim hq
end
end Ev
set_option Elab.async false
set_option linter.all false
set_option maxRecDepth 100000
set_option maxHeartbeats 2000000
/-! Ev21: def f(call): try: return [call()] / except C as e: return (text, e.x) / ..: handed a lambda. -/
namespace Ev
open PySem PySem.Spec PyProof.Rows L2 LamX

/-- a clause: which errors it takes, the text it answers with (none: never reached) -/
abbrev Hd := (Nat → Bool) × Option (List Nat)
def tryR : List Hd → Nat → D → Option D
  | [], _, _ => none
  | p :: l, c, d => if p.1 c then (match p.2 with
    | some s => some (.tup [.str s, d])
    | none => none) else tryR l c d
def gSaid (gl : GE) (hs : List Hd) : GE := fun δ h => match gl δ h with
  | .ok d h1 => .ok (.ref h1.length) (h1 ++ [.lst [d]])
  | .exc c p h1 => match tryR hs c p with
    | some d => .ok d h1
    | none => .bad
  | .bad => .bad
def TsOk (C : Cls) (n : Nat) (m : Nat → Bool) (o : Option Nat) (ts : Addr → Value → Option Addr → TS) : Option (List Nat) → Prop
  | none => True
  | some sx => ∀ c ca, C.f c = some ca → m c = true → ∀ a dx v D σ H, σ.length = n → H dx = some (.xd [(C.fld c, v)]) → (∀ q, H q = none → D.rt (.ref q) (upd H q (.tup [.str ⟨sx.toArray⟩, v]))) →
    ts a (.ref ca) (some dx) (gone o D) (named o σ a) H
inductive SaidSem (K : PySem.W.Frag) (C : Cls) (n : Nat) : List Hd → List Clause → Prop
  | nil : SaidSem K C n [] []
  | cons {cv : Value} {o : Option Nat} {ts : Addr → Value → Option Addr → TS} {m : Nat → Bool} {r : Option (List Nat)} {hs : List Hd} {l : List Clause} (hm : ∀ c ca, C.f c = some ca → PySem.W.exmOne K (.ref ca) cv = some (m c)) (ht : TsOk C n m o ts r) (hr : SaidSem K C n hs l) :
      SaidSem K C n ((m, r) :: hs) ((cv, o, ts) :: l)
theorem said_w {K : PySem.W.Frag} {C : Cls} {n : Nat} {hs : List Hd} {l : List Clause} (S : SaidSem K C n hs l) {c : Nat} {ca dx : Addr} {p d : D} {v : V} {D : Ends} {σ : L2.St} {H : Hp} {Wout : WX} (hc : C.f c = some ca) (e : tryR hs c p = some d) (len : σ.length = n) (hx : H dx = some (.xd [(C.fld c, v)]))
    (q : ∀ sx, d = .tup [.str sx, p] → ∀ r, H r = none → D.rt (.ref r) (upd H r (.tup [.str ⟨sx.toArray⟩, v]))) : wCl K Wout D l (.ref ca) (some dx) σ H := by
  induction S with
  | nil => cases e
  | @cons cv o ts m r hs l hm ht hr ih =>
    unfold tryR at e
    refine ⟨m c, hm c ca hc, fun mc a na => ?_, fun mc => ?_⟩
    · simp only [mc, if_true] at e
      cases r with
      | none => cases e
      | some sx =>
        cases e
        exact ht c ca hc mc a dx v D σ H len hx (q sx rfl)
    · simp only [mc, Bool.false_eq_true, if_false] at e
      exact ih e
/-- except C as n: return (text, n.f) -/
theorem tsAs {K : PySem.W.Frag} {C : Cls} {N i c0 : Nat} {Ca : Addr} {sx : List Nat} {f : Str} {x : Str} (hi : i < N) (hc : C.f c0 = some Ca) (hf : C.fld c0 = f) (ex : x = ⟨sx.toArray⟩) :
    TsOk C N (fun c => Nat.beq c c0) (some i) (fun a cls d => tRet (tTup (tCons (tC (.str x)) (tCons (tXf a cls d Ca f (tVar i)) L2.tNil)))) (some sx) := by
  intro c ca h1 h2 a dx v D σ H len hx q
  obtain rfl : c = c0 := Nat.eq_of_beq_eq_true h2
  rw [hc] at h1
  cases h1
  refine ⟨.ref a, ?_, rfl, rfl, dx, _, v, rfl, hx, ?_, ?_, fun r hr => ?_⟩
  · show (σ.set i (some (.ref a)))[i]? = _
    rw [List.getElem?_set_self (by rw [len]; exact hi)]
  · rw [hf, List.lookup_cons, beq_self_eq_true]
  · show 2 ≤ sizeLine
    decide
  · rw [ex]
    exact q r hr
section
variable {X : Cx} {C : Cls} {W : WX} {x a : Str} {g c P : Addr} {k nd : Nat} {st : Stmt} {fd : FuncData} {Ng xs : List Str} {params : Arguments} {body : Expr} {scope : Scope} {gl : GE} {hs : List Hd} {l : List Clause} {p p1 p2 p3 p4 p5 lpos pos : Pos} {h₀ : ExceptHandler} {hds : List ExceptHandler}
/-- what the def needs -/
structure SaidDef (P : Program) (w : World) (K : PySem.W.Frag) (mg : Str → Option Value) (base : Heap) (C : Cls) (x a : Str) (st : Stmt) (Ng : List Str) (hs : List Hd) : Prop where
  ex : ∃ (g : Addr) (fd : FuncData) (p1 p2 p3 p4 p5 : Pos) (h₀ : ExceptHandler) (hds : List ExceptHandler) (l : List Clause), L2.Fun K x x st g fd ∧ mg x = some (.ref g) ∧ Binds K fd [a] [] ∧ defBody st = [.Try [.Return (some (.List [.Call (.Name a p1) [] [] p2] p3)) p4] (h₀ :: hds) [] [] p5] ∧ SaidSem K C Ng.length hs l ∧
    ∀ (cdv : Value) (A : Around) (outer : List Env) (s : Shared) (H : Hp), Cls? (cxOf C8.CX0 P w K mg base Ng x (defScope st) g cdv A outer s H C8.E0).nox (h₀ :: hds) l
  sc : FnScope Ng [a] (defScope st)
  at0 : Ng[0]? = some a
  vis : Vis (defScope st) a
theorem said_core (Z : SaidDef X.prog X.w X.K X.mg X.base C x a st Ng hs) (hg : Gl X x) (hr : Room (k + 2) X.A) (L : LamK X.N X.env.scope scope) (hxs : ∀ y ∈ xs, scope.names.lookup y = some .local) (hbind : LamB params body scope xs nd) {dvs : List V} (hnd : dvs.length = nd)
    (hbody : ∀ (A : Around) (outer : List Env) (s : Shared) (H : Hp) (E : XK) (f c' : Addr), Room k (A.deeper (lamEnv X scope s.heap.objs.size f c')) → PE (lamCx X A outer s H E scope f c') body (rd X.K C (wF E) gl))
    (make : ∀ (pins : List (Addr × Obj)) (s : Shared) (σ : L2.St) (H : Hp) (Q : Value → Shared → Prop), Inv X pins σ H s → Tabs C.T H → LamMade X pins σ H C.T params body scope dvs Q → wpAny (model X.prog X.w) X.A (eval (.Lambda params body scope lpos) X.env) Q X.xe s)
    (hdb : (x == ("__debug__" : Str)) = false := by decide) (hd : (a == ("__debug__" : Str)) = false := by decide) (hcd : (a == ("__classdict__" : Str)) = false := by decide) :
    PE X (.Call (.Name x p) [.Lambda params body scope lpos] [] pos) (rd X.K C W (gSaid gl hs)) := by
  obtain ⟨g, fd, p1, p2, p3, p4, p5, h₀, hds, l, F, mgf, B, eb, S, cl⟩ := Z.ex
  refine ⟨fun pins s σ H Q I ⟨ρ, h, δ, rh, rs, m⟩ => ?_⟩
  refine wpAny_Call_Name_kw (ld_glob I hg mgf ?_ hdb)
  refine PySem.W.callWith_K (h₀ := X.base) I.ok.mod.kin F.kp ?_ (by rfl) (by rfl)
  show wpAny _ _ (spliced ((false, eval (.Lambda params body scope lpos) X.env) :: backTo pos (starEach [] X.env))) _ _ s
  refine Calls.spliced_cons (make pins s σ H _ I rh.tabs fun f c' dV doc pm ctv dv H1 s' I1 eN T1 hf hfn hfr hco df rdv => ?_)
  refine Calls.spliced_nil ⟨I1.kIn, ?_⟩
  have rh1 := rh.ext eN T1
  have rs1 := rs.go (go_ext rh eN)
  have m1 := m.go (go_ext rh eN)
  obtain ⟨oc, od, kV, doc', pm', an, cdv, ct, osl, rfl, lk, hcg⟩ := F.ex
  have bl : LamB params body scope xs dv.length := by rw [← rdv.length, hnd]; exact hbind
  have rc : codeAny (model X.prog X.w) X.A (.call (.ref g) ⟨[.ref f], []⟩) (CR C8.CX0 X.stack X.prog X.w H1 s' Q C8.E0) s' := by
    refine run_ofS (N := Ng) (ps := [a]) (us := [.ref f]) (vs := [.ref f]) lk hcg Z.sc hr I1.env0 (B s' [.ref f] I1.kIn rfl) (.cons rfl .nil) rfl fun hr' => ?_
    rw [eb]
    refine ⟨_, (pss_one (ps_try_cl (X := (cxOf C8.CX0 X.prog X.w X.K X.mg X.base Ng x (defScope st) g cdv X.A X.stack s' H1 C8.E0).nox) (l := l) (Wout := fun _ _ _ _ => False)
      (tb := fun W' D σ' H' => ∃ Ech : XK, (∀ cls d σ2 H2, Ech cls d H2 → W' cls d σ2 H2) ∧ tRet (L2.tLst (L2.tCons (fun σZ HZ Q => σZ[0]? = some (some (.ref f)) ∧ HZ c' = some (CodeO c' (X.env.qual ++ "<lambda>")) ∧ rd X.K C (wF Ech) gl σ HZ Q) L2.tNil)) D σ' H')
      rfl rfl Z.sc.nd LamX.takes0 (fun W' pn xe tk _ => ?_) (cl cdv X.A X.stack s' H1))).nox, ?_⟩
    · refine ⟨fun pins' s2 σ2 H2 D I2 ⟨Ech, hW, q⟩ => ?_⟩
      have act := pe_actD (CXg := C8.CX0) (Eg := C8.E0) (p1 := p1) (p2 := p2) (i := 0) (E := Ech) (Ng := Ng) I1 L hf hfn hfr df hxs bl tk hW hr' (fun A outer s H hr2 => hbody A outer s H Ech f c' hr2) Z.at0 Z.vis hd hcd
      exact (pss_one (ps_ret (pos := p4) (pe_lst (pos := p3) (pa_cons act pa_nil)))).run pins' s2 σ2 H2 D I2 q
    · refine ⟨fun cls d H2 => ∀ σ2 : L2.St, σ2.length = Ng.length → wCl X.K (fun _ _ _ _ => False) { nx := fun _ H' => Q .non H', rt := Q } l cls d σ2 H2, fun cls d σ2 H2 z len => z σ2 len, ?_⟩
      refine ⟨rfl, hco, ρ, h, δ, rh1, rs1, ?_⟩
      unfold gSaid at m1
      revert m1
      cases gl δ h with
      | ok d h1 =>
        exact fun m1 ρ' H' g' rh' v rv => ⟨by show 1 ≤ sizeLine; decide, fun r hr => m1 _ _ (g'.trans (go_add rh' hr)) (rh'.add hr (.lst (.cons (rv.go (go_add rh' hr)) .nil))) _ (RD_new rh')⟩
      | exc cc pp h1 =>
        dsimp only
        intro m1 ρ' H' ca dx v g' rh' e1 rv hx σ2 len
        cases et : tryR hs cc pp with
        | none => rw [et] at m1; exact m1.elim
        | some d =>
          rw [et] at m1
          refine said_w S e1 et len hx fun sx ed r hr => ?_
          subst ed
          exact m1 ρ' _ (g'.trans (go_new rh' hr)) (rh'.new hr) _ (.tup (SqT.of upd_same) (.cons .str (.cons (rv.go (go_new rh' hr)) .nil)))
      | bad => exact fun m1 => m1.elim
  refine wpAny_call (codeAny_mono rc fun r s2 hq => ?_)
  cases r with
  | error e => exact (show False from hq).elim
  | ok fl =>
    cases fl with
    | ret u => exact I1.after hq
    | next => exact False.elim hq
    | brk => exact False.elim hq
    | cont => exact False.elim hq
end
end Ev
set_option Elab.async false
set_option linter.all false
set_option maxRecDepth 100000
set_option maxHeartbeats 2000000
/-! Ev22: a def that is handed no objects and hands none on: by its own heap alone; the module's constants; slots. -/
namespace Ev
open PySem PySem.Spec L2
mutual
def noRef : D → Bool
  | .ref _ => false
  | .tup l => noRefs l
  | _ => true
def noRefs : List D → Bool
  | [] => true
  | d :: l => noRef d && noRefs l
end
section
variable {K : PySem.W.Frag} {C : Cls} {ρ ρ' : List Addr} {H : Hp}
mutual
theorem RD.bare : ∀ {d : D} {v : V}, noRef d = true → RD K ρ H d v → RD K ρ' H d v
  | .non, _, _, r => by unfold RD at r ⊢; exact r
  | .bl _, _, _, r => by unfold RD at r ⊢; exact r
  | .int _, _, _, r => by unfold RD at r ⊢; exact r
  | .str _, _, _, r => by unfold RD at r ⊢; exact r
  | .tup l, _, e, r => by
    unfold RD at r ⊢
    unfold noRef at e
    obtain ⟨a, vs, q, s, z⟩ := r
    exact ⟨a, vs, q, s, RDs.bare e z⟩
  | .ref n, _, e, _ => by unfold noRef at e; cases e
theorem RDs.bare : ∀ {l : List D} {vs : List V}, noRefs l = true → RDs K ρ H l vs → RDs K ρ' H l vs
  | [], _, _, r => by unfold RDs at r ⊢; exact r
  | d :: l, _, e, r => by
    unfold RDs at r ⊢
    unfold noRefs at e
    rw [Bool.and_eq_true] at e
    obtain ⟨v, t, q, x, y⟩ := r
    exact ⟨v, t, q, x.bare e.1, y.bare e.2⟩
end
theorem RH.none {h : List O} (r : RH K C ρ h H) : RH K C [] [] H := ⟨rfl, List.nodup_nil, fun i o e => (by simp at e), r.tabs⟩
/-- what was written from no objects on has left all of them -/
theorem go_none {h h' : List O} {H' : Hp} (r : RH K C ρ h H) (g : Go K [] H ρ' H') (r' : RH K C ρ' h' H') : Go K ρ H ρ H' ∧ RH K C ρ h H' := by
  have go : Go K ρ H ρ H' := ⟨⟨[], by simp, by simp⟩, fun b o e _ t => g.keep b o e (by simp) t, g.sq⟩
  refine ⟨go, r.len, r.nd, fun i o e => ?_, r'.tabs⟩
  obtain ⟨a, ho, e1, e2, e3⟩ := r.at_ i o e
  refine ⟨a, ho, e1, g.keep a ho e2 (by simp) fun ps z => ?_, e3.go go⟩
  subst z
  cases o with
  | lst l => obtain ⟨vs, q, _⟩ := e3; cases q
  | dct l => obtain ⟨vs, q, _⟩ := e3; cases q
/-- by its own heap alone where nothing is handed in that is an object -/
def frF (G : GF) : GF := fun l h => if noRefs l then (match G l [] with
    | .ok d _ => if noRef d then .ok d h else G l h
    | .exc c p _ => if noRef p then .exc c p h else G l h
    | .bad => .bad) else G l h
theorem spF_frame {n : Nat} {G : GF} {vs : List V} {Q : VK} {E : XK} (q : spF K C n (frF G) vs H Q E) : spF K C n G vs H Q E := by
  obtain ⟨ρ, h, l, rh, rl, e, m⟩ := q
  unfold frF at m
  by_cases b : noRefs l = true
  · rw [if_pos b] at m
    cases eg : G l [] with
    | ok d h1 =>
      rw [eg] at m
      dsimp only at m
      by_cases b' : noRef d = true
      · rw [if_pos b'] at m
        refine ⟨[], [], l, rh.none, rl.bare b, e, ?_⟩
        rw [eg]
        intro ρ' H' g rh' v rv
        obtain ⟨g2, rh2⟩ := go_none rh g rh'
        exact m _ _ g2 rh2 v (rv.bare b')
      · rw [if_neg b'] at m
        exact ⟨ρ, h, l, rh, rl, e, m⟩
    | exc c p h1 =>
      rw [eg] at m
      dsimp only at m
      by_cases b' : noRef p = true
      · rw [if_pos b'] at m
        refine ⟨[], [], l, rh.none, rl.bare b, e, ?_⟩
        rw [eg]
        intro ρ' H' a dx v g rh' e1 rv e2
        obtain ⟨g2, rh2⟩ := go_none rh g rh'
        exact m _ _ _ _ v g2 rh2 e1 (rv.bare b') e2
      · rw [if_neg b'] at m
        exact ⟨ρ, h, l, rh, rl, e, m⟩
    | bad =>
      rw [eg] at m
      exact m.elim
  · rw [if_neg b] at m
    exact ⟨ρ, h, l, rh, rl, e, m⟩
end
theorem Cal.frame {P : Program} {w : World} {K : PySem.W.Frag} {mg : Str → Option Value} {base : Heap} {C : Cls} {k : Nat} {x : Str} {n : Nat} {G : GF} (c : Cal P w K mg base C k x n G) : Cal P w K mg base C k x n (frF G) := by
  obtain ⟨f, fd, ps, F, m, kp, b⟩ := c.ex
  exact ⟨f, fd, ps, F.imp fun _ _ _ _ q => spF_frame q, m, kp, b⟩
section
variable {X : Cx} {C : Cls} {W : WX} {x : Str} {pos : Pos}
/-- a constant of the module -/
theorem sGc {v : V} {d : D} (hg : Gl X x) (h : ∃ u, X.mg x = some u ∧ RelV v u) (r : ∀ ρ H, RD X.K ρ H d v) (hd : (x == ("__debug__" : Str)) = false := by decide) : PE X (.Name x pos) (rd X.K C W (gC d)) := by
  obtain ⟨u, hm, q⟩ := h
  exact sC (pe_glob hg hm q hd) r
end
end Ev
set_option Elab.async false
set_option linter.all false
set_option maxRecDepth 100000
set_option maxHeartbeats 2000000
/-! Ev23: the rules in the form in which a program prints their use. -/
namespace Ev
open PySem PySem.Spec L2
structure ErrOk (P : Program) (K : PySem.W.Frag) (mg : Str → Option Value) (C : Cls) (x : Str) (c : Nat) : Prop where
  ex : ∃ (Ca fI : Addr) (B newId initId : String) (bmB : List Value) (sf pl : Str), C.f c = some Ca ∧ ErrK P K Ca fI B newId initId bmB (C.fld c) sf pl ∧ mg x = some (.ref Ca)
  sup : mg "super" = none
section
variable {X : Cx} {C : Cls} {W : WX} {x : Str} {p pos rpos : Pos} {e : Expr} {ga : GE} {k c : Nat}
theorem ErrOk.raise (Z : ErrOk X.prog X.K X.mg C x c) (hr : Room k X.A) (hk : 1 ≤ k) (hg : Gl X x) (calm : X.calm = true) (tk : Takes X W) (ha : PE X e (rd X.K C W ga))
    (hdb : (x == ("__debug__" : Str)) = false := by decide) (he : starEach [e] X.env = (false, eval e X.env) :: starEach [] X.env := by rfl) (hpl : (backTo pos (starEach [] X.env)).any (·.1) = false := by rfl) :
    PS X (.Raise (some (.Call (.Name x p) [e] [] pos)) none rpos) (rdS X.K C W (sRaise c ga)) := by
  obtain ⟨Ca, fI, B, newId, initId, bmB, sf, pl, h1, h2, h3⟩ := Z.ex
  exact zRaise c h1 h2 (k := 0) (hr.mono hk) Z.sup hg h3 calm tk ha hdb he hpl
theorem sV (i : Nat) (hN : X.N[i]? = some x := by rfl) (hv : Vis X.env.scope x := by first | exact .inl rfl | exact .inr (.inl rfl) | exact .inr (.inr rfl)) (hd : (x == ("__debug__" : Str)) = false := by decide) (hcd : (x == ("__classdict__" : Str)) = false := by decide) :
    PE X (.Name x pos) (rd X.K C W (gVar i)) := sVar (pe_var hN hv hd hcd)
theorem sGk {d : D} (hg : Gl X x) (h : ∃ (v : V) (u : Value), X.mg x = some u ∧ RelV v u ∧ ∀ ρ H, RD X.K ρ H d v) (hd : (x == ("__debug__" : Str)) = false := by decide) : PE X (.Name x pos) (rd X.K C W (gC d)) := by
  obtain ⟨v, u, h1, h2, h3⟩ := h
  exact sGc hg ⟨u, h1, h2⟩ h3 hd
theorem cr_lenO : CallR X (.builtin "len") (rLenO X.K) := call_len.or call_lenD
theorem _root_.L2.Room.ix {A : Around} (r : Room k A) : A.units + 1 < cLine := by have := r.units; omega
end
def scC (N P : List Str) (sc : Scope) : Bool :=
  decide (sc.kind = .function) && !sc.isCoroutine && !sc.isGenerator && decide N.Nodup && decide (N.take P.length = P) && P.all (fun x => decide (sc.names.lookup x = some .local) || decide (sc.names.lookup x = some .cell)) && sc.names.all (fun y => !decide (y.2 = .free))
theorem fnScope_by {N P : List Str} {sc : Scope} (h : scC N P sc = true) : FnScope N P sc := by
  unfold scC at h
  simp only [Bool.and_eq_true, Bool.not_eq_true', decide_eq_true_eq, List.all_eq_true, Bool.or_eq_true, decide_eq_false_iff_not] at h
  obtain ⟨⟨⟨⟨⟨⟨h1, h2⟩, h3⟩, h4⟩, h5⟩, h6⟩, h7⟩ := h
  exact ⟨h1, h2, h3, h4, h5, h6, h7⟩
end Ev
set_option Elab.async false
set_option linter.all false
set_option maxRecDepth 100000
set_option maxHeartbeats 2000000
/-! Ev24: defs that make lambdas; said(lambda: ..), said(lambda x=0: ..); the clauses of said. -/
namespace Ev
open PySem PySem.Spec PyProof.Rows L2 LamX
/-- a def of the text whose code object has a table of code objects -/
structure DfnL (K : PySem.W.Frag) (mg : Str → Option Value) (base : Heap) (C : Cls) (x : Str) (st : Stmt) (ps : List Str) : Prop where
  ex : ∃ (f : Addr) (fd : FuncData) (c P : Addr), (∃ (oc : Value) (od : Option Addr) (kV doc pm : Value) (an : Option Addr) (ct : Value) (osl : Array (Option Value)),
    fd = PySem.W.fnOf x x (defArgs st) (defBody st) (defScope st) .none kV doc pm an (.ref c) ct ∧ K.lookup f = some ⟨oc, od, .func fd, osl⟩ ∧ PySem.W.codeIn K (.ref c) x = true) ∧
    PySem.W.keepIn K (.ref f) = true ∧ mg x = some (.ref f) ∧ Binds K fd ps [] ∧ TabB base mg c P ∧ (P, x ++ ".<locals>." ++ "<lambda>") ∈ C.T ∧ ∀ p ∈ C.T, p.1 = P → p.2 = x ++ ".<locals>." ++ "<lambda>"
def LamOk (X : Cx) (C : Cls) : Prop := ∃ c P : Addr, X.env.code = .ref c ∧ TabB X.base X.mg c P ∧ (P, X.env.qual ++ "<lambda>") ∈ C.T ∧ ∀ p ∈ C.T, p.1 = P → p.2 = X.env.qual ++ "<lambda>"
section
variable {P : Program} {w : World} {K : PySem.W.Frag} {mg : Str → Option Value} {base : Heap} {C : Cls}
theorem cal_ofL {x : Str} {st : Stmt} {ps : List Str} (N : List Str) {k : Nat} {g : GS} (F : DfnL K mg base C x st ps) (S : FnScope N ps (defScope st))
    (hb : ∀ (f : Addr) (cdv : Value) (A : Around) (outer : List Env) (s : Shared) (H : Hp) (E : XK), LamOk (bx P w K mg base N x (defScope st) f cdv A outer s H E) C → Room k (bx P w K mg base N x (defScope st) f cdv A outer s H E).A →
      PSs (bx P w K mg base N x (defScope st) f cdv A outer s H E) (defBody st) (rdS K C (wF E) g)) : Cal P w K mg base C (k + 1) x ps.length (fOf N.length ps.length g) := by
  obtain ⟨f, fd, c, Pt, ⟨oc, od, kV, doc, pm, an, ct, osl, rfl, lk, hcd⟩, kp, m, b, TB, hm, hu⟩ := F.ex
  refine ⟨f, _, ps, fn_of lk hcd S spF_len fun A outer s H vs Q E hr hsp => ?_, m, kp, b⟩
  refine ⟨_, hb f (.ref c) A outer s H E ⟨c, Pt, rfl, TB, hm, hu⟩ hr, ?_⟩
  obtain ⟨ρ, h, l, rh, rl, e, m⟩ := hsp
  refine ⟨ρ, h, _, rh, RS_start N rl, ?_⟩
  rw [e]
  unfold fOf at m
  revert m
  cases g (l.map some ++ List.replicate (N.length - ps.length) none) h with
  | nx δ' h' => exact fun m ρ' H' σ' g' r' _ => m ρ' H' g' r' _ .non
  | ret d h' => exact fun m ρ' H' v g' r' q => m ρ' H' g' r' v q
  | brk δ' h' => exact fun m => m.elim
  | cnt δ' h' => exact fun m => m.elim
  | exc c p δ' h' => exact fun m ρ' H' σ' a dx v g' r' _ => m ρ' H' a dx v g' r'
  | bad => exact fun m => m.elim
end
section
variable {X : Cx} {C : Cls} {W : WX} {x a : Str} {k : Nat} {st : Stmt} {Ng : List Str} {params : Arguments} {body : Expr} {scope : Scope} {gl : GE} {hs : List Hd} {p lpos pos : Pos}
theorem lam_takes {A : Around} {outer : List Env} {s : Shared} {H : Hp} {E : XK} {f c' : Addr} : Takes (lamCx X A outer s H E scope f c') (wF E) := takes_of rfl rfl rfl rfl
/-- said(lambda: body) -/
theorem sSaid0 (Z : SaidDef X.prog X.w X.K X.mg X.base C x a st Ng hs) (hg : Gl X x) (hr : Room (k + 2) X.A) (lo : LamOk X C) (L : LamK X.N X.env.scope scope) (hbind : LamB params body scope [] 0) (hdef : defaultsOf params X.env = ([], []))
    (hbody : ∀ (A : Around) (outer : List Env) (s : Shared) (H : Hp) (E : XK) (f c' : Addr), Room k (lamCx X A outer s H E scope f c').A → PE (lamCx X A outer s H E scope f c') body (rd X.K C (wF E) gl))
    (hdb : (x == ("__debug__" : Str)) = false := by decide) (hd : (a == ("__debug__" : Str)) = false := by decide) (hcd : (a == ("__classdict__" : Str)) = false := by decide) :
    PE X (.Call (.Name x p) [.Lambda params body scope lpos] [] pos) (rd X.K C W (gSaid gl hs)) := by
  obtain ⟨c, P, hcode, TB, hm, hu⟩ := lo
  exact said_core Z hg hr L (xs := []) (fun _ z => nomatch z) hbind (dvs := []) rfl hbody (fun pins s σ H Q I hT h => mkLam I TB hcode hm hu hT hdef (L.has I.ok) h) hdb hd hcd
/-- said(lambda y=0: body) -/
theorem sSaid1 {y : Str} {i : Int} {jd : Nat} {pd : Pos} (Z : SaidDef X.prog X.w X.K X.mg X.base C x a st Ng hs) (hg : Gl X x) (hr : Room (k + 2) X.A) (lo : LamOk X C) (L : LamK X.N X.env.scope scope) (hbind : LamB params body scope [y] 1) (hdf : params.defaults = [.Constant (.int i) jd pd]) (hkd : params.kw_defaults = [])
    (hy : scope.names.lookup y = some .local) (hbody : ∀ (A : Around) (outer : List Env) (s : Shared) (H : Hp) (E : XK) (f c' : Addr), Room k (lamCx X A outer s H E scope f c').A → PE (lamCx X A outer s H E scope f c') body (rd X.K C (wF E) gl))
    (hdb : (x == ("__debug__" : Str)) = false := by decide) (hd : (a == ("__debug__" : Str)) = false := by decide) (hcd : (a == ("__classdict__" : Str)) = false := by decide) :
    PE X (.Call (.Name x p) [.Lambda params body scope lpos] [] pos) (rd X.K C W (gSaid gl hs)) := by
  obtain ⟨c, P, hcode, TB, hm, hu⟩ := lo
  refine said_core Z hg hr L (xs := [y]) (fun z hz => ?_) hbind (dvs := [.int i]) rfl hbody (fun pins s σ H Q I hT h => mkLamD I TB hcode hm hu hT hdf hkd (L.has I.ok) h) hdb hd hcd
  cases List.mem_singleton.mp hz
  exact hy
end
/-! ### the clauses -/
/-- an error's class in a clause: which of the evaluator's errors it takes -/
structure ClsOk (K : PySem.W.Frag) (mg : Str → Option Value) (C : Cls) (x : Str) (m : Nat → Bool) : Prop where
  ex : ∃ u : Value, mg x = some u ∧ ∀ c ca, C.f c = some ca → PySem.W.exmOne K (.ref ca) u = some (m c)
structure ClsF (K : PySem.W.Frag) (mg : Str → Option Value) (C : Cls) (x : Str) (c0 : Nat) (f : Str) : Prop where
  ex : ∃ Ca : Addr, mg x = some (.ref Ca) ∧ C.f c0 = some Ca ∧ C.fld c0 = f ∧ XfC K Ca ∧ PySem.W.findIn K (.ref Ca) f = some none ∧ ∀ c ca, C.f c = some ca → PySem.W.exmOne K (.ref ca) (.ref Ca) = some (Nat.beq c c0)
/-- the clauses of said, in its def's contexts -/
def Clauses (P : Program) (w : World) (K : PySem.W.Frag) (mg : Str → Option Value) (base : Heap) (C : Cls) (x : Str) (st : Stmt) (Ng : List Str) (hds : List ExceptHandler) (hs : List Hd) : Prop :=
  ∃ l : List Clause, SaidSem K C Ng.length hs l ∧ ∀ (g : Addr) (cdv : Value) (A : Around) (outer : List Env) (s : Shared) (H : Hp), Cls? (cxOf C8.CX0 P w K mg base Ng x (defScope st) g cdv A outer s H C8.E0).nox hds l
section
variable {P : Program} {w : World} {K : PySem.W.Frag} {mg : Str → Option Value} {base : Heap} {C : Cls} {x : Str} {st : Stmt} {Ng : List Str} {hds : List ExceptHandler} {hs : List Hd}
theorem cl_nil : Clauses P w K mg base C x st Ng [] [] := ⟨[], .nil, fun _ _ _ _ _ _ => .nil⟩
theorem cl_as {e n f : Str} {c0 i j k : Nat} {sx : List Nat} {z : Str} {np p1 p2 p3 p4 p5 pos' : Pos} (F : ClsF K mg C e c0 f) (ez : z = ⟨sx.toArray⟩) (hi : Ng[i]? = some n) (hg : ∀ L g cd, (envOfC x (defScope st) L g cd).kindOf e = some .globalImplicit) (hn : ∀ L g cd, (envOfC x (defScope st) L g cd).kindOf n = some .local)
    (hv : (defScope st).names.lookup n = some .local) (r : Clauses P w K mg base C x st Ng hds hs) (hd : (e == ("__debug__" : Str)) = false := by decide) (hd2 : (n == ("__debug__" : Str)) = false := by decide) (hcd : (n == ("__classdict__" : Str)) = false := by decide)
    (hb : ∀ L g cd, attributeBase (.Name n p2) f (envOfC x (defScope st) L g cd) (eval (.Name n p2) (envOfC x (defScope st) L g cd)) = eval (.Name n p2) (envOfC x (defScope st) L g cd) := by intro _ _ _; rfl) :
    Clauses P w K mg base C x st Ng (.ExceptHandler (some (.Name e np)) (some n) [.Return (some (.Tuple [.Constant (.str z) j p1, .Attribute (.Name n p2) f p3] k p4)) p5] pos' :: hds) ((fun c => Nat.beq c c0, some sx) :: hs) := by
  obtain ⟨Ca, h1, h2, h3, h4, h5, h6⟩ := F.ex
  obtain ⟨l, S, c⟩ := r
  refine ⟨(.ref Ca, some i, fun a cls d => tRet (tTup (L2.tCons (tC (.str z)) (L2.tCons (tXf a cls d Ca f (tVar i)) L2.tNil)))) :: l, .cons h6 (tsAs (K := K) (List.getElem?_eq_some_iff.mp hi).1 h2 h3 ez) S, fun g cdv A outer s H => .cons ⟨hg _ _ _, hd, .inl h1⟩ ⟨hi, hn _ _ _⟩ ?_ (c g cdv A outer s H)⟩
  intro a oe cls d pn hz hf
  exact pss_one (ps_ret (pe_tup (pa_cons pe_str (pa_cons (pe_xf h4 h5 hz hf (pe_var hi (.inl hv) hd2 hcd) (hb _ _ _)) pa_nil))))
/-- a clause that is never come to -/
theorem cl_no {e : Str} {on : Option Str} {oi : Option Nat} {m : Nat → Bool} {b₀ : Stmt} {suite : List Stmt} {np pos' : Pos} (F : ClsOk K mg C e m) (hg : ∀ L g cd, (envOfC x (defScope st) L g cd).kindOf e = some .globalImplicit)
    (hn : ∀ g cdv A outer s H, NameOk (cxOf C8.CX0 P w K mg base Ng x (defScope st) g cdv A outer s H C8.E0).nox on oi) (r : Clauses P w K mg base C x st Ng hds hs) (hd : (e == ("__debug__" : Str)) = false := by decide) :
    Clauses P w K mg base C x st Ng (.ExceptHandler (some (.Name e np)) on (b₀ :: suite) pos' :: hds) ((m, none) :: hs) := by
  obtain ⟨u, h1, h6⟩ := F.ex
  obtain ⟨l, S, c⟩ := r
  refine ⟨(u, oi, fun _ _ _ _ _ _ => False) :: l, .cons h6 trivial S, fun g cdv A outer s H => .cons ⟨hg _ _ _, hd, .inl h1⟩ (hn g cdv A outer s H) ?_ (c g cdv A outer s H)⟩
  exact fun a oe cls d pn hz hf => ⟨fun _ _ _ _ _ _ q => q.elim⟩
theorem said_def {a : Str} {p1 p2 p3 p4 p5 : Pos} {h₀ : ExceptHandler} (D : Dfn K mg x st [a]) (eb : defBody st = [.Try [.Return (some (.List [.Call (.Name a p1) [] [] p2] p3)) p4] (h₀ :: hds) [] [] p5]) (c : Clauses P w K mg base C x st Ng (h₀ :: hds) hs)
    (sc : FnScope Ng [a] (defScope st)) (at0 : Ng[0]? = some a) (vis : Vis (defScope st) a) : SaidDef P w K mg base C x a st Ng hs := by
  obtain ⟨g, fd, F, m, b⟩ := D.ex
  obtain ⟨l, S, c⟩ := c
  exact ⟨⟨g, fd, p1, p2, p3, p4, p5, h₀, hds, l, F, m, b, eb, S, fun cdv A outer s H => c g cdv A outer s H⟩, sc, at0, vis⟩
end
end Ev
set_option Elab.async false
set_option linter.all false
set_option maxRecDepth 100000
set_option maxHeartbeats 2000000
/-! Ev25: int(..), str(..) of small things. -/
namespace Ev
open PySem PySem.Spec L2
def digs (n : Nat) : List Nat := (Nat.toDigits 10 n).map Char.toNat
def decS : Int → List Nat
  | .ofNat n => digs n
  | .negSucc n => 45 :: digs (n + 1)
theorem repr_list (n : Nat) : (Nat.repr n).toList = Nat.toDigits 10 n := by
  unfold Nat.repr
  simp
theorem decS_ok (i : Int) : (toString i : Str) = ⟨(decS i).toArray⟩ := by
  show Str.ofString (toString i : String) = _
  rw [Str.ofString_eq_toList]
  congr 1
  congr 1
  cases i with
  | ofNat n =>
    show (Nat.repr n).toList.map Char.toNat = _
    rw [repr_list]
    rfl
  | negSucc n =>
    have e : (toString (Int.negSucc n) : String) = "-" ++ Nat.repr (n + 1) := rfl
    rw [e, String.toList_append, List.map_append, repr_list]
    rfl
section
variable {K : PySem.W.Frag} {C : Cls} {X : Cx}
def bInt : FB := fun l h => match l with
  | [.int i] => .ok (.int i) h
  | [.bl k] => .ok (.int (if k then 1 else 0)) h
  | [.str s] => match PySem.intText? ⟨s.toArray⟩ with
    | some n => if Nat.ble s.length 640 then .ok (.int n) h else .bad
    | none => .bad
  | _ => .bad
def rIntO : List V → Hp → VK → Prop := fun xs H Q => ((∃ i, xs = [.int i] ∧ Q (.int i) H) ∨ ∃ k, xs = [.bl k] ∧ Q (.int (if k then 1 else 0)) H) ∨ ∃ a n, xs = [.str a] ∧ PySem.intText? a = some n ∧ a.length ≤ 640 ∧ Q (.int n) H
theorem cr_intO : CallR X (.type "int") rIntO := call_int1.or call_int_str
theorem ok_intO : OkB K C bInt rIntO := by
  intro E ρ h H l vs Q rh rvs m
  unfold bInt at m
  split at m
  · obtain ⟨v, rfl, rv⟩ := rvs.one
    cases rv.of_int
    exact .inl (.inl ⟨_, rfl, m ρ H .refl rh _ .int⟩)
  · obtain ⟨v, rfl, rv⟩ := rvs.one
    cases rv.of_bl
    exact .inl (.inr ⟨_, rfl, m ρ H .refl rh _ .int⟩)
  · obtain ⟨v, rfl, rv⟩ := rvs.one
    cases rv.of_str
    split at m
    · rename_i n e
      split at m
      · rename_i hl
        exact .inr ⟨_, n, rfl, e, by rw [str_len]; exact Nat.le_of_ble_eq_true hl, m ρ H .refl rh _ .int⟩
      · exact m.elim
    · exact m.elim
  · exact m.elim
def bStr : FB := fun l h => match l with
  | [.int i] => if Nat.blt i.natAbs.log2 1920 then .ok (.str (decS i)) h else .bad
  | [.str s] => .ok (.str s) h
  | _ => .bad
def rStrO : List V → Hp → VK → Prop := fun xs H Q => (∃ i : Int, xs = [.int i] ∧ i.natAbs.log2 < 1920 ∧ Q (.str (toString i)) H) ∨ ∃ a, xs = [.str a] ∧ Q (.str a) H
theorem ok_strO : OkB K C bStr rStrO := by
  intro E ρ h H l vs Q rh rvs m
  unfold bStr at m
  split at m
  · rename_i i
    obtain ⟨v, rfl, rv⟩ := rvs.one
    cases rv.of_int
    split at m
    · rename_i hl
      refine .inl ⟨_, rfl, by simpa using hl, ?_⟩
      rw [decS_ok]
      exact m ρ H .refl rh _ .str
    · exact m.elim
  · obtain ⟨v, rfl, rv⟩ := rvs.one
    cases rv.of_str
    exact .inr ⟨_, rfl, m ρ H .refl rh _ .str⟩
  · exact m.elim
theorem cr_strO : CallR X (.type "str") rStrO := call_str_int.or SkE.call_str_str
end
end Ev
set_option Elab.async false
set_option linter.all false
set_option maxRecDepth 100000
set_option maxHeartbeats 2000000
/-! Ev26: a comprehension of two clauses, nothing within raises. -/
namespace Ev
open PySem PySem.Spec L2
def lcO2 (S : SI) (t : GT) (tt : GB) (gi1 : GI) (t1 : GT) (tt1 : GB) (ge : GE) (n : Nat) (δ0 : Sl) (vs1 : List Nat) : Nat → Nat → List O → R Unit
  | 0, _, _ => .bad
  | m + 1, i, h => match S.at i h with
    | some (some d) => match t d δ0 h with
      | some (δ1, h1) => (tt δ1 h1).bind fun b h2 => if b then (gi1 δ1 h2).bind fun S1 h3 => (lcO S1 t1 tt1 ge n (wipeD δ1 vs1) (S1.fuel h3) 0 h3).bind fun _ h4 => lcO2 S t tt gi1 t1 tt1 ge n δ0 vs1 m (i + 1) h4
        else lcO2 S t tt gi1 t1 tt1 ge n δ0 vs1 m (i + 1) h2
      | none => .bad
    | some none => .ok () h
    | none => .bad
def gLc2 (gi : GI) (t : GT) (tt : GB) (gi1 : GI) (t1 : GT) (tt1 : GB) (ge : GE) (vs vs1 : List Nat) : GE := fun δ h => (gi δ h).bind fun S h1 => (lcO2 S t tt gi1 t1 tt1 ge h1.length (wipeD δ vs) vs1 (S.fuel h1) 0 (h1 ++ [.lst []])).bind fun _ h2 => .ok (.ref h1.length) h2
theorem lc2_of {K : PySem.W.Frag} {C : Cls} {W : WX} {gi gi1 : GI} {gt gt1 : GT} {tt tt1 : GB} {ge : GE} {vs vs1 : List Nat} {σ : L2.St} {H : Hp} {Q : VK} (q : rd K C W (gLc2 gi gt (noE tt) (noE gi1) gt1 (noE tt1) (noE ge) vs vs1) σ H Q) :
    tLc2 (rdI K C W gi) (rdGv K C vs gt) (rdT K C W0 tt) (rdI K C W0 gi1) (rdGv K C vs1 gt1) (rdT K C W0 tt1) (rd K C W0 ge) vs vs1 σ H Q := by
  obtain ⟨ρ, h, δ, rh, rs, m⟩ := q
  refine ⟨ρ, h, δ, rh, rs, m.bind.mono fun ρ1 h1 H1 S g1 rh1 q1 J real D hD => ?_⟩
  have rs1 := (rs.go g1).go (go_add (o := .lst []) rh1 hD)
  have rs0 := rs1.wipe vs
  have rh0 : RH K C (ρ1 ++ [D]) (h1 ++ [.lst []]) (upd H1 D (.lst [])) := rh1.add hD (.lst .nil)
  have e0 : (ρ1 ++ [D])[h1.length]? = some D := by
    obtain ⟨a, e, z⟩ := (RD_new (H' := upd H1 D (.lst [])) (p := D) rh1).of_ref
    cases e
    exact z
  refine ⟨fun i m H => ∃ ρ h, Go K (ρ1 ++ [D]) (upd H1 D (.lst [])) ρ H ∧ RH K C ρ h H ∧ Res K C (fun x dx H' => W x dx σ H') ρ H (lcO2 S gt (noE tt) (noE gi1) gt1 (noE tt1) (noE ge) h1.length (wipeD δ vs) vs1 m i h) fun _ _ H' _ => Q (.ref D) H',
    ⟨S.fuel h1, ρ1 ++ [D], h1 ++ [.lst []], .refl, rh0, ?_⟩, ?_⟩
  · exact (q1.bind.go (go_add rh1 hD)).mono fun ρ2 h2 H2 _ g2 rh2 q2 => q2 ρ2 H2 .refl rh2 _ (.ref (g2.get e0))
  · rintro i m H ⟨ρ, h, go, rh, q⟩
    cases m with
    | zero => exact q.elim
    | succ m =>
      obtain ⟨k1, k2⟩ := real ρ h H i ((go_add (o := .lst []) rh1 hD).trans go) rh
      unfold lcO2 at q
      split at q
      · rename_i d ed
        obtain ⟨a1, a2⟩ := k1 d ed
        refine .inr ⟨a1, fun H' => ∃ ρ h, Go K (ρ1 ++ [D]) (upd H1 D (.lst [])) ρ H' ∧ RH K C ρ h H' ∧ Res K C (fun x dx H' => W x dx σ H') ρ H' (lcO2 S gt (noE tt) (noE gi1) gt1 (noE tt1) (noE ge) h1.length (wipeD δ vs) vs1 m (i + 1) h) fun _ _ H' _ => Q (.ref D) H', fun H' z => ⟨m, Nat.lt_succ_self m, z⟩, fun x H' y => ?_⟩
        obtain ⟨gy, rhy, rdy⟩ := a2 x H' y
        refine ⟨ρ, h, wipeD δ vs, d, rhy, (rs0.go go).go gy, rdy, ?_⟩
        split at q
        · rename_i δ1 h1' et
          rw [et]
          intro ρ2 H2 σ2 g2 rh2 rs2 ew
          refine ⟨ew.trans wipe_wipe, ρ2, h1', δ1, rh2, rs2, Res.noX (r := tt δ1 h1') ((q.go (gy.trans g2)).bind.mono fun ρ3 h3 H3 b g3 rh3 q3 => ?_)⟩
          have gg := ((go.trans gy).trans g2).trans g3
          cases b with
          | false =>
            simp only [Bool.false_eq_true, if_false] at q3 ⊢
            exact ⟨ρ3, h3, gg, rh3, q3⟩
          | true =>
            simp only [if_true] at q3 ⊢
            have rs3 := rs2.go g3
            refine ⟨ρ3, h3, δ1, rh3, rs3, Res.noX (r := gi1 δ1 h3) (q3.bind.mono fun ρ4 h4 H4 S1 g4 rh4 q4 J1 real1 => ?_)⟩
            have gg4 := gg.trans g4
            have rsw := (rs3.go g4).wipe vs1
            refine ⟨fun j k H => ∃ ρ h, Go K ρ4 H4 ρ H ∧ RH K C ρ h H ∧ Res K C (fun x dx H' => W x dx σ H') ρ H (lcO S1 gt1 (noE tt1) (noE ge) h1.length (wipeD δ1 vs1) k j h) (fun ρ' h' H' _ => Res K C (fun x dx H' => W x dx σ H') ρ' H' (lcO2 S gt (noE tt) (noE gi1) gt1 (noE tt1) (noE ge) h1.length (wipeD δ vs) vs1 m (i + 1) h') fun _ _ H' _ => Q (.ref D) H'),
              ⟨S1.fuel h4, ρ4, h4, .refl, rh4, q4.bind⟩, ?_⟩
            rintro j k H ⟨ρ5, h5, go5, rh5, q5⟩
            cases k with
            | zero => exact q5.elim
            | succ k =>
              obtain ⟨c1, c2⟩ := real1 ρ5 h5 H j go5 rh5
              unfold lcO at q5
              split at q5
              · rename_i d1 ed1
                obtain ⟨b1, b2⟩ := c1 d1 ed1
                refine .inr ⟨b1, fun H' => ∃ ρ h, Go K ρ4 H4 ρ H' ∧ RH K C ρ h H' ∧ Res K C (fun x dx H' => W x dx σ H') ρ H' (lcO S1 gt1 (noE tt1) (noE ge) h1.length (wipeD δ1 vs1) k (j + 1) h) (fun ρ' h' H' _ => Res K C (fun x dx H' => W x dx σ H') ρ' H' (lcO2 S gt (noE tt) (noE gi1) gt1 (noE tt1) (noE ge) h1.length (wipeD δ vs) vs1 m (i + 1) h') fun _ _ H' _ => Q (.ref D) H'), fun H' z => ⟨k, Nat.lt_succ_self k, z⟩, fun x1 H' y1 => ?_⟩
                obtain ⟨gy1, rhy1, rdy1⟩ := b2 x1 H' y1
                refine ⟨ρ5, h5, wipeD δ1 vs1, d1, rhy1, (rsw.go go5).go gy1, rdy1, ?_⟩
                split at q5
                · rename_i δ6 h6 et6
                  rw [et6]
                  intro ρ7 H7 σ7 g7 rh7 rs7 ew7
                  refine ⟨ew7.trans wipe_wipe, ρ7, h6, δ6, rh7, rs7, Res.noX (r := tt1 δ6 h6) ((q5.go (gy1.trans g7)).bind.mono fun ρ8 h8 H8 b8 g8 rh8 q8 => ?_)⟩
                  have g58 := ((go5.trans gy1).trans g7).trans g8
                  cases b8 with
                  | false =>
                    simp only [Bool.false_eq_true, if_false] at q8 ⊢
                    exact ⟨ρ8, h8, g58, rh8, q8⟩
                  | true =>
                    simp only [if_true] at q8 ⊢
                    refine ⟨ρ8, h8, δ6, rh8, rs7.go g8, Res.noX (r := ge δ6 h8) (q8.bind.mono fun ρ9 h9 H9 y9 g9 rh9 q9 v rv => ?_)⟩
                    have g59 := g58.trans g9
                    split at q9
                    · rename_i acc ea
                      obtain ⟨a', ws, p1, p2, p3⟩ := rh9.lst ea
                      have ed : ρ9[h1.length]? = some D := (gg4.trans g59).get e0
                      rw [ed] at p1
                      cases p1
                      split at q9
                      · rename_i lt
                        have lt : acc.length < line := by simpa using lt
                        refine ⟨ws, p2, ?_, ρ9, _, g59.trans (go_set rh9 ed), rh9.set ed (.lst ((p3.snoc rv).go (go_set rh9 ed))), q9.go (go_set rh9 ed)⟩
                        rw [p3.length]
                        exact Nat.lt_of_lt_of_le lt (line_ok (Nat.ble_eq.mpr (Nat.le_refl _)))
                      · exact q9.elim
                    · exact q9.elim
                · exact q5.elim
              · rename_i ed1
                exact .inl ⟨c2 ed1, ρ5, h5, gg4.trans go5, rh5, q5 ρ5 H .refl rh5⟩
              · exact q5.elim
        · exact q.elim
      · rename_i ed
        exact .inl ⟨k2 ed, q ρ H .refl rh⟩
      · exact q.elim
section
variable {X : Cx} {C : Cls} {W : WX} {elt tg iter tg1 iter1 : Expr} {ifs ifs1 : List Expr} {scope : Scope} {own : List (Str × Nat)} {vs1 : List Nat} {pos : Pos} {gi gi1 : GI} {gt gt1 : GT} {tt tt1 : GB} {ge : GE}
theorem sLc2 (hc : X.calm = true) (hN : X.N.Nodup) (hi : PI X tg iter (rdI X.K C W gi)) (ok : BlkOk X.N X.env.scope scope own) (hv : ∀ i ∈ vs1, i ∈ own.map (·.2))
    (hg : ∀ (s : Shared) (H : Hp) (a : Addr) (cl : List (Str × Addr)) (fp : List Addr), PG (X.blk s H scope (compEnvC scope cl a X.env) fp) tg (rdGv X.K C (own.map (·.2)) gt))
    (ht : ∀ (s : Shared) (H : Hp) (a : Addr) (cl : List (Str × Addr)) (fp : List Addr), PTs (X.blk s H scope (compEnvC scope cl a X.env) fp) ifs (rdT X.K C W0 tt))
    (hi1 : ∀ (s : Shared) (H : Hp) (a : Addr) (cl : List (Str × Addr)) (fp : List Addr), PI (X.blk s H scope (compEnvC scope cl a X.env) fp) tg1 iter1 (rdI X.K C W0 gi1))
    (hg1 : ∀ (s : Shared) (H : Hp) (a : Addr) (cl : List (Str × Addr)) (fp : List Addr), PG (X.blk s H scope (compEnvC scope cl a X.env) fp) tg1 (rdGv X.K C vs1 gt1))
    (ht1 : ∀ (s : Shared) (H : Hp) (a : Addr) (cl : List (Str × Addr)) (fp : List Addr), PTs (X.blk s H scope (compEnvC scope cl a X.env) fp) ifs1 (rdT X.K C W0 tt1))
    (he : ∀ (s : Shared) (H : Hp) (a : Addr) (cl : List (Str × Addr)) (fp : List Addr), PE (X.blk s H scope (compEnvC scope cl a X.env) fp) elt (rd X.K C W0 ge)) (hs : ∀ x, foldedSetIterable iter X.env x = pure x := by intro _; rfl) (hs1 : ∀ env x, foldedSetIterable iter1 env x = pure x := by intro _ _; rfl) :
    PE X (.ListComp elt [⟨tg, iter, ifs, 0⟩, ⟨tg1, iter1, ifs1, 0⟩] scope pos) (rd X.K C W (gLc2 gi gt (noE tt) (noE gi1) gt1 (noE tt1) (noE ge) (own.map (·.2)) vs1)) :=
  PE_imp (pe_lc2 hc hN hi ok hv hg ht hi1 hg1 ht1 he hs hs1) fun _ _ _ q => lc2_of q
end
end Ev
set_option Elab.async false
set_option linter.all false
set_option maxRecDepth 100000
set_option maxHeartbeats 2000000
/-! Ev27: a dict of the module (text keys): read at a key, walked. -/
namespace Ev
open PySem PySem.Spec PyProof.Rows L2
structure KDic (K : PySem.W.Frag) (w : World) (mg : Str → Option Value) (x : Str) (l : List (List Nat × D)) : Prop where
  ex : ∃ (a : Addr) (es : Array DictEntry) (n : Nat), mg x = some (.ref a) ∧ K.lookup a = some ⟨.type "dict", none, .dict es n, #[]⟩ ∧ PySem.W.KeysLit w.params es.toList ∧ (a == sysModules) = false ∧
    Paired RelV (l.map fun p => V.str ⟨p.1.toArray⟩) (es.toList.map (·.key)) ∧ ∀ p ∈ l, ∃ (u : Value) (v : V), PySem.W.nsIn K a ⟨p.1.toArray⟩ = some (some u) ∧ RelV v u ∧ ∀ ρ H, RD K ρ H p.2 v
def lookK (s : List Nat) : List (List Nat × D) → Option D
  | [] => none
  | p :: l => if decide (p.1 = s) then some p.2 else lookK s l
theorem lookK_mem {s : List Nat} {d : D} : ∀ {l : List (List Nat × D)}, lookK s l = some d → (s, d) ∈ l
  | [], e => by cases e
  | p :: l, e => by
    unfold lookK at e
    split at e
    · rename_i h
      cases e
      obtain ⟨a, b⟩ := p
      cases of_decide_eq_true h
      exact List.mem_cons_self ..
    · exact List.mem_cons_of_mem _ (lookK_mem e)
def gKd (l : List (List Nat × D)) (g : GE) : GE := fun δ h => (g δ h).bind fun d h1 => match d with
  | .str s => match lookK s l with
    | some d => .ok d h1
    | none => .bad
  | _ => .bad
/-- the keys, walked -/
def Itkd (ks : List V) : It := ⟨fun i _ => i < ks.length, fun i H x H' => H' = H ∧ ks[i]? = some x, fun i _ => ks.length ≤ i⟩
theorem paired_at {xs : List V} {us : List Value} {i : Nat} {x : V} (r : Paired RelV xs us) (e : xs[i]? = some x) : ∃ u, us[i]? = some u ∧ RelV x u := Vals.get r e
theorem turn_kd {P : Program} {w : World} {K : PySem.W.Frag} {tg : Expr} {d : Addr} {o : Obj} {es : Array DictEntry} {ep : Nat} {ks : List V} (it : Addr) (hk : K.lookup d = some o) (hod : o.data = .dict es ep) (r : Paired RelV ks (es.toList.map (·.key))) :
    Turn P w K tg (Itkd ks) [it] it (fun i h => h.IsKeyIter it d i es.size ep) where
  mem := by simp
  obj := fun i h st b hb => by
    have e : b = it := by simpa using hb
    subst e
    obtain ⟨oi, e, c, dd⟩ := st
    exact ⟨oi, e, fun v z => by rw [dd] at z; cases z⟩
  keep := fun i h h' st k => st.at fun oi e => k it (by simp) oi e
  item := by
    intro X hP hw hK hc i pins s σ H E I hf st hg
    subst hP hw hK
    obtain ⟨f0, f1, f2, f3, f4, f5⟩ := hf it (by simp)
    have hi : i < ks.length := hg
    obtain ⟨u, e1, e2⟩ := paired_at r (List.getElem?_eq_getElem hi)
    rw [List.getElem?_map, Option.map_eq_some_iff] at e1
    obtain ⟨en, e1, rfl⟩ := e1
    refine next_key_item st (I.kIn d o hk) hod rfl (by rw [← Array.getElem?_toList]; exact e1) fun h' st' sb => ?_
    have I1 : Inv X pins σ H { s with heap := h' } := I.turned (t' := s.toks) (fun b ob hb e => (sb.2 b hb).trans e) f0 f1 f3 f4 f5
    obtain ⟨oi, e, c, dd⟩ := id st'
    exact ⟨en.key, rfl, go_of (s := { s with heap := h' }) e c dd (by decide) ⟨_, H, I1, e2, ⟨rfl, List.getElem?_eq_getElem hi⟩, st', fun b hb => (hf b hb).1⟩⟩
  done := by
    intro X hP hw hK hc i pins s σ H E I hf st hg
    subst hP hw hK
    obtain ⟨f0, f1, f2, f3, f4, f5⟩ := hf it (by simp)
    have hi : ks.length ≤ i := hg
    have hl : ks.length = es.size := by rw [Paired.length r]; simp
    exact next_key_end (I.ok.hd hc) st (I.kIn d o hk) hod rfl (by omega) fun h' eb => ⟨rfl, I.turned (t' := s.toks) (fun b ob hb e => eb b ob hb e) f0 f1 f3 f4 f5⟩
  self := fun A i s Q E st h => wpAny_pyIter_keyiter st h
def iKd (l : List (List Nat × D)) : GI := fun _ h => .ok (.tup (l.map fun p => .str p.1)) h
section
variable {X : Cx} {C : Cls} {W : WX} {x : Str} {p pos : Pos} {b tg : Expr} {gb : GE} {l : List (List Nat × D)}
theorem sIxKd (h : KDic X.K X.w X.mg x l) (hg : Gl X x) (hb : PE X b (rd X.K C W gb)) (hs : PlainIx b) (hd : (x == ("__debug__" : Str)) = false := by decide) : PE X (.Subscript (.Name x p) b pos) (rd X.K C W (gKd l gb)) := by
  obtain ⟨a, es, n, hm, hl, hk, low, _, vals⟩ := h.ex
  refine PE_imp (pe_ix (r := L2.rIxD X.K X.w) ix_kdict (pe_glob (v := .ref a) hg hm rfl hd) hb hs) fun σ H Q ⟨ρ, h, δ, rh, rs, m⟩ => ?_
  refine ⟨ρ, h, δ, rh, rs, m.bind.mono fun ρ1 h1 H1 d g1 rh1 q1 v rv => ?_⟩
  split at q1
  · rename_i s
    cases rv.of_str
    split at q1
    · rename_i d' e
      obtain ⟨u, v, e1, e2, e3⟩ := vals _ (lookK_mem e)
      exact ⟨a, _, v, rfl, rfl, ⟨es, n, u, hl, hk, e1, e2⟩, q1 ρ1 H1 .refl rh1 v (e3 _ _)⟩
    · exact q1.elim
  · exact q1.elim
theorem jKd (h : KDic X.K X.w X.mg x l) (hg : Gl X x) (hd : (x == ("__debug__" : Str)) = false := by decide) : PI X tg (.Name x p) (rdI X.K C W (iKd l)) := by
  obtain ⟨a, es, n, hm, hl, hk, low, r, vals⟩ := h.ex
  refine ⟨fun pins s σ H R I ⟨ρ, h, δ, rh, rs, m⟩ => ?_⟩
  refine ld_glob I hg hm ?_ hd
  refine iter_keys low (I.kIn a _ hl) ⟨rfl, rfl, rfl⟩ rfl (pi_one (tk := s.toks) I _ (turn_kd _ hl rfl r) ⟨_, Heap.get?_push_size _ rfl, rfl, rfl⟩ ?_)
  refine m ρ H .refl rh _ fun ρ' h' H' i g' rh' => ⟨fun d e => ?_, fun e => ?_⟩
  · have e0 : (l.map fun p => D.str p.1)[i]? = some d := by simpa [SI.at] using e
    rw [List.getElem?_map, Option.map_eq_some_iff] at e0
    obtain ⟨p, e1, rfl⟩ := e0
    have hi : i < l.length := (List.getElem?_eq_some_iff.mp e1).1
    refine ⟨by show i < _; rw [List.length_map]; exact hi, fun x H'' y => ?_⟩
    obtain ⟨rfl, y⟩ := y
    rw [List.getElem?_map, e1] at y
    cases y
    exact ⟨.refl, rh', .str⟩
  · have e0 : (l.map fun p => D.str p.1)[i]? = none := by simpa [SI.at] using e
    show _ ≤ i
    rw [List.length_map]
    simpa using e0
end
end Ev
set_option Elab.async false
set_option linter.all false
set_option maxRecDepth 100000
set_option maxHeartbeats 2000000
/-! Ev28: how lambdas bind; large numbers. -/
namespace Ev
open PySem PySem.Spec PyProof.Rows L2 LamX
theorem lamB_0 {body : Expr} {scope : Scope} : LamB { posonlyargs := [], args := [], vararg := none, kwonlyargs := [], kw_defaults := [], kwarg := none, defaults := [] } body scope [] 0 := fun q cl dV doc pm cv ctv dv s e d => by
  obtain rfl := List.eq_nil_of_length_eq_zero e
  rcases d with ⟨rfl, _⟩ | ⟨T, rfl, hT⟩
  · exact .of_eq rfl
  · exact BindsTo.of_defaults (items := #[]) (n := 0) rfl hT rfl rfl rfl
theorem lamB_x {body : Expr} {scope : Scope} {p : Pos} {e : Expr} : LamB { posonlyargs := [], args := [{ arg := "x", annotation := none, pos := p }], vararg := none, kwonlyargs := [], kw_defaults := [], kwarg := none, defaults := [e] } body scope ["x"] 1 :=
  lamB1 fun _ _ _ _ _ _ _ => ⟨_, rfl, fun _ => rfl⟩
theorem lamB_y {body : Expr} {scope : Scope} {p : Pos} {e : Expr} : LamB { posonlyargs := [], args := [{ arg := "y", annotation := none, pos := p }], vararg := none, kwonlyargs := [], kw_defaults := [], kwarg := none, defaults := [e] } body scope ["y"] 1 :=
  lamB1 fun _ _ _ _ _ _ _ => ⟨_, rfl, fun _ => rfl⟩
end Ev
set_option Elab.async false
set_option linter.all false
set_option maxRecDepth 100000
set_option maxHeartbeats 2000000
/-! Ev29: str(..), int(..) of thousands of figures. -/
namespace Ev
open PySem PySem.Spec PyProof.Rows L2 PySem.NumText PySem.W
structure NoDg (K : PySem.W.Frag) : Prop where
  ok : PySem.W.nsOkIn K cStatics = true
  no : PySem.W.nsIn K cStatics "sys.int_max_str_digits" = some none
theorem NoDg.at_ {K : PySem.W.Frag} (n : NoDg K) {h : Heap} (X : K.In h) : h.NoDigits := ⟨_, .of_isNs (PySem.W.isNs_of_in X n.ok), PySem.W.nsMap_none_of_in X n.ok n.no⟩
section
variable {X : Cx}
theorem call_strL (n : NoDg X.K) (hc : X.calm = true) : CallR X (.type "str") (fun xs H Q => ∃ i : Int, xs = [.int i] ∧ i.natAbs < 10 ^ 4300 ∧ Q (.str (toString i)) H) := by
  intro pins s σ H xs us Q I r h
  obtain ⟨i, rfl, hz, q⟩ := h
  obtain ⟨u, rfl, t, rfl⟩ := vals1 r
  exact str_of_int_or (I.ok.hd hc) (n.at_ I.kIn) (fun _ => ⟨.str _, H, I.tok _, ⟨_, rfl⟩, q⟩) fun h => absurd hz (Nat.not_lt.mpr h)
end
theorem wp_dig {M : Model} {A : Around} {E : Value → Shared → Prop} {s : Shared} {Q : Nat → Shared → Prop} (hn : s.heap.NoDigits) (h : Q 4300 s) : wpAny M A Builtin.intMaxStrDigits Q E s := by
  obtain ⟨mc, hns, hnone⟩ := hn
  unfold Builtin.intMaxStrDigits
  refine wpAny_bind (wpAny_nsGet hns ?_)
  rw [hnone]
  exact wpAny_pure h
theorem wp_textL {M : Model} {A : Around} {E : Value → Shared → Prop} {s : Shared} {Q : Value → Shared → Prop} {v : Value} {text : List Nat} {n : Int}
    (hN : s.heap.NoDigits) (hs : ¬ (text.takeWhile (· != 0)).length ≤ 640) (hr : (int_private% "readNumeral") 4300 10 (text.takeWhile (· != 0)) = (int_private% "Numeral.value") n)
    (ha : ((text.takeWhile (· != 0)).length == text.length) = true) (h : Q (.int n s.toks) { s with toks := s.toks + 1 }) :
    wpAny M A ((int_private% "intFromText") v text 10) Q E s := by
  obtain ⟨hp, g, d, tk, os⟩ := s
  repeat (any_goals (first
    | assumption
    | (with_reducible refine wpAny_ite_false (decide_eq_false hs) ?_)
    | (with_reducible refine wpAny_ite_true (decide_eq_true ha) ?_)
    | (with_reducible refine wp_dig hN ?_)
    | wp_step))
  all_goals (try rw [hr])
  all_goals (try dsimp only)
  repeat (any_goals (first
    | assumption
    | (with_reducible refine wpAny_ite_false (decide_eq_false hs) ?_)
    | (with_reducible refine wpAny_ite_true (decide_eq_true ha) ?_)
    | wp_step))
set_option maxHeartbeats 4000000 in
theorem meets_textL {x : PySem.Str} {u : Tok} {n : Int} (hl : ¬ (numSeenOf x).length ≤ 640) (hz : x.length ≤ sizeLine) (hn : PySem.intText? x = some n) :
    Meets (Builtin.«int.__new__» ⟨[.type "int", .str x u], []⟩) (fun _ R s => s.heap.NoDigits ∧ R (.ok (.ret (.int n s.toks))) { s with toks := s.toks + 1 }) :=
  Meets.of_wp fun prog w A R s hq => by
    obtain ⟨hN, h⟩ := hq
    obtain ⟨hp, g, d, tk, os⟩ := s
    have f1 := F.conv_sub_int
    have f2 := F.madeHere_int
    have f3 := KIN.str_int
    have f4 := KIN.str_idx
    have f5 := KIN.str_trunc
    have f6 : typeOf (.str x u) = pure (.type "str") := rfl
    have hr : (int_private% "readNumeral") 4300 10 (numSeenOf x) = (int_private% "Numeral.value") n ∧ ((numSeenOf x).length == (numTextOf x).length) = true := by
      rcases read4300 x hz with ⟨m, h1, h2, h3⟩ | ⟨h1, _⟩
      · rw [hn] at h1
        injection h1 with h1
        subst h1
        exact ⟨h3, h2⟩
      · rw [hn] at h1
        cases h1
    have hk := KIN.Hid.mk (And.intro (And.intro hN hl) hr)
    clear hr hl hn hN
    repeat (any_goals (first
      | assumption
      | ((with_reducible show wpAny _ _ ((int_private% "intFromText") _ _ _) _ _ _); refine wp_textL hk.out.1.1 hk.out.1.2 hk.out.2.1 hk.out.2.2 ?_)
      | wp_step))
    all_goals first | exact ⟨_, rfl, h⟩ | exact h | skip
section
variable {X : Cx} {K : PySem.W.Frag} {C : Cls}
theorem call_intL (n : NoDg X.K) : CallR X (.type "int") (fun xs H Q => ∃ a k, xs = [.str a] ∧ PySem.intText? a = some k ∧ ¬ (numSeenOf a).length ≤ 640 ∧ a.length ≤ sizeLine ∧ Q (.int k) H) := by
  intro pins s σ H xs us Q I r h
  obtain ⟨a, k, rfl, hn, hl, hz, q⟩ := h
  obtain ⟨u, rfl, t, rfl⟩ := vals1 r
  exact call_int_1 (meets_textL hl hz hn) ⟨n.at_ I.kIn, rfl, ⟨.int k, H, I.tok _, ⟨_, rfl⟩, q⟩⟩
theorem reads_ints {h : Heap} : ∀ {ns : List Int} {us : List Value}, Vals (ns.map V.int) us → ∃ as, ReadsAll h us (ns.map PyData.int) as
  | [], _, .nil => ⟨_, .nil⟩
  | i :: ns, _, .cons ⟨t, e⟩ r => by
    obtain ⟨as, q⟩ := reads_ints r
    subst e
    exact ⟨_, .cons (.int i t) q⟩
theorem alike_ints (ns : List Int) : AlikeAll (ns.map PyData.int) := by
  refine ⟨fun x hx y hy => ?_, fun x hx => ?_⟩
  · obtain ⟨i, _, rfl⟩ := List.mem_map.mp hx
    obtain ⟨j, _, rfl⟩ := List.mem_map.mp hy
    rfl
  · obtain ⟨i, _, rfl⟩ := List.mem_map.mp hx
    exact fun z => nomatch z
theorem depth_ints : ∀ ns : List Int, PyData.depthAll (ns.map PyData.int) ≤ 1
  | [] => by decide
  | i :: ns => by
    have := depth_ints ns
    show PyData.depthAll (PyData.int i :: ns.map PyData.int) ≤ 1
    unfold PyData.depthAll
    have e : PyData.depth (.int i) ≤ 1 := by unfold PyData.depth; omega
    omega
theorem cr_maxT (hc : X.calm = true) (hu : X.A.units + 64 < cLine) : CallR X (.builtin "max") (fun vs H Q => ∃ (a : Addr) (n : Int) (ns : List Int), vs = [V.ref a] ∧ SqT X.K H a ((n :: ns).map V.int) ∧ Q (.int (ns.foldl max n)) H) := by
  intro pins s σ H vs us Q I r h
  obtain ⟨a, n, ns, rfl, hs, q⟩ := h
  obtain ⟨its, rv, hl, _⟩ := I.tuple hs
  rw [Vals.ref1 r]
  obtain ⟨as, rd⟩ := reads_ints (h := s.heap) rv
  refine max_tuple_data (I.ok.hd hc) hl (x := .int n) (xs := ns.map .int) (as := as) rd (alike_ints (n :: ns)) ?_ fun i v h' tk bs e rr hk => ?_
  · have := depth_ints (n :: ns)
    simp only [List.map_cons] at this
    omega
  · rw [maxD_ints] at rr
    cases rr
    exact ⟨.int _, H, I.kept hk, ⟨_, rfl⟩, q⟩
end
end Ev
set_option Elab.async false
set_option linter.all false
set_option maxRecDepth 100000
set_option maxHeartbeats 2000000
/-! Ev30: text * number; str, int, max in their wide forms. -/
namespace Ev
open PySem PySem.Spec PyProof.Rows L2
theorem fold_rep {α : Type} (l : List α) : ∀ (m : Nat) (acc : Array α), (List.replicate m l.toArray).foldl (· ++ ·) acc = acc ++ (List.replicate m l).flatten.toArray
  | 0, acc => by simp
  | m + 1, acc => by
    rw [List.replicate_succ, List.foldl_cons, fold_rep l m, List.replicate_succ, List.flatten_cons]
    simp [Array.append_assoc]
theorem rep_len {α : Type} (l : List α) (m : Nat) : (List.replicate m l).flatten.length = m * l.length := by simp
section
variable {X : Cx} {K : PySem.W.Frag} {C : Cls}
def rRepS : R2 := fun x y H Q => ∃ (z : List Nat) (n : Int), x = .str ⟨z.toArray⟩ ∧ y = .int n ∧ 2 ≤ n ∧ n ≤ 100000 ∧ z ≠ [] ∧ z.length ≤ 10 ∧ Q (.str ⟨(List.replicate n.toNat z).flatten.toArray⟩) H
theorem op_repS : OpR X (binaryOp .Mult) rRepS := by
  intro pins s σ H x y v u Q I rx ry h
  obtain ⟨z, n, rfl, rfl, h2, h5, hne, hz, q⟩ := h
  obtain ⟨t, rfl⟩ := rx
  obtain ⟨t', rfl⟩ := ry
  have hl : (⟨z.toArray⟩ : Str).length = z.length := str_len z
  have hp : 0 < z.length := List.length_pos_iff.mpr hne
  have c1 : (n == 1 || (⟨z.toArray⟩ : Str).length == 0) = false := by
    rw [hl, beq_eq_false_iff_ne.mpr (by omega), beq_eq_false_iff_ne.mpr (by omega)] <;> rfl
  have hm : z.length * n.toNat ≤ 1000000 := by
    have a1 : z.length * n.toNat ≤ 10 * 100000 := Nat.mul_le_mul hz (by omega)
    omega
  refine PySem.P.mul_str (by rw [decide_eq_false (by omega), decide_eq_false (by omega)] <;> rfl) (fun _ _ => ?_) (fun _ _ => ?_) ?_
  · rw [hl]
    have : (92233720368547 : Int) ≤ (2 ^ 63 - 1) / n := Int.le_ediv_of_mul_le (by omega) (by omega)
    omega
  · rw [hl]
    refine decide_eq_false ?_
    have e : sizeLine = 16777216 := sizeLine_eq
    omega
  · rw [if_neg (by omega), if_neg (by rw [c1]; exact Bool.false_ne_true)]
    have e : (List.replicate n.toNat (⟨z.toArray⟩ : Str).cps).foldl (· ++ ·) #[] = (List.replicate n.toNat z).flatten.toArray := by
      rw [fold_rep]
      simp
    rw [e]
    refine ⟨?_, .str _, H, I.tok _, ⟨_, rfl⟩, q⟩
    show (List.replicate n.toNat z).flatten.toArray.size ≤ sizeLine
    rw [List.size_toArray, rep_len]
    have : n.toNat * z.length ≤ 1000000 := by rw [Nat.mul_comm]; exact hm
    exact Nat.le_trans this (by decide)
/-! ### in their wide forms -/
def mulO2 : D → D → List O → R D
  | .str z, .int n, h => if decide (2 ≤ n) && (decide (n ≤ 100000) && (!z.isEmpty && Nat.ble z.length 10)) then .ok (.str (List.replicate n.toNat z).flatten) h else .bad
  | x, y, h => mulO x y h
def rMulO2 (K : PySem.W.Frag) : R2 := fun x y H Q => rRepS x y H Q ∨ rMulO K x y H Q
theorem op_mulO2 : OpR X (binaryOp .Mult) (rMulO2 X.K) := op_repS.or op_mulO
theorem ok_mulO2 : Ok2 K C mulO2 (rMulO2 K) := by
  intro E ρ h H da db x y Q rh r1 r2 m
  unfold mulO2 at m
  split at m
  · rename_i z n
    cases r1.of_str
    cases r2.of_int
    split at m
    · rename_i c
      simp only [Bool.and_eq_true, decide_eq_true_eq, Bool.not_eq_true', List.isEmpty_eq_false_iff] at c
      exact .inl ⟨z, n, rfl, rfl, c.1, c.2.1, c.2.2.1, Nat.le_of_ble_eq_true c.2.2.2, m ρ H .refl rh _ .str⟩
    · exact m.elim
  · exact .inr (ok_mulO E ρ h H _ _ x y Q rh r1 r2 m)
def bStr2 : FB := fun l h => match l with
  | [.int i] => if Nat.blt i.natAbs.log2 1920 then .ok (.str (decS i)) h else if Nat.blt i.natAbs (10 ^ 4300) then .ok (.str (decS i)) h else .bad
  | [.str s] => .ok (.str s) h
  | _ => .bad
def rStr2 : List V → Hp → VK → Prop := fun xs H Q => (∃ i : Int, xs = [.int i] ∧ i.natAbs < 10 ^ 4300 ∧ Q (.str (toString i)) H) ∨ rStrO xs H Q
theorem cr_str2 (n : NoDg X.K) (hc : X.calm = true) : CallR X (.type "str") rStr2 := (call_strL n hc).or cr_strO
theorem ok_str2 : OkB K C bStr2 rStr2 := by
  intro E ρ h H l vs Q rh rvs m
  unfold bStr2 at m
  split at m
  · rename_i i
    obtain ⟨v, rfl, rv⟩ := rvs.one
    cases rv.of_int
    split at m
    · rename_i hl
      refine .inr (.inl ⟨_, rfl, by simpa using hl, ?_⟩)
      rw [decS_ok]
      exact m ρ H .refl rh _ .str
    · split at m
      · rename_i hl
        refine .inl ⟨_, rfl, by simpa using hl, ?_⟩
        rw [decS_ok]
        exact m ρ H .refl rh _ .str
      · exact m.elim
  · obtain ⟨v, rfl, rv⟩ := rvs.one
    cases rv.of_str
    exact .inr (.inr ⟨_, rfl, m ρ H .refl rh _ .str⟩)
  · exact m.elim
def bInt2 : FB := fun l h => match l with
  | [.int i] => .ok (.int i) h
  | [.bl k] => .ok (.int (if k then 1 else 0)) h
  | [.str s] => match PySem.intText? ⟨s.toArray⟩ with
    | some n => if Nat.ble s.length 640 then .ok (.int n) h else if !Nat.ble (PySem.numSeenOf ⟨s.toArray⟩).length 640 && Nat.ble s.length line then .ok (.int n) h else .bad
    | none => .bad
  | _ => .bad
def rInt2 : List V → Hp → VK → Prop := fun xs H Q => (∃ a k, xs = [.str a] ∧ PySem.intText? a = some k ∧ ¬ (PySem.numSeenOf a).length ≤ 640 ∧ a.length ≤ sizeLine ∧ Q (.int k) H) ∨ rIntO xs H Q
theorem cr_int2 (n : NoDg X.K) : CallR X (.type "int") rInt2 := (call_intL n).or cr_intO
theorem ok_int2 : OkB K C bInt2 rInt2 := by
  intro E ρ h H l vs Q rh rvs m
  unfold bInt2 at m
  split at m
  · obtain ⟨v, rfl, rv⟩ := rvs.one
    cases rv.of_int
    exact .inr (.inl (.inl ⟨_, rfl, m ρ H .refl rh _ .int⟩))
  · obtain ⟨v, rfl, rv⟩ := rvs.one
    cases rv.of_bl
    exact .inr (.inl (.inr ⟨_, rfl, m ρ H .refl rh _ .int⟩))
  · obtain ⟨v, rfl, rv⟩ := rvs.one
    cases rv.of_str
    split at m
    · rename_i n e
      split at m
      · rename_i hl
        exact .inr (.inr ⟨_, n, rfl, e, by rw [str_len]; exact Nat.le_of_ble_eq_true hl, m ρ H .refl rh _ .int⟩)
      · split at m
        · rename_i c
          rw [Bool.and_eq_true, Bool.not_eq_true'] at c
          exact .inl ⟨_, n, rfl, e, fun z => by rw [Nat.ble_eq_true_of_le z] at c; exact absurd c.1 (by decide), by rw [str_len]; exact line_ok c.2, m ρ H .refl rh _ .int⟩
        · exact m.elim
    · exact m.elim
  · exact m.elim
def bMaxT : FB := fun l h => match l with
  | [.tup l] => match intsOf l with
    | some (n :: ns) => .ok (.int (ns.foldl max n)) h
    | _ => .bad
  | _ => .bad
theorem intsOf_vals {ρ : List Addr} {H : Hp} : ∀ {l : List D} {ns : List Int} {vs : List V}, intsOf l = some ns → RDs K ρ H l vs → vs = ns.map V.int
  | [], _, _, e, r => by cases e; exact r.of_nil
  | d :: l, _, _, e, r => by
    unfold intsOf at e
    split at e
    · rename_i z; cases z
    · rename_i i l' z
      cases z
      obtain ⟨ns, e1, rfl⟩ := Option.map_eq_some_iff.mp e
      obtain ⟨v, t, rfl, r1, r2⟩ := r.of_cons
      cases r1.of_int
      rw [intsOf_vals e1 r2]
      rfl
    · cases e
theorem ok_maxT : OkB K C bMaxT (fun vs H Q => ∃ (a : Addr) (n : Int) (ns : List Int), vs = [V.ref a] ∧ SqT K H a ((n :: ns).map V.int) ∧ Q (.int (ns.foldl max n)) H) := by
  intro E ρ h H l vs Q rh rvs m
  unfold bMaxT at m
  split at m
  · obtain ⟨v, rfl, rv⟩ := rvs.one
    obtain ⟨a, ws, rfl, s, rs⟩ := rv.of_tup
    split at m
    · rename_i n ns e
      rw [intsOf_vals e rs] at s
      exact ⟨a, n, ns, rfl, s, m ρ H .refl rh _ .int⟩
    · exact m.elim
  · exact m.elim
end
end Ev
set_option Elab.async false
set_option linter.all false
set_option maxRecDepth 100000
set_option maxHeartbeats 2000000
/-! Ev31: figures, quickly. -/
namespace Ev
open PySem PySem.Spec PyProof.Rows L2
def digsF : Nat → Nat → List Nat → List Nat
  | 0, _, acc => acc
  | k + 1, n, acc => if Nat.blt n 10 then (48 + n) :: acc else digsF k (n / 10) ((48 + n % 10) :: acc)
theorem digs_small : ∀ n < 10, digs n = [48 + n] := by decide
theorem digs_step {n : Nat} (h : 10 ≤ n) : digs n = digs (n / 10) ++ [48 + n % 10] := by
  have hm : n % 10 < 10 := Nat.mod_lt n (by decide)
  have t : Nat.toDigits 10 (n / 10) ++ Nat.toDigits 10 (n % 10) = Nat.toDigits 10 (10 * (n / 10) + n % 10) := Nat.toDigits_append_toDigits (by decide) (by omega) hm
  rw [Nat.div_add_mod] at t
  have e := digs_small (n % 10) hm
  unfold digs at e ⊢
  rw [← t, List.map_append, e]
theorem digsF_ok : ∀ (k n : Nat) (acc : List Nat), n < 10 ^ (k + 1) → digsF (k + 1) n acc = digs n ++ acc
  | k, n, acc, h => by
    unfold digsF
    by_cases hn : n < 10
    · rw [if_pos (by simpa using hn), digs_small n hn]
      rfl
    · rw [if_neg (by simpa using hn), digs_step (by omega)]
      cases k with
      | zero => exact absurd (by simpa using h) hn
      | succ k =>
        rw [digsF_ok k (n / 10) _ (by rw [Nat.div_lt_iff_lt_mul (by decide)]; rw [Nat.pow_succ] at h; exact h)]
        simp
def decF : Int → List Nat
  | .ofNat n => digsF 4301 n []
  | .negSucc n => 45 :: digsF 4301 (n + 1) []
theorem decF_ok {i : Int} (h : i.natAbs < 10 ^ 4300) : decF i = decS i := by
  have key : ∀ n, n < 10 ^ 4300 → digsF 4301 n [] = digs n := fun n hn => by
    have e := digsF_ok 4300 n [] (Nat.lt_of_lt_of_le hn (Nat.pow_le_pow_right (by decide) (by decide)))
    rw [List.append_nil] at e
    exact e
  cases i with
  | ofNat n => exact key n h
  | negSucc n =>
    show 45 :: digsF 4301 (n + 1) [] = 45 :: digs (n + 1)
    rw [key (n + 1) h]
theorem tw_all {p : Nat → Bool} : ∀ {l : List Nat}, (∀ c ∈ l, p c = true) → l.takeWhile p = l
  | [], _ => rfl
  | a :: l, h => by rw [List.takeWhile_cons, if_pos (h a (List.mem_cons_self ..)), tw_all fun c hc => h c (List.mem_cons_of_mem _ hc)]
def fastInt (s : List Nat) : Option Nat := if s.all (fun c => Nat.ble 48 c && Nat.ble c 57) && (!s.isEmpty && Nat.ble s.length 4300) then some (s.foldl (fun acc c => acc * 10 + (c - 48)) 0) else none
theorem fastInt_ok {s : List Nat} {n : Nat} (e : fastInt s = some n) : PySem.intText? ⟨s.toArray⟩ = some (n : Int) ∧ PySem.numSeenOf ⟨s.toArray⟩ = s := by
  unfold fastInt at e
  split at e
  · rename_i c
    simp only [Bool.and_eq_true, List.all_eq_true, Bool.not_eq_true', List.isEmpty_eq_false_iff] at c
    obtain ⟨c1, c2, c3⟩ := c
    have ad : PySem.NumText.AllDigits s := fun c hc => ⟨Nat.le_of_ble_eq_true (c1 c hc).1, Nat.le_of_ble_eq_true (c1 c hc).2⟩
    cases e
    refine ⟨PySem.intText_digits (x := ⟨s.toArray⟩) ad c2 (by rw [str_len]; exact Nat.le_of_ble_eq_true c3), ?_⟩
    have e1 : PySem.numTextOf ⟨s.toArray⟩ = s := by
      unfold PySem.numTextOf
      rw [if_pos]
      rw [Array.all_eq_true_iff_forall_mem]
      intro c hc
      have := (ad c (by simpa using hc)).2
      exact decide_eq_true (by omega)
    unfold PySem.numSeenOf
    rw [e1, tw_all]
    intro c hc
    have := (ad c hc).1
    exact bne_iff_ne.mpr (by omega)
  · cases e
section
variable {X : Cx} {K : PySem.W.Frag} {C : Cls}
def bStr3 : FB := fun l h => match l with
  | [.int i] => if Nat.blt i.natAbs (10 ^ 4300) then .ok (.str (decF i)) h else .bad
  | [.str s] => .ok (.str s) h
  | _ => .bad
theorem ok_str3 : OkB K C bStr3 rStr2 := by
  intro E ρ h H l vs Q rh rvs m
  unfold bStr3 at m
  split at m
  · rename_i i
    obtain ⟨v, rfl, rv⟩ := rvs.one
    cases rv.of_int
    split at m
    · rename_i hl
      have hl : i.natAbs < 10 ^ 4300 := by simpa using hl
      refine .inl ⟨_, rfl, hl, ?_⟩
      rw [decS_ok, ← decF_ok hl]
      exact m ρ H .refl rh _ .str
    · exact m.elim
  · obtain ⟨v, rfl, rv⟩ := rvs.one
    cases rv.of_str
    exact .inr (.inr ⟨_, rfl, m ρ H .refl rh _ .str⟩)
  · exact m.elim
def bInt3 : FB := fun l h => match l with
  | [.str s] => if Nat.ble s.length 640 then bInt l h else (match fastInt s with
    | some n => .ok (.int (n : Nat)) h
    | none => .bad)
  | _ => bInt l h
theorem ok_int3 : OkB K C bInt3 rInt2 := by
  intro E ρ h H l vs Q rh rvs m
  unfold bInt3 at m
  split at m
  · rename_i s
    split at m
    · exact .inr (ok_intO E ρ h H _ vs Q rh rvs m)
    · rename_i hl
      split at m
      · rename_i n e
        obtain ⟨e1, e2⟩ := fastInt_ok e
        obtain ⟨v, rfl, rv⟩ := rvs.one
        cases rv.of_str
        refine .inl ⟨_, _, rfl, e1, ?_, ?_, m ρ H .refl rh _ .int⟩
        · rw [e2]
          exact fun z => hl (Nat.ble_eq_true_of_le z)
        · rw [str_len]
          unfold fastInt at e
          split at e
          · rename_i c
            simp only [Bool.and_eq_true] at c
            exact Nat.le_trans (Nat.le_of_ble_eq_true c.2.2) (by decide)
          · cases e
      · exact m.elim
  · exact .inr (ok_intO E ρ h H _ vs Q rh rvs m)
end
end Ev
set_option Elab.async false
set_option linter.all false
set_option maxRecDepth 100000
set_option maxHeartbeats 2000000
/-! Ev32: what the head tells, as the rules want it. -/
namespace Ev
open PySem PySem.Spec PyProof.Rows L2 LamX
/-- a def of the top, as the head's Hook takes it -/
abbrev dd (x : Str) (st : Stmt) : He.DefD := ⟨(x, none), x, x, defArgs st, defBody st, defScope st, [], []⟩
/-- how n arguments bind -/
def BindOk (x : Str) (st : Stmt) (ps : List Str) : Prop := ∀ (kV doc pm : Value) (an : Option Addr) (cdv ct : Value) (us : List Value), us.length = ps.length → bindArgs (PySem.W.fnOf x x (defArgs st) (defBody st) (defScope st) .none kV doc pm an cdv ct) ⟨us, []⟩ = pure (ps.zip us)
section
variable {fa : List He.Fa} {fn : List He.DefD} {K : PySem.W.Frag} {mg : Str → Option Value} {h base : Heap} {C : Cls} {x : Str} {st : Stmt} {ps : List Str} {tf : List He.Defn}
theorem fun_of (S : He.SaysD fa fn K) (m : dd x st ∈ fn) : ∃ (fd : FuncData) (oc : Value) (od : Option Addr) (kV doc pm : Value) (an : Option Addr) (cdv ct : Value) (osl : Array (Option Value)),
    fd = PySem.W.fnOf x x (defArgs st) (defBody st) (defScope st) .none kV doc pm an cdv ct ∧ K.lookup (He.ga K x) = some ⟨oc, od, .func fd, osl⟩ ∧ PySem.W.codeIn K cdv x = true ∧ PySem.W.keepIn K (.ref (He.ga K x)) = true := by
  obtain ⟨fd, F⟩ := S.defs m
  obtain ⟨oc, od, dV, kV, doc, pm, an, cdv, ct, osl, e, lk, hc, hd, _⟩ := F.ex
  rcases hd with ⟨_, rfl⟩ | ⟨z, _⟩
  · exact ⟨fd, oc, od, kV, doc, pm, an, cdv, ct, osl, e, lk, hc, F.kp⟩
  · exact absurd rfl z
theorem dfn_of (S : He.SaysD fa fn K) (X : K.In h) (G : h.Ns mainGlobals mg) (m : dd x st ∈ fn) (g : He.Fa.glo x ∈ fa) (b : BindOk x st ps) : Dfn K mg x st ps := by
  obtain ⟨fd, oc, od, kV, doc, pm, an, cdv, ct, osl, rfl, lk, hc, kp⟩ := fun_of S m
  exact ⟨He.ga K x, _, ⟨⟨oc, od, kV, doc, pm, an, cdv, ct, osl, rfl, lk, hc⟩, kp⟩, He.glo_ok X G (S.facts g), .all (b kV doc pm an cdv ct)⟩
/-- the tables of the defs that make lambdas -/
def tabsOf (K : PySem.W.Frag) (xs : List Str) : List (Addr × Str) := xs.map fun x => ((He.cT K (x, none)).2, x ++ ".<locals>." ++ "<lambda>")
theorem dfnL_of (S : He.SaysD fa fn K) (X : K.In h) (G : h.Ns mainGlobals mg) (m : dd x st ∈ fn) (g : He.Fa.glo x ∈ fa) (b : BindOk x st ps) (TB : TabB base mg (He.cT K (x, none)).1 (He.cT K (x, none)).2)
    (xs : List Str) (hx : x ∈ xs) (hT : C.T = tabsOf K xs) (nd : (xs.map fun y => (He.cT K (y, none)).2).Nodup) : DfnL K mg base C x st ps := by
  obtain ⟨fd, oc, od, kV, doc, pm, an, cdv, ct, osl, rfl, lk, hc, kp⟩ := fun_of S m
  obtain ⟨c, rfl⟩ := He.codeIn_ref hc
  have e : He.codeOf K (x, none) = c := He.codeOf_eq (p := (x, none)) lk rfl
  have e2 : (He.cT K (x, none)).1 = c := e
  rw [e2] at TB
  refine ⟨He.ga K x, _, c, _, ⟨oc, od, kV, doc, pm, an, ct, osl, rfl, lk, hc⟩, kp, He.glo_ok X G (S.facts g), .all (b kV doc pm an (.ref c) ct), TB, ?_, fun p hp e3 => ?_⟩
  · rw [hT]
    exact List.mem_map.mpr ⟨x, hx, rfl⟩
  · rw [hT] at hp
    obtain ⟨y, hy, rfl⟩ := List.mem_map.mp hp
    have e4 : (He.cT K (y, none)).2 = (He.cT K (x, none)).2 := e3
    have key : ∀ (l : List Str), (l.map fun y => (He.cT K (y, none)).2).Nodup → x ∈ l → y ∈ l → y = x := by
      intro l
      induction l with
      | nil => exact fun _ h => nomatch h
      | cons a l ih =>
        intro n h1 h2
        rw [List.map_cons, List.nodup_cons] at n
        rcases List.mem_cons.mp h1 with a1 | h1
        · rcases List.mem_cons.mp h2 with a2 | h2
          · rw [a2, a1]
          · exact absurd (List.mem_map.mpr ⟨y, h2, by rw [e4, a1]⟩) n.1
        · rcases List.mem_cons.mp h2 with a2 | h2
          · exact absurd (List.mem_map.mpr ⟨x, h1, by rw [← a2, e4]⟩) n.1
          · exact ih n.2 h1 h2
    rw [key xs nd hx hy]
end
end Ev
set_option Elab.async false
set_option linter.all false
set_option maxRecDepth 100000
set_option maxHeartbeats 2000000
/-! Ev33: an own error class, from what the head's Hook sees. -/
namespace Ev
open PySem PySem.Spec PyProof.Rows PySem.W
/-- a method that names its class: what it is but for addresses -/
abbrev FnC : Type := Option (Str × Str × Arguments × FuncBody × Scope × Addr × List Str × Addr × Value)
def initW (K : Frag) (f : Addr) : FnC := match K.lookup f with
  | some ⟨_, _, .func fd, _⟩ => some (fd.name, fd.qualname, fd.params, fd.body, fd.scope, fd.globals, fd.closure.map (·.1), fd.builtins, fd.defaults)
  | _ => none
/-- its code object, its cell -/
def initB (P : Program) (K : Frag) (C f : Addr) : Bool := match K.lookup f with
  | some ⟨_, _, .func fd, _⟩ => codeIn K fd.code fd.qualname && ((match fd.code with
      | .ref c => (match K.lookup c with
        | some ⟨_, _, .fields vs, _⟩ => (match (vs[2]? : Option Value) with
          | some (.str file _) => (P.main.file : Str) == file
          | _ => false)
        | _ => false)
      | _ => false) && (match fd.closure with
      | [(_, cc)] => (match K.lookup cc with
        | some ⟨_, _, .cell (some (.ref D)), _⟩ => decide (D = C)
        | _ => false)
      | _ => false))
  | _ => false
def errB (P : Program) (K : Frag) (C f : Addr) (B newId initId : String) (bmB : List Value) (fld : Str) : Bool :=
  excInitIn K C bmB newId && ((match clsIn K C with
    | some cd => excTail bmB cd.mro && cd.hasDict
    | none => false) && (decide (findIn K (.ref C) "__init__" = some (some (.ref f))) && (decide (typeIn K (.ref f) = some (.type "function")) && (initB P K C f &&
  (decide (nsIn K mainGlobals "super" = some none) && (decide (nsIn K cStatics "thirdparty.any" = some none) && (decide (ks_superIn K C C "__init__" = some (some (.builtin initId))) && (decide (subIn K (.ref C) (.type B) = some true) && (decide (mroIn K C (.ref C) = some true) &&
  (decide (findIn K (.ref C) "__setattr__" = some (some (.builtin "object.__setattr__"))) && (decide (findIn K (.ref C) fld = some none) && (decide (subIn K (.ref C) (.type "BaseException") = some true) && (decide (typeIn K (.ref C) = some (.type "type")) && keepIn K (.ref C))))))))))))))
/-- what __init__ is, as written: super().__init__(msg, pl); self.fld = pl -/
structure InitTxt (qual : Str) (params : Arguments) (body : List Stmt) (scope : Scope) (fld sf pl : Str) : Prop where
  ex : ∃ (msg : Str) (j : Nat) (p0 p1 p2 p3 p4 p5 p6 p7 p8 p9 p10 : Pos) (ar : Arg),
    body = [.Expr (.Call (.Attribute (.Call (.Name "super" p0) [] [] p1) "__init__" p2) [.Constant (.str msg) j p3, .Name pl p4] [] p5) p6, .Assign [.Attribute (.Name sf p7) fld p8] (.Name pl p9) p10] ∧
    (params.posonlyargs ++ params.args).head? = some ar ∧ ar.arg = sf ∧
    (∀ (kV doc pm : Value) (an : Option Addr) (cdv ct : Value) (cc : Addr) (self u : Value), bindArgs (ksFn "__init__" qual params body scope .none kV doc pm an cdv ct cc) ⟨[self, u], []⟩ = pure [(sf, self), (pl, u)]) ∧
    scope.kind = .function ∧ scope.isCoroutine = false ∧ scope.isGenerator = false ∧ (∀ x ∈ scope.names, x.2 ≠ .cell) ∧ scope.names.lookup sf = some .local ∧ scope.names.lookup pl = some .local ∧ scope.names.lookup ("super" : Str) = some .globalImplicit ∧ scope.names.lookup ("__class__" : Str) = some .free ∧
    ∃ how : Sem Bool, ∀ env : Env, eval (.Call (.Attribute (.Call (.Name "super" p0) [] [] p1) "__init__" p2) [.Constant (.str msg) j p3, .Name pl p4] [] p5) env = (do
      let ov ← attributeBase (.Call (.Name "super" p0) [] [] p1) "__init__" env (eval (.Call (.Name "super" p0) [] [] p1) env)
      standAt p2.atName
      let (f, first) ← holding [ov] (getMethod ov "__init__" how)
      callWith p5 f first (backTo p5 (starEach [.Constant (.str msg) j p3, .Name pl p4] env)) [])
theorem bb {a b : Bool} (h : (a && b) = true) : a = true ∧ b = true := Bool.and_eq_true_iff.mp h
theorem errK_of {P : Program} {K : Frag} {C f : Addr} {B newId initId : String} {bmB : List Value} {fld sf pl qual : Str} {params : Arguments} {body : List Stmt} {scope : Scope} (fb : ExcBaseFacts B newId initId bmB) (pass : ∀ self : Value, refuseLoop self "__setattr__" bmB = pure ()) (nB : bmB.isEmpty = false) (ob : bmB.contains (.type "object") = true)
    (kf : KxsFacts B initId) (e : initW K f = some ((("__init__" : Str), qual, params, FuncBody.stmts body, scope, mainGlobals, [("__class__" : Str)], builtinsNs, Value.none))) (T : InitTxt qual params body scope fld sf pl) (b : errB P K C f B newId initId bmB fld = true)
    (apart : (sf == pl) = false) (dbg : (pl == ("__debug__" : Str)) = false ∧ (sf == ("__debug__" : Str)) = false) (top : (P.main.scope.names.lookup ("super" : Str)).isSome = false) : ErrK P K C f B newId initId bmB fld sf pl := by
  unfold errB at b
  obtain ⟨b1, b⟩ := bb b
  obtain ⟨b2, b⟩ := bb b
  obtain ⟨b3, b⟩ := bb b
  obtain ⟨b4, b⟩ := bb b
  obtain ⟨b5, b⟩ := bb b
  obtain ⟨b6, b⟩ := bb b
  obtain ⟨b7, b⟩ := bb b
  obtain ⟨b8, b⟩ := bb b
  obtain ⟨b9, b⟩ := bb b
  obtain ⟨b10, b⟩ := bb b
  obtain ⟨b11, b⟩ := bb b
  obtain ⟨b12, b⟩ := bb b
  obtain ⟨b13, b⟩ := bb b
  obtain ⟨b14, b15⟩ := bb b
  obtain ⟨msg, j, p0, p1, p2, p3, p4, p5, p6, p7, p8, p9, p10, ar, rfl, t1, t2, t3, t4, t5, t6, t7, t8, t9, t10, t11, t12⟩ := T.ex
  refine ⟨fb, pass, nB, ob, kf, b1, ?_, of_decide_eq_true b3, of_decide_eq_true b4, ?_, apart, dbg, of_decide_eq_true b6, of_decide_eq_true b7, of_decide_eq_true b8, of_decide_eq_true b9, of_decide_eq_true b10, of_decide_eq_true b11, of_decide_eq_true b12, of_decide_eq_true b13, of_decide_eq_true b14, b15, top⟩
  · split at b2
    · rename_i cd ec
      exact ⟨cd, ec, bb b2⟩
    · cases b2
  · unfold initB at b5
    unfold initW at e
    split at b5
    · rename_i oc od fd osl lk
      rw [lk] at e
      obtain ⟨n1, n2, n3, n4, n5, n6, n7, n8, n9, n10, n11, n12, n13, n14, n15⟩ := fd
      simp only [Option.some.injEq, Prod.mk.injEq] at e
      obtain ⟨e1, e2, e3, e4, e5, e6, e7, e8, e9⟩ := e
      subst e1 e2 e3 e4 e5 e6 e8 e9
      obtain ⟨c1, c9⟩ := bb b5
      obtain ⟨c2, c3⟩ := bb c9
      clear c9 b5
      split at c2
      · rename_i cda ecd
        split at c2
        · rename_i ccl cdd vs ccs lk2
          split at c2
          · rename_i file tf ev
            split at c3
            · rename_i y cc ecl
              split at c3
              · rename_i cl cld D csl lk3
                cases of_decide_eq_true c3
                subst ecd
                subst ecl
                simp only [List.map_cons, List.map_nil, List.cons.injEq, and_true] at e7
                subst e7
                exact ⟨n2, n3, n5, msg, j, p0, p1, p2, p3, p4, p5, p6, p7, p8, p9, p10, .none, n9, n10, n11, n12, cda, cc, n14, oc, od, osl, ccl, cdd, vs, ccs, file, tf, cl, cld, csl, ar, lk, c1, lk2, ev, c2, lk3, t1, t2, fun self u => t3 _ _ _ _ _ _ _ self u, t4, t5, t6, t7, t8, t9, t10, t11, t12⟩
              · cases c3
            · cases c3
          · cases c2
        · cases c2
      · cases c2
    · cases b5
end Ev
set_option Elab.async false
set_option linter.all false
set_option maxRecDepth 100000
set_option maxHeartbeats 2000000
/-! Ev34: two texts compared, quickly. -/
namespace Ev
open PySem PySem.Spec L2
def strEq : List Nat → List Nat → Bool
  | [], [] => true
  | a :: l, b :: r => if Nat.beq a b then strEq l r else false
  | _, _ => false
theorem strEq_iff : ∀ {s t : List Nat}, strEq s t = true ↔ s = t
  | [], [] => by simp [strEq]
  | [], b :: r => by simp [strEq]
  | a :: l, [] => by simp [strEq]
  | a :: l, b :: r => by
    unfold strEq
    by_cases h : Nat.beq a b = true
    · rw [if_pos h, strEq_iff, Nat.eq_of_beq_eq_true h]
      simp
    · rw [if_neg h]
      refine ⟨fun z => (by cases z), fun z => ?_⟩
      cases z
      exact absurd (Nat.beq_refl a) h
def eqO2 (neg : Bool) : D → D → List O → R D := fun x y h => match x, y with
  | .str s, .str t => .ok (.bl (if neg then !strEq s t else strEq s t)) h
  | x, y => eqO neg x y h
def rEqO2 (K : PySem.W.Frag) (neg : Bool) : R2 := fun x y H Q => rEqO K neg x y H Q ∨ (if neg then rNe else rEq) x y H Q
theorem op_eqO2 {X : Cx} (hu : X.A.units + 64 < cLine) (neg : Bool) : OpR X (compareOp (if neg then .NotEq else .Eq)) (rEqO2 X.K neg) := by
  cases neg with
  | true => exact (op_eqO hu true).or op_ne
  | false => exact (op_eqO hu false).or op_eq
theorem ok_eqO2 {K : PySem.W.Frag} {C : Cls} (neg : Bool) : Ok2 K C (eqO2 neg) (rEqO2 K neg) := by
  intro E ρ h H da db x y Q rh r1 r2 m
  unfold eqO2 at m
  split at m
  · rename_i s t
    cases r1.of_str
    cases r2.of_str
    have e : decide (V.str ⟨s.toArray⟩ = V.str ⟨t.toArray⟩) = strEq s t := by
      rw [Bool.eq_iff_iff, strEq_iff, decide_eq_true_iff]
      exact ⟨fun z => by simpa using z, fun z => by rw [z]⟩
    have q := m ρ H .refl rh _ .bl
    refine .inr ?_
    cases neg with
    | true => exact ⟨rfl, by rw [e]; exact q⟩
    | false => exact ⟨rfl, by rw [e]; exact q⟩
  · exact .inl (ok_eqO neg E ρ h H _ _ x y Q rh r1 r2 m)
end Ev
set_option Elab.async false
set_option linter.all false
set_option maxRecDepth 100000
set_option maxHeartbeats 2000000
/-! Ev35: the Hook. -/
namespace Ev
open PySem PySem.Spec PyProof.Rows L2
/-- the addresses looked at: by the names of the defs, of the error classes -/
def adD (g : Addr → Option Obj) (a : Addr) : List Addr := match g a with
  | some o => He.refsD o
  | none => []
/-- dict ns of a class -/
def adNs (g : Addr → Option Obj) (a : Addr) : List Addr := match g a with
  | some ⟨_, _, .cls cd, _⟩ => [cd.ns]
  | _ => []
/-- of a def: its code object, the code's table -/
def adF (g : Addr → Option Obj) (a : Addr) : List Addr := match g a with
  | some ⟨_, _, .func fd, _⟩ => (match fd.code with
    | .ref c => c :: (match g c with
      | some ⟨_, _, .fields vs, _⟩ => He.refV (vs.getD 11 .none)
      | _ => [])
    | _ => []) ++ fd.closure.map (·.2)
  | _ => []
/-- of a class: its ns, its __init__, that one's code and cell -/
def adC (g : Addr → Option Obj) (a : Addr) : List Addr := match g a with
  | some ⟨_, _, .cls cd, _⟩ => cd.ns :: (adD g cd.ns).flatMap fun f => f :: adF g f
  | _ => []
def asE (g : Addr → Option Obj) : List Addr := let G := adD g mainGlobals
  mainGlobals :: cStatics :: (G ++ G.flatMap fun a => adF g a ++ adC g a)
abbrev AlE : Type := He.AlX × List FnC
def obsK (fa : List He.Fa) (fn : List He.DefD) (ts : List He.Tab) (ex : PySem.W.Frag → Bool) (cs : List Str) (K : PySem.W.Frag) : He.AlT × Bool × List FnC := (He.obsT fa fn ts K, ex K, cs.map fun c => initW K (He.ma K (He.ga K c) "__init__"))
structure SaysE (fa : List He.Fa) (fn : List He.DefD) (ts : List He.Tab) (tf : List He.Defn) (ex : PySem.W.Frag → Bool) (cs : List Str) (inits : List FnC) (w : World) (h : Heap) (K : PySem.W.Frag) : Prop where
  t : He.SaysT fa fn ts w K
  more : ex K = true
  hd : ∀ p ∈ tf, PySem.W.codeHdIn K (He.cT K p).1 (He.cT K p).2 = true
  out : ∀ p ∈ tf, K.lookup (He.cT K p).2 = none
  empty : ∀ p ∈ tf, h.get? (He.cT K p).2 = some { cls := .none, data := .fields #[] }
  inits : cs.map (fun c => initW K (He.ma K (He.ga K c) "__init__")) = inits
abbrev AlH : Type := (He.AlT × Bool) × List FnC
def obsE (fa : List He.Fa) (fn : List He.DefD) (ts : List He.Tab) (tf : List He.Defn) (ex : PySem.W.Frag → Bool) (cs : List Str) (g : Addr → Option Obj) : AlH :=
  ((He.obsT fa fn ts (He.frT g (asE g)), ex (He.frT g (asE g)) && He.tabsB g tf (He.frT g (asE g))), cs.map fun c => initW (He.frT g (asE g)) (He.ma (He.frT g (asE g)) (He.ga (He.frT g (asE g)) c) "__init__"))
def valE (fn : List He.DefD) (ts : List He.Tab) (inits : List FnC) (w : World) : AlH := ((He.valT fn ts w, true), inits)
theorem saysE_of {fa : List He.Fa} {fn : List He.DefD} {ts : List He.Tab} {tf : List He.Defn} {ex : PySem.W.Frag → Bool} {cs : List Str} {inits : List FnC} {w : World} {h : Heap} (e : obsE fa fn ts tf ex cs h.get? = valE fn ts inits w) :
    SaysE fa fn ts tf ex cs inits w h (He.frT h.get? (asE h.get?)) := by
  have e1 : He.obsT fa fn ts (He.frT h.get? (asE h.get?)) = He.valT fn ts w := congrArg (fun z : AlH => z.1.1) e
  have e2 : (ex (He.frT h.get? (asE h.get?)) && He.tabsB h.get? tf (He.frT h.get? (asE h.get?))) = true := congrArg (fun z : AlH => z.1.2) e
  have e3 : cs.map (fun c => initW (He.frT h.get? (asE h.get?)) (He.ma (He.frT h.get? (asE h.get?)) (He.ga (He.frT h.get? (asE h.get?)) c) "__init__")) = inits := congrArg (fun z : AlH => z.2) e
  generalize hK : He.frT h.get? (asE h.get?) = K at e1 e2 e3
  obtain ⟨h1, h2⟩ := bb e2
  have key : ∀ p ∈ tf, PySem.W.codeHdIn K (He.cT K p).1 (He.cT K p).2 = true ∧ ∃ o, h.get? (He.cT K p).2 = some o ∧ He.emptyTab o = true := fun p hp => by
    obtain ⟨h3, h4⟩ := bb (List.all_eq_true.mp h2 p hp)
    refine ⟨h3, ?_⟩
    revert h4
    cases h.get? (He.cT K p).2 with
    | none => exact fun z => nomatch z
    | some o => exact fun z => ⟨o, rfl, z⟩
  refine ⟨e1, h1, fun p hp => (key p hp).1, fun p hp => ?_, fun p hp => ?_, e3⟩
  · obtain ⟨_, o, q, z⟩ := key p hp
    rw [← hK] at q ⊢
    exact He.frT_none q z
  · obtain ⟨_, o, q, z⟩ := key p hp
    rw [q, He.emptyTab_eq z]
def hookE (fa : List He.Fa) (fn : List He.DefD) (ts : List He.Tab) (tf : List He.Defn) (ex : PySem.W.Frag → Bool) (cs : List Str) (inits : List FnC) : PySem.W.Hook where
  α := AlH
  obs := fun s => obsE fa fn ts tf ex cs s.heap.get?
  val := fun w => valE fn ts inits w
  says := fun w h => ∃ K : PySem.W.Frag, K.In h ∧ SaysE fa fn ts tf ex cs inits w h K
  of := fun _ _ e => ⟨_, He.frT_in, saysE_of e⟩
  keeps := fun _ _ _ ⟨K, hK, c⟩ k => ⟨K, PySem.W.Frag.In.keeps hK k, ⟨c.t, c.more, c.hd, c.out, fun p hp => k _ _ (c.empty p hp), c.inits⟩⟩
theorem obsE_eq {fa : List He.Fa} {fn : List He.DefD} {ts : List He.Tab} {tf : List He.Defn} {ex : PySem.W.Frag → Bool} {cs : List Str} {inits : List FnC} {g : Addr → Option Obj} {s : Shared} (h : ∀ a, g a = s.heap.get? a) : obsE fa fn ts tf ex cs g = (hookE fa fn ts tf ex cs inits).obs s := by
  have e : g = s.heap.get? := funext h
  rw [e] <;> rfl
end Ev
set_option Elab.async false
set_option linter.all false
set_option maxRecDepth 100000
set_option maxHeartbeats 2000000
/-! Ev36: a law's body, statement by statement; what is no longer reached is left out between them. -/
namespace Ev
open PySem PySem.Spec PyProof.Rows L2 LamX
/-! ### a body, statement by statement -/
def runT (K : PySem.W.Frag) (C : Cls) (W : WX) : List GS → TS
  | [] => fun D σ H => D.nx σ H
  | g :: gs => fun D σ H => rdS K C W g { D with nx := runT K C W gs D } σ H
section
variable {X : Cx} {C : Cls} {W : WX} {st : Stmt} {rest : List Stmt} {g : GS} {gs : List GS} {t : TS}
theorem cNil : PSs X [] (runT X.K C W []) := PSs_imp pss_nil fun _ _ _ m => m
theorem cCons (h1 : PS X st (rdS X.K C W g)) (h2 : PSs X rest (runT X.K C W gs)) : PSs X (st :: rest) (runT X.K C W (g :: gs)) :=
  PSs_imp (pss_cons h1 h2) fun _ _ _ m => m
theorem cFirst (h1 : PS X st t) (h2 : PSs X rest (runT X.K C W gs)) : PSs X (st :: rest) (fun D σ H => t { D with nx := runT X.K C W gs D } σ H) :=
  PSs_imp (pss_cons h1 h2) fun _ _ _ m => m
end
/-! ### a part of the objects -/
def posN (n : Nat) : List Nat → Option Nat
  | [] => none
  | a :: l => if Nat.beq a n then some 0 else match posN n l with
    | some m => some (m + 1)
    | none => none
theorem posN_ok {n : Nat} : ∀ {l : List Nat} {m : Nat}, posN n l = some m → l[m]? = some n
  | [], _, e => by cases e
  | a :: l, m, e => by
    unfold posN at e
    split at e
    · rename_i h
      cases e
      rw [Nat.eq_of_beq_eq_true h]
      rfl
    · split at e
      · rename_i k ek
        cases e
        rw [List.getElem?_cons_succ]
        exact posN_ok ek
      · cases e
mutual
def dnD (ix : List Nat) : D → Option D
  | .non => some .non
  | .bl b => some (.bl b)
  | .int i => some (.int i)
  | .str s => some (.str s)
  | .tup l => match dnDs ix l with
    | some r => some (.tup r)
    | none => none
  | .ref n => match posN n ix with
    | some m => some (.ref m)
    | none => none
def dnDs (ix : List Nat) : List D → Option (List D)
  | [] => some []
  | d :: l => match dnD ix d with
    | some e => match dnDs ix l with
      | some r => some (e :: r)
      | none => none
    | none => none
end
def dnKs (ix : List Nat) : List (KD × D) → Option (List (KD × D))
  | [] => some []
  | p :: l => match dnD ix p.2 with
    | some e => match dnKs ix l with
      | some r => some ((p.1, e) :: r)
      | none => none
    | none => none
def dnO (ix : List Nat) : O → Option O
  | .lst l => match dnDs ix l with
    | some r => some (.lst r)
    | none => none
  | .dct l => match dnKs ix l with
    | some r => some (.dct r)
    | none => none
def selR (ix : List Nat) (ρ : List Addr) : List Addr := ix.map fun n => ρ.getD n 0
section
variable {K : PySem.W.Frag} {C : Cls} {ρ : List Addr} {H : Hp} {ix : List Nat} {h : List O}
theorem selR_at {n m : Nat} {a : Addr} (e : ix[m]? = some n) (ea : ρ[n]? = some a) : (selR ix ρ)[m]? = some a := by
  unfold selR
  rw [List.getElem?_map, e]
  show some (ρ.getD n 0) = some a
  rw [List.getD_eq_getElem?_getD, ea]
  rfl
mutual
theorem dnD_ok : ∀ {d e : D} {v : V}, dnD ix d = some e → RD K ρ H d v → RD K (selR ix ρ) H e v
  | .non, _, _, q, r => by unfold dnD at q; cases q; unfold RD at r ⊢; exact r
  | .bl _, _, _, q, r => by unfold dnD at q; cases q; unfold RD at r ⊢; exact r
  | .int _, _, _, q, r => by unfold dnD at q; cases q; unfold RD at r ⊢; exact r
  | .str _, _, _, q, r => by unfold dnD at q; cases q; unfold RD at r ⊢; exact r
  | .tup l, _, _, q, r => by
    unfold dnD at q
    split at q
    · rename_i t et
      cases q
      unfold RD at r ⊢
      obtain ⟨a, vs, e, s, z⟩ := r
      exact ⟨a, vs, e, s, dnDs_ok et z⟩
    · cases q
  | .ref n, _, _, q, r => by
    unfold dnD at q
    split at q
    · rename_i m em
      cases q
      unfold RD at r ⊢
      obtain ⟨a, e, z⟩ := r
      exact ⟨a, e, selR_at (posN_ok em) z⟩
    · cases q
theorem dnDs_ok : ∀ {l r : List D} {vs : List V}, dnDs ix l = some r → RDs K ρ H l vs → RDs K (selR ix ρ) H r vs
  | [], _, _, q, r => by unfold dnDs at q; cases q; unfold RDs at r ⊢; exact r
  | d :: l, _, _, q, r => by
    unfold dnDs at q
    split at q
    · rename_i e ee
      split at q
      · rename_i t et
        cases q
        unfold RDs at r ⊢
        obtain ⟨v, u, z, a, b⟩ := r
        exact ⟨v, u, z, dnD_ok ee a, dnDs_ok et b⟩
      · cases q
    · cases q
end
theorem dnKs_ok : ∀ {l r : List (KD × D)} {vs : List (Key × V)}, dnKs ix l = some r → RKs K ρ H l vs → RKs K (selR ix ρ) H r vs
  | [], _, _, q, r => by unfold dnKs at q; cases q; unfold RKs at r ⊢; exact r
  | p :: l, _, _, q, r => by
    unfold dnKs at q
    split at q
    · rename_i e ee
      split at q
      · rename_i t et
        cases q
        unfold RKs at r ⊢
        obtain ⟨v, u, z, a, b⟩ := r
        exact ⟨v, u, z, dnD_ok ee a, dnKs_ok et b⟩
      · cases q
    · cases q
theorem dnO_ok {o o' : O} {ho : HO} (q : dnO ix o = some o') (r : RO K ρ H o ho) : RO K (selR ix ρ) H o' ho := by
  cases o with
  | lst l =>
    dsimp only [dnO] at q
    split at q
    · rename_i t et
      cases q
      unfold RO at r ⊢
      obtain ⟨vs, e, z⟩ := r
      exact ⟨vs, e, dnDs_ok et z⟩
    · cases q
  | dct l =>
    dsimp only [dnO] at q
    split at q
    · rename_i t et
      cases q
      unfold RO at r ⊢
      obtain ⟨vs, e, z⟩ := r
      exact ⟨vs, e, dnKs_ok et z⟩
    · cases q
def noRefK : List (KD × D) → Bool
  | [] => true
  | p :: l => noRef p.2 && noRefK l
def noRefO : O → Bool
  | .lst l => noRefs l
  | .dct l => noRefK l
theorem RKs.bare {ρ' : List Addr} : ∀ {l : List (KD × D)} {vs : List (Key × V)}, noRefK l = true → RKs K ρ H l vs → RKs K ρ' H l vs
  | [], _, _, r => by unfold RKs at r ⊢; exact r
  | p :: l, _, e, r => by
    unfold RKs at r ⊢
    unfold noRefK at e
    rw [Bool.and_eq_true] at e
    obtain ⟨v, t, q, x, y⟩ := r
    exact ⟨v, t, q, x.bare e.1, RKs.bare e.2 y⟩
theorem RO.bare {ρ' : List Addr} {o : O} {ho : HO} (e : noRefO o = true) (r : RO K ρ H o ho) : RO K ρ' H o ho := by
  cases o with
  | lst l => unfold RO at r ⊢; obtain ⟨vs, q, z⟩ := r; exact ⟨vs, q, z.bare e⟩
  | dct l => unfold RO at r ⊢; obtain ⟨vs, q, z⟩ := r; exact ⟨vs, q, z.bare e⟩
/-- the objects at these places; true: it is handed on as it is, for it holds none -/
def selH (ix : List Nat) (h : List O) : List (Nat × Bool) → Option (List O)
  | [] => some []
  | p :: l => match h[p.1]? with
    | some o => match (if p.2 then some o else dnO ix o) with
      | some o' => match selH ix h l with
        | some r => some (o' :: r)
        | none => none
      | none => none
    | none => none
def bareAt (h : List O) : List (Nat × Bool) → Prop
  | [] => True
  | p :: l => (p.2 = true → ∀ o, h[p.1]? = some o → noRefO o = true) ∧ bareAt h l
theorem selH_ok (r : RH K C ρ h H) : ∀ {ks : List (Nat × Bool)} {h2 : List O}, selH ix h ks = some h2 → bareAt h ks →
    h2.length = ks.length ∧ ∀ (i : Nat) (o : O), h2[i]? = some o → ∃ n a ho, (ks.map (·.1))[i]? = some n ∧ ρ[n]? = some a ∧ H a = some ho ∧ RO K (selR ix ρ) H o ho
  | [], h2, e, _ => by
    unfold selH at e
    cases e
    exact ⟨rfl, fun i o z => by simp at z⟩
  | p :: l, h2, e, b => by
    unfold selH at e
    split at e
    · rename_i o eo
      split at e
      · rename_i o' eo'
        split at e
        · rename_i t et
          cases e
          obtain ⟨q1, q2⟩ := selH_ok r et b.2
          refine ⟨by simp [q1], fun i u z => ?_⟩
          cases i with
          | zero =>
            have z : o' = u := by simpa using z
            subst z
            obtain ⟨a, ho, e1, e2, e3⟩ := r.at_ p.1 o eo
            refine ⟨p.1, a, ho, rfl, e1, e2, ?_⟩
            split at eo'
            · rename_i hp
              cases eo'
              exact e3.bare (b.1 hp _ eo)
            · exact dnO_ok eo' e3
          | succ i =>
            rw [List.getElem?_cons_succ] at z
            obtain ⟨n, a, ho, y1, y2, y3, y4⟩ := q2 i u z
            exact ⟨n, a, ho, by rw [List.map_cons, List.getElem?_cons_succ]; exact y1, y2, y3, y4⟩
        · cases e
      · cases e
    · cases e
theorem RH.sel {ks : List (Nat × Bool)} {h2 : List O} (r : RH K C ρ h H) (nd : (ks.map (·.1)).Nodup) (e : selH (ks.map (·.1)) h ks = some h2) (b : bareAt h ks) : RH K C (selR (ks.map (·.1)) ρ) h2 H := by
  obtain ⟨q1, q2⟩ := selH_ok r e b
  have inj : ∀ (i j n m : Nat) (a : Addr), ρ[n]? = some a → ρ[m]? = some a → n = m := fun i j n m a x y => by
    obtain ⟨h1, z1⟩ := List.getElem?_eq_some_iff.mp x
    obtain ⟨h2, z2⟩ := List.getElem?_eq_some_iff.mp y
    exact (List.getElem_inj r.nd).mp (z1.trans z2.symm)
  refine ⟨by unfold selR; simp [q1], ?_, fun i o z => ?_, r.tabs⟩
  · unfold selR
    have key : ∀ (l : List Nat), l.Nodup → (∀ n ∈ l, n < ρ.length) → (l.map fun n => ρ.getD n 0).Nodup := by
      intro l
      induction l with
      | nil => exact fun _ _ => List.nodup_nil
      | cons a l ih =>
        intro nd lt
        rw [List.nodup_cons] at nd
        rw [List.map_cons, List.nodup_cons]
        refine ⟨fun m => ?_, ih nd.2 fun n hn => lt n (List.mem_cons_of_mem _ hn)⟩
        obtain ⟨c, hc, ec⟩ := List.mem_map.mp m
        have la := lt a List.mem_cons_self
        have lc := lt c (List.mem_cons_of_mem _ hc)
        have ea : ρ[a]? = some (ρ.getD a 0) := by rw [List.getD_eq_getElem?_getD, List.getElem?_eq_getElem la]; rfl
        have ecc : ρ[c]? = some (ρ.getD a 0) := by rw [← ec, List.getD_eq_getElem?_getD, List.getElem?_eq_getElem lc]; rfl
        have := inj 0 0 _ _ _ ea ecc
        subst this
        exact nd.1 hc
    refine key _ nd fun n hn => ?_
    obtain ⟨i, hi⟩ := List.mem_iff_getElem?.mp hn
    have lt : i < h2.length := by
      have := (List.getElem?_eq_some_iff.mp hi).1
      rw [q1]
      simpa using this
    obtain ⟨n', a, ho, y1, y2, _⟩ := q2 i _ (List.getElem?_eq_getElem lt)
    rw [hi] at y1
    cases y1
    exact (List.getElem?_eq_some_iff.mp y2).1
  · obtain ⟨n, a, ho, y1, y2, y3, y4⟩ := q2 i o z
    exact ⟨a, ho, selR_at y1 y2, y3, y4⟩
/-- slots: those that hold what is left out, and those named, are forgotten -/
def selS (ix vs : List Nat) (δ : Sl) : Sl := wipeD (δ.map fun x => match x with
  | some d => dnD ix d
  | none => none) vs
theorem RS.wipeL {δ : Sl} {σ : L2.St} (r : RS K ρ H δ σ) : ∀ vs : List Nat, RS K ρ H (wipeD δ vs) σ
  | [] => r
  | v :: vs => by
    have q := RS.wipeL r vs
    refine ⟨by unfold wipeD; simp [q.len], fun i d e => ?_⟩
    unfold wipeD at e
    by_cases hi : v = i
    · subst hi
      by_cases lt : v < (wipeD δ vs).length
      · rw [List.getElem?_set_self lt] at e; cases e
      · rw [List.getElem?_eq_none (by simpa using lt)] at e; cases e
    · rw [List.getElem?_set_ne hi] at e
      exact q.at_ i d e
theorem RS.sel {δ : Sl} {σ : L2.St} (r : RS K ρ H δ σ) (vs : List Nat) : RS K (selR ix ρ) H (selS ix vs δ) σ := by
  refine RS.wipeL ⟨by simp [r.len], fun i d e => ?_⟩ vs
  rw [List.getElem?_map] at e
  cases q : δ[i]? with
  | none => rw [q] at e; cases e
  | some x =>
    rw [q] at e
    cases x with
    | none => cases e
    | some c =>
      have e : dnD ix c = some d := Option.some.inj e
      obtain ⟨v, e1, e2⟩ := r.at_ i c q
      exact ⟨v, e1, dnD_ok e e2⟩
end
/-! ### it ends by True -/
inductive Runs : List GS → Sl → List O → Prop
  | ret {g : GS} {gs : List GS} {δ : Sl} {h h' : List O} (e : g δ h = .ret (.bl true) h') : Runs (g :: gs) δ h
  | nx {g : GS} {gs : List GS} {δ δ' : Sl} {h h' : List O} (e : g δ h = .nx δ' h') (r : Runs gs δ' h') : Runs (g :: gs) δ h
  | sel {gs : List GS} {δ : Sl} {h h2 : List O} (ks : List (Nat × Bool)) (vs : List Nat) (nd : (ks.map (·.1)).Nodup) (e : selH (ks.map (·.1)) h ks = some h2) (b : bareAt h ks) (r : Runs gs (selS (ks.map (·.1)) vs δ) h2) : Runs gs δ h
theorem runs_ok {K : PySem.W.Frag} {C : Cls} {W : WX} {D : Ends} (hD : ∀ H', D.rt (.bl true) H') {gs : List GS} {δ : Sl} {h : List O} (r : Runs gs δ h) : ∀ {ρ : List Addr} {H : Hp} {σ : L2.St}, RH K C ρ h H → RS K ρ H δ σ → runT K C W gs D σ H := by
  induction r with
  | @ret g gs δ h h' e =>
    intro ρ H σ rh rs
    refine ⟨ρ, h, δ, rh, rs, ?_⟩
    rw [e]
    intro ρ' H' v g' rh' rv
    rw [rv.of_bl]
    exact hD H'
  | @nx g gs δ δ' h h' e r ih =>
    intro ρ H σ rh rs
    refine ⟨ρ, h, δ, rh, rs, ?_⟩
    rw [e]
    exact fun ρ' H' σ' g' rh' rs' => ih rh' rs'
  | @sel gs δ h h2 ks vs nd e b r ih =>
    intro ρ H σ rh rs
    exact ih (rh.sel nd e b) (rs.sel vs)
/-- a run to the end -/
def runB : List GS → Sl → List O → Bool
  | [], _, _ => false
  | g :: gs, δ, h => match g δ h with
    | .nx δ' h' => runB gs δ' h'
    | .ret (.bl b) _ => b
    | _ => false
theorem runs_of : ∀ {gs : List GS} {δ : Sl} {h : List O}, runB gs δ h = true → Runs gs δ h
  | [], _, _, e => by cases e
  | g :: gs, δ, h, e => by
    unfold runB at e
    split at e
    · rename_i q
      exact .nx q (runs_of e)
    · rename_i b h' q
      subst e
      exact .ret q
    · cases e
end Ev
set_option Elab.async false
set_option linter.all false
set_option maxRecDepth 100000
set_option maxHeartbeats 2000000
/-! Ev37: the draws' state, as a law begins it. -/
namespace Ev
open PySem PySem.Spec PyProof.Rows L2 LamX
def iDs (ns : List Int) : List D := ns.map .int
def bigs (ns : List Int) : List Int := ns.filter fun n => decide (1000000000000000000 ≤ n)
def kCells : KD := .inr [99, 101, 108, 108, 115]
def kAt : KD := .inr [97, 116]
def kLeft : KD := .inr [108, 101, 102, 116]
/-- the dict of the draws: where the cells are, the counter, where what is left is -/
def drw (c : Nat) (k : Int) (f : Nat) : O := .dct [(kCells, .ref c), (kAt, .int k), (kLeft, .ref f)]
def begunH (ns : List Int) : List O := [drw 1 0 2, .lst (iDs ns), .lst (iDs (bigs ns))]
theorem noRefs_iDs : ∀ ns : List Int, noRefs (iDs ns) = true
  | [] => rfl
  | n :: ns => by
    show (noRef (.int n) && noRefs (iDs ns)) = true
    rw [noRefs_iDs ns]
    rfl
section
variable {K : PySem.W.Frag} {C : Cls} {ρ : List Addr} {H : Hp} {a : Addr} {xs : List V}
theorem rds_iDs : ∀ ns : List Int, RDs K ρ H (iDs ns) (ns.map V.int)
  | [] => by unfold iDs RDs; rfl
  | n :: ns => by
    unfold iDs
    rw [List.map_cons, List.map_cons]
    unfold RDs
    exact ⟨_, _, rfl, .int, rds_iDs ns⟩
/-- the script's list, which is none of the objects ρ -/
def Scr (K : PySem.W.Frag) (H : Hp) (ρ : List Addr) (a : Addr) (xs : List V) : Prop :=
  (a ∉ ρ ∧ ∃ o, H a = some o ∧ (o = .lst xs ∨ ∃ ob, o = .frz ob (.lst xs))) ∨
    ∃ (o : Obj) (its : Array Value) (n : Nat), K.lookup a = some o ∧ o.cls = .type "list" ∧ o.dict = none ∧ o.data = .seq its n ∧ its.size ≤ sizeLine ∧ Vals xs its.toList
theorem Scr.of (s : SqL K H a xs) : Scr K H [] a xs := by
  rcases s with (s | ⟨o, s⟩) | s
  · exact .inl ⟨by simp, _, s, .inl rfl⟩
  · exact .inl ⟨by simp, _, s, .inr ⟨o, rfl⟩⟩
  · exact .inr s
theorem Scr.sq (s : Scr K H ρ a xs) : SqL K H a xs := by
  rcases s with ⟨_, o, e, rfl | ⟨ob, rfl⟩⟩ | s
  · exact .inl (.inl e)
  · exact .inl (.inr ⟨ob, e⟩)
  · exact .inr s
theorem Scr.go {H' : Hp} (s : Scr K H ρ a xs) (g : Go K ρ H ρ H') : Scr K H' ρ a xs := by
  rcases s with ⟨n, o, e, z⟩ | s
  · refine .inl ⟨n, o, g.keep a o e n fun ps q => ?_, z⟩
    rcases z with rfl | ⟨ob, rfl⟩ <;> cases q
  · exact .inr s
theorem Scr.add {p : Addr} {o : HO} (s : Scr K H ρ a xs) (hp : H p = none) : Scr K (upd H p o) (ρ ++ [p]) a xs := by
  rcases s with ⟨n, u, e, z⟩ | s
  · have ne : a ≠ p := ne_of_none e hp
    refine .inl ⟨fun m => ?_, u, by rw [upd_ne ne]; exact e, z⟩
    rcases List.mem_append.mp m with m | m
    · exact n m
    · exact ne (by simpa using m)
  · exact .inr s
theorem Scr.set {p : Addr} {o : HO} (s : Scr K H ρ a xs) (hp : p ∈ ρ) : Scr K (upd H p o) ρ a xs := by
  rcases s with ⟨n, u, e, z⟩ | s
  · have ne : a ≠ p := fun q => n (by rw [q]; exact hp)
    exact .inl ⟨n, u, by rw [upd_ne ne]; exact e, z⟩
  · exact .inr s
theorem go_same {ρ' : List Addr} {H' : Hp} {h h' : List O} (g : Go K ρ H ρ' H') (r : RH K C ρ h H) (r' : RH K C ρ' h' H') (e : h'.length = h.length) : ρ' = ρ := by
  obtain ⟨z, rfl, _⟩ := g.ext
  have := r.len
  have := r'.len
  rw [List.length_append] at this
  have : z.length = 0 := by omega
  rw [List.length_eq_zero_iff.mp this, List.append_nil]
theorem take_bigs {ns : List Int} {i : Nat} {n : Int} (e : ns[i]? = some n) : bigs (ns.take (i + 1)) = if decide (1000000000000000000 ≤ n) = true then bigs (ns.take i) ++ [n] else bigs (ns.take i) := by
  have : ns.take (i + 1) = ns.take i ++ [n] := by rw [List.take_add_one, e]; rfl
  rw [this]
  unfold bigs
  rw [List.filter_append]
  by_cases h : decide (1000000000000000000 ≤ n) = true
  · rw [if_pos h, List.filter_cons, if_pos h]; rfl
  · rw [if_neg h, List.filter_cons, if_neg h]; simp
/-- [int(cell) for cell in script if int(cell) >= 10 ** 18] -/
theorem begun_lc {tt : GB} {ge : GE} {ns : List Int} {p l : Addr} {Q : VK} (htt : ∀ n h, tt [none, some (.int n)] h = .ok (decide (1000000000000000000 ≤ n)) h) (hge : ∀ n h, ge [none, some (.int n)] h = .ok (.int n) h) (hn : ns.length ≤ 63)
    (rh : RH K C [p, l] [.dct [], .lst (iDs ns)] H) (s : Scr K H [p, l] a (ns.map V.int)) (q : ∀ D H', RH K C [p, l, D] [.dct [], .lst (iDs ns), .lst (iDs (bigs ns))] H' → Q (.ref D) H') :
    tLc (fun σ H R => tVar 0 σ H fun x H1 => (∃ a, x = .ref a ∧ (∃ l, SqL K H1 a l) ∧ R (Itl K a) H1) ∨ (∃ a, x = .ref a ∧ (∃ l, SqT K H1 a l) ∧ R (Itt K a) H1) ∨ ∃ z, x = .str z ∧ R (Its z) H1) (rdGv K C [1] (tName 1)) (rdT K C W0 tt) (rd K C W0 ge) [1] [some (.ref a), none] H Q := by
  refine ⟨_, rfl, .inl ⟨a, rfl, ⟨_, s.sq⟩, fun D hD => ?_⟩⟩
  refine ⟨fun i m H => RH K C [p, l, D] [.dct [], .lst (iDs ns), .lst (iDs (bigs (ns.take i)))] H ∧ Scr K H [p, l, D] a (ns.map V.int) ∧ i + m = ns.length, ⟨ns.length, ?_, ?_, by omega⟩, ?_⟩
  · exact rh.add (o := .lst []) hD (.lst .nil)
  · exact s.add hD
  · rintro i m H ⟨rh, s, e⟩
    by_cases hi : i < ns.length
    · refine .inr ⟨⟨_, .int ns[i], s.sq, by rw [List.getElem?_map, List.getElem?_eq_getElem hi]; rfl⟩, fun H' => RH K C [p, l, D] [.dct [], .lst (iDs ns), .lst (iDs (bigs (ns.take (i + 1))))] H' ∧ Scr K H' [p, l, D] a (ns.map V.int), fun H' z => ⟨m - 1, by omega, z.1, z.2, by omega⟩, ?_⟩
      rintro x H' ⟨rfl, ex⟩
      have ex := ex _ s.sq
      rw [List.getElem?_map, List.getElem?_eq_getElem hi] at ex
      have ex : V.int ns[i] = x := Option.some.inj ex
      subst ex
      have rs : RS K [p, l, D] H' [none, none] (L2.wipe [some (.ref a), none] [1]) := ⟨rfl, fun j d z => by
        match j, z with
        | 0, z => cases z
        | 1, z => cases z
        | j + 2, z => simp at z⟩
      refine ⟨_, _, _, .int ns[i], rh, rs, .int, ?_⟩
      show ResG K C _ H' (some _) _
      intro ρ2 H2 σ2 g2 rh2 rs2 ew
      obtain rfl := go_same g2 rh rh2 rfl
      refine ⟨ew.trans wipe_wipe, ?_⟩
      have s2 := s.go g2
      refine ⟨_, _, _, rh2, rs2, ?_⟩
      show Res K C _ _ H2 (tt [none, some (.int ns[i])] _) _
      rw [htt]
      intro ρ3 H3 g3 rh3
      obtain rfl := go_same g3 rh2 rh3 rfl
      have s3 := s2.go g3
      have tb := take_bigs (List.getElem?_eq_getElem hi)
      by_cases hb : decide (1000000000000000000 ≤ ns[i]) = true
      · rw [if_pos hb]
        rw [if_pos hb] at tb
        refine ⟨_, _, _, rh3, rs2.go g3, ?_⟩
        show Res K C _ _ H3 (ge [none, some (.int ns[i])] _) _
        rw [hge]
        intro ρ4 H4 g4 rh4 v rv
        obtain rfl := go_same g4 rh3 rh4 rfl
        have s4 := s3.go g4
        cases rv.of_int
        obtain ⟨b, ws, w1, w2, w3⟩ := rh4.lst (n := 2) rfl
        have w1 : D = b := Option.some.inj w1
        subst w1
        refine ⟨ws, w2, ?_, ?_, s4.set (by simp)⟩
        · rw [w3.length]
          have l1 : (iDs (bigs (ns.take i))).length ≤ ns.length := by
            unfold iDs bigs
            rw [List.length_map]
            exact Nat.le_trans (List.length_filter_le _ _) (by rw [List.length_take]; omega)
          exact Nat.lt_of_le_of_lt (Nat.le_trans l1 hn) (by rw [sizeLine_eq]; decide)
        · have z := rh4.set (i := 2) (p := D) (o := .lst (ws ++ [.int ns[i]])) (u := .lst (iDs (bigs (ns.take i)) ++ [.int ns[i]])) rfl (.lst ((w3.snoc .int).go (go_set rh4 (i := 2) rfl)))
          rw [tb]
          have e5 : iDs (bigs (ns.take i) ++ [ns[i]]) = iDs (bigs (ns.take i)) ++ [.int ns[i]] := by unfold iDs; rw [List.map_append]; rfl
          rw [e5]
          exact z
      · rw [if_neg hb]
        rw [if_neg hb] at tb
        rw [tb]
        exact ⟨rh3, s3⟩
    · refine .inl ⟨⟨_, s.sq, by rw [List.length_map]; omega⟩, q D H ?_⟩
      have : i = ns.length := by omega
      subst this
      rw [List.take_length] at rh
      exact rh
/-- what _law_begun promises -/
def spBegun (K : PySem.W.Frag) (C : Cls) : Sp := fun vs H Q _ => ∃ a ns, vs = [.ref a] ∧ SqL K H a (ns.map V.int) ∧ ns.length ≤ 63 ∧ Tabs C.T H ∧ ∀ ρ H' p, RH K C ρ (begunH ns) H' → ρ[0]? = some p → Q (.ref p) H'
theorem begun_run {tt : GB} {ge : GE} {vs : List V} {Q : VK} {E : XK} (htt : ∀ n h, tt [none, some (.int n)] h = .ok (decide (1000000000000000000 ≤ n)) h) (hge : ∀ n h, ge [none, some (.int n)] h = .ok (.int n) h) (h : spBegun K C vs H Q E) :
    tRet (tDisp [(tC (.str ⟨#[99, 101, 108, 108, 115]⟩), tCB (fun xs H Q => ∃ p ys, xs = [.ref p] ∧ (SqL K H p ys ∨ SqT K H p ys) ∧ ∀ l, H l = none → Q (.ref l) (upd H l (.lst ys))) (tCons (tVar 0) tNil)), (tC (.str ⟨#[97, 116]⟩), tC (.int 0)), (tC (.str ⟨#[108, 101, 102, 116]⟩),
      tLc (fun σ H R => tVar 0 σ H fun x H1 => (∃ a, x = .ref a ∧ (∃ l, SqL K H1 a l) ∧ R (Itl K a) H1) ∨ (∃ a, x = .ref a ∧ (∃ l, SqT K H1 a l) ∧ R (Itt K a) H1) ∨ ∃ z, x = .str z ∧ R (Its z) H1) (rdGv K C [1] (tName 1)) (rdT K C W0 tt) (rd K C W0 ge) [1])])
      { nx := fun _ H' => Q .non H', rt := Q } (L2.start ["script", "cell"] vs) H := by
  obtain ⟨a, ns, rfl, hs, hn, ht, q⟩ := h
  intro p hp
  have s0 := Scr.of hs
  have r0 : RH K C [] [] H := ⟨rfl, List.nodup_nil, fun i o e => (by simp at e), ht⟩
  have r1 : RH K C [p] [.dct []] (upd H p (.dK [])) := r0.add hp RO.dct0
  have s1 : Scr K (upd H p (.dK [])) [p] a (ns.map V.int) := s0.add hp
  refine ⟨_, rfl, a, _, rfl, .inl s1.sq, fun l hl => ?_⟩
  have r2 : RH K C [p, l] [.dct [], .lst (iDs ns)] (upd (upd H p (.dK [])) l (.lst (ns.map V.int))) := r1.add hl (.lst (rds_iDs ns))
  have s2 : Scr K (upd (upd H p (.dK [])) l (.lst (ns.map V.int))) [p, l] a (ns.map V.int) := s1.add hl
  have key := begun_lc (K := K) (C := C) (tt := tt) (ge := ge) (Q := fun y H3 => H3 p = some (HO.dK []) ∧ ∃ kvs : List (Key × V), [(V.str ⟨#[99, 101, 108, 108, 115]⟩, V.ref l), (V.str ⟨#[97, 116]⟩, V.int 0), (V.str ⟨#[108, 101, 102, 116]⟩, y)] = kvs.map (fun kv => (kV kv.1, kv.2)) ∧ kvs.length ≤ 15 ∧ Q (.ref p) (upd H3 p (.dK (mergeK [] kvs))))
    htt hge hn r2 s2 fun D H3 r3 => by
      obtain ⟨b, kvs, w1, w2, w3⟩ := r3.dct (n := 0) rfl
      have w1 : p = b := Option.some.inj w1
      subst w1
      have w3 : kvs = [] := w3
      subst w3
      refine ⟨w2, [(kOf kCells, .ref l), (kOf kAt, .int 0), (kOf kLeft, .ref D)], rfl, by simp, ?_⟩
      refine q [p, l, D] _ p ?_ rfl
      have em : mergeK [] [(kOf kCells, V.ref l), (kOf kAt, .int 0), (kOf kLeft, .ref D)] = [(kOf kCells, V.ref l), (kOf kAt, .int 0), (kOf kLeft, .ref D)] := rfl
      rw [em]
      refine r3.set (i := 0) (u := drw 1 0 2) rfl ?_
      refine ⟨_, rfl, ?_⟩
      refine ⟨_, _, rfl, .ref rfl, _, _, rfl, .int, _, _, rfl, .ref rfl, rfl⟩
  exact key
end
end Ev
set_option Elab.async false
set_option linter.all false
set_option maxRecDepth 100000
set_option maxHeartbeats 2000000
/-! Ev38: a law's def; runs of a part of its statements. -/
namespace Ev
open PySem PySem.Spec PyProof.Rows L2 LamX
/-! ### a part of the statements, then what is no longer reached is left out -/
def seg : List GS → Sl → List O → Option (Sl × List O)
  | [], δ, h => some (δ, h)
  | g :: gs, δ, h => match g δ h with
    | .nx δ' h' => seg gs δ' h'
    | _ => none
def segSel (gs : List GS) (ks : List (Nat × Bool)) (vs : List Nat) (δ : Sl) (h : List O) : Option (Sl × List O) := match seg gs δ h with
  | some (δ', h') => match selH (ks.map (·.1)) h' ks with
    | some h2 => some (selS (ks.map (·.1)) vs δ', h2)
    | none => none
  | none => none
theorem seg_runs {rest : List GS} : ∀ {gs : List GS} {δ δ' : Sl} {h h' : List O}, seg gs δ h = some (δ', h') → Runs rest δ' h' → Runs (gs ++ rest) δ h
  | [], δ, δ', h, h', e, r => by
    cases e
    exact r
  | g :: gs, δ, δ', h, h', e, r => by
    unfold seg at e
    split at e
    · rename_i q
      exact .nx q (seg_runs e r)
    · cases e
def bare2 : List (Nat × Bool) → List O → Prop
  | p :: l, o :: h => (p.2 = true → noRefO o = true) ∧ bare2 l h
  | _, _ => True
theorem bare2_ok {ix : List Nat} {h : List O} : ∀ {ks : List (Nat × Bool)} {h2 : List O}, selH ix h ks = some h2 → bare2 ks h2 → bareAt h ks
  | [], _, _, _ => trivial
  | p :: l, h2, e, b => by
    unfold selH at e
    split at e
    · rename_i o eo
      split at e
      · rename_i o' eo'
        split at e
        · rename_i t et
          cases e
          refine ⟨fun hp u eu => ?_, bare2_ok et b.2⟩
          rw [eo] at eu
          cases eu
          rw [if_pos hp] at eo'
          cases eo'
          exact b.1 hp
        · cases e
      · cases e
    · cases e
theorem segSel_runs {gs rest : List GS} {ks : List (Nat × Bool)} {vs : List Nat} {δ δ2 : Sl} {h h2 : List O} (e : segSel gs ks vs δ h = some (δ2, h2)) (nd : (ks.map (·.1)).Nodup) (b : bare2 ks h2) (r : Runs rest δ2 h2) : Runs (gs ++ rest) δ h := by
  unfold segSel at e
  split at e
  · rename_i δ' h' e1
    split at e
    · rename_i t e2
      cases e
      exact seg_runs e1 (.sel ks vs nd e2 (bare2_ok e2 b) r)
    · cases e
  · cases e
/-! ### the law's def -/
def spLaw (K : PySem.W.Frag) (C : Cls) : Sp := fun vs H Q _ => ∃ (a : Addr) (ns : List Int), vs = [.ref a] ∧ SqL K H a (ns.map V.int) ∧ ns.length ≤ 63 ∧ (∀ z ∈ ns, Builtin.Int.intBits z ≤ 1048576) ∧ Tabs C.T H ∧ ∀ H', Q (.bl true) H'
/-- m = _law_begun(script) -/
def tBegun (K : PySem.W.Frag) (C : Cls) (i : Nat) : TS := fun D σ H => ∃ (a : Addr) (ns : List Int), σ[0]? = some (some (.ref a)) ∧ SqL K H a (ns.map V.int) ∧ ns.length ≤ 63 ∧ Tabs C.T H ∧ ∀ ρ H' p, RH K C ρ (begunH ns) H' → ρ[0]? = some p → D.nx (σ.set i (some (.ref p))) H'
section
variable {P : Program} {w : World} {K : PySem.W.Frag} {mg : Str → Option Value} {base : Heap} {C : Cls}
structure BegunOk (P : Program) (w : World) (K : PySem.W.Frag) (mg : Str → Option Value) (base : Heap) (C : Cls) (x : Str) : Prop where
  ex : ∃ (f : Addr) (fd : FuncData), FnOk P w K mg base (L2.CX P w) 1 f fd ["script"] (spBegun K C) ∧ mg x = some (.ref f) ∧ PySem.W.keepIn K (.ref f) = true ∧ Binds K fd ["script"] []
theorem begun_of {x : Str} {st : Stmt} {tt : GB} {ge : GE} (F : Dfn K mg x st ["script"]) (S : FnScope ["script", "cell"] ["script"] (defScope st)) (htt : ∀ n h, tt [none, some (.int n)] h = .ok (decide (1000000000000000000 ≤ n)) h) (hge : ∀ n h, ge [none, some (.int n)] h = .ok (.int n) h)
    (hb : ∀ (f : Addr) (cdv : Value) (A : Around) (outer : List Env) (s : Shared) (H : Hp) (E : XK), Room 0 (bx P w K mg base ["script", "cell"] x (defScope st) f cdv A outer s H E).A →
      PSs (bx P w K mg base ["script", "cell"] x (defScope st) f cdv A outer s H E) (defBody st) (tRet (tDisp [(tC (.str ⟨#[99, 101, 108, 108, 115]⟩), tCB (fun xs H Q => ∃ p ys, xs = [.ref p] ∧ (SqL K H p ys ∨ SqT K H p ys) ∧ ∀ l, H l = none → Q (.ref l) (upd H l (.lst ys))) (tCons (tVar 0) tNil)), (tC (.str ⟨#[97, 116]⟩), tC (.int 0)), (tC (.str ⟨#[108, 101, 102, 116]⟩),
      tLc (fun σ H R => tVar 0 σ H fun x H1 => (∃ a, x = .ref a ∧ (∃ l, SqL K H1 a l) ∧ R (Itl K a) H1) ∨ (∃ a, x = .ref a ∧ (∃ l, SqT K H1 a l) ∧ R (Itt K a) H1) ∨ ∃ z, x = .str z ∧ R (Its z) H1) (rdGv K C [1] (tName 1)) (rdT K C W0 tt) (rd K C W0 ge) [1])]))) : BegunOk P w K mg base C x := by
  obtain ⟨f, fd, F, m, b⟩ := F.ex
  refine ⟨f, fd, L2.Fun.okX F S (fun vs H Q E h => ?_) fun cdv A outer s H vs Q E hr hsp => ?_, m, F.kp, b⟩
  · obtain ⟨a, ns, rfl, _⟩ := h
    rfl
  · exact ⟨_, hb f cdv A outer s H E hr, begun_run htt hge hsp⟩
theorem cBegun {X : Cx} {C : Cls} {W : WX} {x y : Str} {i j : Nat} {p p1 p2 pos spos : Pos} (B : BegunOk X.prog X.w X.K X.mg X.base C x) (hr : Room j X.A) (hj : 1 ≤ j) (hg : Gl X x) (tk : Takes X W) (hN : X.N.Nodup) (hi : X.N[i]? = some y) (h0 : X.N[0]? = some ("script" : Str)) (hv : Vis X.env.scope "script") (hx : Loc X.env.scope y)
    (hs : swapsWith (.Call (.Name x p) [.Name "script" p1] [] pos) (some (.Name y p2)) spos.line X.env = pure false := by rfl) (hf : X.fn y = true ∨ X.env.scope.names.lookup y = some .local := by first | exact .inl rfl | exact .inr rfl) (hdb : (x == ("__debug__" : Str)) = false := by decide)
    (he : starEach [.Name "script" p1] X.env = (false, eval (.Name "script" p1) X.env) :: starEach [] X.env := by rfl) (hpl : (backTo pos (starEach [] X.env)).any (·.1) = false := by rfl) :
    PS X (.Assign [.Name y p2] (.Call (.Name x p) [.Name "script" p1] [] pos) spos) (tBegun X.K C i) := by
  obtain ⟨f, fd, F, m, kp, b⟩ := B.ex
  refine PS_imp (ps_set hN hi hx (pe_callS (F.mono hj) hr hg m kp b (passAt tk) (pa_cons (pe_var h0 hv) pa_nil) hdb he hpl) hs hf) fun D σ H q => ?_
  obtain ⟨a, ns, e, s, hn, ht, k⟩ := q
  exact ⟨_, e, a, ns, rfl, s, hn, ht, k⟩
theorem tabs_of {T : List (Addr × Str)} {H : Hp} (h : ∀ p ∈ T, H p.1 = some (.tbl #[])) : Tabs T H := fun p hp => ⟨#[], h p hp, trivial, fun pos cv e => by cases e⟩
/-- the law's def, its first statement m = _law_begun(script) -/
theorem law_fn {x : Str} {st : Stmt} (N : List Str) {i k : Nat} {gs : List GS} {f c Pt : Addr} {oc : Value} {od : Option Addr} {kV doc pm : Value} {an : Option Addr} {ct : Value} {osl : Array (Option Value)}
    (lk : K.lookup f = some ⟨oc, od, .func (PySem.W.fnOf x x (defArgs st) (defBody st) (defScope st) .none kV doc pm an (.ref c) ct), osl⟩) (hcd : PySem.W.codeIn K (.ref c) x = true)
    (S : FnScope N ["script"] (defScope st)) (hN : N = ("script" : Str) :: N.tail) (TB : TabB base mg c Pt) (hm : (Pt, x ++ ".<locals>." ++ "<lambda>") ∈ C.T) (hu : ∀ p ∈ C.T, p.1 = Pt → p.2 = x ++ ".<locals>." ++ "<lambda>")
    (hb : ∀ (f : Addr) (cdv : Value) (A : Around) (outer : List Env) (s : Shared) (H : Hp) (E : XK), LamOk (bx P w K mg base N x (defScope st) f cdv A outer s H E) C → Room k (bx P w K mg base N x (defScope st) f cdv A outer s H E).A →
      PSs (bx P w K mg base N x (defScope st) f cdv A outer s H E) (defBody st) (fun D σ H => tBegun K C i { D with nx := runT K C (wF E) gs D } σ H))
    (run : ∀ ns : List Int, ns.length ≤ 63 → Runs gs ((List.replicate N.length none).set i (some (.ref 0))) (begunH ns)) :
    FnOk P w K mg base (L2.CX P w) (k + 1) f (PySem.W.fnOf x x (defArgs st) (defBody st) (defScope st) .none kV doc pm an (.ref c) ct) ["script"] (spLaw K C) := by
  refine fn_of lk hcd S (fun vs H Q E h => ?_) fun A outer s H vs Q E hr hsp => ?_
  · obtain ⟨a, ns, rfl, _⟩ := h
    rfl
  · refine ⟨_, hb f (.ref c) A outer s H E ⟨c, Pt, rfl, TB, hm, hu⟩ hr, ?_⟩
    obtain ⟨a, ns, rfl, hs, hn, _, ht, q⟩ := hsp
    refine ⟨a, ns, ?_, hs, hn, ht, fun ρ H' p rh ep => ?_⟩
    · rw [hN]
      rfl
    · refine runs_ok (D := { nx := fun _ H' => Q .non H', rt := Q }) (fun H' => q H') (run ns hn) rh ?_
      refine ⟨by unfold L2.start; rw [hN]; simp, fun j d e => ?_⟩
      by_cases hj : i = j
      · subst hj
        by_cases lt : i < (List.replicate N.length (none : Option D)).length
        · rw [List.getElem?_set_self lt] at e
          cases e
          refine ⟨.ref p, ?_, .ref ep⟩
          rw [List.getElem?_set_self]
          unfold L2.start
          rw [hN] at lt ⊢
          simpa using lt
        · rw [List.getElem?_eq_none (by simpa using lt)] at e
          cases e
      · rw [List.getElem?_set_ne hj, List.getElem?_replicate] at e
        split at e <;> cases e
end
end Ev
set_option Elab.async false
set_option linter.all false
set_option maxRecDepth 100000
set_option maxHeartbeats 2000000
/-! Ev39: a draw. -/
namespace Ev
open PySem PySem.Spec PyProof.Rows L2 LamX
def nextG : GF := frF (fOf 6 2 (sSeq (sIfS (gBl (g2 (eqO2 true) (g2 ixO (gVar 0) (gC (.str [108, 101, 102, 116]))) (gLst gNil))) (sSeq (sPut 5 (g2 ixO (g2 ixO (gVar 0) (gC (.str [108, 101, 102, 116]))) (gC (.int 0)))) (sSeq (sAsg (g2 fdivO (gVar 5) (gVar 1)) (tSubT (g2 ixO (gVar 0) (gC (.str [108, 101, 102, 116]))) (gC (.int 0)))) (sSeq (sIfS (gBl (g2 (eqO2 false) (g2 ixO (g2 ixO (gVar 0) (gC (.str [108, 101, 102, 116]))) (gC (.int 0))) (gC (.int 0)))) (sSeq (sAsg (gSl (g2 ixO (gVar 0) (gC (.str [108, 101, 102, 116]))) (some (gC (.int 1))) none) (tSubT (gVar 0) (gC (.str [108, 101, 102, 116])))) sNext) sNext) (sSeq (sRet (g2 modO (gVar 5) (gVar 1))) sNext)))) sNext) (sSeq (sPut 2 (g2 ixO (gVar 0) (gC (.str [97, 116])))) (sSeq (sAsg (g2 addO (gVar 2) (gC (.int 1))) (tSubT (gVar 0) (gC (.str [97, 116])))) (sSeq (sPut 3 (gIf (gBl (g2 (eqO2 true) (g2 ixO (gVar 0) (gC (.str [99, 101, 108, 108, 115]))) (gLst gNil))) (g2 ixO (g2 ixO (gVar 0) (gC (.str [99, 101, 108, 108, 115]))) (g2 modO (gVar 2) (gB bLen (gCons (g2 ixO (gVar 0) (gC (.str [99, 101, 108, 108, 115]))) gNil)))) (gC (.int 0)))) (sSeq (sPut 4 (g2 mulO2 (g2 modO (gB bInt3 (gCons (gVar 3) gNil)) (gC (.int 2147483629))) (g2 addO (g2 mulO2 (gC (.int 2)) (gVar 2)) (gC (.int 3))))) (sSeq (sPut 4 (g2 modO (g2 addO (g2 addO (g2 addO (gVar 4) (g2 mulO2 (g2 mulO2 (gC (.int 7919)) (gVar 2)) (gVar 2))) (g2 mulO2 (gC (.int 104729)) (gVar 2))) (gC (.int 31))) (gC (.int 2147483647)))) (sSeq (sRet (g2 modO (g2 fdivO (g2 modO (g2 mulO2 (g2 modO (g2 mulO2 (gVar 4) (gVar 4)) (gC (.int 2147483629))) (gC (.int 48271))) (gC (.int 2147483647))) (gC (.int 13))) (gVar 1))) sNext))))))))
def hC (cs : List Int) (k : Int) (ls : List Int) : List O := [drw 1 k 2, .lst (iDs cs), .lst (iDs ls)]
theorem toPds_iDs (f : Nat → Option PyData) : ∀ l : List Int, toPds f (iDs l) = some (l.map PyData.int)
  | [] => rfl
  | n :: l => by
    show (match toPd f (.int n) with
      | some p => match toPds f (iDs l) with
        | some q => some (p :: q)
        | none => none
      | none => none) = _
    rw [toPds_iDs f l]
    rfl
theorem toP_lst {h : List O} {a : Nat} {l : List Int} (ea : h[a]? = some (.lst (iDs l))) : toP h (.ref a) = some (.list (l.map PyData.int)) := by
  show toPn h 4 a = _
  unfold toPn
  rw [ea]
  show (toPds (toPn h 3) (iDs l)).map PyData.list = _
  rw [toPds_iDs]
  rfl
theorem canLay_iDs : ∀ l : List Int, PyData.canLayAll0 (l.map PyData.int) = true
  | [] => rfl
  | n :: l => by
    show (PyData.canLay0 (.int n) && PyData.canLayAll0 (l.map PyData.int)) = true
    rw [canLay_iDs l]
    rfl
theorem depth_iDs : ∀ l : List Int, PyData.depthAll (l.map PyData.int) = 0
  | [] => rfl
  | n :: l => by
    show max (PyData.depth (.int n)) (PyData.depthAll (l.map PyData.int)) = 0
    rw [depth_iDs l]
    rfl
theorem shaped_iDs (l : List Int) : SeqAt.shaped (.list (l.map PyData.int)) = true := by
  show (PyData.canLayAll0 (l.map PyData.int) && decide (PyData.depthAll (l.map PyData.int) + 1 ≤ 64)) = true
  rw [canLay_iDs, depth_iDs]
  rfl
theorem eq_nil {neg : Bool} {h : List O} {a n : Nat} {l : List Int} (ea : h[a]? = some (.lst (iDs l))) (en : h[n]? = some (.lst [])) : eqO2 neg (.ref a) (.ref n) h = .ok (.bl (if neg then !l.isEmpty else l.isEmpty)) h := by
  unfold eqO2
  show eqO neg (.ref a) (.ref n) h = _
  unfold eqO
  rw [toP_lst ea, toP_lst (l := []) en]
  show (if SeqAt.shaped (.list (l.map PyData.int)) && SeqAt.shaped (.list (([] : List Int).map PyData.int)) then _ else _) = _
  rw [shaped_iDs, shaped_iDs]
  cases l <;> cases neg <;> rfl

theorem small_of {i : Int} (h : -1000000000000000000 < i) (h2 : i < 1000000000000000000) : small i = true := by
  unfold small two64
  rw [Bool.and_eq_true, decide_eq_true_eq, decide_eq_true_eq]
  omega
theorem fmod_b (i : Int) {m : Int} (h : 0 < m) : 0 ≤ i.fmod m ∧ i.fmod m < m := by
  rw [Int.fmod_eq_emod_of_nonneg i (Int.le_of_lt h)]
  exact ⟨Int.emod_nonneg i (by omega), Int.emod_lt_of_pos i h⟩
/-- the number that a draw makes of a cell -/
def blend (c k many : Int) : Int :=
  let b := ((c.fmod 2147483629 * (2 * k + 3) + 7919 * k * k + 104729 * k + 31).fmod 2147483647)
  ((((b * b).fmod 2147483629 * 48271).fmod 2147483647).fdiv 13).fmod many
theorem mul_if {i j : Int} {h : List O} : mulO2 (D.int i) (D.int j) h = if small i || small j then R.ok (D.int (i * j)) h else .bad := rfl
theorem small_f1 (x : Int) : small (x.fmod 2147483647) = true := small_of (by have := (fmod_b x (m := 2147483647) (by decide)).1; omega) (by have := (fmod_b x (m := 2147483647) (by decide)).2; omega)
theorem small_f2 (x : Int) : small (x.fmod 2147483629) = true := small_of (by have := (fmod_b x (m := 2147483629) (by decide)).1; omega) (by have := (fmod_b x (m := 2147483629) (by decide)).2; omega)
theorem blend_b (c k : Int) {many : Int} (h : 0 < many) : 0 ≤ blend c k many ∧ blend c k many < many := fmod_b _ h
def cellD (cs : List Int) (k : Int) : Int := (cs[(k % (cs.length : Int)).toNat]?).getD 0
theorem atI_cell {cs : List Int} {k : Int} (hc : cs ≠ []) : atI (iDs cs) (k.fmod ((iDs cs).length : Int)) = some (D.int (cellD cs k)) := by
  have hl : (iDs cs).length = cs.length := by unfold iDs; rw [List.length_map]
  have hp : 0 < cs.length := List.length_pos_iff.mpr hc
  rw [hl, Int.fmod_eq_emod_of_nonneg k (by omega)]
  have h1 : 0 ≤ k % (cs.length : Int) := Int.emod_nonneg k (by omega)
  have h2 : k % (cs.length : Int) < (cs.length : Int) := Int.emod_lt_of_pos k (by omega)
  unfold atI ixN
  rw [if_pos h1, hl, if_pos h2]
  show (iDs cs)[(k % (cs.length : Int)).toNat]? = _
  have h3 : (k % (cs.length : Int)).toNat < cs.length := by omega
  unfold iDs cellD
  rw [List.getElem?_map, List.getElem?_eq_getElem h3]
  rfl
section
variable {k many : Int} (hm : 0 < many) (hk : 0 ≤ k) (hk2 : k ≤ 1000000)
include hm hk hk2
theorem next_0 : nextG [.ref 0, .int many] (hC [] k []) = .ok (.int (blend 0 k many)) [drw 1 (k + 1) 2, .lst [], .lst [], .lst [], .lst []] := by
  have hkk : small k = true := small_of (by omega) (by omega)
  have hk3 : small (7919 * k) = true := small_of (by omega) (by omega)
  have hm0 : many ≠ 0 := by omega
  unfold nextG frF
  rw [if_neg (by simp [noRefs, noRef])]
  simp [fOf, sSeq, RSt.seq, sIfS, gBl, g2, ixO, gVar, gC, gLst, gCons, gNil, R.bind, R.toS, hC, drw, kdOf, dlook, keyBeq, kLeft, kAt, kCells, iDs, line, sNext, sPut, sAsg, addO, tSubT, putO, dput, dmap, gIf, modO, fdivO, intO, gB, bLen, lenD, bInt3, bInt, mul_if, eq_nil, small_f1, small_f2, hkk, hk3, hm0, show small 2 = true from rfl, show small 7919 = true from rfl, show small 104729 = true from rfl, show small 48271 = true from rfl, show small 0 = true from rfl, sRet, blend]
theorem next_1 {cs : List Int} (hc : cs ≠ []) : nextG [.ref 0, .int many] (hC cs k []) = .ok (.int (blend (cellD cs k) k many)) [drw 1 (k + 1) 2, .lst (iDs cs), .lst [], .lst [], .lst []] := by
  have hkk : small k = true := small_of (by omega) (by omega)
  have hk3 : small (7919 * k) = true := small_of (by omega) (by omega)
  have hm0 : many ≠ 0 := by omega
  have hl : (iDs cs).length = cs.length := by unfold iDs; rw [List.length_map]
  have ec : ∀ (h : List O) (a n : Nat), h[a]? = some (.lst (iDs cs)) → h[n]? = some (.lst []) → eqO2 true (.ref a) (.ref n) h = .ok (.bl true) h := fun h a n x y => by
    rw [eq_nil x y]
    cases cs with
    | nil => exact absurd rfl hc
    | cons a l => rfl
  have en : ∀ (h : List O) (a n : Nat), h[a]? = some (.lst []) → h[n]? = some (.lst []) → eqO2 true (.ref a) (.ref n) h = .ok (.bl false) h := fun h a n x y => eq_nil (l := []) x y
  have ei := atI_cell (k := k) hc
  rw [hl] at ei
  have hcl : ¬ cs.length = 0 := by cases cs with
    | nil => exact absurd rfl hc
    | cons a l => simp
  unfold nextG frF
  rw [if_neg (by simp [noRefs, noRef])]
  simp [fOf, sSeq, RSt.seq, sIfS, gBl, g2, ixO, gVar, gC, gLst, gCons, gNil, R.bind, R.toS, hC, drw, kdOf, dlook, keyBeq, kLeft, kAt, kCells, show iDs [] = [] from rfl, line, sNext, sPut, sAsg, addO, tSubT, putO, dput, dmap, gIf, modO, fdivO, intO, gB, bLen, lenD, bInt3, bInt, mul_if, ec, en, ei, hl, hc, hcl, small_f1, small_f2, hkk, hk3, hm0, show small 2 = true from rfl, show small 7919 = true from rfl, show small 104729 = true from rfl, show small 48271 = true from rfl, show small 0 = true from rfl, sRet, blend]
theorem next_2 {cs ls : List Int} {x : Int} (hb : many.natAbs < 1073741824) (hx : x.fdiv many = 0) : nextG [.ref 0, .int many] (hC cs k (x :: ls)) = .ok (.int (x.fmod many)) [drw 1 k 4, .lst (iDs cs), .lst (iDs (0 :: ls)), .lst [], .lst (iDs ls)] := by
  have hm0 : many ≠ 0 := by omega
  have en : ∀ (h : List O) (a n : Nat), h[a]? = some (.lst (D.int x :: iDs ls)) → h[n]? = some (.lst []) → eqO2 true (.ref a) (.ref n) h = .ok (.bl true) h := fun h a n z y => eq_nil (l := x :: ls) z y
  have e0 : ∀ h, eqO2 false (.int 0) (.int 0) h = .ok (.bl true) h := fun h => rfl
  unfold nextG frF
  rw [if_neg (by simp [noRefs, noRef])]
  simp [fOf, sSeq, RSt.seq, sIfS, gBl, g2, ixO, gVar, gC, gLst, gCons, gNil, R.bind, R.toS, hC, drw, kdOf, dlook, keyBeq, kLeft, kAt, kCells, show iDs (x :: ls) = D.int x :: iDs ls from rfl, show iDs (0 :: ls) = D.int 0 :: iDs ls from rfl, line, sNext, sPut, sAsg, addO, tSubT, putO, dput, dmap, gIf, modO, fdivO, intO, gB, bLen, lenD, en, e0, hm0, hb, hx, sRet, atI, ixN, gSl, gPart, slO, cutL, HT.sIx]
theorem next_3 {cs ls : List Int} {x : Int} (hb : many.natAbs < 1073741824) (hx : x.fdiv many ≠ 0) : nextG [.ref 0, .int many] (hC cs k (x :: ls)) = .ok (.int (x.fmod many)) [drw 1 k 2, .lst (iDs cs), .lst (iDs (x.fdiv many :: ls)), .lst []] := by
  have hm0 : many ≠ 0 := by omega
  have en : ∀ (h : List O) (a n : Nat), h[a]? = some (.lst (D.int x :: iDs ls)) → h[n]? = some (.lst []) → eqO2 true (.ref a) (.ref n) h = .ok (.bl true) h := fun h a n z y => eq_nil (l := x :: ls) z y
  have e0 : ∀ h, eqO2 false (.int (x.fdiv many)) (.int 0) h = .ok (.bl false) h := fun h => by
    show (if true && true then R.ok (D.bl (x.fdiv many == 0)) h else .bad) = _
    rw [beq_eq_false_iff_ne.mpr hx]
    rfl
  unfold nextG frF
  rw [if_neg (by simp [noRefs, noRef])]
  simp [fOf, sSeq, RSt.seq, sIfS, gBl, g2, ixO, gVar, gC, gLst, gCons, gNil, R.bind, R.toS, hC, drw, kdOf, dlook, keyBeq, kLeft, kAt, kCells, show iDs (x :: ls) = D.int x :: iDs ls from rfl, show iDs (x.fdiv many :: ls) = D.int (x.fdiv many) :: iDs ls from rfl, line, sNext, sPut, sAsg, addO, tSubT, putO, dput, dmap, gIf, modO, fdivO, intO, gB, bLen, lenD, en, e0, hm0, hb, hx, sRet, atI, ixN, gSl, gPart, slO, cutL, HT.sIx]
theorem next_ok (cs ls : List Int) (hb : many.natAbs < 1073741824) : ∃ (v k' : Int) (ls' : List Int) (h' : List O) (n : Nat), nextG [.ref 0, .int many] (hC cs k ls) = .ok (.int v) h' ∧ 0 ≤ v ∧ v < many ∧ 0 ≤ k' ∧ k' ≤ k + 1 ∧ 2 ≤ n ∧ selH [0, 1, n] h' [(0, false), (1, true), (n, true)] = some (hC cs k' ls') := by
  cases ls with
  | nil =>
    by_cases hc : cs = []
    · subst hc
      exact ⟨_, k + 1, [], _, 2, next_0 hm hk hk2, (blend_b _ _ hm).1, (blend_b _ _ hm).2, by omega, by omega, by omega, rfl⟩
    · exact ⟨_, k + 1, [], _, 2, next_1 hm hk hk2 hc, (blend_b _ _ hm).1, (blend_b _ _ hm).2, by omega, by omega, by omega, rfl⟩
  | cons x ls =>
    by_cases hx : x.fdiv many = 0
    · exact ⟨_, k, ls, _, 4, next_2 hm hk hk2 hb hx, (fmod_b _ hm).1, (fmod_b _ hm).2, by omega, by omega, by omega, rfl⟩
    · exact ⟨_, k, x.fdiv many :: ls, _, 2, next_3 hm hk hk2 hb hx, (fmod_b _ hm).1, (fmod_b _ hm).2, by omega, by omega, by omega, rfl⟩
end
/-- a statement that draws once -/
theorem draw_runs {g : GS} {gs : List GS} {δ : Sl} {k many : Int} {cs ls : List Int} (f : Int → Sl) (hm : 0 < many) (hk : 0 ≤ k) (hk2 : k ≤ 1000000) (hb : many.natAbs < 1073741824)
    (hg : ∀ v h', nextG [.ref 0, .int many] (hC cs k ls) = .ok (.int v) h' → g δ (hC cs k ls) = .nx (f v) h')
    (r : ∀ v k' ls' n, 0 ≤ v → v < many → 0 ≤ k' → k' ≤ k + 1 → Runs gs (selS [0, 1, n] [] (f v)) (hC cs k' ls')) : Runs (g :: gs) δ (hC cs k ls) := by
  obtain ⟨v, k', ls', h', n, e1, e2, e3, e4, e5, e6, e7⟩ := next_ok hm hk hk2 cs ls hb
  refine .nx (hg v h' e1) (.sel [(0, false), (1, true), (n, true)] [] ?_ e7 (bare2_ok e7 ?_) (r v k' ls' n e2 e3 e4 e5))
  · simp
    omega
  · exact ⟨(fun z => nomatch z), (fun _ => noRefs_iDs cs), (fun _ => noRefs_iDs ls'), trivial⟩
end Ev
set_option Elab.async false
set_option linter.all false
set_option maxRecDepth 100000
set_option maxHeartbeats 2000000
/-! Ev40: the head's facts, as the printed texts want them. -/
namespace Ev
open PySem PySem.Spec PyProof.Rows L2 LamX
theorem pass_VE (self : Value) : refuseLoop self "__setattr__" [.type "ValueError", .type "Exception", .type "BaseException", .type "object"] = pure () := by kernel_rfl
theorem pass_OE (self : Value) : refuseLoop self "__setattr__" [.type "OverflowError", .type "ArithmeticError", .type "Exception", .type "BaseException", .type "object"] = pure () := by kernel_rfl
theorem pass_LE (self : Value) : refuseLoop self "__setattr__" [.type "LookupError", .type "Exception", .type "BaseException", .type "object"] = pure () := by kernel_rfl
/-- a class's only method -/
def initF (c : Stmt) : Stmt := match c with
  | .ClassDef (body := [f]) .. => f
  | s => s
def initS (c : Stmt) (ql : Str) : FnC := some ("__init__", ql, defArgs (initF c), .stmts (defBody (initF c)), defScope (initF c), mainGlobals, ["__class__"], builtinsNs, .none)
section
variable {fa : List He.Fa} {fn : List He.DefD} {ts : List He.Tab} {tf : List He.Defn} {ex : PySem.W.Frag → Bool} {cs : List Str} {inits : List FnC} {w : World} {h h' : Heap} {K : PySem.W.Frag} {mg : Str → Option Value}
theorem SaysE.d (S : SaysE fa fn ts tf ex cs inits w h K) : He.SaysD fa fn K := congrArg (fun z : He.AlT => z.1) S.t
theorem SaysE.ini (S : SaysE fa fn ts tf ex cs inits w h K) (i : Nat) {c : Str} {f : FnC} (hc : cs[i]? = some c) (hf : inits[i]? = some f) : initW K (He.ma K (He.ga K c) "__init__") = f := by
  have e := congrArg (fun l : List FnC => l[i]?) S.inits
  simp only [List.getElem?_map, hc, hf] at e
  exact Option.some.inj e
theorem SaysE.tab (S : SaysE fa fn ts tf ex cs inits w h K) (i : Nat) {t : He.Tab} (ht : ts[i]? = some t) : He.dicW K (t.1 K) = some (He.keysIn w.params t.2) := by
  have e := congrArg (fun z : He.AlT => z.2[i]?) S.t
  unfold He.obsT He.valT at e
  simp only [List.getElem?_map, ht] at e
  exact Option.some.inj e
theorem ex_at {exs : List (PySem.W.Frag → Bool)} (h : (exs.all fun f => f K) = true) (i : Nat) {f : PySem.W.Frag → Bool} (hf : exs[i]? = some f) : f K = true := List.all_eq_true.mp h f (List.mem_of_getElem? hf)
theorem const_int (X : K.In h') (G : h'.Ns mainGlobals mg) {x : Str} {i : Int} (c : (He.Fa.int x i).ok K = true) : ∃ (v : V) (u : Value), mg x = some u ∧ RelV v u ∧ ∀ ρ H, RD K ρ H (.int i) v := by
  obtain ⟨t, e⟩ := He.int_ok X G c
  exact ⟨.int i, _, e, ⟨t, rfl⟩, fun _ _ => .int⟩
theorem const_str (X : K.In h') (G : h'.Ns mainGlobals mg) {x z : Str} {s : List Nat} (c : (He.Fa.str x z).ok K = true) (ez : z = ⟨s.toArray⟩) : ∃ (v : V) (u : Value), mg x = some u ∧ RelV v u ∧ ∀ ρ H, RD K ρ H (.str s) v := by
  obtain ⟨t, e⟩ := He.str_ok X G c
  subst ez
  exact ⟨.str _, _, e, ⟨t, rfl⟩, fun _ _ => .str⟩
theorem const_tup (X : K.In h') (G : h'.Ns mainGlobals mg) {x : Str} {vs : List He.Dv} {l : List D} (g : (He.Fa.glo x).ok K = true) (c : He.tupB K x vs = true) (r : ∀ ρ H, RDs K ρ H l (vs.map (He.Dv.v K))) : ∃ (v : V) (u : Value), mg x = some u ∧ RelV v u ∧ ∀ ρ H, RD K ρ H (.tup l) v :=
  ⟨.ref (He.ga K x), _, He.glo_ok X G g, rfl, fun ρ H => .tup (He.tupB_ok c H) (r ρ H)⟩
theorem flatRD : ∀ {l : List D} {vs : List V}, flatsOf l = some vs → ∀ ρ H, RDs K ρ H l vs
  | [], _, e, _, _ => by
    unfold flatsOf at e
    cases e
    unfold RDs
    rfl
  | d :: l, _, e, ρ, H => by
    unfold flatsOf at e
    split at e
    · rename_i u eu
      split at e
      · rename_i us eus
        cases e
        unfold RDs
        refine ⟨u, us, rfl, ?_, flatRD eus ρ H⟩
        cases d with
        | non => cases eu; exact .non
        | bl b => cases eu; exact .bl
        | int i => cases eu; exact .int
        | str s => cases eu; exact .str
        | tup l => cases eu
        | ref n => cases eu
      · cases e
    · cases e
theorem clsOk_of {C : Cls} {x : Str} {m : Nat → Bool} (X : K.In h') (G : h'.Ns mainGlobals mg) (g : (He.Fa.glo x).ok K = true) (e : ∀ c ca, C.f c = some ca → PySem.W.exmOne K (.ref ca) (.ref (He.ga K x)) = some (m c)) : ClsOk K mg C x m := ⟨⟨_, He.glo_ok X G g, e⟩⟩
end
theorem hCX0 {P : Program} {w : World} {H : Hp} {s : Shared} {e : Value} {s' : Shared} (z : L2.CX P w [] H s (fun _ _ _ => False) e s') : False := by
  obtain ⟨_, _, _, _, _, _, _, _, _, _, _, _, z⟩ := z
  exact z
end Ev
set_option Elab.async false
set_option linter.all false
set_option maxRecDepth 100000
set_option maxHeartbeats 2000000
/-! Ev41: the head's dicts. -/
namespace Ev
open PySem PySem.Spec PyProof.Rows L2 LamX
theorem nodg_of {K : PySem.W.Frag} (h : (PySem.W.nsOkIn K cStatics && decide (PySem.W.nsIn K cStatics "sys.int_max_str_digits" = some none)) = true) : NoDg K := by
  obtain ⟨a, b⟩ := bb h
  exact ⟨a, of_decide_eq_true b⟩
def dvOf : D → He.Dv
  | .bl b => .bl b
  | .int i => .int i
  | .str s => .str ⟨s.toArray⟩
  | _ => .non
def flatB : D → Bool
  | .tup _ => false
  | .ref _ => false
  | _ => true
theorem dvOf_ok {K : PySem.W.Frag} {d : D} (h : flatB d = true) (ρ : List Addr) (H : Hp) : RD K ρ H d ((dvOf d).v K) := by
  cases d with
  | non => exact .non
  | bl b => exact .bl
  | int i => exact .int
  | str s => exact .str
  | tup l => cases h
  | ref n => cases h
theorem keys_paired {P : Params} : ∀ {l : List DictEntry} {ks : List Str}, l.map He.keyOf = He.keysIn P ks → Paired RelV (ks.map V.str) (l.map (·.key))
  | [], [], _ => .nil
  | [], _ :: _, h => by cases h
  | _ :: _, [], h => by cases h
  | e :: r, k :: ks, h => by
    have h1 : He.keyOf e :: r.map He.keyOf = some (k, PyData.keyHash P k) :: He.keysIn P ks := h
    injection h1 with h2 h3
    refine .cons ?_ (keys_paired h3)
    unfold He.keyOf at h2
    split at h2
    · rename_i x t q
      have h4 := Option.some.inj h2
      obtain ⟨h5, h6⟩ := Prod.mk.inj h4
      subst h5
      exact ⟨t, q⟩
    · cases h2
theorem kdic_of {K : PySem.W.Frag} {w : World} {h2 : Heap} {mg : Str → Option Value} {x : Str} {ks : List Str} {kvs : List (Str × He.Dv)} {l : List (List Nat × D)} (X : K.In h2) (G : h2.Ns mainGlobals mg) (g : (He.Fa.glo x).ok K = true) (t : He.dicW K (He.ga K x) = some (He.keysIn w.params ks)) (v : He.valsB K (He.ga K x) kvs = true)
    (hk : ks = l.map fun p => ⟨p.1.toArray⟩) (hv : kvs = l.map fun p => (⟨p.1.toArray⟩, dvOf p.2)) (hf : l.all (fun p => flatB p.2) = true) : KDic K w mg x l := by
  have kd := He.dicW_ok t
  obtain ⟨es, n, d⟩ := kd
  have e2 : es.toList.map He.keyOf = He.keysIn w.params ks := by
    have lk := d.at_
    unfold He.dicW at t
    rw [lk] at t
    dsimp only at t
    split at t
    · exact Option.some.inj t
    · cases t
  refine ⟨_, es, n, He.glo_ok X G g, d.at_, d.lit, d.low, ?_, fun p hp => ?_⟩
  · have := keys_paired e2
    rw [hk, List.map_map] at this
    exact this
  · obtain ⟨u, e1, r⟩ := He.valsB_ok v (q := (⟨p.1.toArray⟩, dvOf p.2)) (by rw [hv]; exact List.mem_map.mpr ⟨p, hp, rfl⟩)
    exact ⟨u, _, e1, r, fun ρ H => dvOf_ok (List.all_eq_true.mp hf p hp) ρ H⟩
end Ev
set_option Elab.async false
set_option linter.all false
set_option maxRecDepth 100000
set_option maxHeartbeats 2000000
namespace G
open PySem PySem.Spec L2 Ev

def top (i : Nat) : Stmt := PySem.Challenge.pw_hourbound_k07_limits_of_zones.main.body.getD i (.Pass ⟨0, 0, 0, 0⟩)
def c_EVEN : D := (.tup [(.int 0), (.int 1)])
def c_FIGURES : D := (.str [48, 49, 50, 51, 52, 53, 54, 55, 56, 57])
def c_LETTERS : D := (.str [97, 98, 99, 100, 101, 102, 103, 104, 105, 106, 107, 108, 109, 110, 111, 112, 113, 114, 115, 116, 117, 118, 119, 120, 121, 122])
def c_MOST_BOUND : D := (.int 1000)
def c_MOST_CLOCKS : D := (.int 3)
def c_MOST_CONDITIONS : D := (.int 8)
def c_MOST_FIGURES : D := (.int 4)
def c_MOST_NUMBER : D := (.int 20)
def c_MOST_SIGNS : D := (.int 8)
def c_MOST_WRITTEN_FIGURES : D := (.int 4000)
def c_NOUGHT : D := (.tup [(.int 0), (.int 1)])
def c_TAKEN : D := (.tup [(.str [121, 101, 115])])
def c_WORDS : D := (.tup [(.str [109, 111, 115, 116]), (.str [108, 101, 115, 115]), (.str [108, 101, 97, 115, 116]), (.str [109, 111, 114, 101])])
def k_SIGNS : List (List Nat × D) := [([109, 111, 115, 116], (.str [60, 61])), ([108, 101, 115, 115], (.str [60])), ([108, 101, 97, 115, 116], (.str [62, 61])), ([109, 111, 114, 101], (.str [62]))]
structure Facts (P : Program) (w : World) (K : PySem.W.Frag) (mg : Str → Option Value) (base : Heap) (C : Ev.Cls) : Prop where
  d__law_begun : Dfn K mg "_law_begun" (top 104) ["script"]
  d_time_by_text : Dfn K mg "time_by_text" (top 95) ["time"]
  d_is_tuple_of : Dfn K mg "is_tuple_of" (top 25) ["thing", "least", "most"]
  d_is_number : Dfn K mg "is_number" (top 23) ["thing"]
  d_is_share : Dfn K mg "is_share" (top 31) ["thing"]
  d_is_time : Dfn K mg "is_time" (top 32) ["thing"]
  d_need_point : Dfn K mg "need_point" (top 50) ["clocks", "point"]
  d_is_name : Dfn K mg "is_name" (top 26) ["thing"]
  d_need_clocks : Dfn K mg "need_clocks" (top 27) ["clocks"]
  d_point_text : Dfn K mg "point_text" (top 96) ["clocks", "point"]
  d_condition_text : Dfn K mg "condition_text" (top 89) ["condition"]
  d_guard_by_text : Dfn K mg "guard_by_text" (top 90) ["guard"]
  d_is_among : Dfn K mg "is_among" (top 24) ["thing", "least", "most"]
  d_is_condition : Dfn K mg "is_condition" (top 44) ["thing", "clocks"]
  d_place_in_guard : Dfn K mg "place_in_guard" (top 45) ["thing", "clocks"]
  d_need_guard : Dfn K mg "need_guard" (top 46) ["guard", "clocks"]
  d_guard_text : Dfn K mg "guard_text" (top 91) ["guard", "clocks"]
  d_read_whole : Dfn K mg "read_whole" (top 88) ["text"]
  d_read_condition : Dfn K mg "read_condition" (top 92) ["text", "clocks"]
  d_guard_of_text : Dfn K mg "guard_of_text" (top 93) ["text", "clocks"]
  d_read_guard : Dfn K mg "read_guard" (top 94) ["text", "clocks"]
  d_told_places : Dfn K mg "told_places" (top 98) ["many"]
  d_gap_text : Dfn K mg "gap_text" (top 97) ["clocks", "one", "other"]
  d_all_rows : Dfn K mg "all_rows" (top 60) ["many"]
  d_zone_by_text : Dfn K mg "zone_by_text" (top 99) ["clocks", "zone"]
  d_is_bound : Dfn K mg "is_bound" (top 55) ["thing"]
  d_is_tighter : Dfn K mg "is_tighter" (top 57) ["one", "other"]
  d_tighter_of : Dfn K mg "tighter_of" (top 58) ["one", "other"]
  d_sum_of_bounds : Dfn K mg "sum_of_bounds" (top 56) ["one", "other"]
  d_rows_above_nought : Dfn K mg "rows_above_nought" (top 61) ["rows"]
  d_tight_by : Dfn K mg "tight_by" (top 62) ["rows"]
  d_place_of_gap : Dfn K mg "place_of_gap" (top 101) ["text", "clocks"]
  d_read_zone : Dfn K mg "read_zone" (top 102) ["text", "clocks"]
  d__law_next : Dfn K mg "_law_next" (top 105) ["m", "many"]
  d__law_like : Dfn K mg "_law_like" (top 106) ["told", "due"]
  d_least_share : Dfn K mg "least_share" (top 30) ["top", "low"]
  d_middle_of : Dfn K mg "middle_of" (top 37) ["one", "other"]
  d_is_below : Dfn K mg "is_below" (top 36) ["one", "other"]
  d_least_of_shares : Dfn K mg "least_of_shares" (top 39) ["shares"]
  d_plus : Dfn K mg "plus" (top 34) ["one", "other"]
  d_greatest_share : Dfn K mg "greatest_share" (top 38) ["shares"]
  d_time_between : Dfn K mg "time_between" (top 71) ["lows", "highs"]
  d_whole_time : Dfn K mg "whole_time" (top 33) ["number"]
  d_highs_of : Dfn K mg "highs_of" (top 70) ["zone", "fixed", "clock"]
  d_minus : Dfn K mg "minus" (top 35) ["one", "other"]
  d_lows_of : Dfn K mg "lows_of" (top 69) ["zone", "fixed", "clock"]
  d_point_by : Dfn K mg "point_by" (top 72) ["zone"]
  d_need_rows : Dfn K mg "need_rows" (top 59) ["rows", "clocks"]
  d_need_zone : Dfn K mg "need_zone" (top 65) ["zone", "clocks"]
  d_point_of_zone : Dfn K mg "point_of_zone" (top 73) ["zone", "clocks"]
  d_zone_text : Dfn K mg "zone_text" (top 100) ["zone", "clocks"]
  d_small_by : Dfn K mg "small_by" (top 63) ["zone"]
  d_tight_zone : Dfn K mg "tight_zone" (top 64) ["rows", "clocks"]
  d__law_tighter : Dfn K mg "_law_tighter" (top 108) ["one", "other"]
  d__law_bound_sum : Dfn K mg "_law_bound_sum" (top 107) ["one", "other"]
  d__law_above : Dfn K mg "_law_above" (top 109) ["rows"]
  d__law_tight : Dfn K mg "_law_tight" (top 110) ["rows"]
  d_round_from : Dfn K mg "round_from" (top 77) ["rows", "start"]
  d_round_by : Dfn K mg "round_by" (top 78) ["rows"]
  d_zone_paper : Dfn K mg "zone_paper" (top 79) ["rows", "clocks"]
  d_is_point : Dfn K mg "is_point" (top 49) ["clocks", "thing"]
  d_is_within_bound : Dfn K mg "is_within_bound" (top 74) ["bound", "one", "other"]
  d_is_in_rows : Dfn K mg "is_in_rows" (top 75) ["rows", "point"]
  d_sum_of_round : Dfn K mg "sum_of_round" (top 80) ["rows", "way"]
  d_is_round : Dfn K mg "is_round" (top 81) ["rows", "thing"]
  d_is_paper_form : Dfn K mg "is_paper_form" (top 82) ["rows", "paper"]
  d_check_zone_paper : Dfn K mg "check_zone_paper" (top 83) ["rows", "clocks", "paper"]
  d_is_in_zone : Dfn K mg "is_in_zone" (top 76) ["zone", "clocks", "point"]
  d_does_condition_hold : Dfn K mg "does_condition_hold" (top 47) ["condition", "clocks", "point"]
  d_holds_at : Dfn K mg "holds_at" (top 48) ["guard", "clocks", "point"]
  d_does_hold : Dfn K mg "does_hold" (top 51) ["guard", "clocks", "point"]
  d_rows_of_guard : Dfn K mg "rows_of_guard" (top 66) ["guard", "clocks"]
  d_zone_by_guard : Dfn K mg "zone_by_guard" (top 67) ["guard", "clocks"]
  d_zone_of_guard : Dfn K mg "zone_of_guard" (top 68) ["guard", "clocks"]
  d__law_clocks_refused : DfnL K mg base C "_law_clocks_refused" (top 112) []
  d__law_points_refused : DfnL K mg base C "_law_points_refused" (top 113) []
  d_law : DfnL K mg base C "law" (top 114) ["script"]
  n_all : mg "all" = none
  n_any : mg "any" = none
  n_bool : mg "bool" = none
  n_enumerate : mg "enumerate" = none
  n_int : mg "int" = none
  n_isinstance : mg "isinstance" = none
  n_len : mg "len" = none
  n_list : mg "list" = none
  n_max : mg "max" = none
  n_min : mg "min" = none
  n_range : mg "range" = none
  n_str : mg "str" = none
  n_tuple : mg "tuple" = none
  n_zip : mg "zip" = none
  c_EVEN : ∃ (v : V) (u : Value), mg "EVEN" = some u ∧ RelV v u ∧ ∀ ρ H, RD K ρ H c_EVEN v
  c_FIGURES : ∃ (v : V) (u : Value), mg "FIGURES" = some u ∧ RelV v u ∧ ∀ ρ H, RD K ρ H c_FIGURES v
  c_LETTERS : ∃ (v : V) (u : Value), mg "LETTERS" = some u ∧ RelV v u ∧ ∀ ρ H, RD K ρ H c_LETTERS v
  c_MOST_BOUND : ∃ (v : V) (u : Value), mg "MOST_BOUND" = some u ∧ RelV v u ∧ ∀ ρ H, RD K ρ H c_MOST_BOUND v
  c_MOST_CLOCKS : ∃ (v : V) (u : Value), mg "MOST_CLOCKS" = some u ∧ RelV v u ∧ ∀ ρ H, RD K ρ H c_MOST_CLOCKS v
  c_MOST_CONDITIONS : ∃ (v : V) (u : Value), mg "MOST_CONDITIONS" = some u ∧ RelV v u ∧ ∀ ρ H, RD K ρ H c_MOST_CONDITIONS v
  c_MOST_FIGURES : ∃ (v : V) (u : Value), mg "MOST_FIGURES" = some u ∧ RelV v u ∧ ∀ ρ H, RD K ρ H c_MOST_FIGURES v
  c_MOST_NUMBER : ∃ (v : V) (u : Value), mg "MOST_NUMBER" = some u ∧ RelV v u ∧ ∀ ρ H, RD K ρ H c_MOST_NUMBER v
  c_MOST_SIGNS : ∃ (v : V) (u : Value), mg "MOST_SIGNS" = some u ∧ RelV v u ∧ ∀ ρ H, RD K ρ H c_MOST_SIGNS v
  c_MOST_WRITTEN_FIGURES : ∃ (v : V) (u : Value), mg "MOST_WRITTEN_FIGURES" = some u ∧ RelV v u ∧ ∀ ρ H, RD K ρ H c_MOST_WRITTEN_FIGURES v
  c_NOUGHT : ∃ (v : V) (u : Value), mg "NOUGHT" = some u ∧ RelV v u ∧ ∀ ρ H, RD K ρ H c_NOUGHT v
  c_TAKEN : ∃ (v : V) (u : Value), mg "TAKEN" = some u ∧ RelV v u ∧ ∀ ρ H, RD K ρ H c_TAKEN v
  c_WORDS : ∃ (v : V) (u : Value), mg "WORDS" = some u ∧ RelV v u ∧ ∀ ρ H, RD K ρ H c_WORDS v
  k_SIGNS : KDic K w mg "SIGNS" k_SIGNS
  e_BadClock : ErrOk P K mg C "BadClock" 1
  e_BadGuard : ErrOk P K mg C "BadGuard" 2
  e_BadPaper : ErrOk P K mg C "BadPaper" 10
  e_BadState : ErrOk P K mg C "BadState" 5
  e_BadText : ErrOk P K mg C "BadText" 11
  e_BadZone : ErrOk P K mg C "BadZone" 3
  e_TooMany : ErrOk P K mg C "TooMany" 13
  nodg : NoDg K
  g_gcd : mg "gcd" = some (.builtin "math.gcd")
  s_BadClock : ClsF K mg C "BadClock" 1 "place"
  s_BadGuard : ClsF K mg C "BadGuard" 2 "place"
  s_BadZone : ClsF K mg C "BadZone" 3 "place"
  s_BadMachine : ClsOk K mg C "BadMachine" (fun c => List.elem c [4])
  s_BadState : ClsF K mg C "BadState" 5 "place"
  s_BadRun : ClsOk K mg C "BadRun" (fun c => List.elem c [6])
  s_BadWord : ClsOk K mg C "BadWord" (fun c => List.elem c [7])
  s_BadPlan : ClsOk K mg C "BadPlan" (fun c => List.elem c [8])
  s_BadText : ClsF K mg C "BadText" 11 "place"
  s_BadList : ClsOk K mg C "BadList" (fun c => List.elem c [9])
  s_BadPaper : ClsF K mg C "BadPaper" 10 "place"
  s_BadNumber : ClsOk K mg C "BadNumber" (fun c => List.elem c [12])
  s_TooMany : ClsF K mg C "TooMany" 13 "most"
  s_NoSuch : ClsOk K mg C "NoSuch" (fun c => List.elem c [14])
  s_HourError : ClsOk K mg C "HourError" (fun c => List.elem c [0, 1, 2, 3, 4, 5, 6, 7, 8, 9, 10, 11, 12])
  d__law_said : Dfn K mg "_law_said" (top 111) ["call"]
variable {P : Program} {w : World} {K : PySem.W.Frag} {mg : Str → Option Value} {base : Heap} {C : Ev.Cls}
def hs__law_said : List Hd := [(fun c => Nat.beq c 1, some [99, 108, 111, 99, 107]), (fun c => Nat.beq c 2, some [103, 117, 97, 114, 100]), (fun c => Nat.beq c 3, some [122, 111, 110, 101]), ((fun c => List.elem c [4]), none), (fun c => Nat.beq c 5, some [115, 116, 97, 116, 101]), ((fun c => List.elem c [6]), none), ((fun c => List.elem c [7]), none), ((fun c => List.elem c [8]), none), (fun c => Nat.beq c 11, some [116, 101, 120, 116]), ((fun c => List.elem c [9]), none), (fun c => Nat.beq c 10, some [112, 97, 112, 101, 114]), ((fun c => List.elem c [12]), none), (fun c => Nat.beq c 13, some [109, 97, 110, 121]), ((fun c => List.elem c [14]), none), ((fun c => List.elem c [0, 1, 2, 3, 4, 5, 6, 7, 8, 9, 10, 11, 12]), none)]
theorem said__law_said (M : Facts P w K mg base C) : SaidDef P w K mg base C "_law_said" "call" (top 111) ["call", "error"] hs__law_said := said_def M.d__law_said rfl (cl_as (i := 1) M.s_BadClock rfl rfl (fun _ _ _ => rfl) (fun _ _ _ => rfl) rfl (cl_as (i := 1) M.s_BadGuard rfl rfl (fun _ _ _ => rfl) (fun _ _ _ => rfl) rfl (cl_as (i := 1) M.s_BadZone rfl rfl (fun _ _ _ => rfl) (fun _ _ _ => rfl) rfl (cl_no (oi := some 1) M.s_BadMachine (fun _ _ _ => rfl) (fun _ _ _ _ _ _ => ⟨rfl, rfl⟩) (cl_as (i := 1) M.s_BadState rfl rfl (fun _ _ _ => rfl) (fun _ _ _ => rfl) rfl (cl_no (oi := some 1) M.s_BadRun (fun _ _ _ => rfl) (fun _ _ _ _ _ _ => ⟨rfl, rfl⟩) (cl_no (oi := some 1) M.s_BadWord (fun _ _ _ => rfl) (fun _ _ _ _ _ _ => ⟨rfl, rfl⟩) (cl_no (oi := some 1) M.s_BadPlan (fun _ _ _ => rfl) (fun _ _ _ _ _ _ => ⟨rfl, rfl⟩) (cl_as (i := 1) M.s_BadText rfl rfl (fun _ _ _ => rfl) (fun _ _ _ => rfl) rfl (cl_no (oi := some 1) M.s_BadList (fun _ _ _ => rfl) (fun _ _ _ _ _ _ => ⟨rfl, rfl⟩) (cl_as (i := 1) M.s_BadPaper rfl rfl (fun _ _ _ => rfl) (fun _ _ _ => rfl) rfl (cl_no (oi := some 1) M.s_BadNumber (fun _ _ _ => rfl) (fun _ _ _ _ _ _ => ⟨rfl, rfl⟩) (cl_as (i := 1) M.s_TooMany rfl rfl (fun _ _ _ => rfl) (fun _ _ _ => rfl) rfl (cl_no (oi := some 1) M.s_NoSuch (fun _ _ _ => rfl) (fun _ _ _ _ _ _ => ⟨rfl, rfl⟩) (cl_no (oi := none) M.s_HourError (fun _ _ _ => rfl) (fun _ _ _ _ _ _ => trivial) cl_nil))))))))))))))) (fnScope_by (by decide +kernel)) rfl (.inl rfl)
theorem nd_time_by_text : (["time"] : List Str).Nodup := by decide
def F_time_by_text : GF := frF (fOf 1 1 (sSeq (sIfS (gBl (g2 (ltO .ge) (gB bMaxT (gCons (gVar 0) gNil)) (gB bInt3 (gCons (g2 addO (gC (.str [49])) (g2 mulO2 (gC (.str [48])) (gC c_MOST_WRITTEN_FIGURES))) gNil)))) (sSeq (sRaise 13 (gC c_MOST_WRITTEN_FIGURES)) sNext) sNext) (sSeq (sRet (gIf (gBl (g2 (eqO2 false) (g2 ixO (gVar 0) (gC (.int 1))) (gC (.int 1)))) (gB bStr3 (gCons (g2 ixO (gVar 0) (gC (.int 0))) gNil)) (g2 addO (g2 addO (gB bStr3 (gCons (g2 ixO (gVar 0) (gC (.int 0))) gNil)) (gC (.str [47]))) (gB bStr3 (gCons (g2 ixO (gVar 0) (gC (.int 1))) gNil))))) sNext)))
theorem p_time_by_text (M : Facts P w K mg base C) : Cal P w K mg base C 2 "time_by_text" 1 F_time_by_text := Cal.frame (cal_of ["time"] M.d_time_by_text (fnScope_by (by decide +kernel)) fun f cdv A outer s H E hr => (zCons (zIf (sCmpT (op_ltO (by exact hr.units0) .ge) (ok_ltO .ge) (sB (cr_maxT rfl (by exact hr.units)) ok_maxT rfl M.n_max (by rfl) (sCons (sV 0) sNil rfl)) (sTy (cr_int2 (by exact M.nodg)) ok_int3 rfl M.n_int (by rfl) (sCons (sBin op_addO ok_addO (sStr (by rfl)) (sBin op_mulO2 ok_mulO2 (sStr (by rfl)) (sGk rfl M.c_MOST_WRITTEN_FIGURES))) sNil rfl)) rfl) (zCons (M.e_TooMany.raise hr (by decide) rfl rfl bx_takes (sGk rfl M.c_MOST_WRITTEN_FIGURES)) zNil) zNil) (zCons (zRet (sIf (sCmpT (op_eqO2 (by exact hr.units) false) (ok_eqO2 false) (sIx (by exact hr.ix) (sV 0) sInt (fun _ _ => rfl)) sInt rfl) (sTy (cr_str2 (by exact M.nodg) rfl) ok_str3 rfl M.n_str (by rfl) (sCons (sIx (by exact hr.ix) (sV 0) sInt (fun _ _ => rfl)) sNil rfl)) (sBin op_addO ok_addO (sBin op_addO ok_addO (sTy (cr_str2 (by exact M.nodg) rfl) ok_str3 rfl M.n_str (by rfl) (sCons (sIx (by exact hr.ix) (sV 0) sInt (fun _ _ => rfl)) sNil rfl)) (sStr (by rfl))) (sTy (cr_str2 (by exact M.nodg) rfl) ok_str3 rfl M.n_str (by rfl) (sCons (sIx (by exact hr.ix) (sV 0) sInt (fun _ _ => rfl)) sNil rfl))))) zNil)))
theorem nd_is_tuple_of : (["thing", "least", "most"] : List Str).Nodup := by decide
def F_is_tuple_of : GF := frF (fOf 3 3 (sSeq (sRet (gAndV (gIsi 3 (gVar 0)) (g3 (ltO .le) (ltO .le) (gVar 1) (gB bLen (gCons (gVar 0) gNil)) (gVar 2)))) sNext))
theorem p_is_tuple_of (M : Facts P w K mg base C) : Cal P w K mg base C 1 "is_tuple_of" 3 F_is_tuple_of := Cal.frame (cal_of ["thing", "least", "most"] M.d_is_tuple_of (fnScope_by (by decide +kernel)) fun f cdv A outer s H E hr => (zCons (zRet (sAndV (sIsi 3 (by decide) rfl (sV 0) rfl M.n_isinstance rfl M.n_tuple (by rfl)) (sOneV (sChain (op_ltO (by exact hr.units0) .le) (ok_ltO .le) (op_ltO (by exact hr.units0) .le) (ok_ltO .le) (sV 1) (sB cr_lenO ok_len rfl M.n_len (by rfl) (sCons (sV 0) sNil rfl)) (sV 2) rfl)))) zNil))
theorem nd_is_number : (["thing"] : List Str).Nodup := by decide
def F_is_number : GF := frF (fOf 1 1 (sSeq (sRet (gAndV (gIsi 0 (gVar 0)) (gNotV (gIsi 1 (gVar 0))))) sNext))
theorem p_is_number (M : Facts P w K mg base C) : Cal P w K mg base C 1 "is_number" 1 F_is_number := Cal.frame (cal_of ["thing"] M.d_is_number (fnScope_by (by decide +kernel)) fun f cdv A outer s H E hr => (zCons (zRet (sAndV (sIsi 0 (by decide) rfl (sV 0) rfl M.n_isinstance rfl M.n_int (by rfl)) (sOneV (sNotV (sIsi 1 (by decide) rfl (sV 0) rfl M.n_isinstance rfl M.n_bool (by rfl)))))) zNil))
theorem nd_is_share : (["thing"] : List Str).Nodup := by decide
def F_is_share : GF := frF (fOf 1 1 (sSeq (sIfS (gOrT (gNotT (gTru (gCall 3 F_is_tuple_of (gCons (gVar 0) (gCons (gC (.int 2)) (gCons (gC (.int 2)) gNil)))))) (gOrT (gNotT (gTru (gCall 1 F_is_number (gCons (g2 ixO (gVar 0) (gC (.int 0))) gNil)))) (gOrT (gNotT (gTru (gCall 1 F_is_number (gCons (g2 ixO (gVar 0) (gC (.int 1))) gNil)))) (gBl (g2 (ltO .lt) (g2 ixO (gVar 0) (gC (.int 1))) (gC (.int 1))))))) (sSeq (sRet (gC (.bl false))) sNext) sNext) (sSeq (sRet (g2 (eqO2 false) (gB bGcd (gCons (g2 ixO (gVar 0) (gC (.int 0))) (gCons (g2 ixO (gVar 0) (gC (.int 1))) gNil))) (gC (.int 1)))) sNext)))
theorem p_is_share (M : Facts P w K mg base C) : Cal P w K mg base C 2 "is_share" 1 F_is_share := Cal.frame (cal_of ["thing"] M.d_is_share (fnScope_by (by decide +kernel)) fun f cdv A outer s H E hr => (zCons (zIf (PW.pt (sOr (sNotT (sTru (sCall (p_is_tuple_of M) hr (by decide) rfl bx_takes (sCons (sV 0) (sCons sInt (sCons sInt sNil rfl) rfl) rfl)) (fun _ => rfl))) (sOr (sNotT (sTru (sCall (p_is_number M) hr (by decide) rfl bx_takes (sCons (sIx (by exact hr.ix) (sV 0) sInt (fun _ _ => rfl)) sNil rfl)) (fun _ => rfl))) (sOr (sNotT (sTru (sCall (p_is_number M) hr (by decide) rfl bx_takes (sCons (sIx (by exact hr.ix) (sV 0) sInt (fun _ _ => rfl)) sNil rfl)) (fun _ => rfl))) (sOr1 (sCmpT (op_ltO (by exact hr.units0) .lt) (ok_ltO .lt) (sIx (by exact hr.ix) (sV 0) sInt (fun _ _ => rfl)) sInt rfl)))))) (zCons (zRet sBl) zNil) zNil) (zCons (zRet (sCmp (op_eqO2 (by exact hr.units) false) (ok_eqO2 false) (sBg cr_gcd ok_gcd rfl M.g_gcd (sCons (sIx (by exact hr.ix) (sV 0) sInt (fun _ _ => rfl)) (sCons (sIx (by exact hr.ix) (sV 0) sInt (fun _ _ => rfl)) sNil rfl) rfl)) sInt rfl)) zNil)))
theorem nd_is_time : (["thing"] : List Str).Nodup := by decide
def F_is_time : GF := frF (fOf 1 1 (sSeq (sRet (gAndV (gCall 1 F_is_share (gCons (gVar 0) gNil)) (g2 (ltO .ge) (g2 ixO (gVar 0) (gC (.int 0))) (gC (.int 0))))) sNext))
theorem p_is_time (M : Facts P w K mg base C) : Cal P w K mg base C 3 "is_time" 1 F_is_time := Cal.frame (cal_of ["thing"] M.d_is_time (fnScope_by (by decide +kernel)) fun f cdv A outer s H E hr => (zCons (zRet (sAndV (sCall (p_is_share M) hr (by decide) rfl bx_takes (sCons (sV 0) sNil rfl)) (sOneV (sCmp (op_ltO (by exact hr.units0) .ge) (ok_ltO .ge) (sIx (by exact hr.ix) (sV 0) sInt (fun _ _ => rfl)) sInt rfl)))) zNil))
theorem nd_need_point : (["clocks", "point", "number", "time"] : List Str).Nodup := by decide
def F_need_point : GF := frF (fOf 4 2 (sSeq (sIfS (gNotT (gTru (gCall 3 F_is_tuple_of (gCons (gVar 1) (gCons (gB bLen (gCons (gVar 0) gNil)) (gCons (gB bLen (gCons (gVar 0) gNil)) gNil)))))) (sSeq (sRaise 5 (gC .non)) sNext) sNext) (sSeq (sFor (iEnum (gCons (gVar 1) gNil)) (tTupT (tConsT (tName 2) (tConsT (tName 3) tNilT)) 2) (sSeq (sIfS (gNotT (gTru (gCall 1 F_is_time (gCons (gVar 3) gNil)))) (sSeq (sRaise 5 (gVar 2)) sNext) sNext) sNext)) (sSeq (sRet (gVar 1)) sNext))))
theorem p_need_point (M : Facts P w K mg base C) : Cal P w K mg base C 4 "need_point" 2 F_need_point := Cal.frame (cal_of ["clocks", "point", "number", "time"] M.d_need_point (fnScope_by (by decide +kernel)) fun f cdv A outer s H E hr => (zCons (zIf (sNotT (sTru (sCall (p_is_tuple_of M) hr (by decide) rfl bx_takes (sCons (sV 1) (sCons (sB cr_lenO ok_len rfl M.n_len (by rfl) (sCons (sV 0) sNil rfl)) (sCons (sB cr_lenO ok_len rfl M.n_len (by rfl) (sCons (sV 0) sNil rfl)) sNil rfl) rfl) rfl)) (fun _ => rfl))) (zCons (M.e_BadState.raise hr (by decide) rfl rfl bx_takes sNon) zNil) zNil) (zCons (zFor (jEnum rfl M.n_enumerate (sCons (sV 1) sNil rfl)) (yTup rfl (n := 2) (yCons (yName nd_need_point (i := 2) rfl (by first | exact .inl rfl | exact .inr rfl)) (yCons (yName nd_need_point (i := 3) rfl (by first | exact .inl rfl | exact .inr rfl)) yNil))) (zCons (zIf (sNotT (sTru (sCall (p_is_time M) hr (by decide) rfl bx_takes (sCons (sV 3) sNil rfl)) (fun _ => rfl))) (zCons (M.e_BadState.raise hr (by decide) rfl rfl bx_takes (sV 2)) zNil) zNil) zNil) bx_passes rfl) (zCons (zRet (sV 1)) zNil))))
theorem nd_is_name : (["thing", "sign"] : List Str).Nodup := by decide
def F_is_name : GF := frF (fOf 2 1 (sSeq (sIfS (gOrT (gNotT (gTru (gIsi 2 (gVar 0)))) (gOrT (gNotT (gBl (g3 (ltO .le) (ltO .le) (gC (.int 1)) (gB bLen (gCons (gVar 0) gNil)) (gC c_MOST_SIGNS)))) (gBl (g2 (inO false) (gVar 0) (gC c_TAKEN))))) (sSeq (sRet (gC (.bl false))) sNext) sNext) (sSeq (sRet (gAndV (g2 (inO false) (g2 ixO (gVar 0) (gC (.int 0))) (gC c_LETTERS)) (gB bAll (gCons (gLc (iVal (gVar 0)) (tName 1) gYes (g2 (inO false) (gVar 1) (g2 addO (gC c_LETTERS) (gC c_FIGURES))) [1]) gNil)))) sNext)))
theorem p_is_name (M : Facts P w K mg base C) : Cal P w K mg base C 1 "is_name" 1 F_is_name := Cal.frame (cal_of ["thing", "sign"] M.d_is_name (fnScope_by (by decide +kernel)) fun f cdv A outer s H E hr => (zCons (zIf (PW.pt (sOr (sNotT (sTru (sIsi 2 (by decide) rfl (sV 0) rfl M.n_isinstance rfl M.n_str (by rfl)) (fun _ => rfl))) (sOr (sNotT (sChainT (op_ltO (by exact hr.units0) .le) (ok_ltO .le) (op_ltO (by exact hr.units0) .le) (ok_ltO .le) sInt (sB cr_lenO ok_len rfl M.n_len (by rfl) (sCons (sV 0) sNil rfl)) (sGk rfl M.c_MOST_SIGNS) rfl)) (sOr1 (sCmpT (op_inO (by exact hr.ix) false) (ok_inO false) (sV 0) (sGk rfl M.c_TAKEN) rfl))))) (zCons (zRet sBl) zNil) zNil) (zCons (zRet (sAndV (sCmp (op_inO (by exact hr.ix) false) (ok_inO false) (sIx (by exact hr.ix) (sV 0) sInt (fun _ _ => rfl)) (sGk rfl M.c_LETTERS) rfl) (sOneV (sB (cr_all rfl) ok_all rfl M.n_all (by rfl) (sCons (sLc (own := [("sign", 1)]) rfl rfl bx_takes rfl nd_is_name (jVal (sV 0)) (blkOk_by (by kernel_rfl)) (fun _ _ _ _ => (yNameV nd_is_name (i := 1) rfl (by first | exact .inl rfl | exact .inr rfl) (by first | exact .inl rfl | exact .inr rfl) (by decide))) (fun _ _ _ _ _ tk => tsNil) (fun _ _ _ _ _ tk => (sCmp (op_inO (by exact hr.ix) false) (ok_inO false) (sV 1) (sBin op_addO ok_addO (sGk rfl M.c_LETTERS) (sGk rfl M.c_FIGURES)) rfl))) sNil rfl))))) zNil)))
theorem nd_need_clocks : (["clocks", "number", "name"] : List Str).Nodup := by decide
def F_need_clocks : GF := frF (fOf 3 1 (sSeq (sIfS (gNotT (gTru (gCall 3 F_is_tuple_of (gCons (gVar 0) (gCons (gC (.int 0)) (gCons (gC c_MOST_CLOCKS) gNil)))))) (sSeq (sRaise 1 (gC .non)) sNext) sNext) (sSeq (sFor (iEnum (gCons (gVar 0) gNil)) (tTupT (tConsT (tName 1) (tConsT (tName 2) tNilT)) 2) (sSeq (sIfS (gOrT (gNotT (gTru (gCall 1 F_is_name (gCons (gVar 2) gNil)))) (gAndT (gBl (g2 (ltO .gt) (gVar 1) (gC (.int 0)))) (gBl (g2 (ltO .ge) (g2 ixO (gVar 0) (g2 subO (gVar 1) (gC (.int 1)))) (gVar 2))))) (sSeq (sRaise 1 (gVar 1)) sNext) sNext) sNext)) (sSeq (sRet (gVar 0)) sNext))))
theorem p_need_clocks (M : Facts P w K mg base C) : Cal P w K mg base C 2 "need_clocks" 1 F_need_clocks := Cal.frame (cal_of ["clocks", "number", "name"] M.d_need_clocks (fnScope_by (by decide +kernel)) fun f cdv A outer s H E hr => (zCons (zIf (sNotT (sTru (sCall (p_is_tuple_of M) hr (by decide) rfl bx_takes (sCons (sV 0) (sCons sInt (sCons (sGk rfl M.c_MOST_CLOCKS) sNil rfl) rfl) rfl)) (fun _ => rfl))) (zCons (M.e_BadClock.raise hr (by decide) rfl rfl bx_takes sNon) zNil) zNil) (zCons (zFor (jEnum rfl M.n_enumerate (sCons (sV 0) sNil rfl)) (yTup rfl (n := 2) (yCons (yName nd_need_clocks (i := 1) rfl (by first | exact .inl rfl | exact .inr rfl)) (yCons (yName nd_need_clocks (i := 2) rfl (by first | exact .inl rfl | exact .inr rfl)) yNil))) (zCons (zIf (PW.pt (sOr (sNotT (sTru (sCall (p_is_name M) hr (by decide) rfl bx_takes (sCons (sV 2) sNil rfl)) (fun _ => rfl))) (sOr1 (PW.pt (sAnd (sCmpT (op_ltO (by exact hr.units0) .gt) (ok_ltO .gt) (sV 1) sInt rfl) (sAnd1 (sCmpT (op_ltO (by exact hr.units0) .ge) (ok_ltO .ge) (sIx (by exact hr.ix) (sV 0) (sBin op_subO ok_subO (sV 1) sInt) (fun _ _ => rfl)) (sV 2) rfl))))))) (zCons (M.e_BadClock.raise hr (by decide) rfl rfl bx_takes (sV 1)) zNil) zNil) zNil) bx_passes rfl) (zCons (zRet (sV 0)) zNil))))
theorem nd_point_text : (["clocks", "point", "time"] : List Str).Nodup := by decide
def F_point_text : GF := frF (fOf 3 2 (sSeq (sDrop (gCall 2 F_need_point (gCons (gCall 1 F_need_clocks (gCons (gVar 0) gNil)) (gCons (gVar 1) gNil)))) (sSeq (sRet (gIf (gBl (g2 (eqO2 true) (gVar 1) (gTup gNil))) (gM 0 mJoin (gC (.str [32])) (gCons (gLc (iVal (gVar 1)) (tName 2) gYes (gCall 1 F_time_by_text (gCons (gVar 2) gNil)) [2]) gNil)) (gC (.str [45])))) sNext)))
theorem p_point_text (M : Facts P w K mg base C) : Cal P w K mg base C 5 "point_text" 2 F_point_text := Cal.frame (cal_of ["clocks", "point", "time"] M.d_point_text (fnScope_by (by decide +kernel)) fun f cdv A outer s H E hr => (zCons (zExpr (sCall (p_need_point M) hr (by decide) rfl bx_takes (sCons (sCall (p_need_clocks M) hr (by decide) rfl bx_takes (sCons (sV 0) sNil rfl)) (sCons (sV 1) sNil rfl) rfl))) (zCons (zRet (sIf (sCmpT (op_eqO2 (by exact hr.units) true) (ok_eqO2 true) (sV 1) (sTup sNil) rfl) (sM (k := 0) PySem.F.plainAttrs_str PySem.F.slot_str_join rfl mt_join ok_join (sStr (by rfl)) (sCons (sLc (own := [("time", 2)]) rfl rfl bx_takes rfl nd_point_text (jVal (sV 1)) (blkOk_by (by kernel_rfl)) (fun _ _ _ _ => (yNameV nd_point_text (i := 2) rfl (by first | exact .inl rfl | exact .inr rfl) (by first | exact .inl rfl | exact .inr rfl) (by decide))) (fun _ _ _ _ _ tk => tsNil) (fun _ _ _ _ _ tk => (sCall (p_time_by_text M) hr (by decide) rfl tk (sCons (sV 2) sNil rfl)))) sNil rfl)) (sStr (by rfl)))) zNil)))
def L21 : GS := (sRet (gAndV (g2 (eqO2 false) (gCall 2 F_point_text (gCons (gTup gNil) (gCons (gTup gNil) gNil))) (gC (.str [45]))) (g2 (eqO2 false) (gCall 2 F_point_text (gCons (gTup (gCons (gC (.str [120])) (gCons (gC (.str [121])) gNil))) (gCons (gTup (gCons (gTup (gCons (gC (.int 3)) (gCons (gC (.int 2)) gNil))) (gCons (gTup (gCons (g2 powO (gC (.int 10)) (gC (.int 40))) (gCons (gC (.int 1)) gNil))) gNil))) gNil))) (g2 addO (gC (.str [51, 47, 50, 32, 49])) (g2 mulO2 (gC (.str [48])) (gC (.int 40)))))))
theorem nd_condition_text : (["condition", "word", "clock", "number"] : List Str).Nodup := by decide
def F_condition_text : GF := frF (fOf 4 1 (sSeq (sAsg (gVar 0) (tTupT (tConsT (tName 1) (tConsT (tName 2) (tConsT (tName 3) tNilT))) 3)) (sSeq (sRet (g2 addO (g2 addO (g2 addO (g2 addO (gVar 2) (gC (.str [32]))) (gKd k_SIGNS (gVar 1))) (gC (.str [32]))) (gB bStr3 (gCons (gVar 3) gNil)))) sNext)))
theorem p_condition_text (M : Facts P w K mg base C) : Cal P w K mg base C 1 "condition_text" 1 F_condition_text := Cal.frame (cal_of ["condition", "word", "clock", "number"] M.d_condition_text (fnScope_by (by decide +kernel)) fun f cdv A outer s H E hr => (zCons (zAsg (sV 0) (yTup rfl (n := 3) (yCons (yName nd_condition_text (i := 1) rfl (by first | exact .inl rfl | exact .inr rfl)) (yCons (yName nd_condition_text (i := 2) rfl (by first | exact .inl rfl | exact .inr rfl)) (yCons (yName nd_condition_text (i := 3) rfl (by first | exact .inl rfl | exact .inr rfl)) yNil))))) (zCons (zRet (sBin op_addO ok_addO (sBin op_addO ok_addO (sBin op_addO ok_addO (sBin op_addO ok_addO (sV 2) (sStr (by rfl))) (sIxKd M.k_SIGNS rfl (sV 1) (fun _ _ => rfl))) (sStr (by rfl))) (sTy (cr_str2 (by exact M.nodg) rfl) ok_str3 rfl M.n_str (by rfl) (sCons (sV 3) sNil rfl)))) zNil)))
theorem nd_guard_by_text : (["guard", "condition"] : List Str).Nodup := by decide
def F_guard_by_text : GF := frF (fOf 2 1 (sSeq (sRet (gIf (gBl (g2 (eqO2 true) (gVar 0) (gTup gNil))) (gM 0 mJoin (gC (.str [32, 38, 32])) (gCons (gLc (iVal (gVar 0)) (tName 1) gYes (gCall 1 F_condition_text (gCons (gVar 1) gNil)) [1]) gNil)) (gC (.str [121, 101, 115])))) sNext))
theorem p_guard_by_text (M : Facts P w K mg base C) : Cal P w K mg base C 2 "guard_by_text" 1 F_guard_by_text := Cal.frame (cal_of ["guard", "condition"] M.d_guard_by_text (fnScope_by (by decide +kernel)) fun f cdv A outer s H E hr => (zCons (zRet (sIf (sCmpT (op_eqO2 (by exact hr.units) true) (ok_eqO2 true) (sV 0) (sTup sNil) rfl) (sM (k := 0) PySem.F.plainAttrs_str PySem.F.slot_str_join rfl mt_join ok_join (sStr (by rfl)) (sCons (sLc (own := [("condition", 1)]) rfl rfl bx_takes rfl nd_guard_by_text (jVal (sV 0)) (blkOk_by (by kernel_rfl)) (fun _ _ _ _ => (yNameV nd_guard_by_text (i := 1) rfl (by first | exact .inl rfl | exact .inr rfl) (by first | exact .inl rfl | exact .inr rfl) (by decide))) (fun _ _ _ _ _ tk => tsNil) (fun _ _ _ _ _ tk => (sCall (p_condition_text M) hr (by decide) rfl tk (sCons (sV 1) sNil rfl)))) sNil rfl)) (sStr (by rfl)))) zNil))
theorem nd_is_among : (["thing", "least", "most"] : List Str).Nodup := by decide
def F_is_among : GF := frF (fOf 3 3 (sSeq (sRet (gAndV (gCall 1 F_is_number (gCons (gVar 0) gNil)) (g3 (ltO .le) (ltO .le) (gVar 1) (gVar 0) (gVar 2)))) sNext))
theorem p_is_among (M : Facts P w K mg base C) : Cal P w K mg base C 2 "is_among" 3 F_is_among := Cal.frame (cal_of ["thing", "least", "most"] M.d_is_among (fnScope_by (by decide +kernel)) fun f cdv A outer s H E hr => (zCons (zRet (sAndV (sCall (p_is_number M) hr (by decide) rfl bx_takes (sCons (sV 0) sNil rfl)) (sOneV (sChain (op_ltO (by exact hr.units0) .le) (ok_ltO .le) (op_ltO (by exact hr.units0) .le) (ok_ltO .le) (sV 1) (sV 0) (sV 2) rfl)))) zNil))
theorem nd_is_condition : (["thing", "clocks"] : List Str).Nodup := by decide
def F_is_condition : GF := frF (fOf 2 2 (sSeq (sIfS (gOrT (gNotT (gTru (gCall 3 F_is_tuple_of (gCons (gVar 0) (gCons (gC (.int 3)) (gCons (gC (.int 3)) gNil)))))) (gOrT (gNotT (gTru (gIsi 2 (g2 ixO (gVar 0) (gC (.int 0)))))) (gBl (g2 (inO true) (g2 ixO (gVar 0) (gC (.int 0))) (gC c_WORDS))))) (sSeq (sRet (gC (.bl false))) sNext) sNext) (sSeq (sRet (gAndV (gIsi 2 (g2 ixO (gVar 0) (gC (.int 1)))) (gAndV (g2 (inO false) (g2 ixO (gVar 0) (gC (.int 1))) (gVar 1)) (gCall 3 F_is_among (gCons (g2 ixO (gVar 0) (gC (.int 2))) (gCons (gC (.int 0)) (gCons (gC c_MOST_NUMBER) gNil))))))) sNext)))
theorem p_is_condition (M : Facts P w K mg base C) : Cal P w K mg base C 3 "is_condition" 2 F_is_condition := Cal.frame (cal_of ["thing", "clocks"] M.d_is_condition (fnScope_by (by decide +kernel)) fun f cdv A outer s H E hr => (zCons (zIf (PW.pt (sOr (sNotT (sTru (sCall (p_is_tuple_of M) hr (by decide) rfl bx_takes (sCons (sV 0) (sCons sInt (sCons sInt sNil rfl) rfl) rfl)) (fun _ => rfl))) (sOr (sNotT (sTru (sIsi 2 (by decide) rfl (sIx (by exact hr.ix) (sV 0) sInt (fun _ _ => rfl)) rfl M.n_isinstance rfl M.n_str (by rfl)) (fun _ => rfl))) (sOr1 (sCmpT (op_inO (by exact hr.ix) true) (ok_inO true) (sIx (by exact hr.ix) (sV 0) sInt (fun _ _ => rfl)) (sGk rfl M.c_WORDS) rfl))))) (zCons (zRet sBl) zNil) zNil) (zCons (zRet (sAndV (sIsi 2 (by decide) rfl (sIx (by exact hr.ix) (sV 0) sInt (fun _ _ => rfl)) rfl M.n_isinstance rfl M.n_str (by rfl)) (sAndV (sCmp (op_inO (by exact hr.ix) false) (ok_inO false) (sIx (by exact hr.ix) (sV 0) sInt (fun _ _ => rfl)) (sV 1) rfl) (sOneV (sCall (p_is_among M) hr (by decide) rfl bx_takes (sCons (sIx (by exact hr.ix) (sV 0) sInt (fun _ _ => rfl)) (sCons sInt (sCons (sGk rfl M.c_MOST_NUMBER) sNil rfl) rfl) rfl)))))) zNil)))
theorem nd_place_in_guard : (["thing", "clocks", "number", "condition"] : List Str).Nodup := by decide
def F_place_in_guard : GF := frF (fOf 4 2 (sSeq (sIfS (gNotT (gTru (gCall 3 F_is_tuple_of (gCons (gVar 0) (gCons (gC (.int 0)) (gCons (gC c_MOST_CONDITIONS) gNil)))))) (sSeq (sRet (gC .non)) sNext) sNext) (sSeq (sFor (iEnum (gCons (gVar 0) gNil)) (tTupT (tConsT (tName 2) (tConsT (tName 3) tNilT)) 2) (sSeq (sIfS (gNotT (gTru (gCall 2 F_is_condition (gCons (gVar 3) (gCons (gVar 1) gNil))))) (sSeq (sRet (gVar 2)) sNext) sNext) sNext)) (sSeq (sRet (gC (.str [114, 105, 103, 104, 116]))) sNext))))
theorem p_place_in_guard (M : Facts P w K mg base C) : Cal P w K mg base C 4 "place_in_guard" 2 F_place_in_guard := Cal.frame (cal_of ["thing", "clocks", "number", "condition"] M.d_place_in_guard (fnScope_by (by decide +kernel)) fun f cdv A outer s H E hr => (zCons (zIf (sNotT (sTru (sCall (p_is_tuple_of M) hr (by decide) rfl bx_takes (sCons (sV 0) (sCons sInt (sCons (sGk rfl M.c_MOST_CONDITIONS) sNil rfl) rfl) rfl)) (fun _ => rfl))) (zCons (zRet sNon) zNil) zNil) (zCons (zFor (jEnum rfl M.n_enumerate (sCons (sV 0) sNil rfl)) (yTup rfl (n := 2) (yCons (yName nd_place_in_guard (i := 2) rfl (by first | exact .inl rfl | exact .inr rfl)) (yCons (yName nd_place_in_guard (i := 3) rfl (by first | exact .inl rfl | exact .inr rfl)) yNil))) (zCons (zIf (sNotT (sTru (sCall (p_is_condition M) hr (by decide) rfl bx_takes (sCons (sV 3) (sCons (sV 1) sNil rfl) rfl)) (fun _ => rfl))) (zCons (zRet (sV 2)) zNil) zNil) zNil) bx_passes rfl) (zCons (zRet (sStr (by rfl))) zNil))))
theorem nd_need_guard : (["guard", "clocks", "place"] : List Str).Nodup := by decide
def F_need_guard : GF := frF (fOf 3 2 (sSeq (sPut 2 (gCall 2 F_place_in_guard (gCons (gVar 0) (gCons (gCall 1 F_need_clocks (gCons (gVar 1) gNil)) gNil)))) (sSeq (sIfS (gBl (g2 (eqO2 true) (gVar 2) (gC (.str [114, 105, 103, 104, 116])))) (sSeq (sRaise 2 (gVar 2)) sNext) sNext) (sSeq (sRet (gVar 0)) sNext))))
theorem p_need_guard (M : Facts P w K mg base C) : Cal P w K mg base C 5 "need_guard" 2 F_need_guard := Cal.frame (cal_of ["guard", "clocks", "place"] M.d_need_guard (fnScope_by (by decide +kernel)) fun f cdv A outer s H E hr => (zCons (zSet (i := 2) (sCall (p_place_in_guard M) hr (by decide) rfl bx_takes (sCons (sV 0) (sCons (sCall (p_need_clocks M) hr (by decide) rfl bx_takes (sCons (sV 1) sNil rfl)) sNil rfl) rfl)) nd_need_guard rfl (by first | exact .inl rfl | exact .inr rfl)) (zCons (zIf (sCmpT (op_eqO2 (by exact hr.units) true) (ok_eqO2 true) (sV 2) (sStr (by rfl)) rfl) (zCons (M.e_BadGuard.raise hr (by decide) rfl rfl bx_takes (sV 2)) zNil) zNil) (zCons (zRet (sV 0)) zNil))))
theorem nd_guard_text : (["guard", "clocks"] : List Str).Nodup := by decide
def F_guard_text : GF := frF (fOf 2 2 (sSeq (sRet (gCall 1 F_guard_by_text (gCons (gCall 2 F_need_guard (gCons (gVar 0) (gCons (gVar 1) gNil))) gNil))) sNext))
theorem p_guard_text (M : Facts P w K mg base C) : Cal P w K mg base C 6 "guard_text" 2 F_guard_text := Cal.frame (cal_of ["guard", "clocks"] M.d_guard_text (fnScope_by (by decide +kernel)) fun f cdv A outer s H E hr => (zCons (zRet (sCall (p_guard_by_text M) hr (by decide) rfl bx_takes (sCons (sCall (p_need_guard M) hr (by decide) rfl bx_takes (sCons (sV 0) (sCons (sV 1) sNil rfl) rfl)) sNil rfl))) zNil))
theorem nd_read_whole : (["text", "figures", "sign"] : List Str).Nodup := by decide
def F_read_whole : GF := frF (fOf 3 1 (sSeq (sPut 1 (gIf (gBl (g2 (eqO2 false) (gSl (gVar 0) none (some (gC (.int 1)))) (gC (.str [45])))) (gSl (gVar 0) (some (gC (.int 1))) none) (gVar 0))) (sSeq (sIfS (gOrT (gBl (g2 (eqO2 false) (gVar 1) (gC (.str [])))) (gOrT (gBl (g2 (ltO .gt) (gB bLen (gCons (gVar 1) gNil)) (gC c_MOST_FIGURES))) (gNotT (gTru (gB bAll (gCons (gLc (iVal (gVar 1)) (tName 2) gYes (g2 (inO false) (gVar 2) (gC c_FIGURES)) [2]) gNil)))))) (sSeq (sRaise 11 (gC .non)) sNext) sNext) (sSeq (sIfS (gAndT (gBl (g2 (eqO2 false) (g2 ixO (gVar 1) (gC (.int 0))) (gC (.str [48])))) (gBl (g2 (eqO2 true) (gVar 0) (gC (.str [48]))))) (sSeq (sRaise 11 (gC .non)) sNext) sNext) (sSeq (sRet (gB bInt3 (gCons (gVar 0) gNil))) sNext)))))
theorem p_read_whole (M : Facts P w K mg base C) : Cal P w K mg base C 2 "read_whole" 1 F_read_whole := Cal.frame (cal_of ["text", "figures", "sign"] M.d_read_whole (fnScope_by (by decide +kernel)) fun f cdv A outer s H E hr => (zCons (zSet (i := 1) (sIf (sCmpT (op_eqO2 (by exact hr.units) false) (ok_eqO2 false) (sSl (sV 0) oNone (oSome sInt)) (sStr (by rfl)) rfl) (sSl (sV 0) (oSome sInt) oNone) (sV 0)) nd_read_whole rfl (by first | exact .inl rfl | exact .inr rfl)) (zCons (zIf (PW.pt (sOr (sCmpT (op_eqO2 (by exact hr.units) false) (ok_eqO2 false) (sV 1) (sStr (by rfl)) rfl) (sOr (sCmpT (op_ltO (by exact hr.units0) .gt) (ok_ltO .gt) (sB cr_lenO ok_len rfl M.n_len (by rfl) (sCons (sV 1) sNil rfl)) (sGk rfl M.c_MOST_FIGURES) rfl) (sOr1 (sNotT (sTru (sB (cr_all rfl) ok_all rfl M.n_all (by rfl) (sCons (sLc (own := [("sign", 2)]) rfl rfl bx_takes rfl nd_read_whole (jVal (sV 1)) (blkOk_by (by kernel_rfl)) (fun _ _ _ _ => (yNameV nd_read_whole (i := 2) rfl (by first | exact .inl rfl | exact .inr rfl) (by first | exact .inl rfl | exact .inr rfl) (by decide))) (fun _ _ _ _ _ tk => tsNil) (fun _ _ _ _ _ tk => (sCmp (op_inO (by exact hr.ix) false) (ok_inO false) (sV 2) (sGk rfl M.c_FIGURES) rfl))) sNil rfl)) (fun _ => rfl))))))) (zCons (M.e_BadText.raise hr (by decide) rfl rfl bx_takes sNon) zNil) zNil) (zCons (zIf (PW.pt (sAnd (sCmpT (op_eqO2 (by exact hr.units) false) (ok_eqO2 false) (sIx (by exact hr.ix) (sV 1) sInt (fun _ _ => rfl)) (sStr (by rfl)) rfl) (sAnd1 (sCmpT (op_eqO2 (by exact hr.units) true) (ok_eqO2 true) (sV 0) (sStr (by rfl)) rfl)))) (zCons (M.e_BadText.raise hr (by decide) rfl rfl bx_takes sNon) zNil) zNil) (zCons (zRet (sTy (cr_int2 (by exact M.nodg)) ok_int3 rfl M.n_int (by rfl) (sCons (sV 0) sNil rfl))) zNil)))))
end G
set_option Elab.async false
set_option linter.all false
set_option maxRecDepth 100000
set_option maxHeartbeats 0
namespace GH
open PySem PySem.Spec PyProof.Rows L2 Ev G
abbrev R : PySem.W.OpenRow := PySem.W.OpenLaw.row PySem.Challenge.rw_hourbound_k07_limits_of_zones
def fn : List He.DefD := ([dd "_law_above" (top 109), dd "_law_begun" (top 104), dd "_law_bound_sum" (top 107), dd "_law_clocks_refused" (top 112), dd "_law_like" (top 106), dd "_law_next" (top 105), dd "_law_points_refused" (top 113), dd "_law_said" (top 111)] : List He.DefD) ++ ([dd "_law_tight" (top 110), dd "_law_tighter" (top 108), dd "all_rows" (top 60), dd "check_zone_paper" (top 83), dd "condition_text" (top 89), dd "does_condition_hold" (top 47), dd "does_hold" (top 51), dd "gap_text" (top 97)] : List He.DefD) ++ ([dd "greatest_share" (top 38), dd "guard_by_text" (top 90), dd "guard_of_text" (top 93), dd "guard_text" (top 91), dd "highs_of" (top 70), dd "holds_at" (top 48), dd "is_among" (top 24), dd "is_below" (top 36)] : List He.DefD) ++ ([dd "is_bound" (top 55), dd "is_condition" (top 44), dd "is_in_rows" (top 75), dd "is_in_zone" (top 76), dd "is_name" (top 26), dd "is_number" (top 23), dd "is_paper_form" (top 82), dd "is_point" (top 49)] : List He.DefD) ++ ([dd "is_round" (top 81), dd "is_share" (top 31), dd "is_tighter" (top 57), dd "is_time" (top 32), dd "is_tuple_of" (top 25), dd "is_within_bound" (top 74), dd "law" (top 114), dd "least_of_shares" (top 39)] : List He.DefD) ++ ([dd "least_share" (top 30), dd "lows_of" (top 69), dd "middle_of" (top 37), dd "minus" (top 35), dd "need_clocks" (top 27), dd "need_guard" (top 46), dd "need_point" (top 50), dd "need_rows" (top 59)] : List He.DefD) ++ ([dd "need_zone" (top 65), dd "place_in_guard" (top 45), dd "place_of_gap" (top 101), dd "plus" (top 34), dd "point_by" (top 72), dd "point_of_zone" (top 73), dd "point_text" (top 96), dd "read_condition" (top 92)] : List He.DefD) ++ ([dd "read_guard" (top 94), dd "read_whole" (top 88), dd "read_zone" (top 102), dd "round_by" (top 78), dd "round_from" (top 77), dd "rows_above_nought" (top 61), dd "rows_of_guard" (top 66), dd "small_by" (top 63)] : List He.DefD) ++ ([dd "sum_of_bounds" (top 56), dd "sum_of_round" (top 80), dd "tight_by" (top 62), dd "tight_zone" (top 64), dd "tighter_of" (top 58), dd "time_between" (top 71), dd "time_by_text" (top 95), dd "told_places" (top 98)] : List He.DefD) ++ ([dd "whole_time" (top 33), dd "zone_by_guard" (top 67), dd "zone_by_text" (top 99), dd "zone_of_guard" (top 68), dd "zone_paper" (top 79), dd "zone_text" (top 100)] : List He.DefD)
def fa : List He.Fa := ([.glo "_law_above", .glo "_law_begun", .glo "_law_bound_sum", .glo "_law_clocks_refused", .glo "_law_like", .glo "_law_next", .glo "_law_points_refused", .glo "_law_said"] : List He.Fa) ++ ([.glo "_law_tight", .glo "_law_tighter", .glo "all_rows", .glo "check_zone_paper", .glo "condition_text", .glo "does_condition_hold", .glo "does_hold", .glo "gap_text"] : List He.Fa) ++ ([.glo "greatest_share", .glo "guard_by_text", .glo "guard_of_text", .glo "guard_text", .glo "highs_of", .glo "holds_at", .glo "is_among", .glo "is_below"] : List He.Fa) ++ ([.glo "is_bound", .glo "is_condition", .glo "is_in_rows", .glo "is_in_zone", .glo "is_name", .glo "is_number", .glo "is_paper_form", .glo "is_point"] : List He.Fa) ++ ([.glo "is_round", .glo "is_share", .glo "is_tighter", .glo "is_time", .glo "is_tuple_of", .glo "is_within_bound", .glo "law", .glo "least_of_shares"] : List He.Fa) ++ ([.glo "least_share", .glo "lows_of", .glo "middle_of", .glo "minus", .glo "need_clocks", .glo "need_guard", .glo "need_point", .glo "need_rows"] : List He.Fa) ++ ([.glo "need_zone", .glo "place_in_guard", .glo "place_of_gap", .glo "plus", .glo "point_by", .glo "point_of_zone", .glo "point_text", .glo "read_condition"] : List He.Fa) ++ ([.glo "read_guard", .glo "read_whole", .glo "read_zone", .glo "round_by", .glo "round_from", .glo "rows_above_nought", .glo "rows_of_guard", .glo "small_by"] : List He.Fa) ++ ([.glo "sum_of_bounds", .glo "sum_of_round", .glo "tight_by", .glo "tight_zone", .glo "tighter_of", .glo "time_between", .glo "time_by_text", .glo "told_places"] : List He.Fa) ++ ([.glo "whole_time", .glo "zone_by_guard", .glo "zone_by_text", .glo "zone_of_guard", .glo "zone_paper", .glo "zone_text", .glo "BadClock", .glo "BadGuard"] : List He.Fa) ++ ([.glo "BadList", .glo "BadMachine", .glo "BadNumber", .glo "BadPaper", .glo "BadPlan", .glo "BadRun", .glo "BadState", .glo "BadText"] : List He.Fa) ++ ([.glo "BadWord", .glo "BadZone", .glo "HourError", .glo "NoSuch", .glo "TooMany", .free "all", .free "any", .free "bool"] : List He.Fa) ++ ([.free "enumerate", .free "int", .free "isinstance", .free "len", .free "list", .free "max", .free "min", .free "range"] : List He.Fa) ++ ([.free "str", .free "super", .free "tuple", .free "zip", .glo "EVEN", .str "FIGURES" "0123456789", .str "LETTERS" "abcdefghijklmnopqrstuvwxyz", .int "MOST_BOUND" (1000)] : List He.Fa) ++ ([.int "MOST_CLOCKS" (3), .int "MOST_CONDITIONS" (8), .int "MOST_FIGURES" (4), .int "MOST_NUMBER" (20), .int "MOST_SIGNS" (8), .int "MOST_WRITTEN_FIGURES" (4000), .glo "NOUGHT", .glo "TAKEN"] : List He.Fa) ++ ([.glo "WORDS", .glo "SIGNS"] : List He.Fa)
def ts : List He.Tab := [((fun K => He.ga K "SIGNS"), ["most", "less", "least", "more"])]
def tx : List Str := ["_law_clocks_refused", "_law_points_refused", "law"]
def tf : List He.Defn := [("_law_clocks_refused", none), ("_law_points_refused", none), ("law", none)]
def cs : List Str := ["BadClock", "BadGuard", "BadPaper", "BadState", "BadText", "BadZone", "TooMany"]
def inits : List FnC := [initS (top 3) "BadClock.__init__", initS (top 4) "BadGuard.__init__", initS (top 12) "BadPaper.__init__", initS (top 7) "BadState.__init__", initS (top 13) "BadText.__init__", initS (top 5) "BadZone.__init__", initS (top 15) "TooMany.__init__"]
def exs : List (PySem.W.Frag → Bool) := ([(fun K => errB R.prog K (He.ga K "BadClock") (He.ma K (He.ga K "BadClock") "__init__") "ValueError" "ValueError.__new__" "ValueError.__init__" [.type "ValueError", .type "Exception", .type "BaseException", .type "object"] "place"), (fun K => xfB K (He.ga K "BadClock")), (fun K => decide (PySem.W.findIn K (.ref (He.ga K "BadClock")) "place" = some none)), (fun K => errB R.prog K (He.ga K "BadGuard") (He.ma K (He.ga K "BadGuard") "__init__") "ValueError" "ValueError.__new__" "ValueError.__init__" [.type "ValueError", .type "Exception", .type "BaseException", .type "object"] "place")] : List (PySem.W.Frag → Bool)) ++ ([(fun K => xfB K (He.ga K "BadGuard")), (fun K => decide (PySem.W.findIn K (.ref (He.ga K "BadGuard")) "place" = some none)), (fun K => errB R.prog K (He.ga K "BadPaper") (He.ma K (He.ga K "BadPaper") "__init__") "ValueError" "ValueError.__new__" "ValueError.__init__" [.type "ValueError", .type "Exception", .type "BaseException", .type "object"] "place"), (fun K => xfB K (He.ga K "BadPaper"))] : List (PySem.W.Frag → Bool)) ++ ([(fun K => decide (PySem.W.findIn K (.ref (He.ga K "BadPaper")) "place" = some none)), (fun K => errB R.prog K (He.ga K "BadState") (He.ma K (He.ga K "BadState") "__init__") "ValueError" "ValueError.__new__" "ValueError.__init__" [.type "ValueError", .type "Exception", .type "BaseException", .type "object"] "place"), (fun K => xfB K (He.ga K "BadState")), (fun K => decide (PySem.W.findIn K (.ref (He.ga K "BadState")) "place" = some none))] : List (PySem.W.Frag → Bool)) ++ ([(fun K => errB R.prog K (He.ga K "BadText") (He.ma K (He.ga K "BadText") "__init__") "ValueError" "ValueError.__new__" "ValueError.__init__" [.type "ValueError", .type "Exception", .type "BaseException", .type "object"] "place"), (fun K => xfB K (He.ga K "BadText")), (fun K => decide (PySem.W.findIn K (.ref (He.ga K "BadText")) "place" = some none)), (fun K => errB R.prog K (He.ga K "BadZone") (He.ma K (He.ga K "BadZone") "__init__") "ValueError" "ValueError.__new__" "ValueError.__init__" [.type "ValueError", .type "Exception", .type "BaseException", .type "object"] "place")] : List (PySem.W.Frag → Bool)) ++ ([(fun K => xfB K (He.ga K "BadZone")), (fun K => decide (PySem.W.findIn K (.ref (He.ga K "BadZone")) "place" = some none)), (fun K => errB R.prog K (He.ga K "TooMany") (He.ma K (He.ga K "TooMany") "__init__") "OverflowError" "OverflowError.__new__" "OverflowError.__init__" [.type "OverflowError", .type "ArithmeticError", .type "Exception", .type "BaseException", .type "object"] "most"), (fun K => xfB K (He.ga K "TooMany"))] : List (PySem.W.Frag → Bool)) ++ ([(fun K => decide (PySem.W.findIn K (.ref (He.ga K "TooMany")) "most" = some none)), (fun K => decide (PySem.W.exmOne K (.ref (He.ga K "BadClock")) (.ref (He.ga K "BadClock")) = some true)), (fun K => decide (PySem.W.exmOne K (.ref (He.ga K "BadGuard")) (.ref (He.ga K "BadClock")) = some false)), (fun K => decide (PySem.W.exmOne K (.ref (He.ga K "BadPaper")) (.ref (He.ga K "BadClock")) = some false))] : List (PySem.W.Frag → Bool)) ++ ([(fun K => decide (PySem.W.exmOne K (.ref (He.ga K "BadState")) (.ref (He.ga K "BadClock")) = some false)), (fun K => decide (PySem.W.exmOne K (.ref (He.ga K "BadText")) (.ref (He.ga K "BadClock")) = some false)), (fun K => decide (PySem.W.exmOne K (.ref (He.ga K "BadZone")) (.ref (He.ga K "BadClock")) = some false)), (fun K => decide (PySem.W.exmOne K (.ref (He.ga K "TooMany")) (.ref (He.ga K "BadClock")) = some false))] : List (PySem.W.Frag → Bool)) ++ ([(fun K => decide (PySem.W.exmOne K (.ref (He.ga K "BadClock")) (.ref (He.ga K "BadGuard")) = some false)), (fun K => decide (PySem.W.exmOne K (.ref (He.ga K "BadGuard")) (.ref (He.ga K "BadGuard")) = some true)), (fun K => decide (PySem.W.exmOne K (.ref (He.ga K "BadPaper")) (.ref (He.ga K "BadGuard")) = some false)), (fun K => decide (PySem.W.exmOne K (.ref (He.ga K "BadState")) (.ref (He.ga K "BadGuard")) = some false))] : List (PySem.W.Frag → Bool)) ++ ([(fun K => decide (PySem.W.exmOne K (.ref (He.ga K "BadText")) (.ref (He.ga K "BadGuard")) = some false)), (fun K => decide (PySem.W.exmOne K (.ref (He.ga K "BadZone")) (.ref (He.ga K "BadGuard")) = some false)), (fun K => decide (PySem.W.exmOne K (.ref (He.ga K "TooMany")) (.ref (He.ga K "BadGuard")) = some false)), (fun K => decide (PySem.W.exmOne K (.ref (He.ga K "BadClock")) (.ref (He.ga K "BadZone")) = some false))] : List (PySem.W.Frag → Bool)) ++ ([(fun K => decide (PySem.W.exmOne K (.ref (He.ga K "BadGuard")) (.ref (He.ga K "BadZone")) = some false)), (fun K => decide (PySem.W.exmOne K (.ref (He.ga K "BadPaper")) (.ref (He.ga K "BadZone")) = some false)), (fun K => decide (PySem.W.exmOne K (.ref (He.ga K "BadState")) (.ref (He.ga K "BadZone")) = some false)), (fun K => decide (PySem.W.exmOne K (.ref (He.ga K "BadText")) (.ref (He.ga K "BadZone")) = some false))] : List (PySem.W.Frag → Bool)) ++ ([(fun K => decide (PySem.W.exmOne K (.ref (He.ga K "BadZone")) (.ref (He.ga K "BadZone")) = some true)), (fun K => decide (PySem.W.exmOne K (.ref (He.ga K "TooMany")) (.ref (He.ga K "BadZone")) = some false)), (fun K => decide (PySem.W.exmOne K (.ref (He.ga K "BadClock")) (.ref (He.ga K "BadMachine")) = some false)), (fun K => decide (PySem.W.exmOne K (.ref (He.ga K "BadGuard")) (.ref (He.ga K "BadMachine")) = some false))] : List (PySem.W.Frag → Bool)) ++ ([(fun K => decide (PySem.W.exmOne K (.ref (He.ga K "BadPaper")) (.ref (He.ga K "BadMachine")) = some false)), (fun K => decide (PySem.W.exmOne K (.ref (He.ga K "BadState")) (.ref (He.ga K "BadMachine")) = some false)), (fun K => decide (PySem.W.exmOne K (.ref (He.ga K "BadText")) (.ref (He.ga K "BadMachine")) = some false)), (fun K => decide (PySem.W.exmOne K (.ref (He.ga K "BadZone")) (.ref (He.ga K "BadMachine")) = some false))] : List (PySem.W.Frag → Bool)) ++ ([(fun K => decide (PySem.W.exmOne K (.ref (He.ga K "TooMany")) (.ref (He.ga K "BadMachine")) = some false)), (fun K => decide (PySem.W.exmOne K (.ref (He.ga K "BadClock")) (.ref (He.ga K "BadState")) = some false)), (fun K => decide (PySem.W.exmOne K (.ref (He.ga K "BadGuard")) (.ref (He.ga K "BadState")) = some false)), (fun K => decide (PySem.W.exmOne K (.ref (He.ga K "BadPaper")) (.ref (He.ga K "BadState")) = some false))] : List (PySem.W.Frag → Bool)) ++ ([(fun K => decide (PySem.W.exmOne K (.ref (He.ga K "BadState")) (.ref (He.ga K "BadState")) = some true)), (fun K => decide (PySem.W.exmOne K (.ref (He.ga K "BadText")) (.ref (He.ga K "BadState")) = some false)), (fun K => decide (PySem.W.exmOne K (.ref (He.ga K "BadZone")) (.ref (He.ga K "BadState")) = some false)), (fun K => decide (PySem.W.exmOne K (.ref (He.ga K "TooMany")) (.ref (He.ga K "BadState")) = some false))] : List (PySem.W.Frag → Bool)) ++ ([(fun K => decide (PySem.W.exmOne K (.ref (He.ga K "BadClock")) (.ref (He.ga K "BadRun")) = some false)), (fun K => decide (PySem.W.exmOne K (.ref (He.ga K "BadGuard")) (.ref (He.ga K "BadRun")) = some false)), (fun K => decide (PySem.W.exmOne K (.ref (He.ga K "BadPaper")) (.ref (He.ga K "BadRun")) = some false)), (fun K => decide (PySem.W.exmOne K (.ref (He.ga K "BadState")) (.ref (He.ga K "BadRun")) = some false))] : List (PySem.W.Frag → Bool)) ++ ([(fun K => decide (PySem.W.exmOne K (.ref (He.ga K "BadText")) (.ref (He.ga K "BadRun")) = some false)), (fun K => decide (PySem.W.exmOne K (.ref (He.ga K "BadZone")) (.ref (He.ga K "BadRun")) = some false)), (fun K => decide (PySem.W.exmOne K (.ref (He.ga K "TooMany")) (.ref (He.ga K "BadRun")) = some false)), (fun K => decide (PySem.W.exmOne K (.ref (He.ga K "BadClock")) (.ref (He.ga K "BadWord")) = some false))] : List (PySem.W.Frag → Bool)) ++ ([(fun K => decide (PySem.W.exmOne K (.ref (He.ga K "BadGuard")) (.ref (He.ga K "BadWord")) = some false)), (fun K => decide (PySem.W.exmOne K (.ref (He.ga K "BadPaper")) (.ref (He.ga K "BadWord")) = some false)), (fun K => decide (PySem.W.exmOne K (.ref (He.ga K "BadState")) (.ref (He.ga K "BadWord")) = some false)), (fun K => decide (PySem.W.exmOne K (.ref (He.ga K "BadText")) (.ref (He.ga K "BadWord")) = some false))] : List (PySem.W.Frag → Bool)) ++ ([(fun K => decide (PySem.W.exmOne K (.ref (He.ga K "BadZone")) (.ref (He.ga K "BadWord")) = some false)), (fun K => decide (PySem.W.exmOne K (.ref (He.ga K "TooMany")) (.ref (He.ga K "BadWord")) = some false)), (fun K => decide (PySem.W.exmOne K (.ref (He.ga K "BadClock")) (.ref (He.ga K "BadPlan")) = some false)), (fun K => decide (PySem.W.exmOne K (.ref (He.ga K "BadGuard")) (.ref (He.ga K "BadPlan")) = some false))] : List (PySem.W.Frag → Bool)) ++ ([(fun K => decide (PySem.W.exmOne K (.ref (He.ga K "BadPaper")) (.ref (He.ga K "BadPlan")) = some false)), (fun K => decide (PySem.W.exmOne K (.ref (He.ga K "BadState")) (.ref (He.ga K "BadPlan")) = some false)), (fun K => decide (PySem.W.exmOne K (.ref (He.ga K "BadText")) (.ref (He.ga K "BadPlan")) = some false)), (fun K => decide (PySem.W.exmOne K (.ref (He.ga K "BadZone")) (.ref (He.ga K "BadPlan")) = some false))] : List (PySem.W.Frag → Bool)) ++ ([(fun K => decide (PySem.W.exmOne K (.ref (He.ga K "TooMany")) (.ref (He.ga K "BadPlan")) = some false)), (fun K => decide (PySem.W.exmOne K (.ref (He.ga K "BadClock")) (.ref (He.ga K "BadText")) = some false)), (fun K => decide (PySem.W.exmOne K (.ref (He.ga K "BadGuard")) (.ref (He.ga K "BadText")) = some false)), (fun K => decide (PySem.W.exmOne K (.ref (He.ga K "BadPaper")) (.ref (He.ga K "BadText")) = some false))] : List (PySem.W.Frag → Bool)) ++ ([(fun K => decide (PySem.W.exmOne K (.ref (He.ga K "BadState")) (.ref (He.ga K "BadText")) = some false)), (fun K => decide (PySem.W.exmOne K (.ref (He.ga K "BadText")) (.ref (He.ga K "BadText")) = some true)), (fun K => decide (PySem.W.exmOne K (.ref (He.ga K "BadZone")) (.ref (He.ga K "BadText")) = some false)), (fun K => decide (PySem.W.exmOne K (.ref (He.ga K "TooMany")) (.ref (He.ga K "BadText")) = some false))] : List (PySem.W.Frag → Bool)) ++ ([(fun K => decide (PySem.W.exmOne K (.ref (He.ga K "BadClock")) (.ref (He.ga K "BadList")) = some false)), (fun K => decide (PySem.W.exmOne K (.ref (He.ga K "BadGuard")) (.ref (He.ga K "BadList")) = some false)), (fun K => decide (PySem.W.exmOne K (.ref (He.ga K "BadPaper")) (.ref (He.ga K "BadList")) = some false)), (fun K => decide (PySem.W.exmOne K (.ref (He.ga K "BadState")) (.ref (He.ga K "BadList")) = some false))] : List (PySem.W.Frag → Bool)) ++ ([(fun K => decide (PySem.W.exmOne K (.ref (He.ga K "BadText")) (.ref (He.ga K "BadList")) = some false)), (fun K => decide (PySem.W.exmOne K (.ref (He.ga K "BadZone")) (.ref (He.ga K "BadList")) = some false)), (fun K => decide (PySem.W.exmOne K (.ref (He.ga K "TooMany")) (.ref (He.ga K "BadList")) = some false)), (fun K => decide (PySem.W.exmOne K (.ref (He.ga K "BadClock")) (.ref (He.ga K "BadPaper")) = some false))] : List (PySem.W.Frag → Bool)) ++ ([(fun K => decide (PySem.W.exmOne K (.ref (He.ga K "BadGuard")) (.ref (He.ga K "BadPaper")) = some false)), (fun K => decide (PySem.W.exmOne K (.ref (He.ga K "BadPaper")) (.ref (He.ga K "BadPaper")) = some true)), (fun K => decide (PySem.W.exmOne K (.ref (He.ga K "BadState")) (.ref (He.ga K "BadPaper")) = some false)), (fun K => decide (PySem.W.exmOne K (.ref (He.ga K "BadText")) (.ref (He.ga K "BadPaper")) = some false))] : List (PySem.W.Frag → Bool)) ++ ([(fun K => decide (PySem.W.exmOne K (.ref (He.ga K "BadZone")) (.ref (He.ga K "BadPaper")) = some false)), (fun K => decide (PySem.W.exmOne K (.ref (He.ga K "TooMany")) (.ref (He.ga K "BadPaper")) = some false)), (fun K => decide (PySem.W.exmOne K (.ref (He.ga K "BadClock")) (.ref (He.ga K "BadNumber")) = some false)), (fun K => decide (PySem.W.exmOne K (.ref (He.ga K "BadGuard")) (.ref (He.ga K "BadNumber")) = some false))] : List (PySem.W.Frag → Bool)) ++ ([(fun K => decide (PySem.W.exmOne K (.ref (He.ga K "BadPaper")) (.ref (He.ga K "BadNumber")) = some false)), (fun K => decide (PySem.W.exmOne K (.ref (He.ga K "BadState")) (.ref (He.ga K "BadNumber")) = some false)), (fun K => decide (PySem.W.exmOne K (.ref (He.ga K "BadText")) (.ref (He.ga K "BadNumber")) = some false)), (fun K => decide (PySem.W.exmOne K (.ref (He.ga K "BadZone")) (.ref (He.ga K "BadNumber")) = some false))] : List (PySem.W.Frag → Bool)) ++ ([(fun K => decide (PySem.W.exmOne K (.ref (He.ga K "TooMany")) (.ref (He.ga K "BadNumber")) = some false)), (fun K => decide (PySem.W.exmOne K (.ref (He.ga K "BadClock")) (.ref (He.ga K "TooMany")) = some false)), (fun K => decide (PySem.W.exmOne K (.ref (He.ga K "BadGuard")) (.ref (He.ga K "TooMany")) = some false)), (fun K => decide (PySem.W.exmOne K (.ref (He.ga K "BadPaper")) (.ref (He.ga K "TooMany")) = some false))] : List (PySem.W.Frag → Bool)) ++ ([(fun K => decide (PySem.W.exmOne K (.ref (He.ga K "BadState")) (.ref (He.ga K "TooMany")) = some false)), (fun K => decide (PySem.W.exmOne K (.ref (He.ga K "BadText")) (.ref (He.ga K "TooMany")) = some false)), (fun K => decide (PySem.W.exmOne K (.ref (He.ga K "BadZone")) (.ref (He.ga K "TooMany")) = some false)), (fun K => decide (PySem.W.exmOne K (.ref (He.ga K "TooMany")) (.ref (He.ga K "TooMany")) = some true))] : List (PySem.W.Frag → Bool)) ++ ([(fun K => decide (PySem.W.exmOne K (.ref (He.ga K "BadClock")) (.ref (He.ga K "NoSuch")) = some false)), (fun K => decide (PySem.W.exmOne K (.ref (He.ga K "BadGuard")) (.ref (He.ga K "NoSuch")) = some false)), (fun K => decide (PySem.W.exmOne K (.ref (He.ga K "BadPaper")) (.ref (He.ga K "NoSuch")) = some false)), (fun K => decide (PySem.W.exmOne K (.ref (He.ga K "BadState")) (.ref (He.ga K "NoSuch")) = some false))] : List (PySem.W.Frag → Bool)) ++ ([(fun K => decide (PySem.W.exmOne K (.ref (He.ga K "BadText")) (.ref (He.ga K "NoSuch")) = some false)), (fun K => decide (PySem.W.exmOne K (.ref (He.ga K "BadZone")) (.ref (He.ga K "NoSuch")) = some false)), (fun K => decide (PySem.W.exmOne K (.ref (He.ga K "TooMany")) (.ref (He.ga K "NoSuch")) = some false)), (fun K => decide (PySem.W.exmOne K (.ref (He.ga K "BadClock")) (.ref (He.ga K "HourError")) = some true))] : List (PySem.W.Frag → Bool)) ++ ([(fun K => decide (PySem.W.exmOne K (.ref (He.ga K "BadGuard")) (.ref (He.ga K "HourError")) = some true)), (fun K => decide (PySem.W.exmOne K (.ref (He.ga K "BadPaper")) (.ref (He.ga K "HourError")) = some true)), (fun K => decide (PySem.W.exmOne K (.ref (He.ga K "BadState")) (.ref (He.ga K "HourError")) = some true)), (fun K => decide (PySem.W.exmOne K (.ref (He.ga K "BadText")) (.ref (He.ga K "HourError")) = some true))] : List (PySem.W.Frag → Bool)) ++ ([(fun K => decide (PySem.W.exmOne K (.ref (He.ga K "BadZone")) (.ref (He.ga K "HourError")) = some true)), (fun K => decide (PySem.W.exmOne K (.ref (He.ga K "TooMany")) (.ref (He.ga K "HourError")) = some false)), (fun K => (He.tupB K "EVEN" [.int (0), .int (1)])), (fun K => (He.tupB K "NOUGHT" [.int (0), .int (1)]))] : List (PySem.W.Frag → Bool)) ++ ([(fun K => (He.tupB K "TAKEN" [.str "yes"])), (fun K => (He.tupB K "WORDS" [.str "most", .str "less", .str "least", .str "more"])), (fun K => He.valsB K (He.ga K "SIGNS") [("most", .str "<="), ("less", .str "<"), ("least", .str ">="), ("more", .str ">")]), (fun K => (PySem.W.nsOkIn K cStatics && decide (PySem.W.nsIn K cStatics "sys.int_max_str_digits" = some none)))] : List (PySem.W.Frag → Bool)) ++ ([(fun K => decide (PySem.W.nsIn K mainGlobals "gcd" = some (some (.builtin "math.gcd")))), (fun K => decide ((tf.map fun p => (He.cT K p).2).Nodup))] : List (PySem.W.Frag → Bool))
def ex (K : PySem.W.Frag) : Bool := exs.all fun f => f K
abbrev hk : PySem.W.Hook := hookE fa fn ts tf ex cs inits
def ob (s : PySem.W.SharedT) : AlH := obsE fa fn ts tf ex cs (HandSHeadRun.getT s)
theorem ob_eq (s : PySem.W.SharedT) : ob s = hk.obs s.abs := obsE_eq (HandSHeadRun.getT_eq s)
def names : List PySem.Str := (["HourError", "BadClock", "BadGuard", "BadZone", "BadMachine", "BadState", "BadRun", "BadWord"] : List PySem.Str) ++ (["BadPlan", "BadList", "BadPaper", "BadText", "BadNumber", "TooMany", "NoSuch", "LETTERS"] : List PySem.Str) ++ (["FIGURES", "TAKEN", "MOST_SIGNS", "MOST_CLOCKS", "is_number", "is_among", "is_tuple_of", "is_name"] : List PySem.Str) ++ (["need_clocks", "NOUGHT", "least_share", "is_share", "is_time", "whole_time", "plus", "minus"] : List PySem.Str) ++ (["is_below", "middle_of", "greatest_share", "least_of_shares", "WORDS", "MOST_CONDITIONS", "MOST_NUMBER", "is_condition"] : List PySem.Str) ++ (["place_in_guard", "need_guard", "does_condition_hold", "holds_at", "is_point", "need_point", "does_hold", "MOST_BOUND"] : List PySem.Str) ++ (["EVEN", "is_bound", "sum_of_bounds", "is_tighter", "tighter_of", "need_rows", "all_rows", "rows_above_nought"] : List PySem.Str) ++ (["tight_by", "small_by", "tight_zone", "need_zone", "rows_of_guard", "zone_by_guard", "zone_of_guard", "lows_of"] : List PySem.Str) ++ (["highs_of", "time_between", "point_by", "point_of_zone", "is_within_bound", "is_in_rows", "is_in_zone", "round_from"] : List PySem.Str) ++ (["round_by", "zone_paper", "sum_of_round", "is_round", "is_paper_form", "check_zone_paper", "SIGNS", "MOST_FIGURES"] : List PySem.Str) ++ (["MOST_WRITTEN_FIGURES", "read_whole", "condition_text", "guard_by_text", "guard_text", "read_condition", "guard_of_text", "read_guard"] : List PySem.Str) ++ (["time_by_text", "point_text", "gap_text", "told_places", "zone_by_text", "zone_text", "place_of_gap", "read_zone"] : List PySem.Str) ++ (["_law_begun", "_law_next", "_law_like", "_law_bound_sum", "_law_tighter", "_law_above", "_law_tight", "_law_said"] : List PySem.Str) ++ (["_law_clocks_refused", "_law_points_refused"] : List PySem.Str)
abbrev Q0 : Program := PySem.W.view R.prog [0, 114]
theorem runA_false (w0 : World) : (HandSHeadRun.wholeF (fun p => HandSHeadRun.stepQ (HandSHeadRun.denQ HandSHeadRun.tabQ) p (w0.withFollow "special-get-raises" false)) HandSHeadRun.fenceQ 20000 R.prog).map (fun x => (HandSHeadRun.looksF R.prog x.1.heap x.2.abs, HandSHeadRun.seenQ Q0 names (importedModules R.prog.main.body) (fun s => PySem.W.xlAt Q0 [] s && PySem.W.recOk R.toRowW.records s) x.2.abs)) = some (true, PySem.W.openGood Q0 names) := by kernel_rfl
theorem runB_false (w0 : World) : (HandSHeadRun.wholeF (fun p => HandSHeadRun.stepQ (HandSHeadRun.denQ HandSHeadRun.tabQ) p (w0.withFollow "special-get-raises" false)) HandSHeadRun.fenceQ 20000 R.prog).map (fun x => ob x.2) = some (Ev.valE fn ts inits (w0.withFollow "special-get-raises" false)) := by kernel_rfl
theorem run_false (w0 : World) : HandSHeadRun.RunEqI R Q0 hk ob 20000 names (w0.withFollow "special-get-raises" false) := by
  obtain ⟨x, e1, a⟩ := Option.map_eq_some_iff.mp (runA_false w0)
  obtain ⟨y, e2, b⟩ := Option.map_eq_some_iff.mp (runB_false w0)
  rw [e1] at e2
  cases e2
  unfold HandSHeadRun.RunEqI
  rw [e1]
  obtain ⟨a1, a2⟩ := Prod.mk.inj a
  exact congrArg some (Prod.ext a1 (Prod.ext a2 b))
theorem runA_true (w0 : World) : (HandSHeadRun.wholeF (fun p => HandSHeadRun.stepQ (HandSHeadRun.denQ HandSHeadRun.tabQ) p (w0.withFollow "special-get-raises" true)) HandSHeadRun.fenceQ 20000 R.prog).map (fun x => (HandSHeadRun.looksF R.prog x.1.heap x.2.abs, HandSHeadRun.seenQ Q0 names (importedModules R.prog.main.body) (fun s => PySem.W.xlAt Q0 [] s && PySem.W.recOk R.toRowW.records s) x.2.abs)) = some (true, PySem.W.openGood Q0 names) := by kernel_rfl
theorem runB_true (w0 : World) : (HandSHeadRun.wholeF (fun p => HandSHeadRun.stepQ (HandSHeadRun.denQ HandSHeadRun.tabQ) p (w0.withFollow "special-get-raises" true)) HandSHeadRun.fenceQ 20000 R.prog).map (fun x => ob x.2) = some (Ev.valE fn ts inits (w0.withFollow "special-get-raises" true)) := by kernel_rfl
theorem run_true (w0 : World) : HandSHeadRun.RunEqI R Q0 hk ob 20000 names (w0.withFollow "special-get-raises" true) := by
  obtain ⟨x, e1, a⟩ := Option.map_eq_some_iff.mp (runA_true w0)
  obtain ⟨y, e2, b⟩ := Option.map_eq_some_iff.mp (runB_true w0)
  rw [e1] at e2
  cases e2
  unfold HandSHeadRun.RunEqI
  rw [e1]
  obtain ⟨a1, a2⟩ := Prod.mk.inj a
  exact congrArg some (Prod.ext a1 (Prod.ext a2 b))
theorem run (w : World) : HandSHeadRun.RunEqI R Q0 hk ob 20000 names w := PySem.W.byRow2 "special-get-raises" run_false run_true w
end GH
set_option Elab.async false
set_option linter.all false
set_option maxRecDepth 100000
set_option maxHeartbeats 2000000
namespace G
open PySem PySem.Spec L2 Ev

variable {P : Program} {w : World} {K : PySem.W.Frag} {mg : Str → Option Value} {base : Heap} {C : Ev.Cls}
theorem nd_read_condition : (["text", "clocks", "parts", "words", "found", "word"] : List Str).Nodup := by decide
def F_read_condition : GF := frF (fOf 6 2 (sSeq (sPut 2 (gM 0 mSplit (gVar 0) (gCons (gC (.str [32])) gNil))) (sSeq (sPut 3 (gLc (iKd k_SIGNS) (tName 5) (gAndT (gBl (g2 (eqO2 false) (gB bLen (gCons (gVar 2) gNil)) (gC (.int 3)))) (gBl (g2 (eqO2 false) (gKd k_SIGNS (gVar 5)) (g2 ixO (gVar 2) (gC (.int 1)))))) (gVar 5) [5])) (sSeq (sIfS (gBl (g2 (eqO2 false) (gVar 3) (gLst gNil))) (sSeq (sRaise 11 (gC .non)) sNext) sNext) (sSeq (sPut 4 (gTup (gCons (g2 ixO (gVar 3) (gC (.int 0))) (gCons (g2 ixO (gVar 2) (gC (.int 0))) (gCons (gCall 1 F_read_whole (gCons (g2 ixO (gVar 2) (gC (.int 2))) gNil)) gNil))))) (sSeq (sIfS (gNotT (gTru (gCall 2 F_is_condition (gCons (gVar 4) (gCons (gVar 1) gNil))))) (sSeq (sRaise 11 (gC .non)) sNext) sNext) (sSeq (sRet (gVar 4)) sNext)))))))
theorem p_read_condition (M : Facts P w K mg base C) : Cal P w K mg base C 4 "read_condition" 2 F_read_condition := Cal.frame (cal_of ["text", "clocks", "parts", "words", "found", "word"] M.d_read_condition (fnScope_by (by decide +kernel)) fun f cdv A outer s H E hr => (zCons (zSet (i := 2) (sM (k := 0) PySem.F.plainAttrs_str PySem.F.slot_str_split rfl mt_split ok_split (sV 0) (sCons (sStr (by rfl)) sNil rfl)) nd_read_condition rfl (by first | exact .inl rfl | exact .inr rfl)) (zCons (by first | exact zSetLc (i := 3) (own := [("word", 5)]) rfl rfl bx_takes rfl nd_read_condition rfl rfl (by rfl) (jKd M.k_SIGNS rfl) (blkOk_by (by kernel_rfl)) (fun _ _ _ _ => (yNameV nd_read_condition (i := 5) rfl (by first | exact .inl rfl | exact .inr rfl) (by first | exact .inl rfl | exact .inr rfl) (by decide))) (fun _ _ _ _ _ tk => (tsOne (PW.pt (sAnd (sCmpT (op_eqO2 (by exact hr.units) false) (ok_eqO2 false) (sB cr_lenO ok_len rfl M.n_len (by rfl) (sCons (sV 2) sNil rfl)) sInt rfl) (sAnd1 (sCmpT (op_eqO2 (by exact hr.units) false) (ok_eqO2 false) (sIxKd M.k_SIGNS rfl (sV 5) (fun _ _ => rfl)) (sIx (by exact hr.ix) (sV 2) sInt (fun _ _ => rfl)) rfl)))))) (fun _ _ _ _ _ tk => (sV 5)) | exact zSet (i := 3) (sLc (own := [("word", 5)]) rfl rfl bx_takes rfl nd_read_condition (jKd M.k_SIGNS rfl) (blkOk_by (by kernel_rfl)) (fun _ _ _ _ => (yNameV nd_read_condition (i := 5) rfl (by first | exact .inl rfl | exact .inr rfl) (by first | exact .inl rfl | exact .inr rfl) (by decide))) (fun _ _ _ _ _ tk => (tsOne (PW.pt (sAnd (sCmpT (op_eqO2 (by exact hr.units) false) (ok_eqO2 false) (sB cr_lenO ok_len rfl M.n_len (by rfl) (sCons (sV 2) sNil rfl)) sInt rfl) (sAnd1 (sCmpT (op_eqO2 (by exact hr.units) false) (ok_eqO2 false) (sIxKd M.k_SIGNS rfl (sV 5) (fun _ _ => rfl)) (sIx (by exact hr.ix) (sV 2) sInt (fun _ _ => rfl)) rfl)))))) (fun _ _ _ _ _ tk => (sV 5))) nd_read_condition rfl (by first | exact .inl rfl | exact .inr rfl)) (zCons (zIf (sCmpT (op_eqO2 (by exact hr.units) false) (ok_eqO2 false) (sV 3) (sLst sNil) rfl) (zCons (M.e_BadText.raise hr (by decide) rfl rfl bx_takes sNon) zNil) zNil) (zCons (zSet (i := 4) (sTup (sCons (sIx (by exact hr.ix) (sV 3) sInt (fun _ _ => rfl)) (sCons (sIx (by exact hr.ix) (sV 2) sInt (fun _ _ => rfl)) (sCons (sCall (p_read_whole M) hr (by decide) rfl bx_takes (sCons (sIx (by exact hr.ix) (sV 2) sInt (fun _ _ => rfl)) sNil rfl)) sNil rfl) rfl) rfl)) nd_read_condition rfl (by first | exact .inl rfl | exact .inr rfl)) (zCons (zIf (sNotT (sTru (sCall (p_is_condition M) hr (by decide) rfl bx_takes (sCons (sV 4) (sCons (sV 1) sNil rfl) rfl)) (fun _ => rfl))) (zCons (M.e_BadText.raise hr (by decide) rfl rfl bx_takes sNon) zNil) zNil) (zCons (zRet (sV 4)) zNil)))))))
theorem nd_guard_of_text : (["text", "clocks", "parts", "part"] : List Str).Nodup := by decide
def F_guard_of_text : GF := frF (fOf 4 2 (sSeq (sIfS (gBl (g2 (eqO2 false) (gVar 0) (gC (.str [121, 101, 115])))) (sSeq (sRet (gTup gNil)) sNext) sNext) (sSeq (sPut 2 (gM 0 mSplit (gVar 0) (gCons (gC (.str [32, 38, 32])) gNil))) (sSeq (sIfS (gBl (g2 (ltO .gt) (gB bLen (gCons (gVar 2) gNil)) (gC c_MOST_CONDITIONS))) (sSeq (sRaise 11 (gC .non)) sNext) sNext) (sSeq (sRet (gB bTuple (gCons (gLc (iVal (gVar 2)) (tName 3) gYes (gCall 2 F_read_condition (gCons (gVar 3) (gCons (gVar 1) gNil))) [3]) gNil))) sNext)))))
theorem p_guard_of_text (M : Facts P w K mg base C) : Cal P w K mg base C 5 "guard_of_text" 2 F_guard_of_text := Cal.frame (cal_of ["text", "clocks", "parts", "part"] M.d_guard_of_text (fnScope_by (by decide +kernel)) fun f cdv A outer s H E hr => (zCons (zIf (sCmpT (op_eqO2 (by exact hr.units) false) (ok_eqO2 false) (sV 0) (sStr (by rfl)) rfl) (zCons (zRet (sTup sNil)) zNil) zNil) (zCons (zSet (i := 2) (sM (k := 0) PySem.F.plainAttrs_str PySem.F.slot_str_split rfl mt_split ok_split (sV 0) (sCons (sStr (by rfl)) sNil rfl)) nd_guard_of_text rfl (by first | exact .inl rfl | exact .inr rfl)) (zCons (zIf (sCmpT (op_ltO (by exact hr.units0) .gt) (ok_ltO .gt) (sB cr_lenO ok_len rfl M.n_len (by rfl) (sCons (sV 2) sNil rfl)) (sGk rfl M.c_MOST_CONDITIONS) rfl) (zCons (M.e_BadText.raise hr (by decide) rfl rfl bx_takes sNon) zNil) zNil) (zCons (zRet (sTy call_tuple_of ok_tuple rfl M.n_tuple (by rfl) (sCons (sLc (own := [("part", 3)]) rfl rfl bx_takes rfl nd_guard_of_text (jVal (sV 2)) (blkOk_by (by kernel_rfl)) (fun _ _ _ _ => (yNameV nd_guard_of_text (i := 3) rfl (by first | exact .inl rfl | exact .inr rfl) (by first | exact .inl rfl | exact .inr rfl) (by decide))) (fun _ _ _ _ _ tk => tsNil) (fun _ _ _ _ _ tk => (sCall (p_read_condition M) hr (by decide) rfl tk (sCons (sV 3) (sCons (sV 1) sNil rfl) rfl)))) sNil rfl))) zNil)))))
theorem nd_read_guard : (["text", "clocks"] : List Str).Nodup := by decide
def F_read_guard : GF := frF (fOf 2 2 (sSeq (sDrop (gCall 1 F_need_clocks (gCons (gVar 1) gNil))) (sSeq (sIfS (gNotT (gTru (gIsi 2 (gVar 0)))) (sSeq (sRaise 11 (gC .non)) sNext) sNext) (sSeq (sRet (gCall 2 F_guard_of_text (gCons (gVar 0) (gCons (gVar 1) gNil)))) sNext))))
theorem p_read_guard (M : Facts P w K mg base C) : Cal P w K mg base C 6 "read_guard" 2 F_read_guard := Cal.frame (cal_of ["text", "clocks"] M.d_read_guard (fnScope_by (by decide +kernel)) fun f cdv A outer s H E hr => (zCons (zExpr (sCall (p_need_clocks M) hr (by decide) rfl bx_takes (sCons (sV 1) sNil rfl))) (zCons (zIf (sNotT (sTru (sIsi 2 (by decide) rfl (sV 0) rfl M.n_isinstance rfl M.n_str (by rfl)) (fun _ => rfl))) (zCons (M.e_BadText.raise hr (by decide) rfl rfl bx_takes sNon) zNil) zNil) (zCons (zRet (sCall (p_guard_of_text M) hr (by decide) rfl bx_takes (sCons (sV 0) (sCons (sV 1) sNil rfl) rfl))) zNil))))
theorem nd_told_places : (["many", "one", "other"] : List Str).Nodup := by decide
def F_told_places : GF := frF (fOf 3 1 (sSeq (sRet (gLc2 (iRng1 (gCons (gVar 0) gNil)) (tName 1) (noE gYes) (noE (iRng1 (gCons (gVar 0) gNil))) (tName 2) (noE (gBl (g2 (eqO2 true) (gVar 1) (gVar 2)))) (noE (gTup (gCons (gVar 1) (gCons (gVar 2) gNil)))) [1, 2] [2])) sNext))
theorem p_told_places (M : Facts P w K mg base C) : Cal P w K mg base C 1 "told_places" 1 F_told_places := Cal.frame (cal_of ["many", "one", "other"] M.d_told_places (fnScope_by (by decide +kernel)) fun f cdv A outer s H E hr => (zCons (zRet (sLc2 (own := [("one", 1), ("other", 2)]) (vs1 := [2]) rfl nd_told_places (jRng1 rfl M.n_range (sCons (sV 0) sNil rfl)) (blkOk_by (by kernel_rfl)) (by decide) (fun _ _ _ _ _ => (yNameV nd_told_places (i := 1) rfl (by first | exact .inl rfl | exact .inr rfl) (by first | exact .inl rfl | exact .inr rfl) (by decide))) (fun _ _ _ _ _ => tsNil) (fun _ _ _ _ _ => (jRng1 rfl M.n_range (sCons (sV 0) sNil rfl))) (fun _ _ _ _ _ => (yNameV nd_told_places (i := 2) rfl (by first | exact .inl rfl | exact .inr rfl) (by first | exact .inl rfl | exact .inr rfl) (by decide))) (fun _ _ _ _ _ => (tsOne (sCmpT (op_eqO2 (by exact hr.units) true) (ok_eqO2 true) (sV 1) (sV 2) rfl))) (fun _ _ _ _ _ => (sTup (sCons (sV 1) (sCons (sV 2) sNil rfl) rfl))))) zNil))
theorem nd_gap_text : (["clocks", "one", "other"] : List Str).Nodup := by decide
def F_gap_text : GF := frF (fOf 3 3 (sSeq (sIfS (gBl (g2 (eqO2 false) (gVar 2) (gC (.int 0)))) (sSeq (sRet (g2 ixO (gVar 0) (g2 subO (gVar 1) (gC (.int 1))))) sNext) sNext) (sSeq (sRet (gIf (gBl (g2 (eqO2 false) (gVar 1) (gC (.int 0)))) (g2 addO (gC (.str [45])) (g2 ixO (gVar 0) (g2 subO (gVar 2) (gC (.int 1))))) (g2 addO (g2 addO (g2 ixO (gVar 0) (g2 subO (gVar 1) (gC (.int 1)))) (gC (.str [32, 45, 32]))) (g2 ixO (gVar 0) (g2 subO (gVar 2) (gC (.int 1))))))) sNext)))
theorem p_gap_text (M : Facts P w K mg base C) : Cal P w K mg base C 1 "gap_text" 3 F_gap_text := Cal.frame (cal_of ["clocks", "one", "other"] M.d_gap_text (fnScope_by (by decide +kernel)) fun f cdv A outer s H E hr => (zCons (zIf (sCmpT (op_eqO2 (by exact hr.units) false) (ok_eqO2 false) (sV 2) sInt rfl) (zCons (zRet (sIx (by exact hr.ix) (sV 0) (sBin op_subO ok_subO (sV 1) sInt) (fun _ _ => rfl))) zNil) zNil) (zCons (zRet (sIf (sCmpT (op_eqO2 (by exact hr.units) false) (ok_eqO2 false) (sV 1) sInt rfl) (sBin op_addO ok_addO (sStr (by rfl)) (sIx (by exact hr.ix) (sV 0) (sBin op_subO ok_subO (sV 2) sInt) (fun _ _ => rfl))) (sBin op_addO ok_addO (sBin op_addO ok_addO (sIx (by exact hr.ix) (sV 0) (sBin op_subO ok_subO (sV 1) sInt) (fun _ _ => rfl)) (sStr (by rfl))) (sIx (by exact hr.ix) (sV 0) (sBin op_subO ok_subO (sV 2) sInt) (fun _ _ => rfl))))) zNil)))
theorem nd_all_rows : (["many", "rows", "one", "other"] : List Str).Nodup := by decide
def F_all_rows : GF := frF (fOf 4 1 (sSeq (sPut 1 (gLst gNil)) (sSeq (sFor (iRng1 (gCons (gVar 0) gNil)) (tName 2) (sSeq (sDrop (gM 1 mAppend (gVar 1) (gCons (gLc (iRng1 (gCons (gVar 0) gNil)) (tName 3) gYes (gIf (gOrT (gBl (g2 (eqO2 false) (gVar 2) (gVar 3))) (gBl (g2 (eqO2 false) (gVar 2) (gC (.int 0))))) (gC c_EVEN) (gC .non)) [3]) gNil))) sNext)) (sSeq (sRet (gVar 1)) sNext))))
theorem p_all_rows (M : Facts P w K mg base C) : Cal P w K mg base C 1 "all_rows" 1 F_all_rows := Cal.frame (cal_of ["many", "rows", "one", "other"] M.d_all_rows (fnScope_by (by decide +kernel)) fun f cdv A outer s H E hr => (zCons (zSet (i := 1) (sLst sNil) nd_all_rows rfl (by first | exact .inl rfl | exact .inr rfl)) (zCons (zFor (jRng1 rfl M.n_range (sCons (sV 0) sNil rfl)) (yName nd_all_rows (i := 2) rfl (by first | exact .inl rfl | exact .inr rfl)) (zCons (zExpr (sM (k := 1) PySem.F.plainAttrs_list PySem.F.slot_list_append rfl mt_append ok_append (sV 1) (sCons (sLc (own := [("other", 3)]) rfl rfl bx_takes rfl nd_all_rows (jRng1 rfl M.n_range (sCons (sV 0) sNil rfl)) (blkOk_by (by kernel_rfl)) (fun _ _ _ _ => (yNameV nd_all_rows (i := 3) rfl (by first | exact .inl rfl | exact .inr rfl) (by first | exact .inl rfl | exact .inr rfl) (by decide))) (fun _ _ _ _ _ tk => tsNil) (fun _ _ _ _ _ tk => (sIf (PW.pt (sOr (sCmpT (op_eqO2 (by exact hr.units) false) (ok_eqO2 false) (sV 2) (sV 3) rfl) (sOr1 (sCmpT (op_eqO2 (by exact hr.units) false) (ok_eqO2 false) (sV 2) sInt rfl)))) (sGk rfl M.c_EVEN) sNon))) sNil rfl))) zNil) bx_passes rfl) (zCons (zRet (sV 1)) zNil))))
theorem nd_zone_by_text : (["clocks", "zone", "found", "least", "one", "other", "bound"] : List Str).Nodup := by decide
def F_zone_by_text : GF := frF (fOf 7 2 (sSeq (sPar 2 3 (gCons (gLst gNil) (gCons (gCall 1 F_all_rows (gCons (gB bLen (gCons (gVar 1) gNil)) gNil)) gNil))) (sSeq (sFor (iVal (gCall 1 F_told_places (gCons (gB bLen (gCons (gVar 1) gNil)) gNil))) (tTupT (tConsT (tName 4) (tConsT (tName 5) tNilT)) 2) (sSeq (sPut 6 (g2 ixO (g2 ixO (gVar 1) (gVar 4)) (gVar 5))) (sSeq (sIfS (gAndT (gBl (g2 (isO true) (gVar 6) (gC .non))) (gBl (g2 (eqO2 true) (gVar 6) (g2 ixO (g2 ixO (gVar 3) (gVar 4)) (gVar 5))))) (sSeq (sDrop (gM 1 mAppend (gVar 2) (gCons (g2 addO (g2 addO (gCall 3 F_gap_text (gCons (gVar 0) (gCons (gVar 4) (gCons (gVar 5) gNil)))) (gIf (gBl (g2 (eqO2 false) (g2 ixO (gVar 6) (gC (.int 1))) (gC (.int 1)))) (gC (.str [32, 60, 61, 32])) (gC (.str [32, 60, 32])))) (gB bStr3 (gCons (g2 ixO (gVar 6) (gC (.int 0))) gNil))) gNil))) sNext) sNext) sNext))) (sSeq (sRet (gIf (gBl (g2 (eqO2 true) (gVar 2) (gLst gNil))) (gM 0 mJoin (gC (.str [44, 32])) (gCons (gVar 2) gNil)) (gC (.str [97, 108, 108])))) sNext))))
theorem p_zone_by_text (M : Facts P w K mg base C) : Cal P w K mg base C 2 "zone_by_text" 2 F_zone_by_text := Cal.frame (cal_of ["clocks", "zone", "found", "least", "one", "other", "bound"] M.d_zone_by_text (fnScope_by (by decide +kernel)) fun f cdv A outer s H E hr => (zCons (zPar (i := 2) (j := 3) (sCons (sLst sNil) (sCons (sCall (p_all_rows M) hr (by decide) rfl bx_takes (sCons (sB cr_lenO ok_len rfl M.n_len (by rfl) (sCons (sV 1) sNil rfl)) sNil rfl)) sNil rfl) rfl) rfl nd_zone_by_text rfl rfl (by decide) rfl rfl (by rfl)) (zCons (zFor (jVal (sCall (p_told_places M) hr (by decide) rfl bx_takes (sCons (sB cr_lenO ok_len rfl M.n_len (by rfl) (sCons (sV 1) sNil rfl)) sNil rfl))) (yTup rfl (n := 2) (yCons (yName nd_zone_by_text (i := 4) rfl (by first | exact .inl rfl | exact .inr rfl)) (yCons (yName nd_zone_by_text (i := 5) rfl (by first | exact .inl rfl | exact .inr rfl)) yNil))) (zCons (zSet (i := 6) (sIx (by exact hr.ix) (sIx (by exact hr.ix) (sV 1) (sV 4) (fun _ _ => rfl)) (sV 5) (fun _ _ => rfl)) nd_zone_by_text rfl (by first | exact .inl rfl | exact .inr rfl)) (zCons (zIf (PW.pt (sAnd (sCmpT (op_isO true) (ok_isO true) (sV 6) sNon rfl) (sAnd1 (sCmpT (op_eqO2 (by exact hr.units) true) (ok_eqO2 true) (sV 6) (sIx (by exact hr.ix) (sIx (by exact hr.ix) (sV 3) (sV 4) (fun _ _ => rfl)) (sV 5) (fun _ _ => rfl)) rfl)))) (zCons (zExpr (sM (k := 1) PySem.F.plainAttrs_list PySem.F.slot_list_append rfl mt_append ok_append (sV 2) (sCons (sBin op_addO ok_addO (sBin op_addO ok_addO (sCall (p_gap_text M) hr (by decide) rfl bx_takes (sCons (sV 0) (sCons (sV 4) (sCons (sV 5) sNil rfl) rfl) rfl)) (sIf (sCmpT (op_eqO2 (by exact hr.units) false) (ok_eqO2 false) (sIx (by exact hr.ix) (sV 6) sInt (fun _ _ => rfl)) sInt rfl) (sStr (by rfl)) (sStr (by rfl)))) (sTy (cr_str2 (by exact M.nodg) rfl) ok_str3 rfl M.n_str (by rfl) (sCons (sIx (by exact hr.ix) (sV 6) sInt (fun _ _ => rfl)) sNil rfl))) sNil rfl))) zNil) zNil) zNil)) bx_passes rfl) (zCons (zRet (sIf (sCmpT (op_eqO2 (by exact hr.units) true) (ok_eqO2 true) (sV 2) (sLst sNil) rfl) (sM (k := 0) PySem.F.plainAttrs_str PySem.F.slot_str_join rfl mt_join ok_join (sStr (by rfl)) (sCons (sV 2) sNil rfl)) (sStr (by rfl)))) zNil))))
theorem nd_is_bound : (["thing"] : List Str).Nodup := by decide
def F_is_bound : GF := frF (fOf 1 1 (sSeq (sIfS (gBl (g2 (isO false) (gVar 0) (gC .non))) (sSeq (sRet (gC (.bl true))) sNext) sNext) (sSeq (sRet (gAndV (gCall 3 F_is_tuple_of (gCons (gVar 0) (gCons (gC (.int 2)) (gCons (gC (.int 2)) gNil)))) (gAndV (gCall 3 F_is_among (gCons (g2 ixO (gVar 0) (gC (.int 0))) (gCons (gNeg (gC c_MOST_BOUND)) (gCons (gC c_MOST_BOUND) gNil)))) (gCall 3 F_is_among (gCons (g2 ixO (gVar 0) (gC (.int 1))) (gCons (gC (.int 0)) (gCons (gC (.int 1)) gNil))))))) sNext)))
theorem p_is_bound (M : Facts P w K mg base C) : Cal P w K mg base C 3 "is_bound" 1 F_is_bound := Cal.frame (cal_of ["thing"] M.d_is_bound (fnScope_by (by decide +kernel)) fun f cdv A outer s H E hr => (zCons (zIf (sCmpT (op_isO false) (ok_isO false) (sV 0) sNon rfl) (zCons (zRet sBl) zNil) zNil) (zCons (zRet (sAndV (sCall (p_is_tuple_of M) hr (by decide) rfl bx_takes (sCons (sV 0) (sCons sInt (sCons sInt sNil rfl) rfl) rfl)) (sAndV (sCall (p_is_among M) hr (by decide) rfl bx_takes (sCons (sIx (by exact hr.ix) (sV 0) sInt (fun _ _ => rfl)) (sCons (sNeg (sGk rfl M.c_MOST_BOUND)) (sCons (sGk rfl M.c_MOST_BOUND) sNil rfl) rfl) rfl)) (sOneV (sCall (p_is_among M) hr (by decide) rfl bx_takes (sCons (sIx (by exact hr.ix) (sV 0) sInt (fun _ _ => rfl)) (sCons sInt (sCons sInt sNil rfl) rfl) rfl)))))) zNil)))
theorem nd_is_tighter : (["one", "other"] : List Str).Nodup := by decide
def F_is_tighter : GF := frF (fOf 2 2 (sSeq (sRet (gAndV (g2 (isO true) (gVar 0) (gC .non)) (gOrV (g2 (isO false) (gVar 1) (gC .non)) (g2 (ltO .lt) (gVar 0) (gVar 1))))) sNext))
theorem p_is_tighter (M : Facts P w K mg base C) : Cal P w K mg base C 1 "is_tighter" 2 F_is_tighter := Cal.frame (cal_of ["one", "other"] M.d_is_tighter (fnScope_by (by decide +kernel)) fun f cdv A outer s H E hr => (zCons (zRet (sAndV (sCmp (op_isO true) (ok_isO true) (sV 0) sNon rfl) (sOneV (sOrV (sCmp (op_isO false) (ok_isO false) (sV 1) sNon rfl) (sOneV (sCmp (op_ltO (by exact hr.units0) .lt) (ok_ltO .lt) (sV 0) (sV 1) rfl)))))) zNil))
theorem nd_tighter_of : (["one", "other"] : List Str).Nodup := by decide
def F_tighter_of : GF := frF (fOf 2 2 (sSeq (sRet (gIf (gTru (gCall 2 F_is_tighter (gCons (gVar 0) (gCons (gVar 1) gNil)))) (gVar 0) (gVar 1))) sNext))
theorem p_tighter_of (M : Facts P w K mg base C) : Cal P w K mg base C 2 "tighter_of" 2 F_tighter_of := Cal.frame (cal_of ["one", "other"] M.d_tighter_of (fnScope_by (by decide +kernel)) fun f cdv A outer s H E hr => (zCons (zRet (sIf (sTru (sCall (p_is_tighter M) hr (by decide) rfl bx_takes (sCons (sV 0) (sCons (sV 1) sNil rfl) rfl)) (fun _ => rfl)) (sV 0) (sV 1))) zNil))
theorem nd_sum_of_bounds : (["one", "other"] : List Str).Nodup := by decide
def F_sum_of_bounds : GF := frF (fOf 2 2 (sSeq (sIfS (gOrT (gBl (g2 (isO false) (gVar 0) (gC .non))) (gBl (g2 (isO false) (gVar 1) (gC .non)))) (sSeq (sRet (gC .non)) sNext) sNext) (sSeq (sRet (gTup (gCons (g2 addO (g2 ixO (gVar 0) (gC (.int 0))) (g2 ixO (gVar 1) (gC (.int 0)))) (gCons (gB bMin2 (gCons (g2 ixO (gVar 0) (gC (.int 1))) (gCons (g2 ixO (gVar 1) (gC (.int 1))) gNil))) gNil)))) sNext)))
theorem p_sum_of_bounds (M : Facts P w K mg base C) : Cal P w K mg base C 1 "sum_of_bounds" 2 F_sum_of_bounds := Cal.frame (cal_of ["one", "other"] M.d_sum_of_bounds (fnScope_by (by decide +kernel)) fun f cdv A outer s H E hr => (zCons (zIf (PW.pt (sOr (sCmpT (op_isO false) (ok_isO false) (sV 0) sNon rfl) (sOr1 (sCmpT (op_isO false) (ok_isO false) (sV 1) sNon rfl)))) (zCons (zRet sNon) zNil) zNil) (zCons (zRet (sTup (sCons (sBin op_addO ok_addO (sIx (by exact hr.ix) (sV 0) sInt (fun _ _ => rfl)) (sIx (by exact hr.ix) (sV 1) sInt (fun _ _ => rfl))) (sCons (sB (call_min2 rfl) ok_min2 rfl M.n_min (by rfl) (sCons (sIx (by exact hr.ix) (sV 0) sInt (fun _ _ => rfl)) (sCons (sIx (by exact hr.ix) (sV 1) sInt (fun _ _ => rfl)) sNil rfl) rfl)) sNil rfl) rfl))) zNil)))
theorem nd_rows_above_nought : (["rows", "least", "row", "bounds", "here", "there"] : List Str).Nodup := by decide
def F_rows_above_nought : GF := frF (fOf 6 1 (sSeq (sPut 1 (gCall 1 F_all_rows (gCons (gB bLen (gCons (gVar 0) gNil)) gNil))) (sSeq (sRet (gLc (iZip (gCons (gVar 0) (gCons (gVar 1) gNil))) (tTupT (tConsT (tName 2) (tConsT (tName 3) tNilT)) 2) gYes (gLc (iZip (gCons (gVar 2) (gCons (gVar 3) gNil))) (tTupT (tConsT (tName 4) (tConsT (tName 5) tNilT)) 2) (noE gYes) (noE (gCall 2 F_tighter_of (gCons (gVar 4) (gCons (gVar 5) gNil)))) [4, 5]) [2, 3])) sNext)))
theorem p_rows_above_nought (M : Facts P w K mg base C) : Cal P w K mg base C 3 "rows_above_nought" 1 F_rows_above_nought := Cal.frame (cal_of ["rows", "least", "row", "bounds", "here", "there"] M.d_rows_above_nought (fnScope_by (by decide +kernel)) fun f cdv A outer s H E hr => (zCons (zSet (i := 1) (sCall (p_all_rows M) hr (by decide) rfl bx_takes (sCons (sB cr_lenO ok_len rfl M.n_len (by rfl) (sCons (sV 0) sNil rfl)) sNil rfl)) nd_rows_above_nought rfl (by first | exact .inl rfl | exact .inr rfl)) (zCons (zRet (sLc (own := [("row", 2), ("bounds", 3)]) rfl rfl bx_takes rfl nd_rows_above_nought (jZip rfl M.n_zip (sCons (sV 0) (sCons (sV 1) sNil rfl) rfl)) (blkOk_by (by kernel_rfl)) (fun _ _ _ _ => (yTupV rfl (n := 2) (yConsV (yNameV nd_rows_above_nought (i := 2) rfl (by first | exact .inl rfl | exact .inr rfl) (by first | exact .inl rfl | exact .inr rfl) (by decide)) (yConsV (yNameV nd_rows_above_nought (i := 3) rfl (by first | exact .inl rfl | exact .inr rfl) (by first | exact .inl rfl | exact .inr rfl) (by decide)) yNilV)))) (fun _ _ _ _ _ tk => tsNil) (fun _ _ _ _ _ tk => (sLc0 (own := [("here", 4), ("there", 5)]) rfl nd_rows_above_nought (jZip rfl M.n_zip (sCons (sV 2) (sCons (sV 3) sNil rfl) rfl)) (blkOk_by (by kernel_rfl)) (fun _ _ _ _ _ => (yTupV rfl (n := 2) (yConsV (yNameV nd_rows_above_nought (i := 4) rfl (by first | exact .inl rfl | exact .inr rfl) (by first | exact .inl rfl | exact .inr rfl) (by decide)) (yConsV (yNameV nd_rows_above_nought (i := 5) rfl (by first | exact .inl rfl | exact .inr rfl) (by first | exact .inl rfl | exact .inr rfl) (by decide)) yNilV)))) (fun _ _ _ _ _ => tsNil) (fun _ _ _ _ _ => (sCall (p_tighter_of M) hr (by decide) rfl LamX.takes0 (sCons (sV 4) (sCons (sV 5) sNil rfl) rfl))))))) zNil)))
theorem nd_tight_by : (["rows", "many", "found", "middle", "one", "other", "way", "number", "row"] : List Str).Nodup := by decide
def F_tight_by : GF := frF (fOf 9 1 (sSeq (sPut 1 (gB bLen (gCons (gVar 0) gNil))) (sSeq (sPut 2 (gCall 1 F_rows_above_nought (gCons (gVar 0) gNil))) (sSeq (sFor (iRng1 (gCons (gVar 1) gNil)) (tName 3) (sSeq (sFor (iRng1 (gCons (gVar 1) gNil)) (tName 4) (sSeq (sFor (iRng1 (gCons (gVar 1) gNil)) (tName 5) (sSeq (sPut 6 (gCall 2 F_sum_of_bounds (gCons (g2 ixO (g2 ixO (gVar 2) (gVar 4)) (gVar 3)) (gCons (g2 ixO (g2 ixO (gVar 2) (gVar 3)) (gVar 5)) gNil)))) (sSeq (sAsg (gCall 2 F_tighter_of (gCons (gVar 6) (gCons (g2 ixO (g2 ixO (gVar 2) (gVar 4)) (gVar 5)) gNil))) (tSubT (g2 ixO (gVar 2) (gVar 4)) (gVar 5))) sNext))) sNext)) sNext)) (sSeq (sIfS (gTru (gB bAny (gCons (gLc (iRng1 (gCons (gVar 1) gNil)) (tName 7) gYes (g2 (ltO .lt) (g2 ixO (g2 ixO (gVar 2) (gVar 7)) (gVar 7)) (gC c_EVEN)) [7]) gNil))) (sSeq (sRet (gC .non)) sNext) sNext) (sSeq (sRet (gB bTuple (gCons (gLc (iVal (gVar 2)) (tName 8) gYes (gB bTuple (gCons (gVar 8) gNil)) [8]) gNil))) sNext))))))
theorem p_tight_by (M : Facts P w K mg base C) : Cal P w K mg base C 4 "tight_by" 1 F_tight_by := Cal.frame (cal_of ["rows", "many", "found", "middle", "one", "other", "way", "number", "row"] M.d_tight_by (fnScope_by (by decide +kernel)) fun f cdv A outer s H E hr => (zCons (zSet (i := 1) (sB cr_lenO ok_len rfl M.n_len (by rfl) (sCons (sV 0) sNil rfl)) nd_tight_by rfl (by first | exact .inl rfl | exact .inr rfl)) (zCons (zSet (i := 2) (sCall (p_rows_above_nought M) hr (by decide) rfl bx_takes (sCons (sV 0) sNil rfl)) nd_tight_by rfl (by first | exact .inl rfl | exact .inr rfl)) (zCons (zFor (jRng1 rfl M.n_range (sCons (sV 1) sNil rfl)) (yName nd_tight_by (i := 3) rfl (by first | exact .inl rfl | exact .inr rfl)) (zCons (zFor (jRng1 rfl M.n_range (sCons (sV 1) sNil rfl)) (yName nd_tight_by (i := 4) rfl (by first | exact .inl rfl | exact .inr rfl)) (zCons (zFor (jRng1 rfl M.n_range (sCons (sV 1) sNil rfl)) (yName nd_tight_by (i := 5) rfl (by first | exact .inl rfl | exact .inr rfl)) (zCons (zSet (i := 6) (sCall (p_sum_of_bounds M) hr (by decide) rfl bx_takes (sCons (sIx (by exact hr.ix) (sIx (by exact hr.ix) (sV 2) (sV 4) (fun _ _ => rfl)) (sV 3) (fun _ _ => rfl)) (sCons (sIx (by exact hr.ix) (sIx (by exact hr.ix) (sV 2) (sV 3) (fun _ _ => rfl)) (sV 5) (fun _ _ => rfl)) sNil rfl) rfl)) nd_tight_by rfl (by first | exact .inl rfl | exact .inr rfl)) (zCons (zAsg (sCall (p_tighter_of M) hr (by decide) rfl bx_takes (sCons (sV 6) (sCons (sIx (by exact hr.ix) (sIx (by exact hr.ix) (sV 2) (sV 4) (fun _ _ => rfl)) (sV 5) (fun _ _ => rfl)) sNil rfl) rfl)) (ySub (W := W0) (by exact hr.ix) (sIx (by exact hr.ix) (sV 2) (sV 4) (fun _ _ => rfl)) (sV 5))) zNil)) bx_passes rfl) zNil) bx_passes rfl) zNil) bx_passes rfl) (zCons (zIf (sTru (sB (cr_any rfl) ok_any rfl M.n_any (by rfl) (sCons (sLc (own := [("number", 7)]) rfl rfl bx_takes rfl nd_tight_by (jRng1 rfl M.n_range (sCons (sV 1) sNil rfl)) (blkOk_by (by kernel_rfl)) (fun _ _ _ _ => (yNameV nd_tight_by (i := 7) rfl (by first | exact .inl rfl | exact .inr rfl) (by first | exact .inl rfl | exact .inr rfl) (by decide))) (fun _ _ _ _ _ tk => tsNil) (fun _ _ _ _ _ tk => (sCmp (op_ltO (by exact hr.units0) .lt) (ok_ltO .lt) (sIx (by exact hr.ix) (sIx (by exact hr.ix) (sV 2) (sV 7) (fun _ _ => rfl)) (sV 7) (fun _ _ => rfl)) (sGk rfl M.c_EVEN) rfl))) sNil rfl)) (fun _ => rfl)) (zCons (zRet sNon) zNil) zNil) (zCons (zRet (sTy call_tuple_of ok_tuple rfl M.n_tuple (by rfl) (sCons (sLc (own := [("row", 8)]) rfl rfl bx_takes rfl nd_tight_by (jVal (sV 2)) (blkOk_by (by kernel_rfl)) (fun _ _ _ _ => (yNameV nd_tight_by (i := 8) rfl (by first | exact .inl rfl | exact .inr rfl) (by first | exact .inl rfl | exact .inr rfl) (by decide))) (fun _ _ _ _ _ tk => tsNil) (fun _ _ _ _ _ tk => (sTy call_tuple_of ok_tuple rfl M.n_tuple (by rfl) (sCons (sV 8) sNil rfl)))) sNil rfl))) zNil))))))
end G
set_option Elab.async false
set_option linter.all false
set_option maxRecDepth 100000
set_option maxHeartbeats 2000000
namespace G
open PySem PySem.Spec L2 Ev

variable {P : Program} {w : World} {K : PySem.W.Frag} {mg : Str → Option Value} {base : Heap} {C : Ev.Cls}
theorem nd_place_of_gap : (["text", "clocks", "one", "other"] : List Str).Nodup := by decide
def F_place_of_gap : GF := frF (fOf 4 2 (sSeq (sFor (iVal (gCall 1 F_told_places (gCons (g2 addO (gB bLen (gCons (gVar 1) gNil)) (gC (.int 1))) gNil))) (tTupT (tConsT (tName 2) (tConsT (tName 3) tNilT)) 2) (sSeq (sIfS (gBl (g2 (eqO2 false) (gCall 3 F_gap_text (gCons (gVar 1) (gCons (gVar 2) (gCons (gVar 3) gNil)))) (gVar 0))) (sSeq (sRet (gTup (gCons (gVar 2) (gCons (gVar 3) gNil)))) sNext) sNext) sNext)) (sSeq (sRaise 11 (gC .non)) sNext)))
theorem p_place_of_gap (M : Facts P w K mg base C) : Cal P w K mg base C 2 "place_of_gap" 2 F_place_of_gap := Cal.frame (cal_of ["text", "clocks", "one", "other"] M.d_place_of_gap (fnScope_by (by decide +kernel)) fun f cdv A outer s H E hr => (zCons (zFor (jVal (sCall (p_told_places M) hr (by decide) rfl bx_takes (sCons (sBin op_addO ok_addO (sB cr_lenO ok_len rfl M.n_len (by rfl) (sCons (sV 1) sNil rfl)) sInt) sNil rfl))) (yTup rfl (n := 2) (yCons (yName nd_place_of_gap (i := 2) rfl (by first | exact .inl rfl | exact .inr rfl)) (yCons (yName nd_place_of_gap (i := 3) rfl (by first | exact .inl rfl | exact .inr rfl)) yNil))) (zCons (zIf (sCmpT (op_eqO2 (by exact hr.units) false) (ok_eqO2 false) (sCall (p_gap_text M) hr (by decide) rfl bx_takes (sCons (sV 1) (sCons (sV 2) (sCons (sV 3) sNil rfl) rfl) rfl)) (sV 0) rfl) (zCons (zRet (sTup (sCons (sV 2) (sCons (sV 3) sNil rfl) rfl))) zNil) zNil) zNil) bx_passes rfl) (zCons (M.e_BadText.raise hr (by decide) rfl rfl bx_takes sNon) zNil)))
theorem nd_read_zone : (["text", "clocks", "rows", "part", "zone", "word", "ends", "one", "other", "row", "bound"] : List Str).Nodup := by decide
def F_read_zone : GF := frF (fOf 11 2 (sSeq (sDrop (gCall 1 F_need_clocks (gCons (gVar 1) gNil))) (sSeq (sIfS (gNotT (gTru (gIsi 2 (gVar 0)))) (sSeq (sRaise 11 (gC .non)) sNext) sNext) (sSeq (sPut 2 (gCall 1 F_all_rows (gCons (g2 addO (gB bLen (gCons (gVar 1) gNil)) (gC (.int 1))) gNil))) (sSeq (sFor (iVal (gIf (gBl (g2 (eqO2 true) (gVar 0) (gC (.str [97, 108, 108])))) (gM 0 mSplit (gVar 0) (gCons (gC (.str [44, 32])) gNil)) (gLst gNil))) (tName 3) (sSeq (sPut 5 (gIf (gBl (g2 (inO false) (gC (.str [32, 60, 61, 32])) (gVar 3))) (gC (.str [32, 60, 61, 32])) (gC (.str [32, 60, 32])))) (sSeq (sPut 6 (gM 0 mSplit (gVar 3) (gCons (gVar 5) gNil))) (sSeq (sIfS (gBl (g2 (eqO2 true) (gB bLen (gCons (gVar 6) gNil)) (gC (.int 2)))) (sSeq (sRaise 11 (gC .non)) sNext) sNext) (sSeq (sAsg (gCall 2 F_place_of_gap (gCons (g2 ixO (gVar 6) (gC (.int 0))) (gCons (gVar 1) gNil))) (tTupT (tConsT (tName 7) (tConsT (tName 8) tNilT)) 2)) (sSeq (sAsg (gTup (gCons (gCall 1 F_read_whole (gCons (g2 ixO (gVar 6) (gC (.int 1))) gNil)) (gCons (gIf (gBl (g2 (eqO2 false) (gVar 5) (gC (.str [32, 60, 61, 32])))) (gC (.int 1)) (gC (.int 0))) gNil))) (tSubT (g2 ixO (gVar 2) (gVar 7)) (gVar 8))) sNext)))))) (sSeq (sPut 4 (gCall 1 F_tight_by (gCons (gB bTuple (gCons (gLc (iVal (gVar 2)) (tName 9) gYes (gB bTuple (gCons (gVar 9) gNil)) [9]) gNil)) gNil))) (sSeq (sIfS (gOrT (gBl (g2 (isO false) (gVar 4) (gC .non))) (gNotT (gTru (gB bAll (gCons (gLc (iVal (gVar 4)) (tName 9) gYes (gB bAll (gCons (gLc (iVal (gVar 9)) (tName 10) (noE gYes) (noE (gCall 1 F_is_bound (gCons (gVar 10) gNil))) [10]) gNil)) [9]) gNil))))) (sSeq (sRaise 11 (gC .non)) sNext) sNext) (sSeq (sIfS (gBl (g2 (eqO2 true) (gCall 2 F_zone_by_text (gCons (gVar 1) (gCons (gVar 4) gNil))) (gVar 0))) (sSeq (sRaise 11 (gC .non)) sNext) sNext) (sSeq (sRet (gVar 4)) sNext)))))))))
theorem p_read_zone (M : Facts P w K mg base C) : Cal P w K mg base C 5 "read_zone" 2 F_read_zone := Cal.frame (cal_of ["text", "clocks", "rows", "part", "zone", "word", "ends", "one", "other", "row", "bound"] M.d_read_zone (fnScope_by (by decide +kernel)) fun f cdv A outer s H E hr => (zCons (zExpr (sCall (p_need_clocks M) hr (by decide) rfl bx_takes (sCons (sV 1) sNil rfl))) (zCons (zIf (sNotT (sTru (sIsi 2 (by decide) rfl (sV 0) rfl M.n_isinstance rfl M.n_str (by rfl)) (fun _ => rfl))) (zCons (M.e_BadText.raise hr (by decide) rfl rfl bx_takes sNon) zNil) zNil) (zCons (zSet (i := 2) (sCall (p_all_rows M) hr (by decide) rfl bx_takes (sCons (sBin op_addO ok_addO (sB cr_lenO ok_len rfl M.n_len (by rfl) (sCons (sV 1) sNil rfl)) sInt) sNil rfl)) nd_read_zone rfl (by first | exact .inl rfl | exact .inr rfl)) (zCons (zFor (jVal (sIf (sCmpT (op_eqO2 (by exact hr.units) true) (ok_eqO2 true) (sV 0) (sStr (by rfl)) rfl) (sM (k := 0) PySem.F.plainAttrs_str PySem.F.slot_str_split rfl mt_split ok_split (sV 0) (sCons (sStr (by rfl)) sNil rfl)) (sLst sNil))) (yName nd_read_zone (i := 3) rfl (by first | exact .inl rfl | exact .inr rfl)) (zCons (zSet (i := 5) (sIf (sCmpT (op_inO (by exact hr.ix) false) (ok_inO false) (sStr (by rfl)) (sV 3) rfl) (sStr (by rfl)) (sStr (by rfl))) nd_read_zone rfl (by first | exact .inl rfl | exact .inr rfl)) (zCons (zSet (i := 6) (sM (k := 0) PySem.F.plainAttrs_str PySem.F.slot_str_split rfl mt_split ok_split (sV 3) (sCons (sV 5) sNil rfl)) nd_read_zone rfl (by first | exact .inl rfl | exact .inr rfl)) (zCons (zIf (sCmpT (op_eqO2 (by exact hr.units) true) (ok_eqO2 true) (sB cr_lenO ok_len rfl M.n_len (by rfl) (sCons (sV 6) sNil rfl)) sInt rfl) (zCons (M.e_BadText.raise hr (by decide) rfl rfl bx_takes sNon) zNil) zNil) (zCons (zAsg (sCall (p_place_of_gap M) hr (by decide) rfl bx_takes (sCons (sIx (by exact hr.ix) (sV 6) sInt (fun _ _ => rfl)) (sCons (sV 1) sNil rfl) rfl)) (yTup rfl (n := 2) (yCons (yName nd_read_zone (i := 7) rfl (by first | exact .inl rfl | exact .inr rfl)) (yCons (yName nd_read_zone (i := 8) rfl (by first | exact .inl rfl | exact .inr rfl)) yNil)))) (zCons (zAsg (sTup (sCons (sCall (p_read_whole M) hr (by decide) rfl bx_takes (sCons (sIx (by exact hr.ix) (sV 6) sInt (fun _ _ => rfl)) sNil rfl)) (sCons (sIf (sCmpT (op_eqO2 (by exact hr.units) false) (ok_eqO2 false) (sV 5) (sStr (by rfl)) rfl) sInt sInt) sNil rfl) rfl)) (ySub (W := W0) (by exact hr.ix) (sIx (by exact hr.ix) (sV 2) (sV 7) (fun _ _ => rfl)) (sV 8))) zNil))))) bx_passes rfl) (zCons (zSet (i := 4) (sCall (p_tight_by M) hr (by decide) rfl bx_takes (sCons (sTy call_tuple_of ok_tuple rfl M.n_tuple (by rfl) (sCons (sLc (own := [("row", 9)]) rfl rfl bx_takes rfl nd_read_zone (jVal (sV 2)) (blkOk_by (by kernel_rfl)) (fun _ _ _ _ => (yNameV nd_read_zone (i := 9) rfl (by first | exact .inl rfl | exact .inr rfl) (by first | exact .inl rfl | exact .inr rfl) (by decide))) (fun _ _ _ _ _ tk => tsNil) (fun _ _ _ _ _ tk => (sTy call_tuple_of ok_tuple rfl M.n_tuple (by rfl) (sCons (sV 9) sNil rfl)))) sNil rfl)) sNil rfl)) nd_read_zone rfl (by first | exact .inl rfl | exact .inr rfl)) (zCons (zIf (PW.pt (sOr (sCmpT (op_isO false) (ok_isO false) (sV 4) sNon rfl) (sOr1 (sNotT (sTru (sB (cr_all rfl) ok_all rfl M.n_all (by rfl) (sCons (sLc (own := [("row", 9)]) rfl rfl bx_takes rfl nd_read_zone (jVal (sV 4)) (blkOk_by (by kernel_rfl)) (fun _ _ _ _ => (yNameV nd_read_zone (i := 9) rfl (by first | exact .inl rfl | exact .inr rfl) (by first | exact .inl rfl | exact .inr rfl) (by decide))) (fun _ _ _ _ _ tk => tsNil) (fun _ _ _ _ _ tk => (sB (cr_all rfl) ok_all rfl M.n_all (by rfl) (sCons (sLc0 (own := [("bound", 10)]) rfl nd_read_zone (jVal (sV 9)) (blkOk_by (by kernel_rfl)) (fun _ _ _ _ _ => (yNameV nd_read_zone (i := 10) rfl (by first | exact .inl rfl | exact .inr rfl) (by first | exact .inl rfl | exact .inr rfl) (by decide))) (fun _ _ _ _ _ => tsNil) (fun _ _ _ _ _ => (sCall (p_is_bound M) hr (by decide) rfl LamX.takes0 (sCons (sV 10) sNil rfl)))) sNil rfl)))) sNil rfl)) (fun _ => rfl)))))) (zCons (M.e_BadText.raise hr (by decide) rfl rfl bx_takes sNon) zNil) zNil) (zCons (zIf (sCmpT (op_eqO2 (by exact hr.units) true) (ok_eqO2 true) (sCall (p_zone_by_text M) hr (by decide) rfl bx_takes (sCons (sV 1) (sCons (sV 4) sNil rfl) rfl)) (sV 0) rfl) (zCons (M.e_BadText.raise hr (by decide) rfl rfl bx_takes sNon) zNil) zNil) (zCons (zRet (sV 4)) zNil)))))))))
def L20 : GS := (sIfS (gOrT (gBl (g2 (eqO2 true) (gCall 2 F_guard_text (gCons (gCall 2 F_read_guard (gCons (gVar 10) (gCons (gTup (gCons (gC (.str [120])) gNil)) gNil))) (gCons (gTup (gCons (gC (.str [120])) gNil)) gNil))) (gVar 10))) (gBl (g2 (eqO2 true) (gCall 2 F_read_zone (gCons (gC (.str [97, 108, 108])) (gCons (gTup gNil) gNil))) (gTup (gCons (gTup (gCons (gTup (gCons (gC (.int 0)) (gCons (gC (.int 1)) gNil))) gNil)) gNil))))) (sSeq (sRet (gC (.bl false))) sNext) sNext)
def L19 : GS := (sPut 10 (gM 0 mJoin (gC (.str [32, 38, 32])) (gCons (gLc (iRng1 (gCons (gC (.int 8)) gNil)) (tName 11) gYes (g2 addO (gC (.str [120, 32, 60, 32])) (gB bStr3 (gCons (gVar 11) gNil))) [11]) gNil)))
def L18 : GS := (sIfS (gOrT (gBl (g2 (eqO2 true) (gCall 2 F_point_text (gCons (gTup (gCons (gC (.str [120])) gNil)) (gCons (gTup (gCons (gTup (gCons (gVar 9) (gCons (gC (.int 1)) gNil))) gNil)) gNil))) (gB bStr3 (gCons (gVar 9) gNil)))) (gBl (g2 (eqO2 true) (gVar 3) (gLst (gCons (gTup (gCons (gC (.str [109, 97, 110, 121])) (gCons (gC (.int 4000)) gNil))) (gCons (gTup (gCons (gC (.str [116, 101, 120, 116])) (gCons (gC .non) gNil))) (gCons (gTup (gCons (gC (.str [116, 101, 120, 116])) (gCons (gC .non) gNil))) gNil))))))) (sSeq (sRet (gC (.bl false))) sNext) sNext)
def L17 : GS := (sPut 3 (gLst (gCons (gSaid (gCall 2 F_point_text (gCons (gTup (gCons (gC (.str [120])) gNil)) (gCons (gTup (gCons (gTup (gCons (g2 mulO2 (gC (.int 10)) (gVar 9)) (gCons (gC (.int 1)) gNil))) gNil)) gNil))) hs__law_said) (gCons (gSaid (gCall 2 F_read_zone (gCons (gC (.str [120, 32, 60, 61, 32, 53, 48, 48, 48])) (gCons (gTup (gCons (gC (.str [120])) gNil)) gNil))) hs__law_said) (gCons (gSaid (gCall 2 F_read_zone (gCons (gC (.str [120, 32, 60, 61, 32, 49, 48, 48, 49])) (gCons (gTup (gCons (gC (.str [120])) gNil)) gNil))) hs__law_said) gNil)))))
theorem nd__law_next : (["m", "many", "at", "cell", "blend", "rest"] : List Str).Nodup := by decide
def F__law_next : GF := frF (fOf 6 2 (sSeq (sIfS (gBl (g2 (eqO2 true) (g2 ixO (gVar 0) (gC (.str [108, 101, 102, 116]))) (gLst gNil))) (sSeq (sPut 5 (g2 ixO (g2 ixO (gVar 0) (gC (.str [108, 101, 102, 116]))) (gC (.int 0)))) (sSeq (sAsg (g2 fdivO (gVar 5) (gVar 1)) (tSubT (g2 ixO (gVar 0) (gC (.str [108, 101, 102, 116]))) (gC (.int 0)))) (sSeq (sIfS (gBl (g2 (eqO2 false) (g2 ixO (g2 ixO (gVar 0) (gC (.str [108, 101, 102, 116]))) (gC (.int 0))) (gC (.int 0)))) (sSeq (sAsg (gSl (g2 ixO (gVar 0) (gC (.str [108, 101, 102, 116]))) (some (gC (.int 1))) none) (tSubT (gVar 0) (gC (.str [108, 101, 102, 116])))) sNext) sNext) (sSeq (sRet (g2 modO (gVar 5) (gVar 1))) sNext)))) sNext) (sSeq (sPut 2 (g2 ixO (gVar 0) (gC (.str [97, 116])))) (sSeq (sAsg (g2 addO (gVar 2) (gC (.int 1))) (tSubT (gVar 0) (gC (.str [97, 116])))) (sSeq (sPut 3 (gIf (gBl (g2 (eqO2 true) (g2 ixO (gVar 0) (gC (.str [99, 101, 108, 108, 115]))) (gLst gNil))) (g2 ixO (g2 ixO (gVar 0) (gC (.str [99, 101, 108, 108, 115]))) (g2 modO (gVar 2) (gB bLen (gCons (g2 ixO (gVar 0) (gC (.str [99, 101, 108, 108, 115]))) gNil)))) (gC (.int 0)))) (sSeq (sPut 4 (g2 mulO2 (g2 modO (gB bInt3 (gCons (gVar 3) gNil)) (gC (.int 2147483629))) (g2 addO (g2 mulO2 (gC (.int 2)) (gVar 2)) (gC (.int 3))))) (sSeq (sPut 4 (g2 modO (g2 addO (g2 addO (g2 addO (gVar 4) (g2 mulO2 (g2 mulO2 (gC (.int 7919)) (gVar 2)) (gVar 2))) (g2 mulO2 (gC (.int 104729)) (gVar 2))) (gC (.int 31))) (gC (.int 2147483647)))) (sSeq (sRet (g2 modO (g2 fdivO (g2 modO (g2 mulO2 (g2 modO (g2 mulO2 (gVar 4) (gVar 4)) (gC (.int 2147483629))) (gC (.int 48271))) (gC (.int 2147483647))) (gC (.int 13))) (gVar 1))) sNext))))))))
theorem p__law_next (M : Facts P w K mg base C) : Cal P w K mg base C 1 "_law_next" 2 F__law_next := Cal.frame (cal_of ["m", "many", "at", "cell", "blend", "rest"] M.d__law_next (fnScope_by (by decide +kernel)) fun f cdv A outer s H E hr => (zCons (zIf (sCmpT (op_eqO2 (by exact hr.units) true) (ok_eqO2 true) (sIx (by exact hr.ix) (sV 0) (sStr (by rfl)) (fun _ _ => rfl)) (sLst sNil) rfl) (zCons (zSet (i := 5) (sIx (by exact hr.ix) (sIx (by exact hr.ix) (sV 0) (sStr (by rfl)) (fun _ _ => rfl)) sInt (fun _ _ => rfl)) nd__law_next rfl (by first | exact .inl rfl | exact .inr rfl)) (zCons (zAsg (sBin op_fdivN ok_fdivO (sV 5) (sV 1)) (ySub (W := W0) (by exact hr.ix) (sIx (by exact hr.ix) (sV 0) (sStr (by rfl)) (fun _ _ => rfl)) sInt)) (zCons (zIf (sCmpT (op_eqO2 (by exact hr.units) false) (ok_eqO2 false) (sIx (by exact hr.ix) (sIx (by exact hr.ix) (sV 0) (sStr (by rfl)) (fun _ _ => rfl)) sInt (fun _ _ => rfl)) sInt rfl) (zCons (zAsg (sSl (sIx (by exact hr.ix) (sV 0) (sStr (by rfl)) (fun _ _ => rfl)) (oSome sInt) oNone) (ySub (W := W0) (by exact hr.ix) (sV 0) (sStr (by rfl)))) zNil) zNil) (zCons (zRet (sBin op_modN ok_modO (sV 5) (sV 1))) zNil)))) zNil) (zCons (zSet (i := 2) (sIx (by exact hr.ix) (sV 0) (sStr (by rfl)) (fun _ _ => rfl)) nd__law_next rfl (by first | exact .inl rfl | exact .inr rfl)) (zCons (zAsg (sBin op_addO ok_addO (sV 2) sInt) (ySub (W := W0) (by exact hr.ix) (sV 0) (sStr (by rfl)))) (zCons (zSet (i := 3) (sIf (sCmpT (op_eqO2 (by exact hr.units) true) (ok_eqO2 true) (sIx (by exact hr.ix) (sV 0) (sStr (by rfl)) (fun _ _ => rfl)) (sLst sNil) rfl) (sIx (by exact hr.ix) (sIx (by exact hr.ix) (sV 0) (sStr (by rfl)) (fun _ _ => rfl)) (sBin op_modN ok_modO (sV 2) (sB cr_lenO ok_len rfl M.n_len (by rfl) (sCons (sIx (by exact hr.ix) (sV 0) (sStr (by rfl)) (fun _ _ => rfl)) sNil rfl))) (fun _ _ => rfl)) sInt) nd__law_next rfl (by first | exact .inl rfl | exact .inr rfl)) (zCons (zSet (i := 4) (sBin op_mulO2 ok_mulO2 (sBin op_modN ok_modO (sTy (cr_int2 (by exact M.nodg)) ok_int3 rfl M.n_int (by rfl) (sCons (sV 3) sNil rfl)) sInt) (sBin op_addO ok_addO (sBin op_mulO2 ok_mulO2 sInt (sV 2)) sInt)) nd__law_next rfl (by first | exact .inl rfl | exact .inr rfl)) (zCons (zSet (i := 4) (sBin op_modN ok_modO (sBin op_addO ok_addO (sBin op_addO ok_addO (sBin op_addO ok_addO (sV 4) (sBin op_mulO2 ok_mulO2 (sBin op_mulO2 ok_mulO2 sInt (sV 2)) (sV 2))) (sBin op_mulO2 ok_mulO2 sInt (sV 2))) sInt) sInt) nd__law_next rfl (by first | exact .inl rfl | exact .inr rfl)) (zCons (zRet (sBin op_modN ok_modO (sBin op_fdivN ok_fdivO (sBin op_modN ok_modO (sBin op_mulO2 ok_mulO2 (sBin op_modN ok_modO (sBin op_mulO2 ok_mulO2 (sV 4) (sV 4)) sInt) sInt) sInt) sInt) (sV 1))) zNil))))))))
def L16 : GS := (sPut 9 (g2 addO (gB bInt3 (gCons (g2 addO (gC (.str [49])) (g2 mulO2 (gC (.str [48])) (gC (.int 3999)))) gNil)) (gCall 2 F__law_next (gCons (gVar 1) (gCons (gC (.int 9)) gNil)))))
def L15 : GS := (sIfS (gBl (g2 (eqO2 true) (gLc (iVal (gVar 8)) (tName 7) (gBl (g2 (eqO2 true) (gSaid (gCall 2 F_read_guard (gCons (gVar 7) (gCons (gTup (gCons (gC (.str [120])) gNil)) gNil))) hs__law_said) (gTup (gCons (gC (.str [116, 101, 120, 116])) (gCons (gC .non) gNil))))) (gVar 7) [7]) (gLst gNil))) (sSeq (sRet (gC (.bl false))) sNext) sNext)
def L14 : GS := (sPut 8 (gLst (gCons (gC (.str [])) (gCons (gC (.str [120, 32, 60, 61, 32, 50, 49])) (gCons (gC (.str [120, 32, 60, 32, 49, 32, 38])) (gCons (gC (.str [120, 32, 60, 32, 49, 32, 38, 32])) (gCons (gC (.str [120, 32, 32, 60, 32, 49])) (gCons (gC (.str [120, 32, 61, 32, 49])) (gCons (gC (.str [121, 32, 60, 32, 49])) (gCons (gC (.str [120, 32, 60, 32, 45, 49])) (gCons (gC (.str [110, 111])) (gCons (gC (.str [120, 32, 60, 32, 49, 44, 32, 120, 32, 62, 32, 48])) (gCons (gC .non) (gCons (gC (.int 7)) (gCons (gC (.str [121, 101, 115, 32, 38, 32, 120, 32, 60, 32, 49])) (gCons (gM 0 mJoin (gC (.str [32, 38, 32])) (gCons (g2 mulO2 (gLst (gCons (gC (.str [120, 32, 60, 32, 49])) gNil)) (gC (.int 9))) gNil)) (gCons (gC (.str [120, 32, 60, 32, 48, 48, 55])) gNil)))))))))))))))))
def L13 : GS := (sIfS (gBl (g2 (eqO2 true) (gLc (iVal (gVar 8)) (tName 7) (gBl (g2 (eqO2 true) (gSaid (gCall 2 F_read_zone (gCons (gVar 7) (gCons (gTup (gCons (gC (.str [120])) gNil)) gNil))) hs__law_said) (gTup (gCons (gC (.str [116, 101, 120, 116])) (gCons (gC .non) gNil))))) (gVar 7) [7]) (gLst gNil))) (sSeq (sRet (gC (.bl false))) sNext) sNext)
def L12 : GS := (sPut 8 (g2 addO (gVar 8) (gLst (gCons (gC (.str [120, 32, 45, 32, 120, 32, 60, 61, 32, 49])) (gCons (gC (.str [120, 32, 60, 61, 32, 49, 44, 32, 45, 120, 32, 60, 61, 32, 45, 50])) (gCons (gC (.str [45, 120, 32, 60, 61, 32, 45, 49, 44, 32, 45, 120, 32, 60, 61, 32, 45, 49])) (gCons (gC .non) (gCons (gC (.int 7)) (gCons (gC (.str [120, 32, 61, 60, 32, 49])) (gCons (gC (.str [120, 32, 60, 32, 49, 32, 38, 32, 120, 32, 62, 32, 48])) (gCons (gC (.str [120, 32, 60, 61, 32, 57, 57, 57, 57, 57])) gNil)))))))))))
def L11 : GS := (sPut 8 (gLst (gCons (gC (.str [])) (gCons (gC (.str [120, 32, 60, 61, 32, 49, 44, 32, 120, 32, 60, 61, 32, 50])) (gCons (gC (.str [120, 60, 61, 49])) (gCons (gC (.str [120, 32, 60, 61, 32, 48, 49])) (gCons (gC (.str [120, 32, 60, 61, 32, 45, 48])) (gCons (gC (.str [120, 32, 60, 61, 32, 49, 48, 48, 49])) (gCons (gC (.str [121, 32, 60, 61, 32, 49])) (gCons (gC (.str [45, 120, 32, 60, 61, 32, 48])) (gCons (gC (.str [120, 32, 60, 61, 32, 49, 32])) (gCons (gC (.str [97, 108, 108, 44, 32, 120, 32, 60, 61, 32, 49])) gNil))))))))))))
theorem nd__law_like_0 : (["told", "due", "one", "other"] : List Str).Nodup := by decide
def F__law_like_0 : GF := frF (fOf 4 2 (sSeq (sIfS (gTru (gIsi 3 (gVar 1))) (sSeq (sIfS (gOrT (gNotT (gTru (gIsi 3 (gVar 0)))) (gBl (g2 (eqO2 true) (gB bLen (gCons (gVar 0) gNil)) (gB bLen (gCons (gVar 1) gNil))))) (sSeq (sRet (gC (.bl false))) sNext) sNext) (sSeq (sFor (iZip (gCons (gVar 0) (gCons (gVar 1) gNil))) (tTupT (tConsT (tName 2) (tConsT (tName 3) tNilT)) 2) (sSeq (sIfS (gNotT (gTru gBad)) (sSeq (sRet (gC (.bl false))) sNext) sNext) sNext)) (sSeq (sRet (gC (.bl true))) sNext))) sNext) (sSeq (sIfS (gBl (g2 (isO false) (gVar 1) (gC .non))) (sSeq (sRet (g2 (isO false) (gVar 0) (gC .non))) sNext) sNext) (sSeq (sIfS (gTru (gIsi 1 (gVar 1))) (sSeq (sRet (gAndV (gIsi 1 (gVar 0)) (g2 (eqO2 false) (gVar 0) (gVar 1)))) sNext) sNext) (sSeq (sIfS (gTru (gIsi 0 (gVar 1))) (sSeq (sRet (gAndV (gIsi 0 (gVar 0)) (gAndV (gNotV (gIsi 1 (gVar 0))) (g2 (eqO2 false) (gVar 0) (gVar 1))))) sNext) sNext) (sSeq (sRet (gAndV (gIsi 2 (gVar 0)) (g2 (eqO2 false) (gVar 0) (gVar 1)))) sNext))))))
theorem p__law_like_0 (M : Facts P w K mg base C) : Cal P w K mg base C 1 "_law_like" 2 F__law_like_0 := Cal.frame (cal_of ["told", "due", "one", "other"] M.d__law_like (fnScope_by (by decide +kernel)) fun f cdv A outer s H E hr => (zCons (zIf (sTru (sIsi 3 (by decide) rfl (sV 1) rfl M.n_isinstance rfl M.n_tuple (by rfl)) (fun _ => rfl)) (zCons (zIf (PW.pt (sOr (sNotT (sTru (sIsi 3 (by decide) rfl (sV 0) rfl M.n_isinstance rfl M.n_tuple (by rfl)) (fun _ => rfl))) (sOr1 (sCmpT (op_eqO2 (by exact hr.units) true) (ok_eqO2 true) (sB cr_lenO ok_len rfl M.n_len (by rfl) (sCons (sV 0) sNil rfl)) (sB cr_lenO ok_len rfl M.n_len (by rfl) (sCons (sV 1) sNil rfl)) rfl)))) (zCons (zRet sBl) zNil) zNil) (zCons (zFor (jZip rfl M.n_zip (sCons (sV 0) (sCons (sV 1) sNil rfl) rfl)) (yTup rfl (n := 2) (yCons (yName nd__law_like_0 (i := 2) rfl (by first | exact .inl rfl | exact .inr rfl)) (yCons (yName nd__law_like_0 (i := 3) rfl (by first | exact .inl rfl | exact .inr rfl)) yNil))) (zCons (zIf (sNotT (sTru eBad (fun _ => rfl))) (zCons (zRet sBl) zNil) zNil) zNil) bx_passes rfl) (zCons (zRet sBl) zNil))) zNil) (zCons (zIf (sCmpT (op_isO false) (ok_isO false) (sV 1) sNon rfl) (zCons (zRet (sCmp (op_isO false) (ok_isO false) (sV 0) sNon rfl)) zNil) zNil) (zCons (zIf (sTru (sIsi 1 (by decide) rfl (sV 1) rfl M.n_isinstance rfl M.n_bool (by rfl)) (fun _ => rfl)) (zCons (zRet (sAndV (sIsi 1 (by decide) rfl (sV 0) rfl M.n_isinstance rfl M.n_bool (by rfl)) (sOneV (sCmp (op_eqO2 (by exact hr.units) false) (ok_eqO2 false) (sV 0) (sV 1) rfl)))) zNil) zNil) (zCons (zIf (sTru (sIsi 0 (by decide) rfl (sV 1) rfl M.n_isinstance rfl M.n_int (by rfl)) (fun _ => rfl)) (zCons (zRet (sAndV (sIsi 0 (by decide) rfl (sV 0) rfl M.n_isinstance rfl M.n_int (by rfl)) (sAndV (sNotV (sIsi 1 (by decide) rfl (sV 0) rfl M.n_isinstance rfl M.n_bool (by rfl))) (sOneV (sCmp (op_eqO2 (by exact hr.units) false) (ok_eqO2 false) (sV 0) (sV 1) rfl))))) zNil) zNil) (zCons (zRet (sAndV (sIsi 2 (by decide) rfl (sV 0) rfl M.n_isinstance rfl M.n_str (by rfl)) (sOneV (sCmp (op_eqO2 (by exact hr.units) false) (ok_eqO2 false) (sV 0) (sV 1) rfl)))) zNil))))))
theorem nd__law_like_1 : (["told", "due", "one", "other"] : List Str).Nodup := by decide
def F__law_like_1 : GF := frF (fOf 4 2 (sSeq (sIfS (gTru (gIsi 3 (gVar 1))) (sSeq (sIfS (gOrT (gNotT (gTru (gIsi 3 (gVar 0)))) (gBl (g2 (eqO2 true) (gB bLen (gCons (gVar 0) gNil)) (gB bLen (gCons (gVar 1) gNil))))) (sSeq (sRet (gC (.bl false))) sNext) sNext) (sSeq (sFor (iZip (gCons (gVar 0) (gCons (gVar 1) gNil))) (tTupT (tConsT (tName 2) (tConsT (tName 3) tNilT)) 2) (sSeq (sIfS (gNotT (gTru (gCall 2 F__law_like_0 (gCons (gVar 2) (gCons (gVar 3) gNil))))) (sSeq (sRet (gC (.bl false))) sNext) sNext) sNext)) (sSeq (sRet (gC (.bl true))) sNext))) sNext) (sSeq (sIfS (gBl (g2 (isO false) (gVar 1) (gC .non))) (sSeq (sRet (g2 (isO false) (gVar 0) (gC .non))) sNext) sNext) (sSeq (sIfS (gTru (gIsi 1 (gVar 1))) (sSeq (sRet (gAndV (gIsi 1 (gVar 0)) (g2 (eqO2 false) (gVar 0) (gVar 1)))) sNext) sNext) (sSeq (sIfS (gTru (gIsi 0 (gVar 1))) (sSeq (sRet (gAndV (gIsi 0 (gVar 0)) (gAndV (gNotV (gIsi 1 (gVar 0))) (g2 (eqO2 false) (gVar 0) (gVar 1))))) sNext) sNext) (sSeq (sRet (gAndV (gIsi 2 (gVar 0)) (g2 (eqO2 false) (gVar 0) (gVar 1)))) sNext))))))
theorem p__law_like_1 (M : Facts P w K mg base C) : Cal P w K mg base C 2 "_law_like" 2 F__law_like_1 := Cal.frame (cal_of ["told", "due", "one", "other"] M.d__law_like (fnScope_by (by decide +kernel)) fun f cdv A outer s H E hr => (zCons (zIf (sTru (sIsi 3 (by decide) rfl (sV 1) rfl M.n_isinstance rfl M.n_tuple (by rfl)) (fun _ => rfl)) (zCons (zIf (PW.pt (sOr (sNotT (sTru (sIsi 3 (by decide) rfl (sV 0) rfl M.n_isinstance rfl M.n_tuple (by rfl)) (fun _ => rfl))) (sOr1 (sCmpT (op_eqO2 (by exact hr.units) true) (ok_eqO2 true) (sB cr_lenO ok_len rfl M.n_len (by rfl) (sCons (sV 0) sNil rfl)) (sB cr_lenO ok_len rfl M.n_len (by rfl) (sCons (sV 1) sNil rfl)) rfl)))) (zCons (zRet sBl) zNil) zNil) (zCons (zFor (jZip rfl M.n_zip (sCons (sV 0) (sCons (sV 1) sNil rfl) rfl)) (yTup rfl (n := 2) (yCons (yName nd__law_like_1 (i := 2) rfl (by first | exact .inl rfl | exact .inr rfl)) (yCons (yName nd__law_like_1 (i := 3) rfl (by first | exact .inl rfl | exact .inr rfl)) yNil))) (zCons (zIf (sNotT (sTru (sCall (p__law_like_0 M) hr (by decide) rfl bx_takes (sCons (sV 2) (sCons (sV 3) sNil rfl) rfl)) (fun _ => rfl))) (zCons (zRet sBl) zNil) zNil) zNil) bx_passes rfl) (zCons (zRet sBl) zNil))) zNil) (zCons (zIf (sCmpT (op_isO false) (ok_isO false) (sV 1) sNon rfl) (zCons (zRet (sCmp (op_isO false) (ok_isO false) (sV 0) sNon rfl)) zNil) zNil) (zCons (zIf (sTru (sIsi 1 (by decide) rfl (sV 1) rfl M.n_isinstance rfl M.n_bool (by rfl)) (fun _ => rfl)) (zCons (zRet (sAndV (sIsi 1 (by decide) rfl (sV 0) rfl M.n_isinstance rfl M.n_bool (by rfl)) (sOneV (sCmp (op_eqO2 (by exact hr.units) false) (ok_eqO2 false) (sV 0) (sV 1) rfl)))) zNil) zNil) (zCons (zIf (sTru (sIsi 0 (by decide) rfl (sV 1) rfl M.n_isinstance rfl M.n_int (by rfl)) (fun _ => rfl)) (zCons (zRet (sAndV (sIsi 0 (by decide) rfl (sV 0) rfl M.n_isinstance rfl M.n_int (by rfl)) (sAndV (sNotV (sIsi 1 (by decide) rfl (sV 0) rfl M.n_isinstance rfl M.n_bool (by rfl))) (sOneV (sCmp (op_eqO2 (by exact hr.units) false) (ok_eqO2 false) (sV 0) (sV 1) rfl))))) zNil) zNil) (zCons (zRet (sAndV (sIsi 2 (by decide) rfl (sV 0) rfl M.n_isinstance rfl M.n_str (by rfl)) (sOneV (sCmp (op_eqO2 (by exact hr.units) false) (ok_eqO2 false) (sV 0) (sV 1) rfl)))) zNil))))))
end G
set_option Elab.async false
set_option linter.all false
set_option maxRecDepth 100000
set_option maxHeartbeats 2000000
namespace G
open PySem PySem.Spec L2 Ev

variable {P : Program} {w : World} {K : PySem.W.Frag} {mg : Str → Option Value} {base : Heap} {C : Ev.Cls}
theorem nd__law_like_2 : (["told", "due", "one", "other"] : List Str).Nodup := by decide
def F__law_like_2 : GF := frF (fOf 4 2 (sSeq (sIfS (gTru (gIsi 3 (gVar 1))) (sSeq (sIfS (gOrT (gNotT (gTru (gIsi 3 (gVar 0)))) (gBl (g2 (eqO2 true) (gB bLen (gCons (gVar 0) gNil)) (gB bLen (gCons (gVar 1) gNil))))) (sSeq (sRet (gC (.bl false))) sNext) sNext) (sSeq (sFor (iZip (gCons (gVar 0) (gCons (gVar 1) gNil))) (tTupT (tConsT (tName 2) (tConsT (tName 3) tNilT)) 2) (sSeq (sIfS (gNotT (gTru (gCall 2 F__law_like_1 (gCons (gVar 2) (gCons (gVar 3) gNil))))) (sSeq (sRet (gC (.bl false))) sNext) sNext) sNext)) (sSeq (sRet (gC (.bl true))) sNext))) sNext) (sSeq (sIfS (gBl (g2 (isO false) (gVar 1) (gC .non))) (sSeq (sRet (g2 (isO false) (gVar 0) (gC .non))) sNext) sNext) (sSeq (sIfS (gTru (gIsi 1 (gVar 1))) (sSeq (sRet (gAndV (gIsi 1 (gVar 0)) (g2 (eqO2 false) (gVar 0) (gVar 1)))) sNext) sNext) (sSeq (sIfS (gTru (gIsi 0 (gVar 1))) (sSeq (sRet (gAndV (gIsi 0 (gVar 0)) (gAndV (gNotV (gIsi 1 (gVar 0))) (g2 (eqO2 false) (gVar 0) (gVar 1))))) sNext) sNext) (sSeq (sRet (gAndV (gIsi 2 (gVar 0)) (g2 (eqO2 false) (gVar 0) (gVar 1)))) sNext))))))
theorem p__law_like_2 (M : Facts P w K mg base C) : Cal P w K mg base C 3 "_law_like" 2 F__law_like_2 := Cal.frame (cal_of ["told", "due", "one", "other"] M.d__law_like (fnScope_by (by decide +kernel)) fun f cdv A outer s H E hr => (zCons (zIf (sTru (sIsi 3 (by decide) rfl (sV 1) rfl M.n_isinstance rfl M.n_tuple (by rfl)) (fun _ => rfl)) (zCons (zIf (PW.pt (sOr (sNotT (sTru (sIsi 3 (by decide) rfl (sV 0) rfl M.n_isinstance rfl M.n_tuple (by rfl)) (fun _ => rfl))) (sOr1 (sCmpT (op_eqO2 (by exact hr.units) true) (ok_eqO2 true) (sB cr_lenO ok_len rfl M.n_len (by rfl) (sCons (sV 0) sNil rfl)) (sB cr_lenO ok_len rfl M.n_len (by rfl) (sCons (sV 1) sNil rfl)) rfl)))) (zCons (zRet sBl) zNil) zNil) (zCons (zFor (jZip rfl M.n_zip (sCons (sV 0) (sCons (sV 1) sNil rfl) rfl)) (yTup rfl (n := 2) (yCons (yName nd__law_like_2 (i := 2) rfl (by first | exact .inl rfl | exact .inr rfl)) (yCons (yName nd__law_like_2 (i := 3) rfl (by first | exact .inl rfl | exact .inr rfl)) yNil))) (zCons (zIf (sNotT (sTru (sCall (p__law_like_1 M) hr (by decide) rfl bx_takes (sCons (sV 2) (sCons (sV 3) sNil rfl) rfl)) (fun _ => rfl))) (zCons (zRet sBl) zNil) zNil) zNil) bx_passes rfl) (zCons (zRet sBl) zNil))) zNil) (zCons (zIf (sCmpT (op_isO false) (ok_isO false) (sV 1) sNon rfl) (zCons (zRet (sCmp (op_isO false) (ok_isO false) (sV 0) sNon rfl)) zNil) zNil) (zCons (zIf (sTru (sIsi 1 (by decide) rfl (sV 1) rfl M.n_isinstance rfl M.n_bool (by rfl)) (fun _ => rfl)) (zCons (zRet (sAndV (sIsi 1 (by decide) rfl (sV 0) rfl M.n_isinstance rfl M.n_bool (by rfl)) (sOneV (sCmp (op_eqO2 (by exact hr.units) false) (ok_eqO2 false) (sV 0) (sV 1) rfl)))) zNil) zNil) (zCons (zIf (sTru (sIsi 0 (by decide) rfl (sV 1) rfl M.n_isinstance rfl M.n_int (by rfl)) (fun _ => rfl)) (zCons (zRet (sAndV (sIsi 0 (by decide) rfl (sV 0) rfl M.n_isinstance rfl M.n_int (by rfl)) (sAndV (sNotV (sIsi 1 (by decide) rfl (sV 0) rfl M.n_isinstance rfl M.n_bool (by rfl))) (sOneV (sCmp (op_eqO2 (by exact hr.units) false) (ok_eqO2 false) (sV 0) (sV 1) rfl))))) zNil) zNil) (zCons (zRet (sAndV (sIsi 2 (by decide) rfl (sV 0) rfl M.n_isinstance rfl M.n_str (by rfl)) (sOneV (sCmp (op_eqO2 (by exact hr.units) false) (ok_eqO2 false) (sV 0) (sV 1) rfl)))) zNil))))))
theorem nd__law_like_3 : (["told", "due", "one", "other"] : List Str).Nodup := by decide
def F__law_like_3 : GF := frF (fOf 4 2 (sSeq (sIfS (gTru (gIsi 3 (gVar 1))) (sSeq (sIfS (gOrT (gNotT (gTru (gIsi 3 (gVar 0)))) (gBl (g2 (eqO2 true) (gB bLen (gCons (gVar 0) gNil)) (gB bLen (gCons (gVar 1) gNil))))) (sSeq (sRet (gC (.bl false))) sNext) sNext) (sSeq (sFor (iZip (gCons (gVar 0) (gCons (gVar 1) gNil))) (tTupT (tConsT (tName 2) (tConsT (tName 3) tNilT)) 2) (sSeq (sIfS (gNotT (gTru (gCall 2 F__law_like_2 (gCons (gVar 2) (gCons (gVar 3) gNil))))) (sSeq (sRet (gC (.bl false))) sNext) sNext) sNext)) (sSeq (sRet (gC (.bl true))) sNext))) sNext) (sSeq (sIfS (gBl (g2 (isO false) (gVar 1) (gC .non))) (sSeq (sRet (g2 (isO false) (gVar 0) (gC .non))) sNext) sNext) (sSeq (sIfS (gTru (gIsi 1 (gVar 1))) (sSeq (sRet (gAndV (gIsi 1 (gVar 0)) (g2 (eqO2 false) (gVar 0) (gVar 1)))) sNext) sNext) (sSeq (sIfS (gTru (gIsi 0 (gVar 1))) (sSeq (sRet (gAndV (gIsi 0 (gVar 0)) (gAndV (gNotV (gIsi 1 (gVar 0))) (g2 (eqO2 false) (gVar 0) (gVar 1))))) sNext) sNext) (sSeq (sRet (gAndV (gIsi 2 (gVar 0)) (g2 (eqO2 false) (gVar 0) (gVar 1)))) sNext))))))
theorem p__law_like_3 (M : Facts P w K mg base C) : Cal P w K mg base C 4 "_law_like" 2 F__law_like_3 := Cal.frame (cal_of ["told", "due", "one", "other"] M.d__law_like (fnScope_by (by decide +kernel)) fun f cdv A outer s H E hr => (zCons (zIf (sTru (sIsi 3 (by decide) rfl (sV 1) rfl M.n_isinstance rfl M.n_tuple (by rfl)) (fun _ => rfl)) (zCons (zIf (PW.pt (sOr (sNotT (sTru (sIsi 3 (by decide) rfl (sV 0) rfl M.n_isinstance rfl M.n_tuple (by rfl)) (fun _ => rfl))) (sOr1 (sCmpT (op_eqO2 (by exact hr.units) true) (ok_eqO2 true) (sB cr_lenO ok_len rfl M.n_len (by rfl) (sCons (sV 0) sNil rfl)) (sB cr_lenO ok_len rfl M.n_len (by rfl) (sCons (sV 1) sNil rfl)) rfl)))) (zCons (zRet sBl) zNil) zNil) (zCons (zFor (jZip rfl M.n_zip (sCons (sV 0) (sCons (sV 1) sNil rfl) rfl)) (yTup rfl (n := 2) (yCons (yName nd__law_like_3 (i := 2) rfl (by first | exact .inl rfl | exact .inr rfl)) (yCons (yName nd__law_like_3 (i := 3) rfl (by first | exact .inl rfl | exact .inr rfl)) yNil))) (zCons (zIf (sNotT (sTru (sCall (p__law_like_2 M) hr (by decide) rfl bx_takes (sCons (sV 2) (sCons (sV 3) sNil rfl) rfl)) (fun _ => rfl))) (zCons (zRet sBl) zNil) zNil) zNil) bx_passes rfl) (zCons (zRet sBl) zNil))) zNil) (zCons (zIf (sCmpT (op_isO false) (ok_isO false) (sV 1) sNon rfl) (zCons (zRet (sCmp (op_isO false) (ok_isO false) (sV 0) sNon rfl)) zNil) zNil) (zCons (zIf (sTru (sIsi 1 (by decide) rfl (sV 1) rfl M.n_isinstance rfl M.n_bool (by rfl)) (fun _ => rfl)) (zCons (zRet (sAndV (sIsi 1 (by decide) rfl (sV 0) rfl M.n_isinstance rfl M.n_bool (by rfl)) (sOneV (sCmp (op_eqO2 (by exact hr.units) false) (ok_eqO2 false) (sV 0) (sV 1) rfl)))) zNil) zNil) (zCons (zIf (sTru (sIsi 0 (by decide) rfl (sV 1) rfl M.n_isinstance rfl M.n_int (by rfl)) (fun _ => rfl)) (zCons (zRet (sAndV (sIsi 0 (by decide) rfl (sV 0) rfl M.n_isinstance rfl M.n_int (by rfl)) (sAndV (sNotV (sIsi 1 (by decide) rfl (sV 0) rfl M.n_isinstance rfl M.n_bool (by rfl))) (sOneV (sCmp (op_eqO2 (by exact hr.units) false) (ok_eqO2 false) (sV 0) (sV 1) rfl))))) zNil) zNil) (zCons (zRet (sAndV (sIsi 2 (by decide) rfl (sV 0) rfl M.n_isinstance rfl M.n_str (by rfl)) (sOneV (sCmp (op_eqO2 (by exact hr.units) false) (ok_eqO2 false) (sV 0) (sV 1) rfl)))) zNil))))))
theorem nd__law_like_4 : (["told", "due", "one", "other"] : List Str).Nodup := by decide
def F__law_like_4 : GF := frF (fOf 4 2 (sSeq (sIfS (gTru (gIsi 3 (gVar 1))) (sSeq (sIfS (gOrT (gNotT (gTru (gIsi 3 (gVar 0)))) (gBl (g2 (eqO2 true) (gB bLen (gCons (gVar 0) gNil)) (gB bLen (gCons (gVar 1) gNil))))) (sSeq (sRet (gC (.bl false))) sNext) sNext) (sSeq (sFor (iZip (gCons (gVar 0) (gCons (gVar 1) gNil))) (tTupT (tConsT (tName 2) (tConsT (tName 3) tNilT)) 2) (sSeq (sIfS (gNotT (gTru (gCall 2 F__law_like_3 (gCons (gVar 2) (gCons (gVar 3) gNil))))) (sSeq (sRet (gC (.bl false))) sNext) sNext) sNext)) (sSeq (sRet (gC (.bl true))) sNext))) sNext) (sSeq (sIfS (gBl (g2 (isO false) (gVar 1) (gC .non))) (sSeq (sRet (g2 (isO false) (gVar 0) (gC .non))) sNext) sNext) (sSeq (sIfS (gTru (gIsi 1 (gVar 1))) (sSeq (sRet (gAndV (gIsi 1 (gVar 0)) (g2 (eqO2 false) (gVar 0) (gVar 1)))) sNext) sNext) (sSeq (sIfS (gTru (gIsi 0 (gVar 1))) (sSeq (sRet (gAndV (gIsi 0 (gVar 0)) (gAndV (gNotV (gIsi 1 (gVar 0))) (g2 (eqO2 false) (gVar 0) (gVar 1))))) sNext) sNext) (sSeq (sRet (gAndV (gIsi 2 (gVar 0)) (g2 (eqO2 false) (gVar 0) (gVar 1)))) sNext))))))
theorem p__law_like_4 (M : Facts P w K mg base C) : Cal P w K mg base C 5 "_law_like" 2 F__law_like_4 := Cal.frame (cal_of ["told", "due", "one", "other"] M.d__law_like (fnScope_by (by decide +kernel)) fun f cdv A outer s H E hr => (zCons (zIf (sTru (sIsi 3 (by decide) rfl (sV 1) rfl M.n_isinstance rfl M.n_tuple (by rfl)) (fun _ => rfl)) (zCons (zIf (PW.pt (sOr (sNotT (sTru (sIsi 3 (by decide) rfl (sV 0) rfl M.n_isinstance rfl M.n_tuple (by rfl)) (fun _ => rfl))) (sOr1 (sCmpT (op_eqO2 (by exact hr.units) true) (ok_eqO2 true) (sB cr_lenO ok_len rfl M.n_len (by rfl) (sCons (sV 0) sNil rfl)) (sB cr_lenO ok_len rfl M.n_len (by rfl) (sCons (sV 1) sNil rfl)) rfl)))) (zCons (zRet sBl) zNil) zNil) (zCons (zFor (jZip rfl M.n_zip (sCons (sV 0) (sCons (sV 1) sNil rfl) rfl)) (yTup rfl (n := 2) (yCons (yName nd__law_like_4 (i := 2) rfl (by first | exact .inl rfl | exact .inr rfl)) (yCons (yName nd__law_like_4 (i := 3) rfl (by first | exact .inl rfl | exact .inr rfl)) yNil))) (zCons (zIf (sNotT (sTru (sCall (p__law_like_3 M) hr (by decide) rfl bx_takes (sCons (sV 2) (sCons (sV 3) sNil rfl) rfl)) (fun _ => rfl))) (zCons (zRet sBl) zNil) zNil) zNil) bx_passes rfl) (zCons (zRet sBl) zNil))) zNil) (zCons (zIf (sCmpT (op_isO false) (ok_isO false) (sV 1) sNon rfl) (zCons (zRet (sCmp (op_isO false) (ok_isO false) (sV 0) sNon rfl)) zNil) zNil) (zCons (zIf (sTru (sIsi 1 (by decide) rfl (sV 1) rfl M.n_isinstance rfl M.n_bool (by rfl)) (fun _ => rfl)) (zCons (zRet (sAndV (sIsi 1 (by decide) rfl (sV 0) rfl M.n_isinstance rfl M.n_bool (by rfl)) (sOneV (sCmp (op_eqO2 (by exact hr.units) false) (ok_eqO2 false) (sV 0) (sV 1) rfl)))) zNil) zNil) (zCons (zIf (sTru (sIsi 0 (by decide) rfl (sV 1) rfl M.n_isinstance rfl M.n_int (by rfl)) (fun _ => rfl)) (zCons (zRet (sAndV (sIsi 0 (by decide) rfl (sV 0) rfl M.n_isinstance rfl M.n_int (by rfl)) (sAndV (sNotV (sIsi 1 (by decide) rfl (sV 0) rfl M.n_isinstance rfl M.n_bool (by rfl))) (sOneV (sCmp (op_eqO2 (by exact hr.units) false) (ok_eqO2 false) (sV 0) (sV 1) rfl))))) zNil) zNil) (zCons (zRet (sAndV (sIsi 2 (by decide) rfl (sV 0) rfl M.n_isinstance rfl M.n_str (by rfl)) (sOneV (sCmp (op_eqO2 (by exact hr.units) false) (ok_eqO2 false) (sV 0) (sV 1) rfl)))) zNil))))))
theorem nd__law_like_5 : (["told", "due", "one", "other"] : List Str).Nodup := by decide
def F__law_like_5 : GF := frF (fOf 4 2 (sSeq (sIfS (gTru (gIsi 3 (gVar 1))) (sSeq (sIfS (gOrT (gNotT (gTru (gIsi 3 (gVar 0)))) (gBl (g2 (eqO2 true) (gB bLen (gCons (gVar 0) gNil)) (gB bLen (gCons (gVar 1) gNil))))) (sSeq (sRet (gC (.bl false))) sNext) sNext) (sSeq (sFor (iZip (gCons (gVar 0) (gCons (gVar 1) gNil))) (tTupT (tConsT (tName 2) (tConsT (tName 3) tNilT)) 2) (sSeq (sIfS (gNotT (gTru (gCall 2 F__law_like_4 (gCons (gVar 2) (gCons (gVar 3) gNil))))) (sSeq (sRet (gC (.bl false))) sNext) sNext) sNext)) (sSeq (sRet (gC (.bl true))) sNext))) sNext) (sSeq (sIfS (gBl (g2 (isO false) (gVar 1) (gC .non))) (sSeq (sRet (g2 (isO false) (gVar 0) (gC .non))) sNext) sNext) (sSeq (sIfS (gTru (gIsi 1 (gVar 1))) (sSeq (sRet (gAndV (gIsi 1 (gVar 0)) (g2 (eqO2 false) (gVar 0) (gVar 1)))) sNext) sNext) (sSeq (sIfS (gTru (gIsi 0 (gVar 1))) (sSeq (sRet (gAndV (gIsi 0 (gVar 0)) (gAndV (gNotV (gIsi 1 (gVar 0))) (g2 (eqO2 false) (gVar 0) (gVar 1))))) sNext) sNext) (sSeq (sRet (gAndV (gIsi 2 (gVar 0)) (g2 (eqO2 false) (gVar 0) (gVar 1)))) sNext))))))
theorem p__law_like_5 (M : Facts P w K mg base C) : Cal P w K mg base C 6 "_law_like" 2 F__law_like_5 := Cal.frame (cal_of ["told", "due", "one", "other"] M.d__law_like (fnScope_by (by decide +kernel)) fun f cdv A outer s H E hr => (zCons (zIf (sTru (sIsi 3 (by decide) rfl (sV 1) rfl M.n_isinstance rfl M.n_tuple (by rfl)) (fun _ => rfl)) (zCons (zIf (PW.pt (sOr (sNotT (sTru (sIsi 3 (by decide) rfl (sV 0) rfl M.n_isinstance rfl M.n_tuple (by rfl)) (fun _ => rfl))) (sOr1 (sCmpT (op_eqO2 (by exact hr.units) true) (ok_eqO2 true) (sB cr_lenO ok_len rfl M.n_len (by rfl) (sCons (sV 0) sNil rfl)) (sB cr_lenO ok_len rfl M.n_len (by rfl) (sCons (sV 1) sNil rfl)) rfl)))) (zCons (zRet sBl) zNil) zNil) (zCons (zFor (jZip rfl M.n_zip (sCons (sV 0) (sCons (sV 1) sNil rfl) rfl)) (yTup rfl (n := 2) (yCons (yName nd__law_like_5 (i := 2) rfl (by first | exact .inl rfl | exact .inr rfl)) (yCons (yName nd__law_like_5 (i := 3) rfl (by first | exact .inl rfl | exact .inr rfl)) yNil))) (zCons (zIf (sNotT (sTru (sCall (p__law_like_4 M) hr (by decide) rfl bx_takes (sCons (sV 2) (sCons (sV 3) sNil rfl) rfl)) (fun _ => rfl))) (zCons (zRet sBl) zNil) zNil) zNil) bx_passes rfl) (zCons (zRet sBl) zNil))) zNil) (zCons (zIf (sCmpT (op_isO false) (ok_isO false) (sV 1) sNon rfl) (zCons (zRet (sCmp (op_isO false) (ok_isO false) (sV 0) sNon rfl)) zNil) zNil) (zCons (zIf (sTru (sIsi 1 (by decide) rfl (sV 1) rfl M.n_isinstance rfl M.n_bool (by rfl)) (fun _ => rfl)) (zCons (zRet (sAndV (sIsi 1 (by decide) rfl (sV 0) rfl M.n_isinstance rfl M.n_bool (by rfl)) (sOneV (sCmp (op_eqO2 (by exact hr.units) false) (ok_eqO2 false) (sV 0) (sV 1) rfl)))) zNil) zNil) (zCons (zIf (sTru (sIsi 0 (by decide) rfl (sV 1) rfl M.n_isinstance rfl M.n_int (by rfl)) (fun _ => rfl)) (zCons (zRet (sAndV (sIsi 0 (by decide) rfl (sV 0) rfl M.n_isinstance rfl M.n_int (by rfl)) (sAndV (sNotV (sIsi 1 (by decide) rfl (sV 0) rfl M.n_isinstance rfl M.n_bool (by rfl))) (sOneV (sCmp (op_eqO2 (by exact hr.units) false) (ok_eqO2 false) (sV 0) (sV 1) rfl))))) zNil) zNil) (zCons (zRet (sAndV (sIsi 2 (by decide) rfl (sV 0) rfl M.n_isinstance rfl M.n_str (by rfl)) (sOneV (sCmp (op_eqO2 (by exact hr.units) false) (ok_eqO2 false) (sV 0) (sV 1) rfl)))) zNil))))))
theorem nd__law_like_6 : (["told", "due", "one", "other"] : List Str).Nodup := by decide
def F__law_like_6 : GF := frF (fOf 4 2 (sSeq (sIfS (gTru (gIsi 3 (gVar 1))) (sSeq (sIfS (gOrT (gNotT (gTru (gIsi 3 (gVar 0)))) (gBl (g2 (eqO2 true) (gB bLen (gCons (gVar 0) gNil)) (gB bLen (gCons (gVar 1) gNil))))) (sSeq (sRet (gC (.bl false))) sNext) sNext) (sSeq (sFor (iZip (gCons (gVar 0) (gCons (gVar 1) gNil))) (tTupT (tConsT (tName 2) (tConsT (tName 3) tNilT)) 2) (sSeq (sIfS (gNotT (gTru (gCall 2 F__law_like_5 (gCons (gVar 2) (gCons (gVar 3) gNil))))) (sSeq (sRet (gC (.bl false))) sNext) sNext) sNext)) (sSeq (sRet (gC (.bl true))) sNext))) sNext) (sSeq (sIfS (gBl (g2 (isO false) (gVar 1) (gC .non))) (sSeq (sRet (g2 (isO false) (gVar 0) (gC .non))) sNext) sNext) (sSeq (sIfS (gTru (gIsi 1 (gVar 1))) (sSeq (sRet (gAndV (gIsi 1 (gVar 0)) (g2 (eqO2 false) (gVar 0) (gVar 1)))) sNext) sNext) (sSeq (sIfS (gTru (gIsi 0 (gVar 1))) (sSeq (sRet (gAndV (gIsi 0 (gVar 0)) (gAndV (gNotV (gIsi 1 (gVar 0))) (g2 (eqO2 false) (gVar 0) (gVar 1))))) sNext) sNext) (sSeq (sRet (gAndV (gIsi 2 (gVar 0)) (g2 (eqO2 false) (gVar 0) (gVar 1)))) sNext))))))
theorem p__law_like_6 (M : Facts P w K mg base C) : Cal P w K mg base C 7 "_law_like" 2 F__law_like_6 := Cal.frame (cal_of ["told", "due", "one", "other"] M.d__law_like (fnScope_by (by decide +kernel)) fun f cdv A outer s H E hr => (zCons (zIf (sTru (sIsi 3 (by decide) rfl (sV 1) rfl M.n_isinstance rfl M.n_tuple (by rfl)) (fun _ => rfl)) (zCons (zIf (PW.pt (sOr (sNotT (sTru (sIsi 3 (by decide) rfl (sV 0) rfl M.n_isinstance rfl M.n_tuple (by rfl)) (fun _ => rfl))) (sOr1 (sCmpT (op_eqO2 (by exact hr.units) true) (ok_eqO2 true) (sB cr_lenO ok_len rfl M.n_len (by rfl) (sCons (sV 0) sNil rfl)) (sB cr_lenO ok_len rfl M.n_len (by rfl) (sCons (sV 1) sNil rfl)) rfl)))) (zCons (zRet sBl) zNil) zNil) (zCons (zFor (jZip rfl M.n_zip (sCons (sV 0) (sCons (sV 1) sNil rfl) rfl)) (yTup rfl (n := 2) (yCons (yName nd__law_like_6 (i := 2) rfl (by first | exact .inl rfl | exact .inr rfl)) (yCons (yName nd__law_like_6 (i := 3) rfl (by first | exact .inl rfl | exact .inr rfl)) yNil))) (zCons (zIf (sNotT (sTru (sCall (p__law_like_5 M) hr (by decide) rfl bx_takes (sCons (sV 2) (sCons (sV 3) sNil rfl) rfl)) (fun _ => rfl))) (zCons (zRet sBl) zNil) zNil) zNil) bx_passes rfl) (zCons (zRet sBl) zNil))) zNil) (zCons (zIf (sCmpT (op_isO false) (ok_isO false) (sV 1) sNon rfl) (zCons (zRet (sCmp (op_isO false) (ok_isO false) (sV 0) sNon rfl)) zNil) zNil) (zCons (zIf (sTru (sIsi 1 (by decide) rfl (sV 1) rfl M.n_isinstance rfl M.n_bool (by rfl)) (fun _ => rfl)) (zCons (zRet (sAndV (sIsi 1 (by decide) rfl (sV 0) rfl M.n_isinstance rfl M.n_bool (by rfl)) (sOneV (sCmp (op_eqO2 (by exact hr.units) false) (ok_eqO2 false) (sV 0) (sV 1) rfl)))) zNil) zNil) (zCons (zIf (sTru (sIsi 0 (by decide) rfl (sV 1) rfl M.n_isinstance rfl M.n_int (by rfl)) (fun _ => rfl)) (zCons (zRet (sAndV (sIsi 0 (by decide) rfl (sV 0) rfl M.n_isinstance rfl M.n_int (by rfl)) (sAndV (sNotV (sIsi 1 (by decide) rfl (sV 0) rfl M.n_isinstance rfl M.n_bool (by rfl))) (sOneV (sCmp (op_eqO2 (by exact hr.units) false) (ok_eqO2 false) (sV 0) (sV 1) rfl))))) zNil) zNil) (zCons (zRet (sAndV (sIsi 2 (by decide) rfl (sV 0) rfl M.n_isinstance rfl M.n_str (by rfl)) (sOneV (sCmp (op_eqO2 (by exact hr.units) false) (ok_eqO2 false) (sV 0) (sV 1) rfl)))) zNil))))))
theorem nd_least_share : (["top", "low", "both"] : List Str).Nodup := by decide
def F_least_share : GF := frF (fOf 3 2 (sSeq (sPut 2 (gB bGcd (gCons (gVar 0) (gCons (gVar 1) gNil)))) (sSeq (sRet (gTup (gCons (g2 fdivO (gVar 0) (gVar 2)) (gCons (g2 fdivO (gVar 1) (gVar 2)) gNil)))) sNext)))
theorem p_least_share (M : Facts P w K mg base C) : Cal P w K mg base C 1 "least_share" 2 F_least_share := Cal.frame (cal_of ["top", "low", "both"] M.d_least_share (fnScope_by (by decide +kernel)) fun f cdv A outer s H E hr => (zCons (zSet (i := 2) (sBg cr_gcd ok_gcd rfl M.g_gcd (sCons (sV 0) (sCons (sV 1) sNil rfl) rfl)) nd_least_share rfl (by first | exact .inl rfl | exact .inr rfl)) (zCons (zRet (sTup (sCons (sBin op_fdivN ok_fdivO (sV 0) (sV 2)) (sCons (sBin op_fdivN ok_fdivO (sV 1) (sV 2)) sNil rfl) rfl))) zNil)))
theorem nd_middle_of : (["one", "other"] : List Str).Nodup := by decide
def F_middle_of : GF := frF (fOf 2 2 (sSeq (sRet (gCall 2 F_least_share (gCons (g2 addO (g2 mulO2 (g2 ixO (gVar 0) (gC (.int 0))) (g2 ixO (gVar 1) (gC (.int 1)))) (g2 mulO2 (g2 ixO (gVar 1) (gC (.int 0))) (g2 ixO (gVar 0) (gC (.int 1))))) (gCons (g2 mulO2 (g2 mulO2 (gC (.int 2)) (g2 ixO (gVar 0) (gC (.int 1)))) (g2 ixO (gVar 1) (gC (.int 1)))) gNil)))) sNext))
theorem p_middle_of (M : Facts P w K mg base C) : Cal P w K mg base C 2 "middle_of" 2 F_middle_of := Cal.frame (cal_of ["one", "other"] M.d_middle_of (fnScope_by (by decide +kernel)) fun f cdv A outer s H E hr => (zCons (zRet (sCall (p_least_share M) hr (by decide) rfl bx_takes (sCons (sBin op_addO ok_addO (sBin op_mulO2 ok_mulO2 (sIx (by exact hr.ix) (sV 0) sInt (fun _ _ => rfl)) (sIx (by exact hr.ix) (sV 1) sInt (fun _ _ => rfl))) (sBin op_mulO2 ok_mulO2 (sIx (by exact hr.ix) (sV 1) sInt (fun _ _ => rfl)) (sIx (by exact hr.ix) (sV 0) sInt (fun _ _ => rfl)))) (sCons (sBin op_mulO2 ok_mulO2 (sBin op_mulO2 ok_mulO2 sInt (sIx (by exact hr.ix) (sV 0) sInt (fun _ _ => rfl))) (sIx (by exact hr.ix) (sV 1) sInt (fun _ _ => rfl))) sNil rfl) rfl))) zNil))
theorem nd_is_below : (["one", "other"] : List Str).Nodup := by decide
def F_is_below : GF := frF (fOf 2 2 (sSeq (sRet (g2 (ltO .lt) (g2 mulO2 (g2 ixO (gVar 0) (gC (.int 0))) (g2 ixO (gVar 1) (gC (.int 1)))) (g2 mulO2 (g2 ixO (gVar 1) (gC (.int 0))) (g2 ixO (gVar 0) (gC (.int 1)))))) sNext))
theorem p_is_below (M : Facts P w K mg base C) : Cal P w K mg base C 1 "is_below" 2 F_is_below := Cal.frame (cal_of ["one", "other"] M.d_is_below (fnScope_by (by decide +kernel)) fun f cdv A outer s H E hr => (zCons (zRet (sCmp (op_ltO (by exact hr.units0) .lt) (ok_ltO .lt) (sBin op_mulO2 ok_mulO2 (sIx (by exact hr.ix) (sV 0) sInt (fun _ _ => rfl)) (sIx (by exact hr.ix) (sV 1) sInt (fun _ _ => rfl))) (sBin op_mulO2 ok_mulO2 (sIx (by exact hr.ix) (sV 1) sInt (fun _ _ => rfl)) (sIx (by exact hr.ix) (sV 0) sInt (fun _ _ => rfl))) rfl)) zNil))
theorem nd_least_of_shares : (["shares", "found", "share"] : List Str).Nodup := by decide
def F_least_of_shares : GF := frF (fOf 3 1 (sSeq (sPut 1 (g2 ixO (gVar 0) (gC (.int 0)))) (sSeq (sFor (iVal (gSl (gVar 0) (some (gC (.int 1))) none)) (tName 2) (sSeq (sPut 1 (gIf (gTru (gCall 2 F_is_below (gCons (gVar 2) (gCons (gVar 1) gNil)))) (gVar 2) (gVar 1))) sNext)) (sSeq (sRet (gVar 1)) sNext))))
theorem p_least_of_shares (M : Facts P w K mg base C) : Cal P w K mg base C 2 "least_of_shares" 1 F_least_of_shares := Cal.frame (cal_of ["shares", "found", "share"] M.d_least_of_shares (fnScope_by (by decide +kernel)) fun f cdv A outer s H E hr => (zCons (zSet (i := 1) (sIx (by exact hr.ix) (sV 0) sInt (fun _ _ => rfl)) nd_least_of_shares rfl (by first | exact .inl rfl | exact .inr rfl)) (zCons (zFor (jVal (sSl (sV 0) (oSome sInt) oNone)) (yName nd_least_of_shares (i := 2) rfl (by first | exact .inl rfl | exact .inr rfl)) (zCons (zSet (i := 1) (sIf (sTru (sCall (p_is_below M) hr (by decide) rfl bx_takes (sCons (sV 2) (sCons (sV 1) sNil rfl) rfl)) (fun _ => rfl)) (sV 2) (sV 1)) nd_least_of_shares rfl (by first | exact .inl rfl | exact .inr rfl)) zNil) bx_passes rfl) (zCons (zRet (sV 1)) zNil))))
theorem nd_plus : (["one", "other"] : List Str).Nodup := by decide
def F_plus : GF := frF (fOf 2 2 (sSeq (sRet (gCall 2 F_least_share (gCons (g2 addO (g2 mulO2 (g2 ixO (gVar 0) (gC (.int 0))) (g2 ixO (gVar 1) (gC (.int 1)))) (g2 mulO2 (g2 ixO (gVar 1) (gC (.int 0))) (g2 ixO (gVar 0) (gC (.int 1))))) (gCons (g2 mulO2 (g2 ixO (gVar 0) (gC (.int 1))) (g2 ixO (gVar 1) (gC (.int 1)))) gNil)))) sNext))
theorem p_plus (M : Facts P w K mg base C) : Cal P w K mg base C 2 "plus" 2 F_plus := Cal.frame (cal_of ["one", "other"] M.d_plus (fnScope_by (by decide +kernel)) fun f cdv A outer s H E hr => (zCons (zRet (sCall (p_least_share M) hr (by decide) rfl bx_takes (sCons (sBin op_addO ok_addO (sBin op_mulO2 ok_mulO2 (sIx (by exact hr.ix) (sV 0) sInt (fun _ _ => rfl)) (sIx (by exact hr.ix) (sV 1) sInt (fun _ _ => rfl))) (sBin op_mulO2 ok_mulO2 (sIx (by exact hr.ix) (sV 1) sInt (fun _ _ => rfl)) (sIx (by exact hr.ix) (sV 0) sInt (fun _ _ => rfl)))) (sCons (sBin op_mulO2 ok_mulO2 (sIx (by exact hr.ix) (sV 0) sInt (fun _ _ => rfl)) (sIx (by exact hr.ix) (sV 1) sInt (fun _ _ => rfl))) sNil rfl) rfl))) zNil))
end G
set_option Elab.async false
set_option linter.all false
set_option maxRecDepth 100000
set_option maxHeartbeats 2000000
namespace G
open PySem PySem.Spec L2 Ev

variable {P : Program} {w : World} {K : PySem.W.Frag} {mg : Str → Option Value} {base : Heap} {C : Ev.Cls}
theorem nd_greatest_share : (["shares", "found", "share"] : List Str).Nodup := by decide
def F_greatest_share : GF := frF (fOf 3 1 (sSeq (sPut 1 (g2 ixO (gVar 0) (gC (.int 0)))) (sSeq (sFor (iVal (gSl (gVar 0) (some (gC (.int 1))) none)) (tName 2) (sSeq (sPut 1 (gIf (gTru (gCall 2 F_is_below (gCons (gVar 1) (gCons (gVar 2) gNil)))) (gVar 2) (gVar 1))) sNext)) (sSeq (sRet (gVar 1)) sNext))))
theorem p_greatest_share (M : Facts P w K mg base C) : Cal P w K mg base C 2 "greatest_share" 1 F_greatest_share := Cal.frame (cal_of ["shares", "found", "share"] M.d_greatest_share (fnScope_by (by decide +kernel)) fun f cdv A outer s H E hr => (zCons (zSet (i := 1) (sIx (by exact hr.ix) (sV 0) sInt (fun _ _ => rfl)) nd_greatest_share rfl (by first | exact .inl rfl | exact .inr rfl)) (zCons (zFor (jVal (sSl (sV 0) (oSome sInt) oNone)) (yName nd_greatest_share (i := 2) rfl (by first | exact .inl rfl | exact .inr rfl)) (zCons (zSet (i := 1) (sIf (sTru (sCall (p_is_below M) hr (by decide) rfl bx_takes (sCons (sV 1) (sCons (sV 2) sNil rfl) rfl)) (fun _ => rfl)) (sV 2) (sV 1)) nd_greatest_share rfl (by first | exact .inl rfl | exact .inr rfl)) zNil) bx_passes rfl) (zCons (zRet (sV 1)) zNil))))
theorem nd_time_between : (["lows", "highs", "low", "time", "may_be"] : List Str).Nodup := by decide
def F_time_between : GF := frF (fOf 5 2 (sSeq (sPut 2 (gCall 1 F_greatest_share (gCons (gLc (iVal (gVar 0)) (tTupT (tConsT (tName 3) (tConsT (tName 4) tNilT)) 2) gYes (gVar 3) [3, 4]) gNil))) (sSeq (sIfS (gTru (gB bAll (gCons (gLc (iVal (gVar 0)) (tTupT (tConsT (tName 3) (tConsT (tName 4) tNilT)) 2) (gBl (g2 (eqO2 false) (gVar 3) (gVar 2))) (gVar 4) [3, 4]) gNil))) (sSeq (sRet (gVar 2)) sNext) sNext) (sSeq (sIfS (gBl (g2 (eqO2 false) (gVar 1) (gLst gNil))) (sSeq (sRet (gCall 2 F_plus (gCons (gVar 2) (gCons (gTup (gCons (gC (.int 1)) (gCons (gC (.int 1)) gNil))) gNil)))) sNext) sNext) (sSeq (sRet (gCall 2 F_middle_of (gCons (gVar 2) (gCons (gCall 1 F_least_of_shares (gCons (gLc (iVal (gVar 1)) (tTupT (tConsT (tName 3) (tConsT (tName 4) tNilT)) 2) gYes (gVar 3) [3, 4]) gNil)) gNil)))) sNext)))))
theorem p_time_between (M : Facts P w K mg base C) : Cal P w K mg base C 3 "time_between" 2 F_time_between := Cal.frame (cal_of ["lows", "highs", "low", "time", "may_be"] M.d_time_between (fnScope_by (by decide +kernel)) fun f cdv A outer s H E hr => (zCons (zSet (i := 2) (sCall (p_greatest_share M) hr (by decide) rfl bx_takes (sCons (sLc (own := [("time", 3), ("may_be", 4)]) rfl rfl bx_takes rfl nd_time_between (jVal (sV 0)) (blkOk_by (by kernel_rfl)) (fun _ _ _ _ => (yTupV rfl (n := 2) (yConsV (yNameV nd_time_between (i := 3) rfl (by first | exact .inl rfl | exact .inr rfl) (by first | exact .inl rfl | exact .inr rfl) (by decide)) (yConsV (yNameV nd_time_between (i := 4) rfl (by first | exact .inl rfl | exact .inr rfl) (by first | exact .inl rfl | exact .inr rfl) (by decide)) yNilV)))) (fun _ _ _ _ _ tk => tsNil) (fun _ _ _ _ _ tk => (sV 3))) sNil rfl)) nd_time_between rfl (by first | exact .inl rfl | exact .inr rfl)) (zCons (zIf (sTru (sB (cr_all rfl) ok_all rfl M.n_all (by rfl) (sCons (sLc (own := [("time", 3), ("may_be", 4)]) rfl rfl bx_takes rfl nd_time_between (jVal (sV 0)) (blkOk_by (by kernel_rfl)) (fun _ _ _ _ => (yTupV rfl (n := 2) (yConsV (yNameV nd_time_between (i := 3) rfl (by first | exact .inl rfl | exact .inr rfl) (by first | exact .inl rfl | exact .inr rfl) (by decide)) (yConsV (yNameV nd_time_between (i := 4) rfl (by first | exact .inl rfl | exact .inr rfl) (by first | exact .inl rfl | exact .inr rfl) (by decide)) yNilV)))) (fun _ _ _ _ _ tk => (tsOne (sCmpT (op_eqO2 (by exact hr.units) false) (ok_eqO2 false) (sV 3) (sV 2) rfl))) (fun _ _ _ _ _ tk => (sV 4))) sNil rfl)) (fun _ => rfl)) (zCons (zRet (sV 2)) zNil) zNil) (zCons (zIf (sCmpT (op_eqO2 (by exact hr.units) false) (ok_eqO2 false) (sV 1) (sLst sNil) rfl) (zCons (zRet (sCall (p_plus M) hr (by decide) rfl bx_takes (sCons (sV 2) (sCons (sTup (sCons sInt (sCons sInt sNil rfl) rfl)) sNil rfl) rfl))) zNil) zNil) (zCons (zRet (sCall (p_middle_of M) hr (by decide) rfl bx_takes (sCons (sV 2) (sCons (sCall (p_least_of_shares M) hr (by decide) rfl bx_takes (sCons (sLc (own := [("time", 3), ("may_be", 4)]) rfl rfl bx_takes rfl nd_time_between (jVal (sV 1)) (blkOk_by (by kernel_rfl)) (fun _ _ _ _ => (yTupV rfl (n := 2) (yConsV (yNameV nd_time_between (i := 3) rfl (by first | exact .inl rfl | exact .inr rfl) (by first | exact .inl rfl | exact .inr rfl) (by decide)) (yConsV (yNameV nd_time_between (i := 4) rfl (by first | exact .inl rfl | exact .inr rfl) (by first | exact .inl rfl | exact .inr rfl) (by decide)) yNilV)))) (fun _ _ _ _ _ tk => tsNil) (fun _ _ _ _ _ tk => (sV 3))) sNil rfl)) sNil rfl) rfl))) zNil)))))
theorem nd_whole_time : (["number"] : List Str).Nodup := by decide
def F_whole_time : GF := frF (fOf 1 1 (sSeq (sRet (gTup (gCons (gVar 0) (gCons (gC (.int 1)) gNil)))) sNext))
theorem p_whole_time (M : Facts P w K mg base C) : Cal P w K mg base C 1 "whole_time" 1 F_whole_time := Cal.frame (cal_of ["number"] M.d_whole_time (fnScope_by (by decide +kernel)) fun f cdv A outer s H E hr => (zCons (zRet (sTup (sCons (sV 0) (sCons sInt sNil rfl) rfl))) zNil))
theorem nd_highs_of : (["zone", "fixed", "clock", "found", "other", "time"] : List Str).Nodup := by decide
def F_highs_of : GF := frF (fOf 6 3 (sSeq (sPut 3 (gLst gNil)) (sSeq (sFor (iEnum (gCons (gVar 1) gNil)) (tTupT (tConsT (tName 4) (tConsT (tName 5) tNilT)) 2) (sSeq (sIfS (gBl (g2 (isO true) (g2 ixO (g2 ixO (gVar 0) (gVar 2)) (gVar 4)) (gC .non))) (sSeq (sDrop (gM 1 mAppend (gVar 3) (gCons (gTup (gCons (gCall 2 F_plus (gCons (gVar 5) (gCons (gCall 1 F_whole_time (gCons (g2 ixO (g2 ixO (g2 ixO (gVar 0) (gVar 2)) (gVar 4)) (gC (.int 0))) gNil)) gNil))) (gCons (g2 (eqO2 false) (g2 ixO (g2 ixO (g2 ixO (gVar 0) (gVar 2)) (gVar 4)) (gC (.int 1))) (gC (.int 1))) gNil))) gNil))) sNext) sNext) sNext)) (sSeq (sRet (gVar 3)) sNext))))
theorem p_highs_of (M : Facts P w K mg base C) : Cal P w K mg base C 3 "highs_of" 3 F_highs_of := Cal.frame (cal_of ["zone", "fixed", "clock", "found", "other", "time"] M.d_highs_of (fnScope_by (by decide +kernel)) fun f cdv A outer s H E hr => (zCons (zSet (i := 3) (sLst sNil) nd_highs_of rfl (by first | exact .inl rfl | exact .inr rfl)) (zCons (zFor (jEnum rfl M.n_enumerate (sCons (sV 1) sNil rfl)) (yTup rfl (n := 2) (yCons (yName nd_highs_of (i := 4) rfl (by first | exact .inl rfl | exact .inr rfl)) (yCons (yName nd_highs_of (i := 5) rfl (by first | exact .inl rfl | exact .inr rfl)) yNil))) (zCons (zIf (sCmpT (op_isO true) (ok_isO true) (sIx (by exact hr.ix) (sIx (by exact hr.ix) (sV 0) (sV 2) (fun _ _ => rfl)) (sV 4) (fun _ _ => rfl)) sNon rfl) (zCons (zExpr (sM (k := 1) PySem.F.plainAttrs_list PySem.F.slot_list_append rfl mt_append ok_append (sV 3) (sCons (sTup (sCons (sCall (p_plus M) hr (by decide) rfl bx_takes (sCons (sV 5) (sCons (sCall (p_whole_time M) hr (by decide) rfl bx_takes (sCons (sIx (by exact hr.ix) (sIx (by exact hr.ix) (sIx (by exact hr.ix) (sV 0) (sV 2) (fun _ _ => rfl)) (sV 4) (fun _ _ => rfl)) sInt (fun _ _ => rfl)) sNil rfl)) sNil rfl) rfl)) (sCons (sCmp (op_eqO2 (by exact hr.units) false) (ok_eqO2 false) (sIx (by exact hr.ix) (sIx (by exact hr.ix) (sIx (by exact hr.ix) (sV 0) (sV 2) (fun _ _ => rfl)) (sV 4) (fun _ _ => rfl)) sInt (fun _ _ => rfl)) sInt rfl) sNil rfl) rfl)) sNil rfl))) zNil) zNil) zNil) bx_passes rfl) (zCons (zRet (sV 3)) zNil))))
theorem nd_minus : (["one", "other"] : List Str).Nodup := by decide
def F_minus : GF := frF (fOf 2 2 (sSeq (sRet (gCall 2 F_least_share (gCons (g2 subO (g2 mulO2 (g2 ixO (gVar 0) (gC (.int 0))) (g2 ixO (gVar 1) (gC (.int 1)))) (g2 mulO2 (g2 ixO (gVar 1) (gC (.int 0))) (g2 ixO (gVar 0) (gC (.int 1))))) (gCons (g2 mulO2 (g2 ixO (gVar 0) (gC (.int 1))) (g2 ixO (gVar 1) (gC (.int 1)))) gNil)))) sNext))
theorem p_minus (M : Facts P w K mg base C) : Cal P w K mg base C 2 "minus" 2 F_minus := Cal.frame (cal_of ["one", "other"] M.d_minus (fnScope_by (by decide +kernel)) fun f cdv A outer s H E hr => (zCons (zRet (sCall (p_least_share M) hr (by decide) rfl bx_takes (sCons (sBin op_subO ok_subO (sBin op_mulO2 ok_mulO2 (sIx (by exact hr.ix) (sV 0) sInt (fun _ _ => rfl)) (sIx (by exact hr.ix) (sV 1) sInt (fun _ _ => rfl))) (sBin op_mulO2 ok_mulO2 (sIx (by exact hr.ix) (sV 1) sInt (fun _ _ => rfl)) (sIx (by exact hr.ix) (sV 0) sInt (fun _ _ => rfl)))) (sCons (sBin op_mulO2 ok_mulO2 (sIx (by exact hr.ix) (sV 0) sInt (fun _ _ => rfl)) (sIx (by exact hr.ix) (sV 1) sInt (fun _ _ => rfl))) sNil rfl) rfl))) zNil))
theorem nd_lows_of : (["zone", "fixed", "clock", "found", "other", "time"] : List Str).Nodup := by decide
def F_lows_of : GF := frF (fOf 6 3 (sSeq (sPut 3 (gLst gNil)) (sSeq (sFor (iEnum (gCons (gVar 1) gNil)) (tTupT (tConsT (tName 4) (tConsT (tName 5) tNilT)) 2) (sSeq (sIfS (gBl (g2 (isO true) (g2 ixO (g2 ixO (gVar 0) (gVar 4)) (gVar 2)) (gC .non))) (sSeq (sDrop (gM 1 mAppend (gVar 3) (gCons (gTup (gCons (gCall 2 F_minus (gCons (gVar 5) (gCons (gCall 1 F_whole_time (gCons (g2 ixO (g2 ixO (g2 ixO (gVar 0) (gVar 4)) (gVar 2)) (gC (.int 0))) gNil)) gNil))) (gCons (g2 (eqO2 false) (g2 ixO (g2 ixO (g2 ixO (gVar 0) (gVar 4)) (gVar 2)) (gC (.int 1))) (gC (.int 1))) gNil))) gNil))) sNext) sNext) sNext)) (sSeq (sRet (gVar 3)) sNext))))
theorem p_lows_of (M : Facts P w K mg base C) : Cal P w K mg base C 3 "lows_of" 3 F_lows_of := Cal.frame (cal_of ["zone", "fixed", "clock", "found", "other", "time"] M.d_lows_of (fnScope_by (by decide +kernel)) fun f cdv A outer s H E hr => (zCons (zSet (i := 3) (sLst sNil) nd_lows_of rfl (by first | exact .inl rfl | exact .inr rfl)) (zCons (zFor (jEnum rfl M.n_enumerate (sCons (sV 1) sNil rfl)) (yTup rfl (n := 2) (yCons (yName nd_lows_of (i := 4) rfl (by first | exact .inl rfl | exact .inr rfl)) (yCons (yName nd_lows_of (i := 5) rfl (by first | exact .inl rfl | exact .inr rfl)) yNil))) (zCons (zIf (sCmpT (op_isO true) (ok_isO true) (sIx (by exact hr.ix) (sIx (by exact hr.ix) (sV 0) (sV 4) (fun _ _ => rfl)) (sV 2) (fun _ _ => rfl)) sNon rfl) (zCons (zExpr (sM (k := 1) PySem.F.plainAttrs_list PySem.F.slot_list_append rfl mt_append ok_append (sV 3) (sCons (sTup (sCons (sCall (p_minus M) hr (by decide) rfl bx_takes (sCons (sV 5) (sCons (sCall (p_whole_time M) hr (by decide) rfl bx_takes (sCons (sIx (by exact hr.ix) (sIx (by exact hr.ix) (sIx (by exact hr.ix) (sV 0) (sV 4) (fun _ _ => rfl)) (sV 2) (fun _ _ => rfl)) sInt (fun _ _ => rfl)) sNil rfl)) sNil rfl) rfl)) (sCons (sCmp (op_eqO2 (by exact hr.units) false) (ok_eqO2 false) (sIx (by exact hr.ix) (sIx (by exact hr.ix) (sIx (by exact hr.ix) (sV 0) (sV 4) (fun _ _ => rfl)) (sV 2) (fun _ _ => rfl)) sInt (fun _ _ => rfl)) sInt rfl) sNil rfl) rfl)) sNil rfl))) zNil) zNil) zNil) bx_passes rfl) (zCons (zRet (sV 3)) zNil))))
theorem nd_point_by : (["zone", "fixed", "clock"] : List Str).Nodup := by decide
def F_point_by : GF := frF (fOf 3 1 (sSeq (sPut 1 (gLst (gCons (gC c_NOUGHT) gNil))) (sSeq (sFor (iRng2 (gCons (gC (.int 1)) (gCons (gB bLen (gCons (gVar 0) gNil)) gNil))) (tName 2) (sSeq (sDrop (gM 1 mAppend (gVar 1) (gCons (gCall 2 F_time_between (gCons (gCall 3 F_lows_of (gCons (gVar 0) (gCons (gVar 1) (gCons (gVar 2) gNil)))) (gCons (gCall 3 F_highs_of (gCons (gVar 0) (gCons (gVar 1) (gCons (gVar 2) gNil)))) gNil))) gNil))) sNext)) (sSeq (sRet (gB bTuple (gCons (gSl (gVar 1) (some (gC (.int 1))) none) gNil))) sNext))))
theorem p_point_by (M : Facts P w K mg base C) : Cal P w K mg base C 4 "point_by" 1 F_point_by := Cal.frame (cal_of ["zone", "fixed", "clock"] M.d_point_by (fnScope_by (by decide +kernel)) fun f cdv A outer s H E hr => (zCons (zSet (i := 1) (sLst (sCons (sGk rfl M.c_NOUGHT) sNil rfl)) nd_point_by rfl (by first | exact .inl rfl | exact .inr rfl)) (zCons (zFor (jRng2 rfl M.n_range (sCons sInt (sCons (sB cr_lenO ok_len rfl M.n_len (by rfl) (sCons (sV 0) sNil rfl)) sNil rfl) rfl)) (yName nd_point_by (i := 2) rfl (by first | exact .inl rfl | exact .inr rfl)) (zCons (zExpr (sM (k := 1) PySem.F.plainAttrs_list PySem.F.slot_list_append rfl mt_append ok_append (sV 1) (sCons (sCall (p_time_between M) hr (by decide) rfl bx_takes (sCons (sCall (p_lows_of M) hr (by decide) rfl bx_takes (sCons (sV 0) (sCons (sV 1) (sCons (sV 2) sNil rfl) rfl) rfl)) (sCons (sCall (p_highs_of M) hr (by decide) rfl bx_takes (sCons (sV 0) (sCons (sV 1) (sCons (sV 2) sNil rfl) rfl) rfl)) sNil rfl) rfl)) sNil rfl))) zNil) bx_passes rfl) (zCons (zRet (sTy call_tuple_of ok_tuple rfl M.n_tuple (by rfl) (sCons (sSl (sV 1) (oSome sInt) oNone) sNil rfl))) zNil))))
theorem nd_need_rows : (["rows", "clocks", "many", "number", "row", "place", "bound"] : List Str).Nodup := by decide
def F_need_rows : GF := frF (fOf 7 2 (sSeq (sPut 2 (g2 addO (gB bLen (gCons (gCall 1 F_need_clocks (gCons (gVar 1) gNil)) gNil)) (gC (.int 1)))) (sSeq (sIfS (gNotT (gTru (gCall 3 F_is_tuple_of (gCons (gVar 0) (gCons (gVar 2) (gCons (gVar 2) gNil)))))) (sSeq (sRaise 3 (gC .non)) sNext) sNext) (sSeq (sFor (iEnum (gCons (gVar 0) gNil)) (tTupT (tConsT (tName 3) (tConsT (tName 4) tNilT)) 2) (sSeq (sIfS (gNotT (gTru (gCall 3 F_is_tuple_of (gCons (gVar 4) (gCons (gVar 2) (gCons (gVar 2) gNil)))))) (sSeq (sRaise 3 (gVar 3)) sNext) sNext) (sSeq (sFor (iEnum (gCons (gVar 4) gNil)) (tTupT (tConsT (tName 5) (tConsT (tName 6) tNilT)) 2) (sSeq (sIfS (gNotT (gTru (gCall 1 F_is_bound (gCons (gVar 6) gNil)))) (sSeq (sRaise 3 (gTup (gCons (gVar 3) (gCons (gVar 5) gNil)))) sNext) sNext) sNext)) sNext))) (sSeq (sRet (gVar 0)) sNext)))))
theorem p_need_rows (M : Facts P w K mg base C) : Cal P w K mg base C 4 "need_rows" 2 F_need_rows := Cal.frame (cal_of ["rows", "clocks", "many", "number", "row", "place", "bound"] M.d_need_rows (fnScope_by (by decide +kernel)) fun f cdv A outer s H E hr => (zCons (zSet (i := 2) (sBin op_addO ok_addO (sB cr_lenO ok_len rfl M.n_len (by rfl) (sCons (sCall (p_need_clocks M) hr (by decide) rfl bx_takes (sCons (sV 1) sNil rfl)) sNil rfl)) sInt) nd_need_rows rfl (by first | exact .inl rfl | exact .inr rfl)) (zCons (zIf (sNotT (sTru (sCall (p_is_tuple_of M) hr (by decide) rfl bx_takes (sCons (sV 0) (sCons (sV 2) (sCons (sV 2) sNil rfl) rfl) rfl)) (fun _ => rfl))) (zCons (M.e_BadZone.raise hr (by decide) rfl rfl bx_takes sNon) zNil) zNil) (zCons (zFor (jEnum rfl M.n_enumerate (sCons (sV 0) sNil rfl)) (yTup rfl (n := 2) (yCons (yName nd_need_rows (i := 3) rfl (by first | exact .inl rfl | exact .inr rfl)) (yCons (yName nd_need_rows (i := 4) rfl (by first | exact .inl rfl | exact .inr rfl)) yNil))) (zCons (zIf (sNotT (sTru (sCall (p_is_tuple_of M) hr (by decide) rfl bx_takes (sCons (sV 4) (sCons (sV 2) (sCons (sV 2) sNil rfl) rfl) rfl)) (fun _ => rfl))) (zCons (M.e_BadZone.raise hr (by decide) rfl rfl bx_takes (sV 3)) zNil) zNil) (zCons (zFor (jEnum rfl M.n_enumerate (sCons (sV 4) sNil rfl)) (yTup rfl (n := 2) (yCons (yName nd_need_rows (i := 5) rfl (by first | exact .inl rfl | exact .inr rfl)) (yCons (yName nd_need_rows (i := 6) rfl (by first | exact .inl rfl | exact .inr rfl)) yNil))) (zCons (zIf (sNotT (sTru (sCall (p_is_bound M) hr (by decide) rfl bx_takes (sCons (sV 6) sNil rfl)) (fun _ => rfl))) (zCons (M.e_BadZone.raise hr (by decide) rfl rfl bx_takes (sTup (sCons (sV 3) (sCons (sV 5) sNil rfl) rfl))) zNil) zNil) zNil) bx_passes rfl) zNil)) bx_passes rfl) (zCons (zRet (sV 0)) zNil)))))
theorem nd_need_zone : (["zone", "clocks"] : List Str).Nodup := by decide
def F_need_zone : GF := frF (fOf 2 2 (sSeq (sDrop (gCall 2 F_need_rows (gCons (gVar 0) (gCons (gVar 1) gNil)))) (sSeq (sIfS (gBl (g2 (eqO2 true) (gCall 1 F_tight_by (gCons (gVar 0) gNil)) (gVar 0))) (sSeq (sRaise 3 (gC (.str [116, 105, 103, 104, 116]))) sNext) sNext) (sSeq (sRet (gVar 0)) sNext))))
theorem p_need_zone (M : Facts P w K mg base C) : Cal P w K mg base C 5 "need_zone" 2 F_need_zone := Cal.frame (cal_of ["zone", "clocks"] M.d_need_zone (fnScope_by (by decide +kernel)) fun f cdv A outer s H E hr => (zCons (zExpr (sCall (p_need_rows M) hr (by decide) rfl bx_takes (sCons (sV 0) (sCons (sV 1) sNil rfl) rfl))) (zCons (zIf (sCmpT (op_eqO2 (by exact hr.units) true) (ok_eqO2 true) (sCall (p_tight_by M) hr (by decide) rfl bx_takes (sCons (sV 0) sNil rfl)) (sV 0) rfl) (zCons (M.e_BadZone.raise hr (by decide) rfl rfl bx_takes (sStr (by rfl))) zNil) zNil) (zCons (zRet (sV 0)) zNil))))
theorem nd_point_of_zone : (["zone", "clocks"] : List Str).Nodup := by decide
def F_point_of_zone : GF := frF (fOf 2 2 (sSeq (sRet (gCall 1 F_point_by (gCons (gCall 2 F_need_zone (gCons (gVar 0) (gCons (gVar 1) gNil))) gNil))) sNext))
theorem p_point_of_zone (M : Facts P w K mg base C) : Cal P w K mg base C 6 "point_of_zone" 2 F_point_of_zone := Cal.frame (cal_of ["zone", "clocks"] M.d_point_of_zone (fnScope_by (by decide +kernel)) fun f cdv A outer s H E hr => (zCons (zRet (sCall (p_point_by M) hr (by decide) rfl bx_takes (sCons (sCall (p_need_zone M) hr (by decide) rfl bx_takes (sCons (sV 0) (sCons (sV 1) sNil rfl) rfl)) sNil rfl))) zNil))
theorem nd_zone_text : (["zone", "clocks"] : List Str).Nodup := by decide
def F_zone_text : GF := frF (fOf 2 2 (sSeq (sRet (gCall 2 F_zone_by_text (gCons (gVar 1) (gCons (gCall 2 F_need_zone (gCons (gVar 0) (gCons (gVar 1) gNil))) gNil)))) sNext))
theorem p_zone_text (M : Facts P w K mg base C) : Cal P w K mg base C 6 "zone_text" 2 F_zone_text := Cal.frame (cal_of ["zone", "clocks"] M.d_zone_text (fnScope_by (by decide +kernel)) fun f cdv A outer s H E hr => (zCons (zRet (sCall (p_zone_by_text M) hr (by decide) rfl bx_takes (sCons (sV 1) (sCons (sCall (p_need_zone M) hr (by decide) rfl bx_takes (sCons (sV 0) (sCons (sV 1) sNil rfl) rfl)) sNil rfl) rfl))) zNil))
theorem nd_small_by : (["zone", "row", "bound"] : List Str).Nodup := by decide
def F_small_by : GF := frF (fOf 3 1 (sSeq (sIfS (gAndT (gBl (g2 (isO true) (gVar 0) (gC .non))) (gNotT (gTru (gB bAll (gCons (gLc (iVal (gVar 0)) (tName 1) gYes (gB bAll (gCons (gLc (iVal (gVar 1)) (tName 2) (noE gYes) (noE (gCall 1 F_is_bound (gCons (gVar 2) gNil))) [2]) gNil)) [1]) gNil))))) (sSeq (sRaise 13 (gC c_MOST_BOUND)) sNext) sNext) (sSeq (sRet (gVar 0)) sNext)))
theorem p_small_by (M : Facts P w K mg base C) : Cal P w K mg base C 4 "small_by" 1 F_small_by := Cal.frame (cal_of ["zone", "row", "bound"] M.d_small_by (fnScope_by (by decide +kernel)) fun f cdv A outer s H E hr => (zCons (zIf (PW.pt (sAnd (sCmpT (op_isO true) (ok_isO true) (sV 0) sNon rfl) (sAnd1 (sNotT (sTru (sB (cr_all rfl) ok_all rfl M.n_all (by rfl) (sCons (sLc (own := [("row", 1)]) rfl rfl bx_takes rfl nd_small_by (jVal (sV 0)) (blkOk_by (by kernel_rfl)) (fun _ _ _ _ => (yNameV nd_small_by (i := 1) rfl (by first | exact .inl rfl | exact .inr rfl) (by first | exact .inl rfl | exact .inr rfl) (by decide))) (fun _ _ _ _ _ tk => tsNil) (fun _ _ _ _ _ tk => (sB (cr_all rfl) ok_all rfl M.n_all (by rfl) (sCons (sLc0 (own := [("bound", 2)]) rfl nd_small_by (jVal (sV 1)) (blkOk_by (by kernel_rfl)) (fun _ _ _ _ _ => (yNameV nd_small_by (i := 2) rfl (by first | exact .inl rfl | exact .inr rfl) (by first | exact .inl rfl | exact .inr rfl) (by decide))) (fun _ _ _ _ _ => tsNil) (fun _ _ _ _ _ => (sCall (p_is_bound M) hr (by decide) rfl LamX.takes0 (sCons (sV 2) sNil rfl)))) sNil rfl)))) sNil rfl)) (fun _ => rfl)))))) (zCons (M.e_TooMany.raise hr (by decide) rfl rfl bx_takes (sGk rfl M.c_MOST_BOUND)) zNil) zNil) (zCons (zRet (sV 0)) zNil)))
theorem nd_tight_zone : (["rows", "clocks"] : List Str).Nodup := by decide
def F_tight_zone : GF := frF (fOf 2 2 (sSeq (sDrop (gCall 2 F_need_rows (gCons (gVar 0) (gCons (gVar 1) gNil)))) (sSeq (sRet (gCall 1 F_small_by (gCons (gCall 1 F_tight_by (gCons (gVar 0) gNil)) gNil))) sNext)))
theorem p_tight_zone (M : Facts P w K mg base C) : Cal P w K mg base C 5 "tight_zone" 2 F_tight_zone := Cal.frame (cal_of ["rows", "clocks"] M.d_tight_zone (fnScope_by (by decide +kernel)) fun f cdv A outer s H E hr => (zCons (zExpr (sCall (p_need_rows M) hr (by decide) rfl bx_takes (sCons (sV 0) (sCons (sV 1) sNil rfl) rfl))) (zCons (zRet (sCall (p_small_by M) hr (by decide) rfl bx_takes (sCons (sCall (p_tight_by M) hr (by decide) rfl bx_takes (sCons (sV 0) sNil rfl)) sNil rfl))) zNil)))
def L10 : GS := (sIfS (gNotT (gTru (gCall 2 F__law_like_6 (gCons (gTup (gCons (gCall 2 F_tight_zone (gCons (gVar 6) (gCons (gTup (gCons (gC (.str [120])) gNil)) gNil))) (gCons (gCall 2 F_zone_text (gCons (gVar 6) (gCons (gTup (gCons (gC (.str [120])) gNil)) gNil))) (gCons (gCall 2 F_read_zone (gCons (gVar 7) (gCons (gTup (gCons (gC (.str [120])) gNil)) gNil))) (gCons (gCall 2 F_point_of_zone (gCons (gVar 6) (gCons (gTup (gCons (gC (.str [120])) gNil)) gNil))) gNil))))) (gCons (gTup (gCons (gVar 6) (gCons (gVar 7) (gCons (gVar 6) (gCons (gTup (gCons (gTup (gCons (gVar 5) (gCons (gC (.int 1)) gNil))) gNil)) gNil))))) gNil))))) (sSeq (sRet (gC (.bl false))) sNext) sNext)
def L9 : GS := (sPut 7 (g2 addO (g2 addO (g2 addO (gC (.str [45, 120, 32, 60, 61, 32, 45])) (gB bStr3 (gCons (gVar 5) gNil))) (gC (.str [44, 32, 120, 32, 60, 61, 32]))) (gB bStr3 (gCons (gVar 5) gNil))))
def L8 : GS := (sPut 6 (gTup (gCons (gTup (gCons (gTup (gCons (gC (.int 0)) (gCons (gC (.int 1)) gNil))) (gCons (gTup (gCons (gNeg (gVar 5)) (gCons (gC (.int 1)) gNil))) gNil))) (gCons (gTup (gCons (gTup (gCons (gVar 5) (gCons (gC (.int 1)) gNil))) (gCons (gTup (gCons (gC (.int 0)) (gCons (gC (.int 1)) gNil))) gNil))) gNil))))
def L7 : GS := (sPut 5 (g2 subO (gC (.int 1000)) (gCall 2 F__law_next (gCons (gVar 1) (gCons (gC (.int 9)) gNil)))))
theorem nd__law_tighter : (["one", "other"] : List Str).Nodup := by decide
def F__law_tighter : GF := frF (fOf 2 2 (sSeq (sRet (gIf (gBl (g2 (isO false) (gVar 0) (gC .non))) (gVar 1) (gIf (gOrT (gBl (g2 (isO false) (gVar 1) (gC .non))) (gBl (g2 (ltO .lt) (gVar 0) (gVar 1)))) (gVar 0) (gVar 1)))) sNext))
theorem p__law_tighter (M : Facts P w K mg base C) : Cal P w K mg base C 1 "_law_tighter" 2 F__law_tighter := Cal.frame (cal_of ["one", "other"] M.d__law_tighter (fnScope_by (by decide +kernel)) fun f cdv A outer s H E hr => (zCons (zRet (sIf (sCmpT (op_isO false) (ok_isO false) (sV 0) sNon rfl) (sV 1) (sIf (PW.pt (sOr (sCmpT (op_isO false) (ok_isO false) (sV 1) sNon rfl) (sOr1 (sCmpT (op_ltO (by exact hr.units0) .lt) (ok_ltO .lt) (sV 0) (sV 1) rfl)))) (sV 0) (sV 1)))) zNil))
theorem nd__law_bound_sum : (["one", "other"] : List Str).Nodup := by decide
def F__law_bound_sum : GF := frF (fOf 2 2 (sSeq (sRet (gIf (gOrT (gBl (g2 (isO false) (gVar 0) (gC .non))) (gBl (g2 (isO false) (gVar 1) (gC .non)))) (gC .non) (gTup (gCons (g2 addO (g2 ixO (gVar 0) (gC (.int 0))) (g2 ixO (gVar 1) (gC (.int 0)))) (gCons (gB bMin2 (gCons (g2 ixO (gVar 0) (gC (.int 1))) (gCons (g2 ixO (gVar 1) (gC (.int 1))) gNil))) gNil))))) sNext))
theorem p__law_bound_sum (M : Facts P w K mg base C) : Cal P w K mg base C 1 "_law_bound_sum" 2 F__law_bound_sum := Cal.frame (cal_of ["one", "other"] M.d__law_bound_sum (fnScope_by (by decide +kernel)) fun f cdv A outer s H E hr => (zCons (zRet (sIf (PW.pt (sOr (sCmpT (op_isO false) (ok_isO false) (sV 0) sNon rfl) (sOr1 (sCmpT (op_isO false) (ok_isO false) (sV 1) sNon rfl)))) sNon (sTup (sCons (sBin op_addO ok_addO (sIx (by exact hr.ix) (sV 0) sInt (fun _ _ => rfl)) (sIx (by exact hr.ix) (sV 1) sInt (fun _ _ => rfl))) (sCons (sB (call_min2 rfl) ok_min2 rfl M.n_min (by rfl) (sCons (sIx (by exact hr.ix) (sV 0) sInt (fun _ _ => rfl)) (sCons (sIx (by exact hr.ix) (sV 1) sInt (fun _ _ => rfl)) sNil rfl) rfl)) sNil rfl) rfl)))) zNil))
end G
set_option Elab.async false
set_option linter.all false
set_option maxRecDepth 100000
set_option maxHeartbeats 2000000
namespace G
open PySem PySem.Spec L2 Ev

variable {P : Program} {w : World} {K : PySem.W.Frag} {mg : Str → Option Value} {base : Heap} {C : Ev.Cls}
theorem nd__law_above : (["rows", "found", "one", "row", "other", "bound"] : List Str).Nodup := by decide
def F__law_above : GF := frF (fOf 6 1 (sSeq (sPut 1 (gLst gNil)) (sSeq (sFor (iEnum (gCons (gVar 0) gNil)) (tTupT (tConsT (tName 2) (tConsT (tName 3) tNilT)) 2) (sSeq (sDrop (gM 1 mAppend (gVar 1) (gCons (gLc (iEnum (gCons (gVar 3) gNil)) (tTupT (tConsT (tName 4) (tConsT (tName 5) tNilT)) 2) gYes (gIf (gOrT (gBl (g2 (eqO2 false) (gVar 2) (gC (.int 0)))) (gBl (g2 (eqO2 false) (gVar 2) (gVar 4)))) (gCall 2 F__law_tighter (gCons (gVar 5) (gCons (gTup (gCons (gC (.int 0)) (gCons (gC (.int 1)) gNil))) gNil))) (gVar 5)) [4, 5]) gNil))) sNext)) (sSeq (sRet (gVar 1)) sNext))))
theorem p__law_above (M : Facts P w K mg base C) : Cal P w K mg base C 2 "_law_above" 1 F__law_above := Cal.frame (cal_of ["rows", "found", "one", "row", "other", "bound"] M.d__law_above (fnScope_by (by decide +kernel)) fun f cdv A outer s H E hr => (zCons (zSet (i := 1) (sLst sNil) nd__law_above rfl (by first | exact .inl rfl | exact .inr rfl)) (zCons (zFor (jEnum rfl M.n_enumerate (sCons (sV 0) sNil rfl)) (yTup rfl (n := 2) (yCons (yName nd__law_above (i := 2) rfl (by first | exact .inl rfl | exact .inr rfl)) (yCons (yName nd__law_above (i := 3) rfl (by first | exact .inl rfl | exact .inr rfl)) yNil))) (zCons (zExpr (sM (k := 1) PySem.F.plainAttrs_list PySem.F.slot_list_append rfl mt_append ok_append (sV 1) (sCons (sLc (own := [("other", 4), ("bound", 5)]) rfl rfl bx_takes rfl nd__law_above (jEnum rfl M.n_enumerate (sCons (sV 3) sNil rfl)) (blkOk_by (by kernel_rfl)) (fun _ _ _ _ => (yTupV rfl (n := 2) (yConsV (yNameV nd__law_above (i := 4) rfl (by first | exact .inl rfl | exact .inr rfl) (by first | exact .inl rfl | exact .inr rfl) (by decide)) (yConsV (yNameV nd__law_above (i := 5) rfl (by first | exact .inl rfl | exact .inr rfl) (by first | exact .inl rfl | exact .inr rfl) (by decide)) yNilV)))) (fun _ _ _ _ _ tk => tsNil) (fun _ _ _ _ _ tk => (sIf (PW.pt (sOr (sCmpT (op_eqO2 (by exact hr.units) false) (ok_eqO2 false) (sV 2) sInt rfl) (sOr1 (sCmpT (op_eqO2 (by exact hr.units) false) (ok_eqO2 false) (sV 2) (sV 4) rfl)))) (sCall (p__law_tighter M) hr (by decide) rfl tk (sCons (sV 5) (sCons (sTup (sCons sInt (sCons sInt sNil rfl) rfl)) sNil rfl) rfl)) (sV 5)))) sNil rfl))) zNil) bx_passes rfl) (zCons (zRet (sV 1)) zNil))))
theorem nd__law_tight : (["rows", "least", "lap", "found", "many", "one", "other", "row", "middle", "number"] : List Str).Nodup := by decide
def F__law_tight : GF := frF (fOf 10 1 (sSeq (sPut 1 (gCall 1 F__law_above (gCons (gVar 0) gNil))) (sSeq (sAsg (gTup (gCons (gLc (iVal (gVar 1)) (tName 7) gYes (gB bList (gCons (gVar 7) gNil)) [7]) (gCons (gB bLen (gCons (gVar 0) gNil)) gNil))) (tTupT (tConsT (tName 3) (tConsT (tName 4) tNilT)) 2)) (sSeq (sFor (iRng1 (gCons (gVar 4) gNil)) (tName 2) (sSeq (sFor (iRng1 (gCons (gVar 4) gNil)) (tName 5) (sSeq (sFor (iRng1 (gCons (gVar 4) gNil)) (tName 6) (sSeq (sFor (iRng1 (gCons (gVar 4) gNil)) (tName 8) (sSeq (sAsg (gCall 2 F__law_tighter (gCons (gCall 2 F__law_bound_sum (gCons (g2 ixO (g2 ixO (gVar 3) (gVar 5)) (gVar 8)) (gCons (g2 ixO (g2 ixO (gVar 1) (gVar 8)) (gVar 6)) gNil))) (gCons (g2 ixO (g2 ixO (gVar 3) (gVar 5)) (gVar 6)) gNil))) (tSubT (g2 ixO (gVar 3) (gVar 5)) (gVar 6))) sNext)) sNext)) sNext)) sNext)) (sSeq (sIfS (gBl (g2 (eqO2 true) (gLc (iRng1 (gCons (gVar 4) gNil)) (tName 9) (gBl (g2 (ltO .lt) (g2 ixO (g2 ixO (gVar 3) (gVar 9)) (gVar 9)) (gTup (gCons (gC (.int 0)) (gCons (gC (.int 1)) gNil))))) (gC (.int 1)) [9]) (gLst gNil))) (sSeq (sRet (gC .non)) sNext) sNext) (sSeq (sRet (gB bTuple (gCons (gLc (iVal (gVar 3)) (tName 7) gYes (gB bTuple (gCons (gVar 7) gNil)) [7]) gNil))) sNext))))))
theorem p__law_tight (M : Facts P w K mg base C) : Cal P w K mg base C 3 "_law_tight" 1 F__law_tight := Cal.frame (cal_of ["rows", "least", "lap", "found", "many", "one", "other", "row", "middle", "number"] M.d__law_tight (fnScope_by (by decide +kernel)) fun f cdv A outer s H E hr => (zCons (zSet (i := 1) (sCall (p__law_above M) hr (by decide) rfl bx_takes (sCons (sV 0) sNil rfl)) nd__law_tight rfl (by first | exact .inl rfl | exact .inr rfl)) (zCons (zAsg (sTup (sCons (sLc (own := [("row", 7)]) rfl rfl bx_takes rfl nd__law_tight (jVal (sV 1)) (blkOk_by (by kernel_rfl)) (fun _ _ _ _ => (yNameV nd__law_tight (i := 7) rfl (by first | exact .inl rfl | exact .inr rfl) (by first | exact .inl rfl | exact .inr rfl) (by decide))) (fun _ _ _ _ _ tk => tsNil) (fun _ _ _ _ _ tk => (sTy call_list_of ok_list rfl M.n_list (by rfl) (sCons (sV 7) sNil rfl)))) (sCons (sB cr_lenO ok_len rfl M.n_len (by rfl) (sCons (sV 0) sNil rfl)) sNil rfl) rfl)) (yTup rfl (n := 2) (yCons (yName nd__law_tight (i := 3) rfl (by first | exact .inl rfl | exact .inr rfl)) (yCons (yName nd__law_tight (i := 4) rfl (by first | exact .inl rfl | exact .inr rfl)) yNil)))) (zCons (zFor (jRng1 rfl M.n_range (sCons (sV 4) sNil rfl)) (yName nd__law_tight (i := 2) rfl (by first | exact .inl rfl | exact .inr rfl)) (zCons (zFor (jRng1 rfl M.n_range (sCons (sV 4) sNil rfl)) (yName nd__law_tight (i := 5) rfl (by first | exact .inl rfl | exact .inr rfl)) (zCons (zFor (jRng1 rfl M.n_range (sCons (sV 4) sNil rfl)) (yName nd__law_tight (i := 6) rfl (by first | exact .inl rfl | exact .inr rfl)) (zCons (zFor (jRng1 rfl M.n_range (sCons (sV 4) sNil rfl)) (yName nd__law_tight (i := 8) rfl (by first | exact .inl rfl | exact .inr rfl)) (zCons (zAsg (sCall (p__law_tighter M) hr (by decide) rfl bx_takes (sCons (sCall (p__law_bound_sum M) hr (by decide) rfl bx_takes (sCons (sIx (by exact hr.ix) (sIx (by exact hr.ix) (sV 3) (sV 5) (fun _ _ => rfl)) (sV 8) (fun _ _ => rfl)) (sCons (sIx (by exact hr.ix) (sIx (by exact hr.ix) (sV 1) (sV 8) (fun _ _ => rfl)) (sV 6) (fun _ _ => rfl)) sNil rfl) rfl)) (sCons (sIx (by exact hr.ix) (sIx (by exact hr.ix) (sV 3) (sV 5) (fun _ _ => rfl)) (sV 6) (fun _ _ => rfl)) sNil rfl) rfl)) (ySub (W := W0) (by exact hr.ix) (sIx (by exact hr.ix) (sV 3) (sV 5) (fun _ _ => rfl)) (sV 6))) zNil) bx_passes rfl) zNil) bx_passes rfl) zNil) bx_passes rfl) zNil) bx_passes rfl) (zCons (zIf (sCmpT (op_eqO2 (by exact hr.units) true) (ok_eqO2 true) (sLc (own := [("number", 9)]) rfl rfl bx_takes rfl nd__law_tight (jRng1 rfl M.n_range (sCons (sV 4) sNil rfl)) (blkOk_by (by kernel_rfl)) (fun _ _ _ _ => (yNameV nd__law_tight (i := 9) rfl (by first | exact .inl rfl | exact .inr rfl) (by first | exact .inl rfl | exact .inr rfl) (by decide))) (fun _ _ _ _ _ tk => (tsOne (sCmpT (op_ltO (by exact hr.units0) .lt) (ok_ltO .lt) (sIx (by exact hr.ix) (sIx (by exact hr.ix) (sV 3) (sV 9) (fun _ _ => rfl)) (sV 9) (fun _ _ => rfl)) (sTup (sCons sInt (sCons sInt sNil rfl) rfl)) rfl))) (fun _ _ _ _ _ tk => sInt)) (sLst sNil) rfl) (zCons (zRet sNon) zNil) zNil) (zCons (zRet (sTy call_tuple_of ok_tuple rfl M.n_tuple (by rfl) (sCons (sLc (own := [("row", 7)]) rfl rfl bx_takes rfl nd__law_tight (jVal (sV 3)) (blkOk_by (by kernel_rfl)) (fun _ _ _ _ => (yNameV nd__law_tight (i := 7) rfl (by first | exact .inl rfl | exact .inr rfl) (by first | exact .inl rfl | exact .inr rfl) (by decide))) (fun _ _ _ _ _ tk => tsNil) (fun _ _ _ _ _ tk => (sTy call_tuple_of ok_tuple rfl M.n_tuple (by rfl) (sCons (sV 7) sNil rfl)))) sNil rfl))) zNil))))))
theorem nd_round_from : (["rows", "start", "many", "lap", "best", "ways", "one", "longer", "roads", "other", "found"] : List Str).Nodup := by decide
def F_round_from : GF := frF (fOf 11 2 (sSeq (sPut 2 (gB bLen (gCons (gVar 0) gNil))) (sSeq (sPar 4 5 (gCons (gDict (((gVar 1), (gC c_EVEN)) :: [])) (gCons (gDict (((gVar 1), (gTup (gCons (gVar 1) gNil))) :: [])) gNil))) (sSeq (sFor (iRng1 (gCons (gVar 2) gNil)) (tName 3) (sSeq (sPar 7 8 (gCons gDict0 (gCons gDict0 gNil))) (sSeq (sFor (iVal gBad) (tName 6) (sSeq (sFor (iRng1 (gCons (gVar 2) gNil)) (tName 9) (sSeq (sPut 10 (gCall 2 F_sum_of_bounds (gCons (g2 ixO (gVar 4) (gVar 6)) (gCons (g2 ixO (g2 ixO (gVar 0) (gVar 6)) (gVar 9)) gNil)))) (sSeq (sIfS (gAndT (gBl (g2 (isO true) (gVar 10) (gC .non))) (gOrT (gBl (g2 (inO true) (gVar 9) (gVar 7))) (gBl (g2 (ltO .lt) (gVar 10) (g2 ixO (gVar 7) (gVar 9)))))) (sSeq (sAsg (gTup (gCons (gVar 10) (gCons (g2 addO (g2 ixO (gVar 5) (gVar 6)) (gTup (gCons (gVar 9) gNil))) gNil))) (tTupT (tConsT (tSubT (gVar 7) (gVar 9)) (tConsT (tSubT (gVar 8) (gVar 9)) tNilT)) 2)) sNext) sNext) sNext))) sNext)) (sSeq (sIfS (gAndT (gBl (g2 (inO false) (gVar 1) (gVar 7))) (gBl (g2 (ltO .lt) (g2 ixO (gVar 7) (gVar 1)) (gC c_EVEN)))) (sSeq (sRet (g2 ixO (gVar 8) (gVar 1))) sNext) sNext) (sSeq (sPar 4 5 (gCons (gVar 7) (gCons (gVar 8) gNil))) sNext))))) (sSeq (sRet (gC .non)) sNext)))))
theorem p_round_from (M : Facts P w K mg base C) : Cal P w K mg base C 2 "round_from" 2 F_round_from := Cal.frame (cal_of ["rows", "start", "many", "lap", "best", "ways", "one", "longer", "roads", "other", "found"] M.d_round_from (fnScope_by (by decide +kernel)) fun f cdv A outer s H E hr => (zCons (zSet (i := 2) (sB cr_lenO ok_len rfl M.n_len (by rfl) (sCons (sV 0) sNil rfl)) nd_round_from rfl (by first | exact .inl rfl | exact .inr rfl)) (zCons (zPar (i := 4) (j := 5) (sCons (sDict (ps := (((gVar 1), (gC c_EVEN)) :: [])) (ppCons (gk := (gVar 1)) (gv := (gC c_EVEN)) (ps := []) (sV 1) (sGk rfl M.c_EVEN) ppNil) rfl rfl (by simp) (by decide)) (sCons (sDict (ps := (((gVar 1), (gTup (gCons (gVar 1) gNil))) :: [])) (ppCons (gk := (gVar 1)) (gv := (gTup (gCons (gVar 1) gNil))) (ps := []) (sV 1) (sTup (sCons (sV 1) sNil rfl)) ppNil) rfl rfl (by simp) (by decide)) sNil rfl) rfl) rfl nd_round_from rfl rfl (by decide) rfl rfl (by rfl)) (zCons (zFor (jRng1 rfl M.n_range (sCons (sV 2) sNil rfl)) (yName nd_round_from (i := 3) rfl (by first | exact .inl rfl | exact .inr rfl)) (zCons (zPar (i := 7) (j := 8) (sCons sDict0 (sCons sDict0 sNil rfl) rfl) rfl nd_round_from rfl rfl (by decide) rfl rfl (by rfl)) (zCons (zFor (jVal eBad) (yName nd_round_from (i := 6) rfl (by first | exact .inl rfl | exact .inr rfl)) (zCons (zFor (jRng1 rfl M.n_range (sCons (sV 2) sNil rfl)) (yName nd_round_from (i := 9) rfl (by first | exact .inl rfl | exact .inr rfl)) (zCons (zSet (i := 10) (sCall (p_sum_of_bounds M) hr (by decide) rfl bx_takes (sCons (sIx (by exact hr.ix) (sV 4) (sV 6) (fun _ _ => rfl)) (sCons (sIx (by exact hr.ix) (sIx (by exact hr.ix) (sV 0) (sV 6) (fun _ _ => rfl)) (sV 9) (fun _ _ => rfl)) sNil rfl) rfl)) nd_round_from rfl (by first | exact .inl rfl | exact .inr rfl)) (zCons (zIf (PW.pt (sAnd (sCmpT (op_isO true) (ok_isO true) (sV 10) sNon rfl) (sAnd1 (PW.pt (sOr (sCmpT (op_inO (by exact hr.ix) true) (ok_inO true) (sV 9) (sV 7) rfl) (sOr1 (sCmpT (op_ltO (by exact hr.units0) .lt) (ok_ltO .lt) (sV 10) (sIx (by exact hr.ix) (sV 7) (sV 9) (fun _ _ => rfl)) rfl))))))) (zCons (zAsg (sTup (sCons (sV 10) (sCons (sBin op_addO ok_addO (sIx (by exact hr.ix) (sV 5) (sV 6) (fun _ _ => rfl)) (sTup (sCons (sV 9) sNil rfl))) sNil rfl) rfl)) (yTup rfl (n := 2) (yCons (ySub (W := W0) (by exact hr.ix) (sV 7) (sV 9)) (yCons (ySub (W := W0) (by exact hr.ix) (sV 8) (sV 9)) yNil)))) zNil) zNil) zNil)) bx_passes rfl) zNil) bx_passes rfl) (zCons (zIf (PW.pt (sAnd (sCmpT (op_inO (by exact hr.ix) false) (ok_inO false) (sV 1) (sV 7) rfl) (sAnd1 (sCmpT (op_ltO (by exact hr.units0) .lt) (ok_ltO .lt) (sIx (by exact hr.ix) (sV 7) (sV 1) (fun _ _ => rfl)) (sGk rfl M.c_EVEN) rfl)))) (zCons (zRet (sIx (by exact hr.ix) (sV 8) (sV 1) (fun _ _ => rfl))) zNil) zNil) (zCons (zPar (i := 4) (j := 5) (sCons (sV 7) (sCons (sV 8) sNil rfl) rfl) rfl nd_round_from rfl rfl (by decide) rfl rfl (by rfl)) zNil)))) bx_passes rfl) (zCons (zRet sNon) zNil)))))
theorem nd_round_by : (["rows", "many", "whole", "found", "start", "way"] : List Str).Nodup := by decide
def F_round_by : GF := frF (fOf 6 1 (sSeq (sPut 1 (gB bLen (gCons (gVar 0) gNil))) (sSeq (sPut 2 (gCall 1 F_rows_above_nought (gCons (gVar 0) gNil))) (sSeq (sPut 3 (gLc (iRng1 (gCons (gVar 1) gNil)) (tName 4) gYes (gCall 2 F_round_from (gCons (gVar 2) (gCons (gVar 4) gNil))) [4])) (sSeq (sRet (g2 ixO (gLc (iVal (gVar 3)) (tName 5) (gBl (g2 (isO true) (gVar 5) (gC .non))) (gVar 5) [5]) (gC (.int 0)))) sNext)))))
theorem p_round_by (M : Facts P w K mg base C) : Cal P w K mg base C 4 "round_by" 1 F_round_by := Cal.frame (cal_of ["rows", "many", "whole", "found", "start", "way"] M.d_round_by (fnScope_by (by decide +kernel)) fun f cdv A outer s H E hr => (zCons (zSet (i := 1) (sB cr_lenO ok_len rfl M.n_len (by rfl) (sCons (sV 0) sNil rfl)) nd_round_by rfl (by first | exact .inl rfl | exact .inr rfl)) (zCons (zSet (i := 2) (sCall (p_rows_above_nought M) hr (by decide) rfl bx_takes (sCons (sV 0) sNil rfl)) nd_round_by rfl (by first | exact .inl rfl | exact .inr rfl)) (zCons (by first | exact zSetLc (i := 3) (own := [("start", 4)]) rfl rfl bx_takes rfl nd_round_by rfl rfl (by rfl) (jRng1 rfl M.n_range (sCons (sV 1) sNil rfl)) (blkOk_by (by kernel_rfl)) (fun _ _ _ _ => (yNameV nd_round_by (i := 4) rfl (by first | exact .inl rfl | exact .inr rfl) (by first | exact .inl rfl | exact .inr rfl) (by decide))) (fun _ _ _ _ _ tk => tsNil) (fun _ _ _ _ _ tk => (sCall (p_round_from M) hr (by decide) rfl tk (sCons (sV 2) (sCons (sV 4) sNil rfl) rfl))) | exact zSet (i := 3) (sLc (own := [("start", 4)]) rfl rfl bx_takes rfl nd_round_by (jRng1 rfl M.n_range (sCons (sV 1) sNil rfl)) (blkOk_by (by kernel_rfl)) (fun _ _ _ _ => (yNameV nd_round_by (i := 4) rfl (by first | exact .inl rfl | exact .inr rfl) (by first | exact .inl rfl | exact .inr rfl) (by decide))) (fun _ _ _ _ _ tk => tsNil) (fun _ _ _ _ _ tk => (sCall (p_round_from M) hr (by decide) rfl tk (sCons (sV 2) (sCons (sV 4) sNil rfl) rfl)))) nd_round_by rfl (by first | exact .inl rfl | exact .inr rfl)) (zCons (zRet (sIx (by exact hr.ix) (sLc (own := [("way", 5)]) rfl rfl bx_takes rfl nd_round_by (jVal (sV 3)) (blkOk_by (by kernel_rfl)) (fun _ _ _ _ => (yNameV nd_round_by (i := 5) rfl (by first | exact .inl rfl | exact .inr rfl) (by first | exact .inl rfl | exact .inr rfl) (by decide))) (fun _ _ _ _ _ tk => (tsOne (sCmpT (op_isO true) (ok_isO true) (sV 5) sNon rfl))) (fun _ _ _ _ _ tk => (sV 5))) sInt (fun _ _ => rfl))) zNil)))))
theorem nd_zone_paper : (["rows", "clocks", "zone"] : List Str).Nodup := by decide
def F_zone_paper : GF := frF (fOf 3 2 (sSeq (sPut 2 (gCall 1 F_tight_by (gCons (gCall 2 F_need_rows (gCons (gVar 0) (gCons (gVar 1) gNil))) gNil))) (sSeq (sRet (gIf (gBl (g2 (isO true) (gVar 2) (gC .non))) (gTup (gCons (gC (.str [112, 111, 105, 110, 116])) (gCons (gCall 1 F_point_by (gCons (gVar 2) gNil)) gNil))) (gTup (gCons (gC (.str [114, 111, 117, 110, 100])) (gCons (gCall 1 F_round_by (gCons (gVar 0) gNil)) gNil))))) sNext)))
theorem p_zone_paper (M : Facts P w K mg base C) : Cal P w K mg base C 5 "zone_paper" 2 F_zone_paper := Cal.frame (cal_of ["rows", "clocks", "zone"] M.d_zone_paper (fnScope_by (by decide +kernel)) fun f cdv A outer s H E hr => (zCons (zSet (i := 2) (sCall (p_tight_by M) hr (by decide) rfl bx_takes (sCons (sCall (p_need_rows M) hr (by decide) rfl bx_takes (sCons (sV 0) (sCons (sV 1) sNil rfl) rfl)) sNil rfl)) nd_zone_paper rfl (by first | exact .inl rfl | exact .inr rfl)) (zCons (zRet (sIf (sCmpT (op_isO true) (ok_isO true) (sV 2) sNon rfl) (sTup (sCons (sStr (by rfl)) (sCons (sCall (p_point_by M) hr (by decide) rfl bx_takes (sCons (sV 2) sNil rfl)) sNil rfl) rfl)) (sTup (sCons (sStr (by rfl)) (sCons (sCall (p_round_by M) hr (by decide) rfl bx_takes (sCons (sV 0) sNil rfl)) sNil rfl) rfl)))) zNil)))
theorem nd_is_point : (["clocks", "thing", "time"] : List Str).Nodup := by decide
def F_is_point : GF := frF (fOf 3 2 (sSeq (sRet (gAndV (gCall 3 F_is_tuple_of (gCons (gVar 1) (gCons (gB bLen (gCons (gVar 0) gNil)) (gCons (gB bLen (gCons (gVar 0) gNil)) gNil)))) (gB bAll (gCons (gLc (iVal (gVar 1)) (tName 2) gYes (gCall 1 F_is_time (gCons (gVar 2) gNil)) [2]) gNil)))) sNext))
theorem p_is_point (M : Facts P w K mg base C) : Cal P w K mg base C 4 "is_point" 2 F_is_point := Cal.frame (cal_of ["clocks", "thing", "time"] M.d_is_point (fnScope_by (by decide +kernel)) fun f cdv A outer s H E hr => (zCons (zRet (sAndV (sCall (p_is_tuple_of M) hr (by decide) rfl bx_takes (sCons (sV 1) (sCons (sB cr_lenO ok_len rfl M.n_len (by rfl) (sCons (sV 0) sNil rfl)) (sCons (sB cr_lenO ok_len rfl M.n_len (by rfl) (sCons (sV 0) sNil rfl)) sNil rfl) rfl) rfl)) (sOneV (sB (cr_all rfl) ok_all rfl M.n_all (by rfl) (sCons (sLc (own := [("time", 2)]) rfl rfl bx_takes rfl nd_is_point (jVal (sV 1)) (blkOk_by (by kernel_rfl)) (fun _ _ _ _ => (yNameV nd_is_point (i := 2) rfl (by first | exact .inl rfl | exact .inr rfl) (by first | exact .inl rfl | exact .inr rfl) (by decide))) (fun _ _ _ _ _ tk => tsNil) (fun _ _ _ _ _ tk => (sCall (p_is_time M) hr (by decide) rfl tk (sCons (sV 2) sNil rfl)))) sNil rfl))))) zNil))
theorem nd_is_within_bound : (["bound", "one", "other", "gap", "most"] : List Str).Nodup := by decide
def F_is_within_bound : GF := frF (fOf 5 3 (sSeq (sIfS (gBl (g2 (isO false) (gVar 0) (gC .non))) (sSeq (sRet (gC (.bl true))) sNext) sNext) (sSeq (sPar 3 4 (gCons (gCall 2 F_minus (gCons (gVar 1) (gCons (gVar 2) gNil))) (gCons (gCall 1 F_whole_time (gCons (g2 ixO (gVar 0) (gC (.int 0))) gNil)) gNil))) (sSeq (sRet (gOrV (gCall 2 F_is_below (gCons (gVar 3) (gCons (gVar 4) gNil))) (gAndV (g2 (eqO2 false) (g2 ixO (gVar 0) (gC (.int 1))) (gC (.int 1))) (g2 (eqO2 false) (gVar 3) (gVar 4))))) sNext))))
theorem p_is_within_bound (M : Facts P w K mg base C) : Cal P w K mg base C 3 "is_within_bound" 3 F_is_within_bound := Cal.frame (cal_of ["bound", "one", "other", "gap", "most"] M.d_is_within_bound (fnScope_by (by decide +kernel)) fun f cdv A outer s H E hr => (zCons (zIf (sCmpT (op_isO false) (ok_isO false) (sV 0) sNon rfl) (zCons (zRet sBl) zNil) zNil) (zCons (zPar (i := 3) (j := 4) (sCons (sCall (p_minus M) hr (by decide) rfl bx_takes (sCons (sV 1) (sCons (sV 2) sNil rfl) rfl)) (sCons (sCall (p_whole_time M) hr (by decide) rfl bx_takes (sCons (sIx (by exact hr.ix) (sV 0) sInt (fun _ _ => rfl)) sNil rfl)) sNil rfl) rfl) rfl nd_is_within_bound rfl rfl (by decide) rfl rfl (by rfl)) (zCons (zRet (sOrV (sCall (p_is_below M) hr (by decide) rfl bx_takes (sCons (sV 3) (sCons (sV 4) sNil rfl) rfl)) (sOneV (sAndV (sCmp (op_eqO2 (by exact hr.units) false) (ok_eqO2 false) (sIx (by exact hr.ix) (sV 0) sInt (fun _ _ => rfl)) sInt rfl) (sOneV (sCmp (op_eqO2 (by exact hr.units) false) (ok_eqO2 false) (sV 3) (sV 4) rfl)))))) zNil))))
theorem nd_is_in_rows : (["rows", "point", "whole", "one", "row", "other", "bound"] : List Str).Nodup := by decide
def F_is_in_rows : GF := frF (fOf 7 2 (sSeq (sPut 2 (g2 addO (gTup (gCons (gC c_NOUGHT) gNil)) (gVar 1))) (sSeq (sFor (iEnum (gCons (gVar 0) gNil)) (tTupT (tConsT (tName 3) (tConsT (tName 4) tNilT)) 2) (sSeq (sFor (iEnum (gCons (gVar 4) gNil)) (tTupT (tConsT (tName 5) (tConsT (tName 6) tNilT)) 2) (sSeq (sIfS (gNotT (gTru (gCall 3 F_is_within_bound (gCons (gVar 6) (gCons (g2 ixO (gVar 2) (gVar 3)) (gCons (g2 ixO (gVar 2) (gVar 5)) gNil)))))) (sSeq (sRet (gC (.bl false))) sNext) sNext) sNext)) sNext)) (sSeq (sRet (gC (.bl true))) sNext))))
theorem p_is_in_rows (M : Facts P w K mg base C) : Cal P w K mg base C 4 "is_in_rows" 2 F_is_in_rows := Cal.frame (cal_of ["rows", "point", "whole", "one", "row", "other", "bound"] M.d_is_in_rows (fnScope_by (by decide +kernel)) fun f cdv A outer s H E hr => (zCons (zSet (i := 2) (sBin op_addO ok_addO (sTup (sCons (sGk rfl M.c_NOUGHT) sNil rfl)) (sV 1)) nd_is_in_rows rfl (by first | exact .inl rfl | exact .inr rfl)) (zCons (zFor (jEnum rfl M.n_enumerate (sCons (sV 0) sNil rfl)) (yTup rfl (n := 2) (yCons (yName nd_is_in_rows (i := 3) rfl (by first | exact .inl rfl | exact .inr rfl)) (yCons (yName nd_is_in_rows (i := 4) rfl (by first | exact .inl rfl | exact .inr rfl)) yNil))) (zCons (zFor (jEnum rfl M.n_enumerate (sCons (sV 4) sNil rfl)) (yTup rfl (n := 2) (yCons (yName nd_is_in_rows (i := 5) rfl (by first | exact .inl rfl | exact .inr rfl)) (yCons (yName nd_is_in_rows (i := 6) rfl (by first | exact .inl rfl | exact .inr rfl)) yNil))) (zCons (zIf (sNotT (sTru (sCall (p_is_within_bound M) hr (by decide) rfl bx_takes (sCons (sV 6) (sCons (sIx (by exact hr.ix) (sV 2) (sV 3) (fun _ _ => rfl)) (sCons (sIx (by exact hr.ix) (sV 2) (sV 5) (fun _ _ => rfl)) sNil rfl) rfl) rfl)) (fun _ => rfl))) (zCons (zRet sBl) zNil) zNil) zNil) bx_passes rfl) zNil) bx_passes rfl) (zCons (zRet sBl) zNil))))
theorem nd_sum_of_round : (["rows", "way", "least", "found", "one", "other"] : List Str).Nodup := by decide
def F_sum_of_round : GF := frF (fOf 6 2 (sSeq (sPar 2 3 (gCons (gCall 1 F_all_rows (gCons (gB bLen (gCons (gVar 0) gNil)) gNil)) (gCons (gC c_EVEN) gNil))) (sSeq (sFor (iZip (gCons (gVar 1) (gCons (gSl (gVar 1) (some (gC (.int 1))) none) gNil))) (tTupT (tConsT (tName 4) (tConsT (tName 5) tNilT)) 2) (sSeq (sPut 3 (gCall 2 F_sum_of_bounds (gCons (gVar 3) (gCons (gCall 2 F_tighter_of (gCons (g2 ixO (g2 ixO (gVar 0) (gVar 4)) (gVar 5)) (gCons (g2 ixO (g2 ixO (gVar 2) (gVar 4)) (gVar 5)) gNil))) gNil)))) sNext)) (sSeq (sRet (gVar 3)) sNext))))
theorem p_sum_of_round (M : Facts P w K mg base C) : Cal P w K mg base C 3 "sum_of_round" 2 F_sum_of_round := Cal.frame (cal_of ["rows", "way", "least", "found", "one", "other"] M.d_sum_of_round (fnScope_by (by decide +kernel)) fun f cdv A outer s H E hr => (zCons (zPar (i := 2) (j := 3) (sCons (sCall (p_all_rows M) hr (by decide) rfl bx_takes (sCons (sB cr_lenO ok_len rfl M.n_len (by rfl) (sCons (sV 0) sNil rfl)) sNil rfl)) (sCons (sGk rfl M.c_EVEN) sNil rfl) rfl) rfl nd_sum_of_round rfl rfl (by decide) rfl rfl (by rfl)) (zCons (zFor (jZip rfl M.n_zip (sCons (sV 1) (sCons (sSl (sV 1) (oSome sInt) oNone) sNil rfl) rfl)) (yTup rfl (n := 2) (yCons (yName nd_sum_of_round (i := 4) rfl (by first | exact .inl rfl | exact .inr rfl)) (yCons (yName nd_sum_of_round (i := 5) rfl (by first | exact .inl rfl | exact .inr rfl)) yNil))) (zCons (zSet (i := 3) (sCall (p_sum_of_bounds M) hr (by decide) rfl bx_takes (sCons (sV 3) (sCons (sCall (p_tighter_of M) hr (by decide) rfl bx_takes (sCons (sIx (by exact hr.ix) (sIx (by exact hr.ix) (sV 0) (sV 4) (fun _ _ => rfl)) (sV 5) (fun _ _ => rfl)) (sCons (sIx (by exact hr.ix) (sIx (by exact hr.ix) (sV 2) (sV 4) (fun _ _ => rfl)) (sV 5) (fun _ _ => rfl)) sNil rfl) rfl)) sNil rfl) rfl)) nd_sum_of_round rfl (by first | exact .inl rfl | exact .inr rfl)) zNil) bx_passes rfl) (zCons (zRet (sV 3)) zNil))))
theorem nd_is_round : (["rows", "thing", "many", "number"] : List Str).Nodup := by decide
def F_is_round : GF := frF (fOf 4 2 (sSeq (sPut 2 (gB bLen (gCons (gVar 0) gNil))) (sSeq (sIfS (gOrT (gNotT (gTru (gCall 3 F_is_tuple_of (gCons (gVar 1) (gCons (gC (.int 2)) (gCons (g2 addO (g2 mulO2 (gC (.int 2)) (gVar 2)) (gC (.int 1))) gNil)))))) (gNotT (gTru (gB bAll (gCons (gLc (iVal (gVar 1)) (tName 3) gYes (gCall 3 F_is_among (gCons (gVar 3) (gCons (gC (.int 0)) (gCons (g2 subO (gVar 2) (gC (.int 1))) gNil)))) [3]) gNil))))) (sSeq (sRet (gC (.bl false))) sNext) sNext) (sSeq (sRet (g2 (eqO2 false) (g2 ixO (gVar 1) (gC (.int 0))) (g2 ixO (gVar 1) (gNeg (gC (.int 1)))))) sNext))))
theorem p_is_round (M : Facts P w K mg base C) : Cal P w K mg base C 3 "is_round" 2 F_is_round := Cal.frame (cal_of ["rows", "thing", "many", "number"] M.d_is_round (fnScope_by (by decide +kernel)) fun f cdv A outer s H E hr => (zCons (zSet (i := 2) (sB cr_lenO ok_len rfl M.n_len (by rfl) (sCons (sV 0) sNil rfl)) nd_is_round rfl (by first | exact .inl rfl | exact .inr rfl)) (zCons (zIf (PW.pt (sOr (sNotT (sTru (sCall (p_is_tuple_of M) hr (by decide) rfl bx_takes (sCons (sV 1) (sCons sInt (sCons (sBin op_addO ok_addO (sBin op_mulO2 ok_mulO2 sInt (sV 2)) sInt) sNil rfl) rfl) rfl)) (fun _ => rfl))) (sOr1 (sNotT (sTru (sB (cr_all rfl) ok_all rfl M.n_all (by rfl) (sCons (sLc (own := [("number", 3)]) rfl rfl bx_takes rfl nd_is_round (jVal (sV 1)) (blkOk_by (by kernel_rfl)) (fun _ _ _ _ => (yNameV nd_is_round (i := 3) rfl (by first | exact .inl rfl | exact .inr rfl) (by first | exact .inl rfl | exact .inr rfl) (by decide))) (fun _ _ _ _ _ tk => tsNil) (fun _ _ _ _ _ tk => (sCall (p_is_among M) hr (by decide) rfl tk (sCons (sV 3) (sCons sInt (sCons (sBin op_subO ok_subO (sV 2) sInt) sNil rfl) rfl) rfl)))) sNil rfl)) (fun _ => rfl)))))) (zCons (zRet sBl) zNil) zNil) (zCons (zRet (sCmp (op_eqO2 (by exact hr.units) false) (ok_eqO2 false) (sIx (by exact hr.ix) (sV 1) sInt (fun _ _ => rfl)) (sIx (by exact hr.ix) (sV 1) (sNeg sInt) (fun _ _ => rfl)) rfl)) zNil))))
end G
set_option Elab.async false
set_option linter.all false
set_option maxRecDepth 100000
set_option maxHeartbeats 2000000
namespace G
open PySem PySem.Spec L2 Ev

variable {P : Program} {w : World} {K : PySem.W.Frag} {mg : Str → Option Value} {base : Heap} {C : Ev.Cls}
theorem nd_is_paper_form : (["rows", "paper"] : List Str).Nodup := by decide
def F_is_paper_form : GF := frF (fOf 2 2 (sSeq (sIfS (gOrT (gNotT (gTru (gCall 3 F_is_tuple_of (gCons (gVar 1) (gCons (gC (.int 2)) (gCons (gC (.int 2)) gNil)))))) (gOrT (gNotT (gTru (gIsi 2 (g2 ixO (gVar 1) (gC (.int 0)))))) (gBl (g2 (inO true) (g2 ixO (gVar 1) (gC (.int 0))) (gTup (gCons (gC (.str [112, 111, 105, 110, 116])) (gCons (gC (.str [114, 111, 117, 110, 100])) gNil))))))) (sSeq (sRet (gC (.bl false))) sNext) sNext) (sSeq (sRet (gOrV (g2 (eqO2 false) (g2 ixO (gVar 1) (gC (.int 0))) (gC (.str [112, 111, 105, 110, 116]))) (gCall 2 F_is_round (gCons (gVar 0) (gCons (g2 ixO (gVar 1) (gC (.int 1))) gNil))))) sNext)))
theorem p_is_paper_form (M : Facts P w K mg base C) : Cal P w K mg base C 4 "is_paper_form" 2 F_is_paper_form := Cal.frame (cal_of ["rows", "paper"] M.d_is_paper_form (fnScope_by (by decide +kernel)) fun f cdv A outer s H E hr => (zCons (zIf (PW.pt (sOr (sNotT (sTru (sCall (p_is_tuple_of M) hr (by decide) rfl bx_takes (sCons (sV 1) (sCons sInt (sCons sInt sNil rfl) rfl) rfl)) (fun _ => rfl))) (sOr (sNotT (sTru (sIsi 2 (by decide) rfl (sIx (by exact hr.ix) (sV 1) sInt (fun _ _ => rfl)) rfl M.n_isinstance rfl M.n_str (by rfl)) (fun _ => rfl))) (sOr1 (sCmpT (op_inO (by exact hr.ix) true) (ok_inO true) (sIx (by exact hr.ix) (sV 1) sInt (fun _ _ => rfl)) (sTup (sCons (sStr (by rfl)) (sCons (sStr (by rfl)) sNil rfl) rfl)) rfl))))) (zCons (zRet sBl) zNil) zNil) (zCons (zRet (sOrV (sCmp (op_eqO2 (by exact hr.units) false) (ok_eqO2 false) (sIx (by exact hr.ix) (sV 1) sInt (fun _ _ => rfl)) (sStr (by rfl)) rfl) (sOneV (sCall (p_is_round M) hr (by decide) rfl bx_takes (sCons (sV 0) (sCons (sIx (by exact hr.ix) (sV 1) sInt (fun _ _ => rfl)) sNil rfl) rfl))))) zNil)))
theorem nd_check_zone_paper : (["rows", "clocks", "paper", "word", "thing", "found"] : List Str).Nodup := by decide
def F_check_zone_paper : GF := frF (fOf 6 3 (sSeq (sDrop (gCall 2 F_need_rows (gCons (gVar 0) (gCons (gVar 1) gNil)))) (sSeq (sIfS (gNotT (gTru (gCall 2 F_is_paper_form (gCons (gVar 0) (gCons (gVar 2) gNil))))) (sSeq (sRaise 10 (gC (.str [102, 111, 114, 109]))) sNext) sNext) (sSeq (sAsg (gVar 2) (tTupT (tConsT (tName 3) (tConsT (tName 4) tNilT)) 2)) (sSeq (sIfS (gBl (g2 (eqO2 false) (gVar 3) (gC (.str [114, 111, 117, 110, 100])))) (sSeq (sPut 5 (gCall 2 F_sum_of_round (gCons (gVar 0) (gCons (gVar 4) gNil)))) (sSeq (sIfS (gOrT (gBl (g2 (isO false) (gVar 5) (gC .non))) (gBl (g2 (ltO .ge) (gVar 5) (gC c_EVEN)))) (sSeq (sRaise 10 (gC (.str [114, 111, 117, 110, 100]))) sNext) sNext) (sSeq (sRet (gVar 3)) sNext))) sNext) (sSeq (sIfS (gOrT (gNotT (gTru (gCall 2 F_is_point (gCons (gVar 1) (gCons (gVar 4) gNil))))) (gNotT (gTru (gCall 2 F_is_in_rows (gCons (gVar 0) (gCons (gVar 4) gNil)))))) (sSeq (sRaise 10 (gC (.str [112, 111, 105, 110, 116]))) sNext) sNext) (sSeq (sRet (gVar 3)) sNext)))))))
theorem p_check_zone_paper (M : Facts P w K mg base C) : Cal P w K mg base C 5 "check_zone_paper" 3 F_check_zone_paper := Cal.frame (cal_of ["rows", "clocks", "paper", "word", "thing", "found"] M.d_check_zone_paper (fnScope_by (by decide +kernel)) fun f cdv A outer s H E hr => (zCons (zExpr (sCall (p_need_rows M) hr (by decide) rfl bx_takes (sCons (sV 0) (sCons (sV 1) sNil rfl) rfl))) (zCons (zIf (sNotT (sTru (sCall (p_is_paper_form M) hr (by decide) rfl bx_takes (sCons (sV 0) (sCons (sV 2) sNil rfl) rfl)) (fun _ => rfl))) (zCons (M.e_BadPaper.raise hr (by decide) rfl rfl bx_takes (sStr (by rfl))) zNil) zNil) (zCons (zAsg (sV 2) (yTup rfl (n := 2) (yCons (yName nd_check_zone_paper (i := 3) rfl (by first | exact .inl rfl | exact .inr rfl)) (yCons (yName nd_check_zone_paper (i := 4) rfl (by first | exact .inl rfl | exact .inr rfl)) yNil)))) (zCons (zIf (sCmpT (op_eqO2 (by exact hr.units) false) (ok_eqO2 false) (sV 3) (sStr (by rfl)) rfl) (zCons (zSet (i := 5) (sCall (p_sum_of_round M) hr (by decide) rfl bx_takes (sCons (sV 0) (sCons (sV 4) sNil rfl) rfl)) nd_check_zone_paper rfl (by first | exact .inl rfl | exact .inr rfl)) (zCons (zIf (PW.pt (sOr (sCmpT (op_isO false) (ok_isO false) (sV 5) sNon rfl) (sOr1 (sCmpT (op_ltO (by exact hr.units0) .ge) (ok_ltO .ge) (sV 5) (sGk rfl M.c_EVEN) rfl)))) (zCons (M.e_BadPaper.raise hr (by decide) rfl rfl bx_takes (sStr (by rfl))) zNil) zNil) (zCons (zRet (sV 3)) zNil))) zNil) (zCons (zIf (PW.pt (sOr (sNotT (sTru (sCall (p_is_point M) hr (by decide) rfl bx_takes (sCons (sV 1) (sCons (sV 4) sNil rfl) rfl)) (fun _ => rfl))) (sOr1 (sNotT (sTru (sCall (p_is_in_rows M) hr (by decide) rfl bx_takes (sCons (sV 0) (sCons (sV 4) sNil rfl) rfl)) (fun _ => rfl)))))) (zCons (M.e_BadPaper.raise hr (by decide) rfl rfl bx_takes (sStr (by rfl))) zNil) zNil) (zCons (zRet (sV 3)) zNil)))))))
def L6 : GS := (sIfS (gOrT (gNotT (gTru (gCall 2 F__law_like_6 (gCons (gCall 2 F_tight_zone (gCons (gVar 4) (gCons (gVar 2) gNil))) (gCons (gCall 1 F__law_tight (gCons (gVar 4) gNil)) gNil))))) (gOrT (gBl (g2 (eqO2 true) (g2 ixO (gCall 2 F_zone_paper (gCons (gVar 3) (gCons (gVar 2) gNil))) (gC (.int 0))) (gC (.str [112, 111, 105, 110, 116])))) (gBl (g2 (eqO2 true) (gCall 3 F_check_zone_paper (gCons (gVar 3) (gCons (gVar 2) (gCons (gCall 2 F_zone_paper (gCons (gVar 3) (gCons (gVar 2) gNil))) gNil)))) (gC (.str [112, 111, 105, 110, 116])))))) (sSeq (sRet (gC (.bl false))) sNext) sNext)
def L5 : GS := (sPut 4 (g2 addO (g2 addO (gSl (gVar 3) none (some (gC (.int 2)))) (gTup (gCons (gTup (gCons (gC .non) (gCons (gTup (gCons (gC (.int 0)) (gCons (gC (.int 1)) gNil))) (gCons (gTup (gCons (gC (.int 0)) (gCons (gC (.int 1)) gNil))) (gCons (gC .non) gNil))))) gNil))) (gSl (gVar 3) (some (gC (.int 3))) none)))
def L4 : GS := (sIfS (gBl (g2 (eqO2 true) (gLst (gCons (gSaid (gCall 2 F_tight_zone (gCons (gVar 3) (gCons (gVar 2) gNil))) hs__law_said) (gCons (gSaid (gCall 2 F_need_zone (gCons (gVar 3) (gCons (gVar 2) gNil))) hs__law_said) gNil))) (gLst (gCons (gTup (gCons (gC (.str [109, 97, 110, 121])) (gCons (gC (.int 1000)) gNil))) (gCons (gTup (gCons (gC (.str [122, 111, 110, 101])) (gCons (gC (.str [116, 105, 103, 104, 116])) gNil))) gNil))))) (sSeq (sRet (gC (.bl false))) sNext) sNext)
def L3 : GS := (sPut 3 (gTup (gCons (gTup (gCons (gTup (gCons (gC (.int 0)) (gCons (gC (.int 1)) gNil))) (gCons (gC .non) (gCons (gC .non) (gCons (gC .non) gNil))))) (gCons (gTup (gCons (gTup (gCons (gC (.int 1000)) (gCons (gC (.int 1)) gNil))) (gCons (gTup (gCons (gC (.int 0)) (gCons (gC (.int 1)) gNil))) (gCons (gC .non) (gCons (gC .non) gNil))))) (gCons (gTup (gCons (gC .non) (gCons (gTup (gCons (gC (.int 1000)) (gCons (gC (.int 1)) gNil))) (gCons (gTup (gCons (gC (.int 0)) (gCons (gC (.int 1)) gNil))) (gCons (gC .non) gNil))))) (gCons (gTup (gCons (gC .non) (gCons (gC .non) (gCons (gTup (gCons (gNeg (gC (.int 1000))) (gCons (gC (.int 1)) gNil))) (gCons (gTup (gCons (gC (.int 0)) (gCons (gC (.int 1)) gNil))) gNil))))) gNil))))))
def L2 : GS := (sPut 2 (gTup (gCons (gC (.str [120])) (gCons (gC (.str [121])) (gCons (gC (.str [122])) gNil)))))
theorem nd_is_in_zone : (["zone", "clocks", "point"] : List Str).Nodup := by decide
def F_is_in_zone : GF := frF (fOf 3 3 (sSeq (sDrop (gCall 2 F_need_zone (gCons (gVar 0) (gCons (gVar 1) gNil)))) (sSeq (sRet (gCall 2 F_is_in_rows (gCons (gVar 0) (gCons (gCall 2 F_need_point (gCons (gVar 1) (gCons (gVar 2) gNil))) gNil)))) sNext)))
theorem p_is_in_zone (M : Facts P w K mg base C) : Cal P w K mg base C 6 "is_in_zone" 3 F_is_in_zone := Cal.frame (cal_of ["zone", "clocks", "point"] M.d_is_in_zone (fnScope_by (by decide +kernel)) fun f cdv A outer s H E hr => (zCons (zExpr (sCall (p_need_zone M) hr (by decide) rfl bx_takes (sCons (sV 0) (sCons (sV 1) sNil rfl) rfl))) (zCons (zRet (sCall (p_is_in_rows M) hr (by decide) rfl bx_takes (sCons (sV 0) (sCons (sCall (p_need_point M) hr (by decide) rfl bx_takes (sCons (sV 1) (sCons (sV 2) sNil rfl) rfl)) sNil rfl) rfl))) zNil)))
theorem nd_does_condition_hold : (["condition", "clocks", "point", "word", "clock", "number", "here", "bound"] : List Str).Nodup := by decide
def F_does_condition_hold : GF := frF (fOf 8 3 (sSeq (sAsg (gVar 0) (tTupT (tConsT (tName 3) (tConsT (tName 4) (tConsT (tName 5) tNilT))) 3)) (sSeq (sPar 6 7 (gCons (g2 ixO (gVar 2) gBad) (gCons (gCall 1 F_whole_time (gCons (gVar 5) gNil)) gNil))) (sSeq (sIfS (gBl (g2 (inO false) (gVar 3) (gTup (gCons (gC (.str [109, 111, 115, 116])) (gCons (gC (.str [109, 111, 114, 101])) gNil))))) (sSeq (sRet (g2 (eqO2 false) (gCall 2 F_is_below (gCons (gVar 7) (gCons (gVar 6) gNil))) (g2 (eqO2 false) (gVar 3) (gC (.str [109, 111, 114, 101]))))) sNext) sNext) (sSeq (sRet (g2 (eqO2 false) (gCall 2 F_is_below (gCons (gVar 6) (gCons (gVar 7) gNil))) (g2 (eqO2 false) (gVar 3) (gC (.str [108, 101, 115, 115]))))) sNext)))))
theorem p_does_condition_hold (M : Facts P w K mg base C) : Cal P w K mg base C 2 "does_condition_hold" 3 F_does_condition_hold := Cal.frame (cal_of ["condition", "clocks", "point", "word", "clock", "number", "here", "bound"] M.d_does_condition_hold (fnScope_by (by decide +kernel)) fun f cdv A outer s H E hr => (zCons (zAsg (sV 0) (yTup rfl (n := 3) (yCons (yName nd_does_condition_hold (i := 3) rfl (by first | exact .inl rfl | exact .inr rfl)) (yCons (yName nd_does_condition_hold (i := 4) rfl (by first | exact .inl rfl | exact .inr rfl)) (yCons (yName nd_does_condition_hold (i := 5) rfl (by first | exact .inl rfl | exact .inr rfl)) yNil))))) (zCons (zPar (i := 6) (j := 7) (sCons (sIx (by exact hr.ix) (sV 2) eBad (fun _ _ => rfl)) (sCons (sCall (p_whole_time M) hr (by decide) rfl bx_takes (sCons (sV 5) sNil rfl)) sNil rfl) rfl) rfl nd_does_condition_hold rfl rfl (by decide) rfl rfl (by rfl)) (zCons (zIf (sCmpT (op_inO (by exact hr.ix) false) (ok_inO false) (sV 3) (sTup (sCons (sStr (by rfl)) (sCons (sStr (by rfl)) sNil rfl) rfl)) rfl) (zCons (zRet (sCmp (op_eqO2 (by exact hr.units) false) (ok_eqO2 false) (sCall (p_is_below M) hr (by decide) rfl bx_takes (sCons (sV 7) (sCons (sV 6) sNil rfl) rfl)) (sCmp (op_eqO2 (by exact hr.units) false) (ok_eqO2 false) (sV 3) (sStr (by rfl)) rfl) rfl)) zNil) zNil) (zCons (zRet (sCmp (op_eqO2 (by exact hr.units) false) (ok_eqO2 false) (sCall (p_is_below M) hr (by decide) rfl bx_takes (sCons (sV 6) (sCons (sV 7) sNil rfl) rfl)) (sCmp (op_eqO2 (by exact hr.units) false) (ok_eqO2 false) (sV 3) (sStr (by rfl)) rfl) rfl)) zNil)))))
theorem nd_holds_at : (["guard", "clocks", "point", "condition"] : List Str).Nodup := by decide
def F_holds_at : GF := frF (fOf 4 3 (sSeq (sRet (gB bAll (gCons (gLc (iVal (gVar 0)) (tName 3) gYes (gCall 3 F_does_condition_hold (gCons (gVar 3) (gCons (gVar 1) (gCons (gVar 2) gNil)))) [3]) gNil))) sNext))
theorem p_holds_at (M : Facts P w K mg base C) : Cal P w K mg base C 3 "holds_at" 3 F_holds_at := Cal.frame (cal_of ["guard", "clocks", "point", "condition"] M.d_holds_at (fnScope_by (by decide +kernel)) fun f cdv A outer s H E hr => (zCons (zRet (sB (cr_all rfl) ok_all rfl M.n_all (by rfl) (sCons (sLc (own := [("condition", 3)]) rfl rfl bx_takes rfl nd_holds_at (jVal (sV 0)) (blkOk_by (by kernel_rfl)) (fun _ _ _ _ => (yNameV nd_holds_at (i := 3) rfl (by first | exact .inl rfl | exact .inr rfl) (by first | exact .inl rfl | exact .inr rfl) (by decide))) (fun _ _ _ _ _ tk => tsNil) (fun _ _ _ _ _ tk => (sCall (p_does_condition_hold M) hr (by decide) rfl tk (sCons (sV 3) (sCons (sV 1) (sCons (sV 2) sNil rfl) rfl) rfl)))) sNil rfl))) zNil))
theorem nd_does_hold : (["guard", "clocks", "point"] : List Str).Nodup := by decide
def F_does_hold : GF := frF (fOf 3 3 (sSeq (sDrop (gCall 2 F_need_guard (gCons (gVar 0) (gCons (gVar 1) gNil)))) (sSeq (sRet (gCall 3 F_holds_at (gCons (gVar 0) (gCons (gVar 1) (gCons (gCall 2 F_need_point (gCons (gVar 1) (gCons (gVar 2) gNil))) gNil))))) sNext)))
theorem p_does_hold (M : Facts P w K mg base C) : Cal P w K mg base C 6 "does_hold" 3 F_does_hold := Cal.frame (cal_of ["guard", "clocks", "point"] M.d_does_hold (fnScope_by (by decide +kernel)) fun f cdv A outer s H E hr => (zCons (zExpr (sCall (p_need_guard M) hr (by decide) rfl bx_takes (sCons (sV 0) (sCons (sV 1) sNil rfl) rfl))) (zCons (zRet (sCall (p_holds_at M) hr (by decide) rfl bx_takes (sCons (sV 0) (sCons (sV 1) (sCons (sCall (p_need_point M) hr (by decide) rfl bx_takes (sCons (sV 1) (sCons (sV 2) sNil rfl) rfl)) sNil rfl) rfl) rfl))) zNil)))
theorem nd_rows_of_guard : (["guard", "clocks", "rows", "word", "clock", "number", "place"] : List Str).Nodup := by decide
def F_rows_of_guard : GF := frF (fOf 7 2 (sSeq (sPut 2 (gCall 1 F_all_rows (gCons (g2 addO (gB bLen (gCons (gVar 1) gNil)) (gC (.int 1))) gNil))) (sSeq (sFor (iVal (gVar 0)) (tTupT (tConsT (tName 3) (tConsT (tName 4) (tConsT (tName 5) tNilT))) 3) (sSeq (sPut 6 (g2 addO gBad (gC (.int 1)))) (sSeq (sIfS (gBl (g2 (inO false) (gVar 3) (gTup (gCons (gC (.str [109, 111, 115, 116])) (gCons (gC (.str [108, 101, 115, 115])) gNil))))) (sSeq (sAsg (gCall 2 F_tighter_of (gCons (gTup (gCons (gVar 5) (gCons (gIf (gBl (g2 (eqO2 false) (gVar 3) (gC (.str [109, 111, 115, 116])))) (gC (.int 1)) (gC (.int 0))) gNil))) (gCons (g2 ixO (g2 ixO (gVar 2) (gVar 6)) (gC (.int 0))) gNil))) (tSubT (g2 ixO (gVar 2) (gVar 6)) (gC (.int 0)))) sNext) (sSeq (sAsg (gCall 2 F_tighter_of (gCons (gTup (gCons (gNeg (gVar 5)) (gCons (gIf (gBl (g2 (eqO2 false) (gVar 3) (gC (.str [108, 101, 97, 115, 116])))) (gC (.int 1)) (gC (.int 0))) gNil))) (gCons (g2 ixO (g2 ixO (gVar 2) (gC (.int 0))) (gVar 6)) gNil))) (tSubT (g2 ixO (gVar 2) (gC (.int 0))) (gVar 6))) sNext)) sNext))) (sSeq (sRet (gVar 2)) sNext))))
theorem p_rows_of_guard (M : Facts P w K mg base C) : Cal P w K mg base C 3 "rows_of_guard" 2 F_rows_of_guard := Cal.frame (cal_of ["guard", "clocks", "rows", "word", "clock", "number", "place"] M.d_rows_of_guard (fnScope_by (by decide +kernel)) fun f cdv A outer s H E hr => (zCons (zSet (i := 2) (sCall (p_all_rows M) hr (by decide) rfl bx_takes (sCons (sBin op_addO ok_addO (sB cr_lenO ok_len rfl M.n_len (by rfl) (sCons (sV 1) sNil rfl)) sInt) sNil rfl)) nd_rows_of_guard rfl (by first | exact .inl rfl | exact .inr rfl)) (zCons (zFor (jVal (sV 0)) (yTup rfl (n := 3) (yCons (yName nd_rows_of_guard (i := 3) rfl (by first | exact .inl rfl | exact .inr rfl)) (yCons (yName nd_rows_of_guard (i := 4) rfl (by first | exact .inl rfl | exact .inr rfl)) (yCons (yName nd_rows_of_guard (i := 5) rfl (by first | exact .inl rfl | exact .inr rfl)) yNil)))) (zCons (zSet (i := 6) (sBin op_addO ok_addO eBad sInt) nd_rows_of_guard rfl (by first | exact .inl rfl | exact .inr rfl)) (zCons (zIf (sCmpT (op_inO (by exact hr.ix) false) (ok_inO false) (sV 3) (sTup (sCons (sStr (by rfl)) (sCons (sStr (by rfl)) sNil rfl) rfl)) rfl) (zCons (zAsg (sCall (p_tighter_of M) hr (by decide) rfl bx_takes (sCons (sTup (sCons (sV 5) (sCons (sIf (sCmpT (op_eqO2 (by exact hr.units) false) (ok_eqO2 false) (sV 3) (sStr (by rfl)) rfl) sInt sInt) sNil rfl) rfl)) (sCons (sIx (by exact hr.ix) (sIx (by exact hr.ix) (sV 2) (sV 6) (fun _ _ => rfl)) sInt (fun _ _ => rfl)) sNil rfl) rfl)) (ySub (W := W0) (by exact hr.ix) (sIx (by exact hr.ix) (sV 2) (sV 6) (fun _ _ => rfl)) sInt)) zNil) (zCons (zAsg (sCall (p_tighter_of M) hr (by decide) rfl bx_takes (sCons (sTup (sCons (sNeg (sV 5)) (sCons (sIf (sCmpT (op_eqO2 (by exact hr.units) false) (ok_eqO2 false) (sV 3) (sStr (by rfl)) rfl) sInt sInt) sNil rfl) rfl)) (sCons (sIx (by exact hr.ix) (sIx (by exact hr.ix) (sV 2) sInt (fun _ _ => rfl)) (sV 6) (fun _ _ => rfl)) sNil rfl) rfl)) (ySub (W := W0) (by exact hr.ix) (sIx (by exact hr.ix) (sV 2) sInt (fun _ _ => rfl)) (sV 6))) zNil)) zNil)) bx_passes rfl) (zCons (zRet (sV 2)) zNil))))
theorem nd_zone_by_guard : (["guard", "clocks"] : List Str).Nodup := by decide
def F_zone_by_guard : GF := frF (fOf 2 2 (sSeq (sRet (gCall 1 F_tight_by (gCons (gCall 2 F_rows_of_guard (gCons (gVar 0) (gCons (gVar 1) gNil))) gNil))) sNext))
theorem p_zone_by_guard (M : Facts P w K mg base C) : Cal P w K mg base C 5 "zone_by_guard" 2 F_zone_by_guard := Cal.frame (cal_of ["guard", "clocks"] M.d_zone_by_guard (fnScope_by (by decide +kernel)) fun f cdv A outer s H E hr => (zCons (zRet (sCall (p_tight_by M) hr (by decide) rfl bx_takes (sCons (sCall (p_rows_of_guard M) hr (by decide) rfl bx_takes (sCons (sV 0) (sCons (sV 1) sNil rfl) rfl)) sNil rfl))) zNil))
theorem nd_zone_of_guard : (["guard", "clocks"] : List Str).Nodup := by decide
def F_zone_of_guard : GF := frF (fOf 2 2 (sSeq (sRet (gCall 2 F_zone_by_guard (gCons (gCall 2 F_need_guard (gCons (gVar 0) (gCons (gVar 1) gNil))) (gCons (gVar 1) gNil)))) sNext))
theorem p_zone_of_guard (M : Facts P w K mg base C) : Cal P w K mg base C 6 "zone_of_guard" 2 F_zone_of_guard := Cal.frame (cal_of ["guard", "clocks"] M.d_zone_of_guard (fnScope_by (by decide +kernel)) fun f cdv A outer s H E hr => (zCons (zRet (sCall (p_zone_by_guard M) hr (by decide) rfl bx_takes (sCons (sCall (p_need_guard M) hr (by decide) rfl bx_takes (sCons (sV 0) (sCons (sV 1) sNil rfl) rfl)) (sCons (sV 1) sNil rfl) rfl))) zNil))
theorem nd__law_clocks_refused : (["odd", "rows", "bad", "due", "told"] : List Str).Nodup := by decide
def F__law_clocks_refused : GF := frF (fOf 5 0 (sSeq (sPut 0 (gLst (gCons (gTup (gCons (gC .non) (gCons (gC .non) gNil))) (gCons (gTup (gCons (gLst (gCons (gC (.str [120])) gNil)) (gCons (gC .non) gNil))) (gCons (gTup (gCons (gTup (gCons (gC (.str [120])) (gCons (gC (.str [121])) (gCons (gC (.str [122])) (gCons (gC (.str [97])) gNil))))) (gCons (gC .non) gNil))) (gCons (gTup (gCons (gTup (gCons (gC (.str [120])) (gCons (gC (.str [97])) gNil))) (gCons (gC (.int 1)) gNil))) (gCons (gTup (gCons (gTup (gCons (gC (.str [120])) (gCons (gC (.str [120])) gNil))) (gCons (gC (.int 1)) gNil))) (gCons (gTup (gCons (gTup (gCons (gC (.str [88])) gNil)) (gCons (gC (.int 0)) gNil))) (gCons (gTup (gCons (gTup (gCons (gC (.str [121, 101, 115])) gNil)) (gCons (gC (.int 0)) gNil))) gNil))))))))) (sSeq (sFor (iVal (g2 addO (gVar 0) (gLst (gCons (gTup (gCons (gTup (gCons (gC (.str [97, 98, 99, 100, 101, 102, 103, 104, 105])) gNil)) (gCons (gC (.int 0)) gNil))) (gCons (gTup (gCons (gTup (gCons (gC .non) gNil)) (gCons (gC (.int 0)) gNil))) (gCons (gTup (gCons (gTup (gCons (gC (.str [])) gNil)) (gCons (gC (.int 0)) gNil))) (gCons (gTup (gCons (gTup (gCons (gC (.str [49, 120])) gNil)) (gCons (gC (.int 0)) gNil))) gNil))))))) (tTupT (tConsT (tName 2) (tConsT (tName 3) tNilT)) 2) (sSeq (sPut 4 (gLst (gCons (gSaid (gCall 2 F_need_guard (gCons (gTup gNil) (gCons (gVar 2) gNil))) hs__law_said) (gCons (gSaid (gCall 2 F_tight_zone (gCons (gC .non) (gCons (gVar 2) gNil))) hs__law_said) (gCons (gSaid (gCall 2 F_need_zone (gCons (gC .non) (gCons (gVar 2) gNil))) hs__law_said) gNil))))) (sSeq (sPut 4 (g2 addO (gVar 4) (gLst (gCons (gSaid (gCall 2 F_zone_of_guard (gCons (gC .non) (gCons (gVar 2) gNil))) hs__law_said) (gCons (gSaid (gCall 2 F_zone_paper (gCons (gC .non) (gCons (gVar 2) gNil))) hs__law_said) (gCons (gSaid (gCall 3 F_check_zone_paper (gCons (gC .non) (gCons (gVar 2) (gCons (gC .non) gNil)))) hs__law_said) gNil)))))) (sSeq (sPut 4 (g2 addO (gVar 4) (gLst (gCons (gSaid (gCall 2 F_read_guard (gCons (gC .non) (gCons (gVar 2) gNil))) hs__law_said) (gCons (gSaid (gCall 2 F_read_zone (gCons (gC .non) (gCons (gVar 2) gNil))) hs__law_said) (gCons (gSaid (gCall 2 F_point_text (gCons (gVar 2) (gCons (gC .non) gNil))) hs__law_said) gNil)))))) (sSeq (sPut 4 (g2 addO (gVar 4) (gLst (gCons (gSaid (gCall 3 F_does_hold (gCons (gC .non) (gCons (gVar 2) (gCons (gC .non) gNil)))) hs__law_said) (gCons (gSaid (gCall 3 F_is_in_zone (gCons (gC .non) (gCons (gVar 2) (gCons (gC .non) gNil)))) hs__law_said) (gCons (gSaid (gCall 2 F_point_of_zone (gCons (gC .non) (gCons (gVar 2) gNil))) hs__law_said) gNil)))))) (sSeq (sIfS (gBl (g2 (eqO2 true) (gVar 4) (g2 mulO2 (gLst (gCons (gTup (gCons (gC (.str [99, 108, 111, 99, 107])) (gCons (gVar 3) gNil))) gNil)) (gC (.int 12))))) (sSeq (sRet (gC (.bl false))) sNext) sNext) sNext)))))) (sSeq (sPut 0 (gLst (gCons (gTup (gCons (gC .non) (gCons (gC .non) gNil))) (gCons (gTup (gCons (gLst gNil) (gCons (gC .non) gNil))) (gCons (gTup (gCons (g2 mulO2 (gTup (gCons (gTup (gCons (gC (.str [109, 111, 115, 116])) (gCons (gC (.str [120])) (gCons (gC (.int 1)) gNil)))) gNil)) (gC (.int 9))) (gCons (gC .non) gNil))) (gCons (gTup (gCons (gTup (gCons (gTup (gCons (gC (.str [109, 111, 115, 116])) (gCons (gC (.str [121])) (gCons (gC (.int 1)) gNil)))) gNil)) (gCons (gC (.int 0)) gNil))) (gCons (gTup (gCons (gTup (gCons (gTup (gCons (gC (.str [109, 111, 115, 116])) (gCons (gC (.str [120])) (gCons (gC (.int 21)) gNil)))) gNil)) (gCons (gC (.int 0)) gNil))) gNil))))))) (sSeq (sPut 0 (g2 addO (gVar 0) (gLst (gCons (gTup (gCons (gTup (gCons (gTup (gCons (gC (.str [109, 111, 115, 116])) (gCons (gC (.str [120])) (gCons (gNeg (gC (.int 1))) gNil)))) gNil)) (gCons (gC (.int 0)) gNil))) (gCons (gTup (gCons (gTup (gCons (gTup (gCons (gC (.str [109, 111, 115, 116])) (gCons (gC (.str [120])) (gCons (gC (.bl true)) gNil)))) gNil)) (gCons (gC (.int 0)) gNil))) (gCons (gTup (gCons (gTup (gCons (gTup (gCons (gC (.str [77, 111, 115, 116])) (gCons (gC (.str [120])) (gCons (gC (.int 1)) gNil)))) gNil)) (gCons (gC (.int 0)) gNil))) (gCons (gTup (gCons (gTup (gCons (gTup (gCons (gC (.str [109, 111, 115, 116])) (gCons (gC (.str [120])) (gCons (gC (.int 1)) gNil)))) (gCons (gC .non) gNil))) (gCons (gC (.int 1)) gNil))) (gCons (gTup (gCons (gTup (gCons (gLst gNil) gNil)) (gCons (gC (.int 0)) gNil))) gNil)))))))) (sSeq (sFor (iVal (gVar 0)) (tTupT (tConsT (tName 2) (tConsT (tName 3) tNilT)) 2) (sSeq (sPut 4 (gLst (gCons (gSaid (gCall 2 F_need_guard (gCons (gVar 2) (gCons (gTup (gCons (gC (.str [120])) gNil)) gNil))) hs__law_said) (gCons (gSaid (gCall 2 F_zone_of_guard (gCons (gVar 2) (gCons (gTup (gCons (gC (.str [120])) gNil)) gNil))) hs__law_said) gNil)))) (sSeq (sPut 4 (g2 addO (gVar 4) (gLst (gCons (gSaid (gCall 2 F_guard_text (gCons (gVar 2) (gCons (gTup (gCons (gC (.str [120])) gNil)) gNil))) hs__law_said) (gCons (gSaid (gCall 3 F_does_hold (gCons (gVar 2) (gCons (gTup (gCons (gC (.str [120])) gNil)) (gCons (gC .non) gNil)))) hs__law_said) gNil))))) (sSeq (sIfS (gBl (g2 (eqO2 true) (gVar 4) (g2 mulO2 (gLst (gCons (gTup (gCons (gC (.str [103, 117, 97, 114, 100])) (gCons (gVar 3) gNil))) gNil)) (gC (.int 4))))) (sSeq (sRet (gC (.bl false))) sNext) sNext) sNext)))) (sSeq (sPut 1 (gLst (gCons (gTup (gCons (gC .non) (gCons (gC .non) gNil))) (gCons (gTup (gCons (gTup (gCons (gTup (gCons (gC (.int 0)) (gCons (gC (.int 1)) gNil))) gNil)) (gCons (gC .non) gNil))) (gCons (gTup (gCons (gTup (gCons (gTup (gCons (gC (.int 0)) (gCons (gC (.int 1)) gNil))) (gCons (gC .non) gNil))) (gCons (gTup (gCons (gC (.int 0)) (gCons (gC (.int 0)) gNil))) gNil))) (gCons (gTup (gCons (gTup (gCons (gC .non) (gCons (gTup (gCons (gTup (gCons (gC (.int 0)) (gCons (gC (.int 1)) gNil))) (gCons (gTup (gCons (gC (.int 0)) (gCons (gC (.int 1)) gNil))) gNil))) gNil))) (gCons (gC (.int 0)) gNil))) (gCons (gTup (gCons (gTup (gCons (gTup (gCons (gTup (gCons (gC (.int 0)) (gCons (gC (.int 1)) gNil))) (gCons (gC .non) gNil))) (gCons (gTup (gCons (gTup (gCons (gC (.int 1)) (gCons (gC (.int 1)) gNil))) gNil)) gNil))) (gCons (gC (.int 1)) gNil))) gNil))))))) (sSeq (sPut 1 (g2 addO (gVar 1) (gLst (gCons (gTup (gCons (gTup (gCons (gTup (gCons (gTup (gCons (gC (.int 0)) (gCons (gC (.int 1)) gNil))) (gCons (gTup (gCons (gC (.int 1)) (gCons (gC (.int 2)) gNil))) gNil))) (gCons (gTup (gCons (gTup (gCons (gC (.int 1)) (gCons (gC (.int 1)) gNil))) (gCons (gTup (gCons (gC (.int 0)) (gCons (gC (.int 1)) gNil))) gNil))) gNil))) (gCons (gTup (gCons (gC (.int 0)) (gCons (gC (.int 1)) gNil))) gNil))) (gCons (gTup (gCons (gTup (gCons (gTup (gCons (gTup (gCons (gC (.int 0)) (gCons (gC (.int 1)) gNil))) (gCons (gC .non) gNil))) (gCons (gTup (gCons (gTup (gCons (gC (.int 1001)) (gCons (gC (.int 1)) gNil))) (gCons (gTup (gCons (gC (.int 0)) (gCons (gC (.int 1)) gNil))) gNil))) gNil))) (gCons (gTup (gCons (gC (.int 1)) (gCons (gC (.int 0)) gNil))) gNil))) gNil))))) (sSeq (sPut 1 (g2 addO (gVar 1) (gLst (gCons (gTup (gCons (gTup (gCons (gTup (gCons (gTup (gCons (gC (.int 0)) (gCons (gC (.int 1)) gNil))) (gCons (gC .non) gNil))) (gCons (gTup (gCons (gC .non) (gCons (gLst (gCons (gC (.int 0)) (gCons (gC (.int 1)) gNil))) gNil))) gNil))) (gCons (gTup (gCons (gC (.int 1)) (gCons (gC (.int 1)) gNil))) gNil))) (gCons (gTup (gCons (gTup (gCons (gTup (gCons (gTup (gCons (gC (.int 0)) (gCons (gC (.int 1)) gNil))) (gCons (gC .non) gNil))) (gCons (gTup (gCons (gTup (gCons (gC (.bl true)) (gCons (gC (.int 1)) gNil))) (gCons (gTup (gCons (gC (.int 0)) (gCons (gC (.int 1)) gNil))) gNil))) gNil))) (gCons (gTup (gCons (gC (.int 1)) (gCons (gC (.int 0)) gNil))) gNil))) (gCons (gTup (gCons (gTup (gCons (gTup (gCons (gTup (gCons (gC (.int 0)) (gCons (gC (.int 1)) gNil))) (gCons (gC .non) gNil))) (gCons (gTup (gCons (gTup (gCons (gC (.int 0)) (gCons (gC (.int 1)) (gCons (gC (.int 1)) gNil)))) (gCons (gTup (gCons (gC (.int 0)) (gCons (gC (.int 1)) gNil))) gNil))) gNil))) (gCons (gTup (gCons (gC (.int 1)) (gCons (gC (.int 0)) gNil))) gNil))) gNil)))))) (sSeq (sFor (iVal (gVar 1)) (tTupT (tConsT (tName 2) (tConsT (tName 3) tNilT)) 2) (sSeq (sPut 4 (gLst (gCons (gSaid (gCall 2 F_tight_zone (gCons (gVar 2) (gCons (gTup (gCons (gC (.str [120])) gNil)) gNil))) hs__law_said) (gCons (gSaid (gCall 2 F_need_zone (gCons (gVar 2) (gCons (gTup (gCons (gC (.str [120])) gNil)) gNil))) hs__law_said) gNil)))) (sSeq (sPut 4 (g2 addO (gVar 4) (gLst (gCons (gSaid (gCall 2 F_zone_paper (gCons (gVar 2) (gCons (gTup (gCons (gC (.str [120])) gNil)) gNil))) hs__law_said) (gCons (gSaid (gCall 3 F_check_zone_paper (gCons (gVar 2) (gCons (gTup (gCons (gC (.str [120])) gNil)) (gCons (gC .non) gNil)))) hs__law_said) gNil))))) (sSeq (sPut 4 (g2 addO (gVar 4) (gLst (gCons (gSaid (gCall 2 F_zone_text (gCons (gVar 2) (gCons (gTup (gCons (gC (.str [120])) gNil)) gNil))) hs__law_said) (gCons (gSaid (gCall 3 F_is_in_zone (gCons (gVar 2) (gCons (gTup (gCons (gC (.str [120])) gNil)) (gCons (gC .non) gNil)))) hs__law_said) (gCons (gSaid (gCall 2 F_point_of_zone (gCons (gVar 2) (gCons (gTup (gCons (gC (.str [120])) gNil)) gNil))) hs__law_said) gNil)))))) (sSeq (sIfS (gBl (g2 (eqO2 true) (gVar 4) (g2 mulO2 (gLst (gCons (gTup (gCons (gC (.str [122, 111, 110, 101])) (gCons (gVar 3) gNil))) gNil)) (gC (.int 7))))) (sSeq (sRet (gC (.bl false))) sNext) sNext) sNext))))) (sSeq (sRet (gC (.bl true))) sNext)))))))))))
theorem p__law_clocks_refused (M : Facts P w K mg base C) : Cal P w K mg base C 9 "_law_clocks_refused" 0 F__law_clocks_refused := Cal.frame (cal_ofL ["odd", "rows", "bad", "due", "told"] M.d__law_clocks_refused (fnScope_by (by decide +kernel)) fun f cdv A outer s H E lo hr => (zCons (zSet (i := 0) (sLst (sCons (sTup (sCons sNon (sCons sNon sNil rfl) rfl)) (sCons (sTup (sCons (sLst (sCons (sStr (by rfl)) sNil rfl)) (sCons sNon sNil rfl) rfl)) (sCons (sTup (sCons (sTup (sCons (sStr (by rfl)) (sCons (sStr (by rfl)) (sCons (sStr (by rfl)) (sCons (sStr (by rfl)) sNil rfl) rfl) rfl) rfl)) (sCons sNon sNil rfl) rfl)) (sCons (sTup (sCons (sTup (sCons (sStr (by rfl)) (sCons (sStr (by rfl)) sNil rfl) rfl)) (sCons sInt sNil rfl) rfl)) (sCons (sTup (sCons (sTup (sCons (sStr (by rfl)) (sCons (sStr (by rfl)) sNil rfl) rfl)) (sCons sInt sNil rfl) rfl)) (sCons (sTup (sCons (sTup (sCons (sStr (by rfl)) sNil rfl)) (sCons sInt sNil rfl) rfl)) (sCons (sTup (sCons (sTup (sCons (sStr (by rfl)) sNil rfl)) (sCons sInt sNil rfl) rfl)) sNil rfl) rfl) rfl) rfl) rfl) rfl) rfl)) nd__law_clocks_refused rfl (by first | exact .inl rfl | exact .inr rfl)) (zCons (zFor (jVal (sBin op_addO ok_addO (sV 0) (sLst (sCons (sTup (sCons (sTup (sCons (sStr (by rfl)) sNil rfl)) (sCons sInt sNil rfl) rfl)) (sCons (sTup (sCons (sTup (sCons sNon sNil rfl)) (sCons sInt sNil rfl) rfl)) (sCons (sTup (sCons (sTup (sCons (sStr (by rfl)) sNil rfl)) (sCons sInt sNil rfl) rfl)) (sCons (sTup (sCons (sTup (sCons (sStr (by rfl)) sNil rfl)) (sCons sInt sNil rfl) rfl)) sNil rfl) rfl) rfl) rfl)))) (yTup rfl (n := 2) (yCons (yName nd__law_clocks_refused (i := 2) rfl (by first | exact .inl rfl | exact .inr rfl)) (yCons (yName nd__law_clocks_refused (i := 3) rfl (by first | exact .inl rfl | exact .inr rfl)) yNil))) (zCons (zSet (i := 4) (sLst (sCons (sSaid0 (k := 5) (said__law_said M) rfl (by exact hr.mono (by decide)) lo (lamK_by (by kernel_rfl)) lamB_0 rfl (fun A outer s H E f c hr => (sCall (p_need_guard M) hr (by decide) rfl lam_takes (sCons (sTup sNil) (sCons (sV 2) sNil rfl) rfl)))) (sCons (sSaid1 (k := 5) (said__law_said M) rfl (by exact hr.mono (by decide)) lo (lamK_by (by kernel_rfl)) lamB_x rfl rfl rfl (fun A outer s H E f c hr => (sCall (p_tight_zone M) hr (by decide) rfl lam_takes (sCons sNon (sCons (sV 2) sNil rfl) rfl)))) (sCons (sSaid1 (k := 5) (said__law_said M) rfl (by exact hr.mono (by decide)) lo (lamK_by (by kernel_rfl)) lamB_y rfl rfl rfl (fun A outer s H E f c hr => (sCall (p_need_zone M) hr (by decide) rfl lam_takes (sCons sNon (sCons (sV 2) sNil rfl) rfl)))) sNil rfl) rfl) rfl)) nd__law_clocks_refused rfl (by first | exact .inl rfl | exact .inr rfl)) (zCons (zSet (i := 4) (sBin op_addO ok_addO (sV 4) (sLst (sCons (sSaid0 (k := 6) (said__law_said M) rfl (by exact hr.mono (by decide)) lo (lamK_by (by kernel_rfl)) lamB_0 rfl (fun A outer s H E f c hr => (sCall (p_zone_of_guard M) hr (by decide) rfl lam_takes (sCons sNon (sCons (sV 2) sNil rfl) rfl)))) (sCons (sSaid1 (k := 5) (said__law_said M) rfl (by exact hr.mono (by decide)) lo (lamK_by (by kernel_rfl)) lamB_x rfl rfl rfl (fun A outer s H E f c hr => (sCall (p_zone_paper M) hr (by decide) rfl lam_takes (sCons sNon (sCons (sV 2) sNil rfl) rfl)))) (sCons (sSaid1 (k := 5) (said__law_said M) rfl (by exact hr.mono (by decide)) lo (lamK_by (by kernel_rfl)) lamB_y rfl rfl rfl (fun A outer s H E f c hr => (sCall (p_check_zone_paper M) hr (by decide) rfl lam_takes (sCons sNon (sCons (sV 2) (sCons sNon sNil rfl) rfl) rfl)))) sNil rfl) rfl) rfl))) nd__law_clocks_refused rfl (by first | exact .inl rfl | exact .inr rfl)) (zCons (zSet (i := 4) (sBin op_addO ok_addO (sV 4) (sLst (sCons (sSaid0 (k := 6) (said__law_said M) rfl (by exact hr.mono (by decide)) lo (lamK_by (by kernel_rfl)) lamB_0 rfl (fun A outer s H E f c hr => (sCall (p_read_guard M) hr (by decide) rfl lam_takes (sCons sNon (sCons (sV 2) sNil rfl) rfl)))) (sCons (sSaid1 (k := 5) (said__law_said M) rfl (by exact hr.mono (by decide)) lo (lamK_by (by kernel_rfl)) lamB_x rfl rfl rfl (fun A outer s H E f c hr => (sCall (p_read_zone M) hr (by decide) rfl lam_takes (sCons sNon (sCons (sV 2) sNil rfl) rfl)))) (sCons (sSaid1 (k := 5) (said__law_said M) rfl (by exact hr.mono (by decide)) lo (lamK_by (by kernel_rfl)) lamB_y rfl rfl rfl (fun A outer s H E f c hr => (sCall (p_point_text M) hr (by decide) rfl lam_takes (sCons (sV 2) (sCons sNon sNil rfl) rfl)))) sNil rfl) rfl) rfl))) nd__law_clocks_refused rfl (by first | exact .inl rfl | exact .inr rfl)) (zCons (zSet (i := 4) (sBin op_addO ok_addO (sV 4) (sLst (sCons (sSaid0 (k := 6) (said__law_said M) rfl (by exact hr.mono (by decide)) lo (lamK_by (by kernel_rfl)) lamB_0 rfl (fun A outer s H E f c hr => (sCall (p_does_hold M) hr (by decide) rfl lam_takes (sCons sNon (sCons (sV 2) (sCons sNon sNil rfl) rfl) rfl)))) (sCons (sSaid1 (k := 6) (said__law_said M) rfl (by exact hr.mono (by decide)) lo (lamK_by (by kernel_rfl)) lamB_x rfl rfl rfl (fun A outer s H E f c hr => (sCall (p_is_in_zone M) hr (by decide) rfl lam_takes (sCons sNon (sCons (sV 2) (sCons sNon sNil rfl) rfl) rfl)))) (sCons (sSaid1 (k := 6) (said__law_said M) rfl (by exact hr.mono (by decide)) lo (lamK_by (by kernel_rfl)) lamB_y rfl rfl rfl (fun A outer s H E f c hr => (sCall (p_point_of_zone M) hr (by decide) rfl lam_takes (sCons sNon (sCons (sV 2) sNil rfl) rfl)))) sNil rfl) rfl) rfl))) nd__law_clocks_refused rfl (by first | exact .inl rfl | exact .inr rfl)) (zCons (zIf (sCmpT (op_eqO2 (by exact hr.units) true) (ok_eqO2 true) (sV 4) (sBin op_mulO2 ok_mulO2 (sLst (sCons (sTup (sCons (sStr (by rfl)) (sCons (sV 3) sNil rfl) rfl)) sNil rfl)) sInt) rfl) (zCons (zRet sBl) zNil) zNil) zNil))))) bx_passes rfl) (zCons (zSet (i := 0) (sLst (sCons (sTup (sCons sNon (sCons sNon sNil rfl) rfl)) (sCons (sTup (sCons (sLst sNil) (sCons sNon sNil rfl) rfl)) (sCons (sTup (sCons (sBin op_mulO2 ok_mulO2 (sTup (sCons (sTup (sCons (sStr (by rfl)) (sCons (sStr (by rfl)) (sCons sInt sNil rfl) rfl) rfl)) sNil rfl)) sInt) (sCons sNon sNil rfl) rfl)) (sCons (sTup (sCons (sTup (sCons (sTup (sCons (sStr (by rfl)) (sCons (sStr (by rfl)) (sCons sInt sNil rfl) rfl) rfl)) sNil rfl)) (sCons sInt sNil rfl) rfl)) (sCons (sTup (sCons (sTup (sCons (sTup (sCons (sStr (by rfl)) (sCons (sStr (by rfl)) (sCons sInt sNil rfl) rfl) rfl)) sNil rfl)) (sCons sInt sNil rfl) rfl)) sNil rfl) rfl) rfl) rfl) rfl)) nd__law_clocks_refused rfl (by first | exact .inl rfl | exact .inr rfl)) (zCons (zSet (i := 0) (sBin op_addO ok_addO (sV 0) (sLst (sCons (sTup (sCons (sTup (sCons (sTup (sCons (sStr (by rfl)) (sCons (sStr (by rfl)) (sCons (sNeg sInt) sNil rfl) rfl) rfl)) sNil rfl)) (sCons sInt sNil rfl) rfl)) (sCons (sTup (sCons (sTup (sCons (sTup (sCons (sStr (by rfl)) (sCons (sStr (by rfl)) (sCons sBl sNil rfl) rfl) rfl)) sNil rfl)) (sCons sInt sNil rfl) rfl)) (sCons (sTup (sCons (sTup (sCons (sTup (sCons (sStr (by rfl)) (sCons (sStr (by rfl)) (sCons sInt sNil rfl) rfl) rfl)) sNil rfl)) (sCons sInt sNil rfl) rfl)) (sCons (sTup (sCons (sTup (sCons (sTup (sCons (sStr (by rfl)) (sCons (sStr (by rfl)) (sCons sInt sNil rfl) rfl) rfl)) (sCons sNon sNil rfl) rfl)) (sCons sInt sNil rfl) rfl)) (sCons (sTup (sCons (sTup (sCons (sLst sNil) sNil rfl)) (sCons sInt sNil rfl) rfl)) sNil rfl) rfl) rfl) rfl) rfl))) nd__law_clocks_refused rfl (by first | exact .inl rfl | exact .inr rfl)) (zCons (zFor (jVal (sV 0)) (yTup rfl (n := 2) (yCons (yName nd__law_clocks_refused (i := 2) rfl (by first | exact .inl rfl | exact .inr rfl)) (yCons (yName nd__law_clocks_refused (i := 3) rfl (by first | exact .inl rfl | exact .inr rfl)) yNil))) (zCons (zSet (i := 4) (sLst (sCons (sSaid0 (k := 5) (said__law_said M) rfl (by exact hr.mono (by decide)) lo (lamK_by (by kernel_rfl)) lamB_0 rfl (fun A outer s H E f c hr => (sCall (p_need_guard M) hr (by decide) rfl lam_takes (sCons (sV 2) (sCons (sTup (sCons (sStr (by rfl)) sNil rfl)) sNil rfl) rfl)))) (sCons (sSaid1 (k := 6) (said__law_said M) rfl (by exact hr.mono (by decide)) lo (lamK_by (by kernel_rfl)) lamB_x rfl rfl rfl (fun A outer s H E f c hr => (sCall (p_zone_of_guard M) hr (by decide) rfl lam_takes (sCons (sV 2) (sCons (sTup (sCons (sStr (by rfl)) sNil rfl)) sNil rfl) rfl)))) sNil rfl) rfl)) nd__law_clocks_refused rfl (by first | exact .inl rfl | exact .inr rfl)) (zCons (zSet (i := 4) (sBin op_addO ok_addO (sV 4) (sLst (sCons (sSaid0 (k := 6) (said__law_said M) rfl (by exact hr.mono (by decide)) lo (lamK_by (by kernel_rfl)) lamB_0 rfl (fun A outer s H E f c hr => (sCall (p_guard_text M) hr (by decide) rfl lam_takes (sCons (sV 2) (sCons (sTup (sCons (sStr (by rfl)) sNil rfl)) sNil rfl) rfl)))) (sCons (sSaid1 (k := 6) (said__law_said M) rfl (by exact hr.mono (by decide)) lo (lamK_by (by kernel_rfl)) lamB_x rfl rfl rfl (fun A outer s H E f c hr => (sCall (p_does_hold M) hr (by decide) rfl lam_takes (sCons (sV 2) (sCons (sTup (sCons (sStr (by rfl)) sNil rfl)) (sCons sNon sNil rfl) rfl) rfl)))) sNil rfl) rfl))) nd__law_clocks_refused rfl (by first | exact .inl rfl | exact .inr rfl)) (zCons (zIf (sCmpT (op_eqO2 (by exact hr.units) true) (ok_eqO2 true) (sV 4) (sBin op_mulO2 ok_mulO2 (sLst (sCons (sTup (sCons (sStr (by rfl)) (sCons (sV 3) sNil rfl) rfl)) sNil rfl)) sInt) rfl) (zCons (zRet sBl) zNil) zNil) zNil))) bx_passes rfl) (zCons (zSet (i := 1) (sLst (sCons (sTup (sCons sNon (sCons sNon sNil rfl) rfl)) (sCons (sTup (sCons (sTup (sCons (sTup (sCons sInt (sCons sInt sNil rfl) rfl)) sNil rfl)) (sCons sNon sNil rfl) rfl)) (sCons (sTup (sCons (sTup (sCons (sTup (sCons sInt (sCons sInt sNil rfl) rfl)) (sCons sNon sNil rfl) rfl)) (sCons (sTup (sCons sInt (sCons sInt sNil rfl) rfl)) sNil rfl) rfl)) (sCons (sTup (sCons (sTup (sCons sNon (sCons (sTup (sCons (sTup (sCons sInt (sCons sInt sNil rfl) rfl)) (sCons (sTup (sCons sInt (sCons sInt sNil rfl) rfl)) sNil rfl) rfl)) sNil rfl) rfl)) (sCons sInt sNil rfl) rfl)) (sCons (sTup (sCons (sTup (sCons (sTup (sCons (sTup (sCons sInt (sCons sInt sNil rfl) rfl)) (sCons sNon sNil rfl) rfl)) (sCons (sTup (sCons (sTup (sCons sInt (sCons sInt sNil rfl) rfl)) sNil rfl)) sNil rfl) rfl)) (sCons sInt sNil rfl) rfl)) sNil rfl) rfl) rfl) rfl) rfl)) nd__law_clocks_refused rfl (by first | exact .inl rfl | exact .inr rfl)) (zCons (zSet (i := 1) (sBin op_addO ok_addO (sV 1) (sLst (sCons (sTup (sCons (sTup (sCons (sTup (sCons (sTup (sCons sInt (sCons sInt sNil rfl) rfl)) (sCons (sTup (sCons sInt (sCons sInt sNil rfl) rfl)) sNil rfl) rfl)) (sCons (sTup (sCons (sTup (sCons sInt (sCons sInt sNil rfl) rfl)) (sCons (sTup (sCons sInt (sCons sInt sNil rfl) rfl)) sNil rfl) rfl)) sNil rfl) rfl)) (sCons (sTup (sCons sInt (sCons sInt sNil rfl) rfl)) sNil rfl) rfl)) (sCons (sTup (sCons (sTup (sCons (sTup (sCons (sTup (sCons sInt (sCons sInt sNil rfl) rfl)) (sCons sNon sNil rfl) rfl)) (sCons (sTup (sCons (sTup (sCons sInt (sCons sInt sNil rfl) rfl)) (sCons (sTup (sCons sInt (sCons sInt sNil rfl) rfl)) sNil rfl) rfl)) sNil rfl) rfl)) (sCons (sTup (sCons sInt (sCons sInt sNil rfl) rfl)) sNil rfl) rfl)) sNil rfl) rfl))) nd__law_clocks_refused rfl (by first | exact .inl rfl | exact .inr rfl)) (zCons (zSet (i := 1) (sBin op_addO ok_addO (sV 1) (sLst (sCons (sTup (sCons (sTup (sCons (sTup (sCons (sTup (sCons sInt (sCons sInt sNil rfl) rfl)) (sCons sNon sNil rfl) rfl)) (sCons (sTup (sCons sNon (sCons (sLst (sCons sInt (sCons sInt sNil rfl) rfl)) sNil rfl) rfl)) sNil rfl) rfl)) (sCons (sTup (sCons sInt (sCons sInt sNil rfl) rfl)) sNil rfl) rfl)) (sCons (sTup (sCons (sTup (sCons (sTup (sCons (sTup (sCons sInt (sCons sInt sNil rfl) rfl)) (sCons sNon sNil rfl) rfl)) (sCons (sTup (sCons (sTup (sCons sBl (sCons sInt sNil rfl) rfl)) (sCons (sTup (sCons sInt (sCons sInt sNil rfl) rfl)) sNil rfl) rfl)) sNil rfl) rfl)) (sCons (sTup (sCons sInt (sCons sInt sNil rfl) rfl)) sNil rfl) rfl)) (sCons (sTup (sCons (sTup (sCons (sTup (sCons (sTup (sCons sInt (sCons sInt sNil rfl) rfl)) (sCons sNon sNil rfl) rfl)) (sCons (sTup (sCons (sTup (sCons sInt (sCons sInt (sCons sInt sNil rfl) rfl) rfl)) (sCons (sTup (sCons sInt (sCons sInt sNil rfl) rfl)) sNil rfl) rfl)) sNil rfl) rfl)) (sCons (sTup (sCons sInt (sCons sInt sNil rfl) rfl)) sNil rfl) rfl)) sNil rfl) rfl) rfl))) nd__law_clocks_refused rfl (by first | exact .inl rfl | exact .inr rfl)) (zCons (zFor (jVal (sV 1)) (yTup rfl (n := 2) (yCons (yName nd__law_clocks_refused (i := 2) rfl (by first | exact .inl rfl | exact .inr rfl)) (yCons (yName nd__law_clocks_refused (i := 3) rfl (by first | exact .inl rfl | exact .inr rfl)) yNil))) (zCons (zSet (i := 4) (sLst (sCons (sSaid0 (k := 5) (said__law_said M) rfl (by exact hr.mono (by decide)) lo (lamK_by (by kernel_rfl)) lamB_0 rfl (fun A outer s H E f c hr => (sCall (p_tight_zone M) hr (by decide) rfl lam_takes (sCons (sV 2) (sCons (sTup (sCons (sStr (by rfl)) sNil rfl)) sNil rfl) rfl)))) (sCons (sSaid1 (k := 5) (said__law_said M) rfl (by exact hr.mono (by decide)) lo (lamK_by (by kernel_rfl)) lamB_x rfl rfl rfl (fun A outer s H E f c hr => (sCall (p_need_zone M) hr (by decide) rfl lam_takes (sCons (sV 2) (sCons (sTup (sCons (sStr (by rfl)) sNil rfl)) sNil rfl) rfl)))) sNil rfl) rfl)) nd__law_clocks_refused rfl (by first | exact .inl rfl | exact .inr rfl)) (zCons (zSet (i := 4) (sBin op_addO ok_addO (sV 4) (sLst (sCons (sSaid0 (k := 5) (said__law_said M) rfl (by exact hr.mono (by decide)) lo (lamK_by (by kernel_rfl)) lamB_0 rfl (fun A outer s H E f c hr => (sCall (p_zone_paper M) hr (by decide) rfl lam_takes (sCons (sV 2) (sCons (sTup (sCons (sStr (by rfl)) sNil rfl)) sNil rfl) rfl)))) (sCons (sSaid1 (k := 5) (said__law_said M) rfl (by exact hr.mono (by decide)) lo (lamK_by (by kernel_rfl)) lamB_x rfl rfl rfl (fun A outer s H E f c hr => (sCall (p_check_zone_paper M) hr (by decide) rfl lam_takes (sCons (sV 2) (sCons (sTup (sCons (sStr (by rfl)) sNil rfl)) (sCons sNon sNil rfl) rfl) rfl)))) sNil rfl) rfl))) nd__law_clocks_refused rfl (by first | exact .inl rfl | exact .inr rfl)) (zCons (zSet (i := 4) (sBin op_addO ok_addO (sV 4) (sLst (sCons (sSaid0 (k := 6) (said__law_said M) rfl (by exact hr.mono (by decide)) lo (lamK_by (by kernel_rfl)) lamB_0 rfl (fun A outer s H E f c hr => (sCall (p_zone_text M) hr (by decide) rfl lam_takes (sCons (sV 2) (sCons (sTup (sCons (sStr (by rfl)) sNil rfl)) sNil rfl) rfl)))) (sCons (sSaid1 (k := 6) (said__law_said M) rfl (by exact hr.mono (by decide)) lo (lamK_by (by kernel_rfl)) lamB_x rfl rfl rfl (fun A outer s H E f c hr => (sCall (p_is_in_zone M) hr (by decide) rfl lam_takes (sCons (sV 2) (sCons (sTup (sCons (sStr (by rfl)) sNil rfl)) (sCons sNon sNil rfl) rfl) rfl)))) (sCons (sSaid1 (k := 6) (said__law_said M) rfl (by exact hr.mono (by decide)) lo (lamK_by (by kernel_rfl)) lamB_y rfl rfl rfl (fun A outer s H E f c hr => (sCall (p_point_of_zone M) hr (by decide) rfl lam_takes (sCons (sV 2) (sCons (sTup (sCons (sStr (by rfl)) sNil rfl)) sNil rfl) rfl)))) sNil rfl) rfl) rfl))) nd__law_clocks_refused rfl (by first | exact .inl rfl | exact .inr rfl)) (zCons (zIf (sCmpT (op_eqO2 (by exact hr.units) true) (ok_eqO2 true) (sV 4) (sBin op_mulO2 ok_mulO2 (sLst (sCons (sTup (sCons (sStr (by rfl)) (sCons (sV 3) sNil rfl) rfl)) sNil rfl)) sInt) rfl) (zCons (zRet sBl) zNil) zNil) zNil)))) bx_passes rfl) (zCons (zRet sBl) zNil)))))))))))
end G
set_option Elab.async false
set_option linter.all false
set_option maxRecDepth 100000
set_option maxHeartbeats 2000000
namespace G
open PySem PySem.Spec L2 Ev

variable {P : Program} {w : World} {K : PySem.W.Frag} {mg : Str → Option Value} {base : Heap} {C : Ev.Cls}
theorem nd__law_points_refused : (["zone", "bad", "due", "told"] : List Str).Nodup := by decide
def F__law_points_refused : GF := frF (fOf 4 0 (sSeq (sPut 0 (gTup (gCons (gTup (gCons (gTup (gCons (gC (.int 0)) (gCons (gC (.int 1)) gNil))) (gCons (gTup (gCons (gC (.int 0)) (gCons (gC (.int 1)) gNil))) gNil))) (gCons (gTup (gCons (gTup (gCons (gC (.int 3)) (gCons (gC (.int 1)) gNil))) (gCons (gTup (gCons (gC (.int 0)) (gCons (gC (.int 1)) gNil))) gNil))) gNil)))) (sSeq (sFor (iVal (gTup (gCons (gTup (gCons (gC .non) (gCons (gC .non) gNil))) (gCons (gTup (gCons (gTup gNil) (gCons (gC .non) gNil))) (gCons (gTup (gCons (gTup (gCons (gTup (gCons (gC (.int 0)) (gCons (gC (.int 1)) gNil))) (gCons (gTup (gCons (gC (.int 0)) (gCons (gC (.int 1)) gNil))) gNil))) (gCons (gC .non) gNil))) (gCons (gTup (gCons (gTup (gCons (gTup (gCons (gC (.int 1)) (gCons (gC (.int 0)) gNil))) gNil)) (gCons (gC (.int 0)) gNil))) (gCons (gTup (gCons (gTup (gCons (gTup (gCons (gC (.int 2)) (gCons (gC (.int 2)) gNil))) gNil)) (gCons (gC (.int 0)) gNil))) (gCons (gTup (gCons (gTup (gCons (gTup (gCons (gNeg (gC (.int 1))) (gCons (gC (.int 1)) gNil))) gNil)) (gCons (gC (.int 0)) gNil))) (gCons (gTup (gCons (gTup (gCons (gC (.int 1)) gNil)) (gCons (gC (.int 0)) gNil))) (gCons (gTup (gCons (gTup (gCons (gTup (gCons (gC (.bl true)) (gCons (gC (.int 1)) gNil))) gNil)) (gCons (gC (.int 0)) gNil))) (gCons (gTup (gCons (gTup (gCons (gTup (gCons (gC (.str [49])) (gCons (gC (.int 1)) gNil))) gNil)) (gCons (gC (.int 0)) gNil))) gNil))))))))))) (tTupT (tConsT (tName 1) (tConsT (tName 2) tNilT)) 2) (sSeq (sPut 3 (gLst (gCons (gSaid (gCall 3 F_does_hold (gCons (gTup gNil) (gCons (gTup (gCons (gC (.str [120])) gNil)) (gCons (gVar 1) gNil)))) hs__law_said) (gCons (gSaid (gCall 3 F_is_in_zone (gCons (gVar 0) (gCons (gTup (gCons (gC (.str [120])) gNil)) (gCons (gVar 1) gNil)))) hs__law_said) (gCons (gSaid (gCall 2 F_point_text (gCons (gTup (gCons (gC (.str [120])) gNil)) (gCons (gVar 1) gNil))) hs__law_said) gNil))))) (sSeq (sIfS (gBl (g2 (eqO2 true) (gVar 3) (g2 mulO2 (gLst (gCons (gTup (gCons (gC (.str [115, 116, 97, 116, 101])) (gCons (gVar 2) gNil))) gNil)) (gC (.int 3))))) (sSeq (sRet (gC (.bl false))) sNext) sNext) sNext))) (sSeq (sRet (gC (.bl true))) sNext))))
theorem p__law_points_refused (M : Facts P w K mg base C) : Cal P w K mg base C 9 "_law_points_refused" 0 F__law_points_refused := Cal.frame (cal_ofL ["zone", "bad", "due", "told"] M.d__law_points_refused (fnScope_by (by decide +kernel)) fun f cdv A outer s H E lo hr => (zCons (zSet (i := 0) (sTup (sCons (sTup (sCons (sTup (sCons sInt (sCons sInt sNil rfl) rfl)) (sCons (sTup (sCons sInt (sCons sInt sNil rfl) rfl)) sNil rfl) rfl)) (sCons (sTup (sCons (sTup (sCons sInt (sCons sInt sNil rfl) rfl)) (sCons (sTup (sCons sInt (sCons sInt sNil rfl) rfl)) sNil rfl) rfl)) sNil rfl) rfl)) nd__law_points_refused rfl (by first | exact .inl rfl | exact .inr rfl)) (zCons (zFor (jVal (sTup (sCons (sTup (sCons sNon (sCons sNon sNil rfl) rfl)) (sCons (sTup (sCons (sTup sNil) (sCons sNon sNil rfl) rfl)) (sCons (sTup (sCons (sTup (sCons (sTup (sCons sInt (sCons sInt sNil rfl) rfl)) (sCons (sTup (sCons sInt (sCons sInt sNil rfl) rfl)) sNil rfl) rfl)) (sCons sNon sNil rfl) rfl)) (sCons (sTup (sCons (sTup (sCons (sTup (sCons sInt (sCons sInt sNil rfl) rfl)) sNil rfl)) (sCons sInt sNil rfl) rfl)) (sCons (sTup (sCons (sTup (sCons (sTup (sCons sInt (sCons sInt sNil rfl) rfl)) sNil rfl)) (sCons sInt sNil rfl) rfl)) (sCons (sTup (sCons (sTup (sCons (sTup (sCons (sNeg sInt) (sCons sInt sNil rfl) rfl)) sNil rfl)) (sCons sInt sNil rfl) rfl)) (sCons (sTup (sCons (sTup (sCons sInt sNil rfl)) (sCons sInt sNil rfl) rfl)) (sCons (sTup (sCons (sTup (sCons (sTup (sCons sBl (sCons sInt sNil rfl) rfl)) sNil rfl)) (sCons sInt sNil rfl) rfl)) (sCons (sTup (sCons (sTup (sCons (sTup (sCons (sStr (by rfl)) (sCons sInt sNil rfl) rfl)) sNil rfl)) (sCons sInt sNil rfl) rfl)) sNil rfl) rfl) rfl) rfl) rfl) rfl) rfl) rfl) rfl))) (yTup rfl (n := 2) (yCons (yName nd__law_points_refused (i := 1) rfl (by first | exact .inl rfl | exact .inr rfl)) (yCons (yName nd__law_points_refused (i := 2) rfl (by first | exact .inl rfl | exact .inr rfl)) yNil))) (zCons (zSet (i := 3) (sLst (sCons (sSaid0 (k := 6) (said__law_said M) rfl (by exact hr.mono (by decide)) lo (lamK_by (by kernel_rfl)) lamB_0 rfl (fun A outer s H E f c hr => (sCall (p_does_hold M) hr (by decide) rfl lam_takes (sCons (sTup sNil) (sCons (sTup (sCons (sStr (by rfl)) sNil rfl)) (sCons (sV 1) sNil rfl) rfl) rfl)))) (sCons (sSaid1 (k := 6) (said__law_said M) rfl (by exact hr.mono (by decide)) lo (lamK_by (by kernel_rfl)) lamB_x rfl rfl rfl (fun A outer s H E f c hr => (sCall (p_is_in_zone M) hr (by decide) rfl lam_takes (sCons (sV 0) (sCons (sTup (sCons (sStr (by rfl)) sNil rfl)) (sCons (sV 1) sNil rfl) rfl) rfl)))) (sCons (sSaid1 (k := 5) (said__law_said M) rfl (by exact hr.mono (by decide)) lo (lamK_by (by kernel_rfl)) lamB_y rfl rfl rfl (fun A outer s H E f c hr => (sCall (p_point_text M) hr (by decide) rfl lam_takes (sCons (sTup (sCons (sStr (by rfl)) sNil rfl)) (sCons (sV 1) sNil rfl) rfl)))) sNil rfl) rfl) rfl)) nd__law_points_refused rfl (by first | exact .inl rfl | exact .inr rfl)) (zCons (zIf (sCmpT (op_eqO2 (by exact hr.units) true) (ok_eqO2 true) (sV 3) (sBin op_mulO2 ok_mulO2 (sLst (sCons (sTup (sCons (sStr (by rfl)) (sCons (sV 2) sNil rfl) rfl)) sNil rfl)) sInt) rfl) (zCons (zRet sBl) zNil) zNil) zNil)) bx_passes rfl) (zCons (zRet sBl) zNil))))
def L1 : GS := (sIfS (gOrT (gNotT (gTru (gCall 0 F__law_clocks_refused gNil))) (gNotT (gTru (gCall 0 F__law_points_refused gNil)))) (sSeq (sRet (gC (.bl false))) sNext) sNext)
theorem nd_begun : (["script", "cell"] : List Str).Nodup := by decide
theorem begun_m (M : Facts P w K mg base C) : BegunOk P w K mg base C "_law_begun" :=
  begun_of (tt := gBl (g2 (ltO .ge) (gB bInt3 (gCons (gVar 1) gNil)) (g2 powO (gC (.int 10)) (gC (.int 18))))) (ge := gB bInt3 (gCons (gVar 1) gNil)) M.d__law_begun (fnScope_by (by decide +kernel)) (fun _ _ => rfl) (fun _ _ => rfl) fun f cdv A outer s H E hr =>
    pss_one (ps_ret (pe_disp (pps_cons pe_str (pe_callTy call_list_of rfl M.n_list (by rfl) (pa_cons (pe_var (i := 0) rfl (.inl rfl)) pa_nil)) (pps_cons pe_str pe_int (pps_cons pe_str
      (pe_lc (own := [("cell", 1)]) rfl nd_begun (pi_val (pe_var (i := 0) rfl (.inl rfl))) (blkOk_by (by kernel_rfl)) (fun _ _ _ _ _ => (yNameV nd_begun (i := 1) rfl (by first | exact .inl rfl | exact .inr rfl) (by first | exact .inl rfl | exact .inr rfl) (by decide)))
        (fun _ _ _ _ _ => (tsOne (sCmpT (op_ltO (by exact hr.units0) .ge) (ok_ltO .ge) (sTy (cr_int2 (by exact M.nodg)) ok_int3 rfl M.n_int (by rfl) (sCons (sV 1) sNil rfl)) (sBin op_pow ok_powO sInt sInt) rfl))) (fun _ _ _ _ _ => (sTy (cr_int2 (by exact M.nodg)) ok_int3 rfl M.n_int (by rfl) (sCons (sV 1) sNil rfl)))) pps_nil))) rfl rfl (by simp) (by decide)))
def LS : List GS := [L1, L2, L3, L4, L5, L6, L7, L8, L9, L10, L11, L12, L13, L14, L15, L16, L17, L18, L19, L20, L21]
theorem nd_law : (["script", "m", "three", "far", "near", "number", "zone", "text", "odd", "long", "eight", "spot"] : List Str).Nodup := by decide
theorem b_law (M : Facts P w K mg base C) (f : Addr) (cdv : Value) (A : Around) (outer : List Env) (s : Shared) (H : Hp) (E : XK) (lo : LamOk (bx P w K mg base ["script", "m", "three", "far", "near", "number", "zone", "text", "odd", "long", "eight", "spot"] "law" (defScope (top 114)) f cdv A outer s H E) C) (hr : Room 9 (bx P w K mg base ["script", "m", "three", "far", "near", "number", "zone", "text", "odd", "long", "eight", "spot"] "law" (defScope (top 114)) f cdv A outer s H E).A) : PSs (bx P w K mg base ["script", "m", "three", "far", "near", "number", "zone", "text", "odd", "long", "eight", "spot"] "law" (defScope (top 114)) f cdv A outer s H E) (defBody (top 114)) (fun D σ H => tBegun K C 1 { D with nx := runT K C (wF E) LS D } σ H) :=
  cFirst (cBegun (begun_m M) hr (by decide) rfl bx_takes nd_law rfl rfl (.inl rfl) (.inl rfl)) (cCons (zIf (PW.pt (sOr (sNotT (sTru (sCall0 (p__law_clocks_refused M) hr (by decide) rfl bx_takes) (fun _ => rfl))) (sOr1 (sNotT (sTru (sCall0 (p__law_points_refused M) hr (by decide) rfl bx_takes) (fun _ => rfl)))))) (zCons (zRet sBl) zNil) zNil) (cCons (zSet (i := 2) (sTup (sCons (sStr (by rfl)) (sCons (sStr (by rfl)) (sCons (sStr (by rfl)) sNil rfl) rfl) rfl)) nd_law rfl (by first | exact .inl rfl | exact .inr rfl)) (cCons (zSet (i := 3) (sTup (sCons (sTup (sCons (sTup (sCons sInt (sCons sInt sNil rfl) rfl)) (sCons sNon (sCons sNon (sCons sNon sNil rfl) rfl) rfl) rfl)) (sCons (sTup (sCons (sTup (sCons sInt (sCons sInt sNil rfl) rfl)) (sCons (sTup (sCons sInt (sCons sInt sNil rfl) rfl)) (sCons sNon (sCons sNon sNil rfl) rfl) rfl) rfl)) (sCons (sTup (sCons sNon (sCons (sTup (sCons sInt (sCons sInt sNil rfl) rfl)) (sCons (sTup (sCons sInt (sCons sInt sNil rfl) rfl)) (sCons sNon sNil rfl) rfl) rfl) rfl)) (sCons (sTup (sCons sNon (sCons sNon (sCons (sTup (sCons (sNeg sInt) (sCons sInt sNil rfl) rfl)) (sCons (sTup (sCons sInt (sCons sInt sNil rfl) rfl)) sNil rfl) rfl) rfl) rfl)) sNil rfl) rfl) rfl) rfl)) nd_law rfl (by first | exact .inl rfl | exact .inr rfl)) (cCons (zIf (sCmpT (op_eqO2 (by exact hr.units) true) (ok_eqO2 true) (sLst (sCons (sSaid0 (k := 5) (said__law_said M) rfl (by exact hr.mono (by decide)) lo (lamK_by (by kernel_rfl)) lamB_0 rfl (fun A outer s H E f c hr => (sCall (p_tight_zone M) hr (by decide) rfl lam_takes (sCons (sV 3) (sCons (sV 2) sNil rfl) rfl)))) (sCons (sSaid1 (k := 5) (said__law_said M) rfl (by exact hr.mono (by decide)) lo (lamK_by (by kernel_rfl)) lamB_x rfl rfl rfl (fun A outer s H E f c hr => (sCall (p_need_zone M) hr (by decide) rfl lam_takes (sCons (sV 3) (sCons (sV 2) sNil rfl) rfl)))) sNil rfl) rfl)) (sLst (sCons (sTup (sCons (sStr (by rfl)) (sCons sInt sNil rfl) rfl)) (sCons (sTup (sCons (sStr (by rfl)) (sCons (sStr (by rfl)) sNil rfl) rfl)) sNil rfl) rfl)) rfl) (zCons (zRet sBl) zNil) zNil) (cCons (zSet (i := 4) (sBin op_addO ok_addO (sBin op_addO ok_addO (sSl (sV 3) oNone (oSome sInt)) (sTup (sCons (sTup (sCons sNon (sCons (sTup (sCons sInt (sCons sInt sNil rfl) rfl)) (sCons (sTup (sCons sInt (sCons sInt sNil rfl) rfl)) (sCons sNon sNil rfl) rfl) rfl) rfl)) sNil rfl))) (sSl (sV 3) (oSome sInt) oNone)) nd_law rfl (by first | exact .inl rfl | exact .inr rfl)) (cCons (zIf (PW.pt (sOr (sNotT (sTru (sCall (p__law_like_6 M) hr (by decide) rfl bx_takes (sCons (sCall (p_tight_zone M) hr (by decide) rfl bx_takes (sCons (sV 4) (sCons (sV 2) sNil rfl) rfl)) (sCons (sCall (p__law_tight M) hr (by decide) rfl bx_takes (sCons (sV 4) sNil rfl)) sNil rfl) rfl)) (fun _ => rfl))) (sOr (sCmpT (op_eqO2 (by exact hr.units) true) (ok_eqO2 true) (sIx (by exact hr.ix) (sCall (p_zone_paper M) hr (by decide) rfl bx_takes (sCons (sV 3) (sCons (sV 2) sNil rfl) rfl)) sInt (fun _ _ => rfl)) (sStr (by rfl)) rfl) (sOr1 (sCmpT (op_eqO2 (by exact hr.units) true) (ok_eqO2 true) (sCall (p_check_zone_paper M) hr (by decide) rfl bx_takes (sCons (sV 3) (sCons (sV 2) (sCons (sCall (p_zone_paper M) hr (by decide) rfl bx_takes (sCons (sV 3) (sCons (sV 2) sNil rfl) rfl)) sNil rfl) rfl) rfl)) (sStr (by rfl)) rfl))))) (zCons (zRet sBl) zNil) zNil) (cCons (zSet (i := 5) (sBin op_subO ok_subO sInt (sCall (p__law_next M) hr (by decide) rfl bx_takes (sCons (sV 1) (sCons sInt sNil rfl) rfl))) nd_law rfl (by first | exact .inl rfl | exact .inr rfl)) (cCons (zSet (i := 6) (sTup (sCons (sTup (sCons (sTup (sCons sInt (sCons sInt sNil rfl) rfl)) (sCons (sTup (sCons (sNeg (sV 5)) (sCons sInt sNil rfl) rfl)) sNil rfl) rfl)) (sCons (sTup (sCons (sTup (sCons (sV 5) (sCons sInt sNil rfl) rfl)) (sCons (sTup (sCons sInt (sCons sInt sNil rfl) rfl)) sNil rfl) rfl)) sNil rfl) rfl)) nd_law rfl (by first | exact .inl rfl | exact .inr rfl)) (cCons (zSet (i := 7) (sBin op_addO ok_addO (sBin op_addO ok_addO (sBin op_addO ok_addO (sStr (by rfl)) (sTy (cr_str2 (by exact M.nodg) rfl) ok_str3 rfl M.n_str (by rfl) (sCons (sV 5) sNil rfl))) (sStr (by rfl))) (sTy (cr_str2 (by exact M.nodg) rfl) ok_str3 rfl M.n_str (by rfl) (sCons (sV 5) sNil rfl))) nd_law rfl (by first | exact .inl rfl | exact .inr rfl)) (cCons (zIf (sNotT (sTru (sCall (p__law_like_6 M) hr (by decide) rfl bx_takes (sCons (sTup (sCons (sCall (p_tight_zone M) hr (by decide) rfl bx_takes (sCons (sV 6) (sCons (sTup (sCons (sStr (by rfl)) sNil rfl)) sNil rfl) rfl)) (sCons (sCall (p_zone_text M) hr (by decide) rfl bx_takes (sCons (sV 6) (sCons (sTup (sCons (sStr (by rfl)) sNil rfl)) sNil rfl) rfl)) (sCons (sCall (p_read_zone M) hr (by decide) rfl bx_takes (sCons (sV 7) (sCons (sTup (sCons (sStr (by rfl)) sNil rfl)) sNil rfl) rfl)) (sCons (sCall (p_point_of_zone M) hr (by decide) rfl bx_takes (sCons (sV 6) (sCons (sTup (sCons (sStr (by rfl)) sNil rfl)) sNil rfl) rfl)) sNil rfl) rfl) rfl) rfl)) (sCons (sTup (sCons (sV 6) (sCons (sV 7) (sCons (sV 6) (sCons (sTup (sCons (sTup (sCons (sV 5) (sCons sInt sNil rfl) rfl)) sNil rfl)) sNil rfl) rfl) rfl) rfl)) sNil rfl) rfl)) (fun _ => rfl))) (zCons (zRet sBl) zNil) zNil) (cCons (zSet (i := 8) (sLst (sCons (sStr (by rfl)) (sCons (sStr (by rfl)) (sCons (sStr (by rfl)) (sCons (sStr (by rfl)) (sCons (sStr (by rfl)) (sCons (sStr (by rfl)) (sCons (sStr (by rfl)) (sCons (sStr (by rfl)) (sCons (sStr (by rfl)) (sCons (sStr (by rfl)) sNil rfl) rfl) rfl) rfl) rfl) rfl) rfl) rfl) rfl) rfl)) nd_law rfl (by first | exact .inl rfl | exact .inr rfl)) (cCons (zSet (i := 8) (sBin op_addO ok_addO (sV 8) (sLst (sCons (sStr (by rfl)) (sCons (sStr (by rfl)) (sCons (sStr (by rfl)) (sCons sNon (sCons sInt (sCons (sStr (by rfl)) (sCons (sStr (by rfl)) (sCons (sStr (by rfl)) sNil rfl) rfl) rfl) rfl) rfl) rfl) rfl) rfl))) nd_law rfl (by first | exact .inl rfl | exact .inr rfl)) (cCons (zIf (sCmpT (op_eqO2 (by exact hr.units) true) (ok_eqO2 true) (sLc (own := [("text", 7)]) rfl rfl bx_takes rfl nd_law (jVal (sV 8)) (blkOk_by (by kernel_rfl)) (fun _ _ _ _ => (yNameV nd_law (i := 7) rfl (by first | exact .inl rfl | exact .inr rfl) (by first | exact .inl rfl | exact .inr rfl) (by decide))) (fun _ _ _ _ _ tk => (tsOne (sCmpT (op_eqO2 (by exact hr.units) true) (ok_eqO2 true) (sSaid0 (k := 5) (said__law_said M) rfl (by exact hr.mono (by decide)) lo (lamK_by (by kernel_rfl)) lamB_0 rfl (fun A outer s H E f c hr => (sCall (p_read_zone M) hr (by decide) rfl lam_takes (sCons (sV 7) (sCons (sTup (sCons (sStr (by rfl)) sNil rfl)) sNil rfl) rfl)))) (sTup (sCons (sStr (by rfl)) (sCons sNon sNil rfl) rfl)) rfl))) (fun _ _ _ _ _ tk => (sV 7))) (sLst sNil) rfl) (zCons (zRet sBl) zNil) zNil) (cCons (zSet (i := 8) (sLst (sCons (sStr (by rfl)) (sCons (sStr (by rfl)) (sCons (sStr (by rfl)) (sCons (sStr (by rfl)) (sCons (sStr (by rfl)) (sCons (sStr (by rfl)) (sCons (sStr (by rfl)) (sCons (sStr (by rfl)) (sCons (sStr (by rfl)) (sCons (sStr (by rfl)) (sCons sNon (sCons sInt (sCons (sStr (by rfl)) (sCons (sM (k := 0) PySem.F.plainAttrs_str PySem.F.slot_str_join rfl mt_join ok_join (sStr (by rfl)) (sCons (sBin op_mulO2 ok_mulO2 (sLst (sCons (sStr (by rfl)) sNil rfl)) sInt) sNil rfl)) (sCons (sStr (by rfl)) sNil rfl) rfl) rfl) rfl) rfl) rfl) rfl) rfl) rfl) rfl) rfl) rfl) rfl) rfl) rfl)) nd_law rfl (by first | exact .inl rfl | exact .inr rfl)) (cCons (zIf (sCmpT (op_eqO2 (by exact hr.units) true) (ok_eqO2 true) (sLc (own := [("text", 7)]) rfl rfl bx_takes rfl nd_law (jVal (sV 8)) (blkOk_by (by kernel_rfl)) (fun _ _ _ _ => (yNameV nd_law (i := 7) rfl (by first | exact .inl rfl | exact .inr rfl) (by first | exact .inl rfl | exact .inr rfl) (by decide))) (fun _ _ _ _ _ tk => (tsOne (sCmpT (op_eqO2 (by exact hr.units) true) (ok_eqO2 true) (sSaid0 (k := 6) (said__law_said M) rfl (by exact hr.mono (by decide)) lo (lamK_by (by kernel_rfl)) lamB_0 rfl (fun A outer s H E f c hr => (sCall (p_read_guard M) hr (by decide) rfl lam_takes (sCons (sV 7) (sCons (sTup (sCons (sStr (by rfl)) sNil rfl)) sNil rfl) rfl)))) (sTup (sCons (sStr (by rfl)) (sCons sNon sNil rfl) rfl)) rfl))) (fun _ _ _ _ _ tk => (sV 7))) (sLst sNil) rfl) (zCons (zRet sBl) zNil) zNil) (cCons (zSet (i := 9) (sBin op_addO ok_addO (sTy (cr_int2 (by exact M.nodg)) ok_int3 rfl M.n_int (by rfl) (sCons (sBin op_addO ok_addO (sStr (by rfl)) (sBin op_mulO2 ok_mulO2 (sStr (by rfl)) sInt)) sNil rfl)) (sCall (p__law_next M) hr (by decide) rfl bx_takes (sCons (sV 1) (sCons sInt sNil rfl) rfl))) nd_law rfl (by first | exact .inl rfl | exact .inr rfl)) (cCons (zSet (i := 3) (sLst (sCons (sSaid0 (k := 5) (said__law_said M) rfl (by exact hr.mono (by decide)) lo (lamK_by (by kernel_rfl)) lamB_0 rfl (fun A outer s H E f c hr => (sCall (p_point_text M) hr (by decide) rfl lam_takes (sCons (sTup (sCons (sStr (by rfl)) sNil rfl)) (sCons (sTup (sCons (sTup (sCons (sBin op_mulO2 ok_mulO2 sInt (sV 9)) (sCons sInt sNil rfl) rfl)) sNil rfl)) sNil rfl) rfl)))) (sCons (sSaid1 (k := 5) (said__law_said M) rfl (by exact hr.mono (by decide)) lo (lamK_by (by kernel_rfl)) lamB_x rfl rfl rfl (fun A outer s H E f c hr => (sCall (p_read_zone M) hr (by decide) rfl lam_takes (sCons (sStr (by rfl)) (sCons (sTup (sCons (sStr (by rfl)) sNil rfl)) sNil rfl) rfl)))) (sCons (sSaid1 (k := 5) (said__law_said M) rfl (by exact hr.mono (by decide)) lo (lamK_by (by kernel_rfl)) lamB_y rfl rfl rfl (fun A outer s H E f c hr => (sCall (p_read_zone M) hr (by decide) rfl lam_takes (sCons (sStr (by rfl)) (sCons (sTup (sCons (sStr (by rfl)) sNil rfl)) sNil rfl) rfl)))) sNil rfl) rfl) rfl)) nd_law rfl (by first | exact .inl rfl | exact .inr rfl)) (cCons (zIf (PW.pt (sOr (sCmpT (op_eqO2 (by exact hr.units) true) (ok_eqO2 true) (sCall (p_point_text M) hr (by decide) rfl bx_takes (sCons (sTup (sCons (sStr (by rfl)) sNil rfl)) (sCons (sTup (sCons (sTup (sCons (sV 9) (sCons sInt sNil rfl) rfl)) sNil rfl)) sNil rfl) rfl)) (sTy (cr_str2 (by exact M.nodg) rfl) ok_str3 rfl M.n_str (by rfl) (sCons (sV 9) sNil rfl)) rfl) (sOr1 (sCmpT (op_eqO2 (by exact hr.units) true) (ok_eqO2 true) (sV 3) (sLst (sCons (sTup (sCons (sStr (by rfl)) (sCons sInt sNil rfl) rfl)) (sCons (sTup (sCons (sStr (by rfl)) (sCons sNon sNil rfl) rfl)) (sCons (sTup (sCons (sStr (by rfl)) (sCons sNon sNil rfl) rfl)) sNil rfl) rfl) rfl)) rfl)))) (zCons (zRet sBl) zNil) zNil) (cCons (zSet (i := 10) (sM (k := 0) PySem.F.plainAttrs_str PySem.F.slot_str_join rfl mt_join ok_join (sStr (by rfl)) (sCons (sLc (own := [("spot", 11)]) rfl rfl bx_takes rfl nd_law (jRng1 rfl M.n_range (sCons sInt sNil rfl)) (blkOk_by (by kernel_rfl)) (fun _ _ _ _ => (yNameV nd_law (i := 11) rfl (by first | exact .inl rfl | exact .inr rfl) (by first | exact .inl rfl | exact .inr rfl) (by decide))) (fun _ _ _ _ _ tk => tsNil) (fun _ _ _ _ _ tk => (sBin op_addO ok_addO (sStr (by rfl)) (sTy (cr_str2 (by exact M.nodg) rfl) ok_str3 rfl M.n_str (by rfl) (sCons (sV 11) sNil rfl))))) sNil rfl)) nd_law rfl (by first | exact .inl rfl | exact .inr rfl)) (cCons (zIf (PW.pt (sOr (sCmpT (op_eqO2 (by exact hr.units) true) (ok_eqO2 true) (sCall (p_guard_text M) hr (by decide) rfl bx_takes (sCons (sCall (p_read_guard M) hr (by decide) rfl bx_takes (sCons (sV 10) (sCons (sTup (sCons (sStr (by rfl)) sNil rfl)) sNil rfl) rfl)) (sCons (sTup (sCons (sStr (by rfl)) sNil rfl)) sNil rfl) rfl)) (sV 10) rfl) (sOr1 (sCmpT (op_eqO2 (by exact hr.units) true) (ok_eqO2 true) (sCall (p_read_zone M) hr (by decide) rfl bx_takes (sCons (sStr (by rfl)) (sCons (sTup sNil) sNil rfl) rfl)) (sTup (sCons (sTup (sCons (sTup (sCons sInt (sCons sInt sNil rfl) rfl)) sNil rfl)) sNil rfl)) rfl)))) (zCons (zRet sBl) zNil) zNil) (cCons (zRet (sAndV (sCmp (op_eqO2 (by exact hr.units) false) (ok_eqO2 false) (sCall (p_point_text M) hr (by decide) rfl bx_takes (sCons (sTup sNil) (sCons (sTup sNil) sNil rfl) rfl)) (sStr (by rfl)) rfl) (sOneV (sCmp (op_eqO2 (by exact hr.units) false) (ok_eqO2 false) (sCall (p_point_text M) hr (by decide) rfl bx_takes (sCons (sTup (sCons (sStr (by rfl)) (sCons (sStr (by rfl)) sNil rfl) rfl)) (sCons (sTup (sCons (sTup (sCons sInt (sCons sInt sNil rfl) rfl)) (sCons (sTup (sCons (sBin op_pow ok_powO sInt sInt) (sCons sInt sNil rfl) rfl)) sNil rfl) rfl)) sNil rfl) rfl)) (sBin op_addO ok_addO (sStr (by rfl)) (sBin op_mulO2 ok_mulO2 (sStr (by rfl)) sInt)) rfl)))) cNil)))))))))))))))))))))
end G
set_option Elab.async false
set_option linter.all false
set_option maxRecDepth 100000
set_option maxHeartbeats 0
namespace GR
open PySem PySem.Spec L2 Ev G
def K3 : List (Nat × Bool) := [(0, false), (1, true), (2, true)]
def d0 : Sl := (List.replicate 12 none).set 1 (some (.ref 0))
def dN (v : Int) : Sl := d0.set 5 (some (.int (1000 - v)))
def big : Int := ((10 ^ 3999 : Nat) : Int)
def dL (v : Int) : Sl := d0.set 9 (some (.int (big + v)))
def V : List Nat := [0, 2, 3, 4, 5, 6, 7, 8, 9, 10, 11]
theorem nextE : F__law_next = nextG := rfl
theorem a1 (cs ls : List Int) (k : Int) : segSel [L1, L2, L3, L4, L5, L6] K3 V d0 (hC cs k ls) = some (d0, hC cs k ls) := by kernel_rfl
theorem a2 (cs ls : List Int) (k : Int) : segSel [L11, L12, L13, L14, L15] K3 V d0 (hC cs k ls) = some (d0, hC cs k ls) := by kernel_rfl
theorem nd3 : (K3.map (·.1)).Nodup := by decide
theorem br (cs ls : List Int) (k : Int) : bare2 K3 (hC cs k ls) := ⟨(fun z => nomatch z), (fun _ => noRefs_iDs cs), (fun _ => noRefs_iDs ls), trivial⟩
theorem bigE (δ : Sl) (h : List O) : gB bInt3 (Ev.gCons (g2 addO (gC (.str [49])) (g2 mulO2 (gC (.str [48])) (gC (.int 3999)))) Ev.gNil) δ h = .ok (.int big) h := by kernel_rfl
theorem lst9 {v : Int} (h : 0 ≤ v) (h2 : v < 9) : v = 0 ∨ v = 1 ∨ v = 2 ∨ v = 3 ∨ v = 4 ∨ v = 5 ∨ v = 6 ∨ v = 7 ∨ v = 8 := by omega
theorem n0 (cs ls : List Int) (k : Int) : segSel [L8, L9, L10] K3 V (dN 0) (hC cs k ls) = some (d0, hC cs k ls) := by kernel_rfl
theorem n1 (cs ls : List Int) (k : Int) : segSel [L8, L9, L10] K3 V (dN 1) (hC cs k ls) = some (d0, hC cs k ls) := by kernel_rfl
theorem n2 (cs ls : List Int) (k : Int) : segSel [L8, L9, L10] K3 V (dN 2) (hC cs k ls) = some (d0, hC cs k ls) := by kernel_rfl
theorem n3 (cs ls : List Int) (k : Int) : segSel [L8, L9, L10] K3 V (dN 3) (hC cs k ls) = some (d0, hC cs k ls) := by kernel_rfl
theorem n4 (cs ls : List Int) (k : Int) : segSel [L8, L9, L10] K3 V (dN 4) (hC cs k ls) = some (d0, hC cs k ls) := by kernel_rfl
theorem n5 (cs ls : List Int) (k : Int) : segSel [L8, L9, L10] K3 V (dN 5) (hC cs k ls) = some (d0, hC cs k ls) := by kernel_rfl
theorem n6 (cs ls : List Int) (k : Int) : segSel [L8, L9, L10] K3 V (dN 6) (hC cs k ls) = some (d0, hC cs k ls) := by kernel_rfl
theorem n7 (cs ls : List Int) (k : Int) : segSel [L8, L9, L10] K3 V (dN 7) (hC cs k ls) = some (d0, hC cs k ls) := by kernel_rfl
theorem n8 (cs ls : List Int) (k : Int) : segSel [L8, L9, L10] K3 V (dN 8) (hC cs k ls) = some (d0, hC cs k ls) := by kernel_rfl
theorem l0 (cs ls : List Int) (k : Int) : runB [L17, L18, L19, L20, L21] (dL 0) (hC cs k ls) = true := by kernel_rfl
theorem l1 (cs ls : List Int) (k : Int) : runB [L17, L18, L19, L20, L21] (dL 1) (hC cs k ls) = true := by kernel_rfl
theorem l2 (cs ls : List Int) (k : Int) : runB [L17, L18, L19, L20, L21] (dL 2) (hC cs k ls) = true := by kernel_rfl
theorem l3 (cs ls : List Int) (k : Int) : runB [L17, L18, L19, L20, L21] (dL 3) (hC cs k ls) = true := by kernel_rfl
theorem l4 (cs ls : List Int) (k : Int) : runB [L17, L18, L19, L20, L21] (dL 4) (hC cs k ls) = true := by kernel_rfl
theorem l5 (cs ls : List Int) (k : Int) : runB [L17, L18, L19, L20, L21] (dL 5) (hC cs k ls) = true := by kernel_rfl
theorem l6 (cs ls : List Int) (k : Int) : runB [L17, L18, L19, L20, L21] (dL 6) (hC cs k ls) = true := by kernel_rfl
theorem l7 (cs ls : List Int) (k : Int) : runB [L17, L18, L19, L20, L21] (dL 7) (hC cs k ls) = true := by kernel_rfl
theorem l8 (cs ls : List Int) (k : Int) : runB [L17, L18, L19, L20, L21] (dL 8) (hC cs k ls) = true := by kernel_rfl
theorem num {v : Int} (h : 0 ≤ v) (h2 : v < 9) (cs ls : List Int) (k : Int) : segSel [L8, L9, L10] K3 V (dN v) (hC cs k ls) = some (d0, hC cs k ls) := by
  rcases lst9 h h2 with rfl | rfl | rfl | rfl | rfl | rfl | rfl | rfl | rfl
  · exact n0 cs ls k
  · exact n1 cs ls k
  · exact n2 cs ls k
  · exact n3 cs ls k
  · exact n4 cs ls k
  · exact n5 cs ls k
  · exact n6 cs ls k
  · exact n7 cs ls k
  · exact n8 cs ls k
theorem lng {v : Int} (h : 0 ≤ v) (h2 : v < 9) (cs ls : List Int) (k : Int) : runB [L17, L18, L19, L20, L21] (dL v) (hC cs k ls) = true := by
  rcases lst9 h h2 with rfl | rfl | rfl | rfl | rfl | rfl | rfl | rfl | rfl
  · exact l0 cs ls k
  · exact l1 cs ls k
  · exact l2 cs ls k
  · exact l3 cs ls k
  · exact l4 cs ls k
  · exact l5 cs ls k
  · exact l6 cs ls k
  · exact l7 cs ls k
  · exact l8 cs ls k
theorem law_run (ns : List Int) (hn : ns.length ≤ 63) : Runs LS ((List.replicate 12 none).set 1 (some (.ref 0))) (begunH ns) := by
  show Runs ([L1, L2, L3, L4, L5, L6] ++ (L7 :: ([L8, L9, L10] ++ ([L11, L12, L13, L14, L15] ++ (L16 :: [L17, L18, L19, L20, L21]))))) d0 (hC ns 0 (bigs ns))
  refine segSel_runs (a1 ns (bigs ns) 0) nd3 (br _ _ _) ?_
  refine draw_runs (many := 9) dN (by decide) (by decide) (by decide) (by decide) (fun v h' e => ?_) fun v k ls n h0 h9 k0 k1 => ?_
  · simp [L7, sPut, g2, gC, gCall, Ev.gCons, gVar, Ev.gNil, R.bind, R.toS, nextE, e, subO, intO, d0, dN]
  · have es : selS [0, 1, n] [] (dN v) = dN v := rfl
    rw [es]
    refine segSel_runs (num h0 h9 ns ls k) nd3 (br _ _ _) ?_
    refine segSel_runs (a2 ns ls k) nd3 (br _ _ _) ?_
    refine draw_runs (many := 9) dL (by decide) k0 (by omega) (by decide) (fun v h' e => ?_) fun v k' ls' n h0 h9 k0 k1 => ?_
    · have e2 : gCall 2 F__law_next (Ev.gCons (gVar 1) (Ev.gCons (gC (.int 9)) Ev.gNil)) d0 (hC ns k ls) = .ok (.int v) h' := by
        simp [gC, gCall, Ev.gCons, gVar, Ev.gNil, R.bind, nextE, e, d0]
      show ((((gB bInt3 (Ev.gCons (g2 addO (gC (.str [49])) (g2 mulO2 (gC (.str [48])) (gC (.int 3999)))) Ev.gNil)) d0 (hC ns k ls)).bind fun x h1 => ((gCall 2 F__law_next (Ev.gCons (gVar 1) (Ev.gCons (gC (.int 9)) Ev.gNil))) d0 h1).bind fun y h2 => addO x y h2).toS d0 fun d h1 => .nx (d0.set 9 (some d)) h1) = _
      rw [bigE]
      show (((gCall 2 F__law_next (Ev.gCons (gVar 1) (Ev.gCons (gC (.int 9)) Ev.gNil))) d0 (hC ns k ls)).bind fun y h2 => addO (.int big) y h2).toS d0 (fun d h1 => .nx (d0.set 9 (some d)) h1) = _
      rw [e2]
      rfl
    · have es : selS [0, 1, n] [] (dL v) = dL v := rfl
      rw [es]
      exact runs_of (lng h0 h9 ns ls' k')
end GR
set_option Elab.async false
set_option linter.all false
set_option maxRecDepth 100000
set_option maxHeartbeats 0
namespace GE
open PySem PySem.Spec PyProof.Rows L2 LamX Ev G GH
def fE (K : PySem.W.Frag) : Nat → Option Addr
  | 1 => some (He.ga K "BadClock")
  | 2 => some (He.ga K "BadGuard")
  | 3 => some (He.ga K "BadZone")
  | 5 => some (He.ga K "BadState")
  | 10 => some (He.ga K "BadPaper")
  | 11 => some (He.ga K "BadText")
  | 13 => some (He.ga K "TooMany")
  | _ => none
def fldE : Nat → Str
  | 1 => "place"
  | 2 => "place"
  | 3 => "place"
  | 5 => "place"
  | 10 => "place"
  | 11 => "place"
  | 13 => "most"
  | _ => ""
def cE (K : PySem.W.Frag) : Ev.Cls := ⟨fE K, fldE, tabsOf K tx⟩
theorem fE_all {K : PySem.W.Frag} {p : Nat → Addr → Prop} (h1 : p 1 (He.ga K "BadClock")) (h2 : p 2 (He.ga K "BadGuard")) (h3 : p 3 (He.ga K "BadZone")) (h5 : p 5 (He.ga K "BadState")) (h10 : p 10 (He.ga K "BadPaper")) (h11 : p 11 (He.ga K "BadText")) (h13 : p 13 (He.ga K "TooMany")) : ∀ c ca, (cE K).f c = some ca → p c ca := by
  intro c ca e
  have e : fE K c = some ca := e
  unfold fE at e
  split at e
  · cases e; exact h1
  · cases e; exact h2
  · cases e; exact h3
  · cases e; exact h5
  · cases e; exact h10
  · cases e; exact h11
  · cases e; exact h13
  · cases e
theorem it_BadClock : InitTxt "BadClock.__init__" (defArgs (initF (top 3))) (defBody (initF (top 3))) (defScope (initF (top 3))) "place" "self" "place" := ⟨⟨_, _, _, _, _, _, _, _, _, _, _, _, _, _, rfl, rfl, rfl, fun _ _ _ _ _ _ _ _ _ => rfl, rfl, rfl, rfl, by decide +kernel, rfl, rfl, rfl, rfl, ⟨(do return (← (pure (some false) : Sem (Option Bool))).getD true), fun _ => rfl⟩⟩⟩
theorem it_BadGuard : InitTxt "BadGuard.__init__" (defArgs (initF (top 4))) (defBody (initF (top 4))) (defScope (initF (top 4))) "place" "self" "place" := ⟨⟨_, _, _, _, _, _, _, _, _, _, _, _, _, _, rfl, rfl, rfl, fun _ _ _ _ _ _ _ _ _ => rfl, rfl, rfl, rfl, by decide +kernel, rfl, rfl, rfl, rfl, ⟨(do return (← (pure (some false) : Sem (Option Bool))).getD true), fun _ => rfl⟩⟩⟩
theorem it_BadPaper : InitTxt "BadPaper.__init__" (defArgs (initF (top 12))) (defBody (initF (top 12))) (defScope (initF (top 12))) "place" "self" "place" := ⟨⟨_, _, _, _, _, _, _, _, _, _, _, _, _, _, rfl, rfl, rfl, fun _ _ _ _ _ _ _ _ _ => rfl, rfl, rfl, rfl, by decide +kernel, rfl, rfl, rfl, rfl, ⟨(do return (← (pure (some false) : Sem (Option Bool))).getD true), fun _ => rfl⟩⟩⟩
theorem it_BadState : InitTxt "BadState.__init__" (defArgs (initF (top 7))) (defBody (initF (top 7))) (defScope (initF (top 7))) "place" "self" "place" := ⟨⟨_, _, _, _, _, _, _, _, _, _, _, _, _, _, rfl, rfl, rfl, fun _ _ _ _ _ _ _ _ _ => rfl, rfl, rfl, rfl, by decide +kernel, rfl, rfl, rfl, rfl, ⟨(do return (← (pure (some false) : Sem (Option Bool))).getD true), fun _ => rfl⟩⟩⟩
theorem it_BadText : InitTxt "BadText.__init__" (defArgs (initF (top 13))) (defBody (initF (top 13))) (defScope (initF (top 13))) "place" "self" "place" := ⟨⟨_, _, _, _, _, _, _, _, _, _, _, _, _, _, rfl, rfl, rfl, fun _ _ _ _ _ _ _ _ _ => rfl, rfl, rfl, rfl, by decide +kernel, rfl, rfl, rfl, rfl, ⟨(do return (← (pure (some false) : Sem (Option Bool))).getD true), fun _ => rfl⟩⟩⟩
theorem it_BadZone : InitTxt "BadZone.__init__" (defArgs (initF (top 5))) (defBody (initF (top 5))) (defScope (initF (top 5))) "place" "self" "place" := ⟨⟨_, _, _, _, _, _, _, _, _, _, _, _, _, _, rfl, rfl, rfl, fun _ _ _ _ _ _ _ _ _ => rfl, rfl, rfl, rfl, by decide +kernel, rfl, rfl, rfl, rfl, ⟨(do return (← (pure (some false) : Sem (Option Bool))).getD true), fun _ => rfl⟩⟩⟩
theorem it_TooMany : InitTxt "TooMany.__init__" (defArgs (initF (top 15))) (defBody (initF (top 15))) (defScope (initF (top 15))) "most" "self" "most" := ⟨⟨_, _, _, _, _, _, _, _, _, _, _, _, _, _, rfl, rfl, rfl, fun _ _ _ _ _ _ _ _ _ => rfl, rfl, rfl, rfl, by decide +kernel, rfl, rfl, rfl, rfl, ⟨(do return (← (pure (some false) : Sem (Option Bool))).getD true), fun _ => rfl⟩⟩⟩
variable {w : World} {h h2 : Heap} {K : PySem.W.Frag} {mg : Str → Option Value}
theorem facts (S : SaysE fa fn ts tf ex cs inits w h K) (X : K.In h2) (GN : h2.Ns mainGlobals mg) (TB : ∀ p ∈ tf.map (He.cT K), TabB h2 mg p.1 p.2) : G.Facts R.prog w K mg h2 (cE K) where
  d__law_begun := dfn_of S.d X GN (List.mem_of_getElem? (i := 1) rfl) (List.mem_of_getElem? (i := 1) rfl) (fun _ _ _ _ _ _ us hl => match us, hl with | [_], _ => rfl)
  d_time_by_text := dfn_of S.d X GN (List.mem_of_getElem? (i := 70) rfl) (List.mem_of_getElem? (i := 70) rfl) (fun _ _ _ _ _ _ us hl => match us, hl with | [_], _ => rfl)
  d_is_tuple_of := dfn_of S.d X GN (List.mem_of_getElem? (i := 36) rfl) (List.mem_of_getElem? (i := 36) rfl) (fun _ _ _ _ _ _ us hl => match us, hl with | [_, _, _], _ => rfl)
  d_is_number := dfn_of S.d X GN (List.mem_of_getElem? (i := 29) rfl) (List.mem_of_getElem? (i := 29) rfl) (fun _ _ _ _ _ _ us hl => match us, hl with | [_], _ => rfl)
  d_is_share := dfn_of S.d X GN (List.mem_of_getElem? (i := 33) rfl) (List.mem_of_getElem? (i := 33) rfl) (fun _ _ _ _ _ _ us hl => match us, hl with | [_], _ => rfl)
  d_is_time := dfn_of S.d X GN (List.mem_of_getElem? (i := 35) rfl) (List.mem_of_getElem? (i := 35) rfl) (fun _ _ _ _ _ _ us hl => match us, hl with | [_], _ => rfl)
  d_need_point := dfn_of S.d X GN (List.mem_of_getElem? (i := 46) rfl) (List.mem_of_getElem? (i := 46) rfl) (fun _ _ _ _ _ _ us hl => match us, hl with | [_, _], _ => rfl)
  d_is_name := dfn_of S.d X GN (List.mem_of_getElem? (i := 28) rfl) (List.mem_of_getElem? (i := 28) rfl) (fun _ _ _ _ _ _ us hl => match us, hl with | [_], _ => rfl)
  d_need_clocks := dfn_of S.d X GN (List.mem_of_getElem? (i := 44) rfl) (List.mem_of_getElem? (i := 44) rfl) (fun _ _ _ _ _ _ us hl => match us, hl with | [_], _ => rfl)
  d_point_text := dfn_of S.d X GN (List.mem_of_getElem? (i := 54) rfl) (List.mem_of_getElem? (i := 54) rfl) (fun _ _ _ _ _ _ us hl => match us, hl with | [_, _], _ => rfl)
  d_condition_text := dfn_of S.d X GN (List.mem_of_getElem? (i := 12) rfl) (List.mem_of_getElem? (i := 12) rfl) (fun _ _ _ _ _ _ us hl => match us, hl with | [_], _ => rfl)
  d_guard_by_text := dfn_of S.d X GN (List.mem_of_getElem? (i := 17) rfl) (List.mem_of_getElem? (i := 17) rfl) (fun _ _ _ _ _ _ us hl => match us, hl with | [_], _ => rfl)
  d_is_among := dfn_of S.d X GN (List.mem_of_getElem? (i := 22) rfl) (List.mem_of_getElem? (i := 22) rfl) (fun _ _ _ _ _ _ us hl => match us, hl with | [_, _, _], _ => rfl)
  d_is_condition := dfn_of S.d X GN (List.mem_of_getElem? (i := 25) rfl) (List.mem_of_getElem? (i := 25) rfl) (fun _ _ _ _ _ _ us hl => match us, hl with | [_, _], _ => rfl)
  d_place_in_guard := dfn_of S.d X GN (List.mem_of_getElem? (i := 49) rfl) (List.mem_of_getElem? (i := 49) rfl) (fun _ _ _ _ _ _ us hl => match us, hl with | [_, _], _ => rfl)
  d_need_guard := dfn_of S.d X GN (List.mem_of_getElem? (i := 45) rfl) (List.mem_of_getElem? (i := 45) rfl) (fun _ _ _ _ _ _ us hl => match us, hl with | [_, _], _ => rfl)
  d_guard_text := dfn_of S.d X GN (List.mem_of_getElem? (i := 19) rfl) (List.mem_of_getElem? (i := 19) rfl) (fun _ _ _ _ _ _ us hl => match us, hl with | [_, _], _ => rfl)
  d_read_whole := dfn_of S.d X GN (List.mem_of_getElem? (i := 57) rfl) (List.mem_of_getElem? (i := 57) rfl) (fun _ _ _ _ _ _ us hl => match us, hl with | [_], _ => rfl)
  d_read_condition := dfn_of S.d X GN (List.mem_of_getElem? (i := 55) rfl) (List.mem_of_getElem? (i := 55) rfl) (fun _ _ _ _ _ _ us hl => match us, hl with | [_, _], _ => rfl)
  d_guard_of_text := dfn_of S.d X GN (List.mem_of_getElem? (i := 18) rfl) (List.mem_of_getElem? (i := 18) rfl) (fun _ _ _ _ _ _ us hl => match us, hl with | [_, _], _ => rfl)
  d_read_guard := dfn_of S.d X GN (List.mem_of_getElem? (i := 56) rfl) (List.mem_of_getElem? (i := 56) rfl) (fun _ _ _ _ _ _ us hl => match us, hl with | [_, _], _ => rfl)
  d_told_places := dfn_of S.d X GN (List.mem_of_getElem? (i := 71) rfl) (List.mem_of_getElem? (i := 71) rfl) (fun _ _ _ _ _ _ us hl => match us, hl with | [_], _ => rfl)
  d_gap_text := dfn_of S.d X GN (List.mem_of_getElem? (i := 15) rfl) (List.mem_of_getElem? (i := 15) rfl) (fun _ _ _ _ _ _ us hl => match us, hl with | [_, _, _], _ => rfl)
  d_all_rows := dfn_of S.d X GN (List.mem_of_getElem? (i := 10) rfl) (List.mem_of_getElem? (i := 10) rfl) (fun _ _ _ _ _ _ us hl => match us, hl with | [_], _ => rfl)
  d_zone_by_text := dfn_of S.d X GN (List.mem_of_getElem? (i := 74) rfl) (List.mem_of_getElem? (i := 74) rfl) (fun _ _ _ _ _ _ us hl => match us, hl with | [_, _], _ => rfl)
  d_is_bound := dfn_of S.d X GN (List.mem_of_getElem? (i := 24) rfl) (List.mem_of_getElem? (i := 24) rfl) (fun _ _ _ _ _ _ us hl => match us, hl with | [_], _ => rfl)
  d_is_tighter := dfn_of S.d X GN (List.mem_of_getElem? (i := 34) rfl) (List.mem_of_getElem? (i := 34) rfl) (fun _ _ _ _ _ _ us hl => match us, hl with | [_, _], _ => rfl)
  d_tighter_of := dfn_of S.d X GN (List.mem_of_getElem? (i := 68) rfl) (List.mem_of_getElem? (i := 68) rfl) (fun _ _ _ _ _ _ us hl => match us, hl with | [_, _], _ => rfl)
  d_sum_of_bounds := dfn_of S.d X GN (List.mem_of_getElem? (i := 64) rfl) (List.mem_of_getElem? (i := 64) rfl) (fun _ _ _ _ _ _ us hl => match us, hl with | [_, _], _ => rfl)
  d_rows_above_nought := dfn_of S.d X GN (List.mem_of_getElem? (i := 61) rfl) (List.mem_of_getElem? (i := 61) rfl) (fun _ _ _ _ _ _ us hl => match us, hl with | [_], _ => rfl)
  d_tight_by := dfn_of S.d X GN (List.mem_of_getElem? (i := 66) rfl) (List.mem_of_getElem? (i := 66) rfl) (fun _ _ _ _ _ _ us hl => match us, hl with | [_], _ => rfl)
  d_place_of_gap := dfn_of S.d X GN (List.mem_of_getElem? (i := 50) rfl) (List.mem_of_getElem? (i := 50) rfl) (fun _ _ _ _ _ _ us hl => match us, hl with | [_, _], _ => rfl)
  d_read_zone := dfn_of S.d X GN (List.mem_of_getElem? (i := 58) rfl) (List.mem_of_getElem? (i := 58) rfl) (fun _ _ _ _ _ _ us hl => match us, hl with | [_, _], _ => rfl)
  d__law_next := dfn_of S.d X GN (List.mem_of_getElem? (i := 5) rfl) (List.mem_of_getElem? (i := 5) rfl) (fun _ _ _ _ _ _ us hl => match us, hl with | [_, _], _ => rfl)
  d__law_like := dfn_of S.d X GN (List.mem_of_getElem? (i := 4) rfl) (List.mem_of_getElem? (i := 4) rfl) (fun _ _ _ _ _ _ us hl => match us, hl with | [_, _], _ => rfl)
  d_least_share := dfn_of S.d X GN (List.mem_of_getElem? (i := 40) rfl) (List.mem_of_getElem? (i := 40) rfl) (fun _ _ _ _ _ _ us hl => match us, hl with | [_, _], _ => rfl)
  d_middle_of := dfn_of S.d X GN (List.mem_of_getElem? (i := 42) rfl) (List.mem_of_getElem? (i := 42) rfl) (fun _ _ _ _ _ _ us hl => match us, hl with | [_, _], _ => rfl)
  d_is_below := dfn_of S.d X GN (List.mem_of_getElem? (i := 23) rfl) (List.mem_of_getElem? (i := 23) rfl) (fun _ _ _ _ _ _ us hl => match us, hl with | [_, _], _ => rfl)
  d_least_of_shares := dfn_of S.d X GN (List.mem_of_getElem? (i := 39) rfl) (List.mem_of_getElem? (i := 39) rfl) (fun _ _ _ _ _ _ us hl => match us, hl with | [_], _ => rfl)
  d_plus := dfn_of S.d X GN (List.mem_of_getElem? (i := 51) rfl) (List.mem_of_getElem? (i := 51) rfl) (fun _ _ _ _ _ _ us hl => match us, hl with | [_, _], _ => rfl)
  d_greatest_share := dfn_of S.d X GN (List.mem_of_getElem? (i := 16) rfl) (List.mem_of_getElem? (i := 16) rfl) (fun _ _ _ _ _ _ us hl => match us, hl with | [_], _ => rfl)
  d_time_between := dfn_of S.d X GN (List.mem_of_getElem? (i := 69) rfl) (List.mem_of_getElem? (i := 69) rfl) (fun _ _ _ _ _ _ us hl => match us, hl with | [_, _], _ => rfl)
  d_whole_time := dfn_of S.d X GN (List.mem_of_getElem? (i := 72) rfl) (List.mem_of_getElem? (i := 72) rfl) (fun _ _ _ _ _ _ us hl => match us, hl with | [_], _ => rfl)
  d_highs_of := dfn_of S.d X GN (List.mem_of_getElem? (i := 20) rfl) (List.mem_of_getElem? (i := 20) rfl) (fun _ _ _ _ _ _ us hl => match us, hl with | [_, _, _], _ => rfl)
  d_minus := dfn_of S.d X GN (List.mem_of_getElem? (i := 43) rfl) (List.mem_of_getElem? (i := 43) rfl) (fun _ _ _ _ _ _ us hl => match us, hl with | [_, _], _ => rfl)
  d_lows_of := dfn_of S.d X GN (List.mem_of_getElem? (i := 41) rfl) (List.mem_of_getElem? (i := 41) rfl) (fun _ _ _ _ _ _ us hl => match us, hl with | [_, _, _], _ => rfl)
  d_point_by := dfn_of S.d X GN (List.mem_of_getElem? (i := 52) rfl) (List.mem_of_getElem? (i := 52) rfl) (fun _ _ _ _ _ _ us hl => match us, hl with | [_], _ => rfl)
  d_need_rows := dfn_of S.d X GN (List.mem_of_getElem? (i := 47) rfl) (List.mem_of_getElem? (i := 47) rfl) (fun _ _ _ _ _ _ us hl => match us, hl with | [_, _], _ => rfl)
  d_need_zone := dfn_of S.d X GN (List.mem_of_getElem? (i := 48) rfl) (List.mem_of_getElem? (i := 48) rfl) (fun _ _ _ _ _ _ us hl => match us, hl with | [_, _], _ => rfl)
  d_point_of_zone := dfn_of S.d X GN (List.mem_of_getElem? (i := 53) rfl) (List.mem_of_getElem? (i := 53) rfl) (fun _ _ _ _ _ _ us hl => match us, hl with | [_, _], _ => rfl)
  d_zone_text := dfn_of S.d X GN (List.mem_of_getElem? (i := 77) rfl) (List.mem_of_getElem? (i := 77) rfl) (fun _ _ _ _ _ _ us hl => match us, hl with | [_, _], _ => rfl)
  d_small_by := dfn_of S.d X GN (List.mem_of_getElem? (i := 63) rfl) (List.mem_of_getElem? (i := 63) rfl) (fun _ _ _ _ _ _ us hl => match us, hl with | [_], _ => rfl)
  d_tight_zone := dfn_of S.d X GN (List.mem_of_getElem? (i := 67) rfl) (List.mem_of_getElem? (i := 67) rfl) (fun _ _ _ _ _ _ us hl => match us, hl with | [_, _], _ => rfl)
  d__law_tighter := dfn_of S.d X GN (List.mem_of_getElem? (i := 9) rfl) (List.mem_of_getElem? (i := 9) rfl) (fun _ _ _ _ _ _ us hl => match us, hl with | [_, _], _ => rfl)
  d__law_bound_sum := dfn_of S.d X GN (List.mem_of_getElem? (i := 2) rfl) (List.mem_of_getElem? (i := 2) rfl) (fun _ _ _ _ _ _ us hl => match us, hl with | [_, _], _ => rfl)
  d__law_above := dfn_of S.d X GN (List.mem_of_getElem? (i := 0) rfl) (List.mem_of_getElem? (i := 0) rfl) (fun _ _ _ _ _ _ us hl => match us, hl with | [_], _ => rfl)
  d__law_tight := dfn_of S.d X GN (List.mem_of_getElem? (i := 8) rfl) (List.mem_of_getElem? (i := 8) rfl) (fun _ _ _ _ _ _ us hl => match us, hl with | [_], _ => rfl)
  d_round_from := dfn_of S.d X GN (List.mem_of_getElem? (i := 60) rfl) (List.mem_of_getElem? (i := 60) rfl) (fun _ _ _ _ _ _ us hl => match us, hl with | [_, _], _ => rfl)
  d_round_by := dfn_of S.d X GN (List.mem_of_getElem? (i := 59) rfl) (List.mem_of_getElem? (i := 59) rfl) (fun _ _ _ _ _ _ us hl => match us, hl with | [_], _ => rfl)
  d_zone_paper := dfn_of S.d X GN (List.mem_of_getElem? (i := 76) rfl) (List.mem_of_getElem? (i := 76) rfl) (fun _ _ _ _ _ _ us hl => match us, hl with | [_, _], _ => rfl)
  d_is_point := dfn_of S.d X GN (List.mem_of_getElem? (i := 31) rfl) (List.mem_of_getElem? (i := 31) rfl) (fun _ _ _ _ _ _ us hl => match us, hl with | [_, _], _ => rfl)
  d_is_within_bound := dfn_of S.d X GN (List.mem_of_getElem? (i := 37) rfl) (List.mem_of_getElem? (i := 37) rfl) (fun _ _ _ _ _ _ us hl => match us, hl with | [_, _, _], _ => rfl)
  d_is_in_rows := dfn_of S.d X GN (List.mem_of_getElem? (i := 26) rfl) (List.mem_of_getElem? (i := 26) rfl) (fun _ _ _ _ _ _ us hl => match us, hl with | [_, _], _ => rfl)
  d_sum_of_round := dfn_of S.d X GN (List.mem_of_getElem? (i := 65) rfl) (List.mem_of_getElem? (i := 65) rfl) (fun _ _ _ _ _ _ us hl => match us, hl with | [_, _], _ => rfl)
  d_is_round := dfn_of S.d X GN (List.mem_of_getElem? (i := 32) rfl) (List.mem_of_getElem? (i := 32) rfl) (fun _ _ _ _ _ _ us hl => match us, hl with | [_, _], _ => rfl)
  d_is_paper_form := dfn_of S.d X GN (List.mem_of_getElem? (i := 30) rfl) (List.mem_of_getElem? (i := 30) rfl) (fun _ _ _ _ _ _ us hl => match us, hl with | [_, _], _ => rfl)
  d_check_zone_paper := dfn_of S.d X GN (List.mem_of_getElem? (i := 11) rfl) (List.mem_of_getElem? (i := 11) rfl) (fun _ _ _ _ _ _ us hl => match us, hl with | [_, _, _], _ => rfl)
  d_is_in_zone := dfn_of S.d X GN (List.mem_of_getElem? (i := 27) rfl) (List.mem_of_getElem? (i := 27) rfl) (fun _ _ _ _ _ _ us hl => match us, hl with | [_, _, _], _ => rfl)
  d_does_condition_hold := dfn_of S.d X GN (List.mem_of_getElem? (i := 13) rfl) (List.mem_of_getElem? (i := 13) rfl) (fun _ _ _ _ _ _ us hl => match us, hl with | [_, _, _], _ => rfl)
  d_holds_at := dfn_of S.d X GN (List.mem_of_getElem? (i := 21) rfl) (List.mem_of_getElem? (i := 21) rfl) (fun _ _ _ _ _ _ us hl => match us, hl with | [_, _, _], _ => rfl)
  d_does_hold := dfn_of S.d X GN (List.mem_of_getElem? (i := 14) rfl) (List.mem_of_getElem? (i := 14) rfl) (fun _ _ _ _ _ _ us hl => match us, hl with | [_, _, _], _ => rfl)
  d_rows_of_guard := dfn_of S.d X GN (List.mem_of_getElem? (i := 62) rfl) (List.mem_of_getElem? (i := 62) rfl) (fun _ _ _ _ _ _ us hl => match us, hl with | [_, _], _ => rfl)
  d_zone_by_guard := dfn_of S.d X GN (List.mem_of_getElem? (i := 73) rfl) (List.mem_of_getElem? (i := 73) rfl) (fun _ _ _ _ _ _ us hl => match us, hl with | [_, _], _ => rfl)
  d_zone_of_guard := dfn_of S.d X GN (List.mem_of_getElem? (i := 75) rfl) (List.mem_of_getElem? (i := 75) rfl) (fun _ _ _ _ _ _ us hl => match us, hl with | [_, _], _ => rfl)
  d__law_clocks_refused := dfnL_of S.d X GN (List.mem_of_getElem? (i := 3) rfl) (List.mem_of_getElem? (i := 3) rfl) (fun _ _ _ _ _ _ us hl => match us, hl with | [], _ => rfl) (TB _ (List.mem_map.mpr ⟨_, List.mem_of_getElem? (i := 0) rfl, rfl⟩)) tx (List.mem_of_getElem? (i := 0) rfl) rfl (of_decide_eq_true (ex_at S.more 133 (f := (fun K => decide ((tf.map fun p => (He.cT K p).2).Nodup))) rfl))
  d__law_points_refused := dfnL_of S.d X GN (List.mem_of_getElem? (i := 6) rfl) (List.mem_of_getElem? (i := 6) rfl) (fun _ _ _ _ _ _ us hl => match us, hl with | [], _ => rfl) (TB _ (List.mem_map.mpr ⟨_, List.mem_of_getElem? (i := 1) rfl, rfl⟩)) tx (List.mem_of_getElem? (i := 1) rfl) rfl (of_decide_eq_true (ex_at S.more 133 (f := (fun K => decide ((tf.map fun p => (He.cT K p).2).Nodup))) rfl))
  d_law := dfnL_of S.d X GN (List.mem_of_getElem? (i := 38) rfl) (List.mem_of_getElem? (i := 38) rfl) (fun _ _ _ _ _ _ us hl => match us, hl with | [_], _ => rfl) (TB _ (List.mem_map.mpr ⟨_, List.mem_of_getElem? (i := 2) rfl, rfl⟩)) tx (List.mem_of_getElem? (i := 2) rfl) rfl (of_decide_eq_true (ex_at S.more 133 (f := (fun K => decide ((tf.map fun p => (He.cT K p).2).Nodup))) rfl))
  d__law_said := dfn_of S.d X GN (List.mem_of_getElem? (i := 7) rfl) (List.mem_of_getElem? (i := 7) rfl) (fun _ _ _ _ _ _ us hl => match us, hl with | [_], _ => rfl)
  n_all := He.free_ok X GN (S.d.fact 93 (f := .free "all") rfl)
  n_any := He.free_ok X GN (S.d.fact 94 (f := .free "any") rfl)
  n_bool := He.free_ok X GN (S.d.fact 95 (f := .free "bool") rfl)
  n_enumerate := He.free_ok X GN (S.d.fact 96 (f := .free "enumerate") rfl)
  n_int := He.free_ok X GN (S.d.fact 97 (f := .free "int") rfl)
  n_isinstance := He.free_ok X GN (S.d.fact 98 (f := .free "isinstance") rfl)
  n_len := He.free_ok X GN (S.d.fact 99 (f := .free "len") rfl)
  n_list := He.free_ok X GN (S.d.fact 100 (f := .free "list") rfl)
  n_max := He.free_ok X GN (S.d.fact 101 (f := .free "max") rfl)
  n_min := He.free_ok X GN (S.d.fact 102 (f := .free "min") rfl)
  n_range := He.free_ok X GN (S.d.fact 103 (f := .free "range") rfl)
  n_str := He.free_ok X GN (S.d.fact 104 (f := .free "str") rfl)
  n_tuple := He.free_ok X GN (S.d.fact 106 (f := .free "tuple") rfl)
  n_zip := He.free_ok X GN (S.d.fact 107 (f := .free "zip") rfl)
  c_EVEN := const_tup X GN (S.d.fact 108 (f := .glo "EVEN") rfl) (ex_at S.more 126 (f := (fun K => (He.tupB K "EVEN" [.int (0), .int (1)]))) rfl) (flatRD (by rfl))
  c_FIGURES := const_str X GN (S.d.fact 109 (f := .str "FIGURES" "0123456789") rfl) rfl
  c_LETTERS := const_str X GN (S.d.fact 110 (f := .str "LETTERS" "abcdefghijklmnopqrstuvwxyz") rfl) rfl
  c_MOST_BOUND := const_int X GN (S.d.fact 111 (f := .int "MOST_BOUND" (1000)) rfl)
  c_MOST_CLOCKS := const_int X GN (S.d.fact 112 (f := .int "MOST_CLOCKS" (3)) rfl)
  c_MOST_CONDITIONS := const_int X GN (S.d.fact 113 (f := .int "MOST_CONDITIONS" (8)) rfl)
  c_MOST_FIGURES := const_int X GN (S.d.fact 114 (f := .int "MOST_FIGURES" (4)) rfl)
  c_MOST_NUMBER := const_int X GN (S.d.fact 115 (f := .int "MOST_NUMBER" (20)) rfl)
  c_MOST_SIGNS := const_int X GN (S.d.fact 116 (f := .int "MOST_SIGNS" (8)) rfl)
  c_MOST_WRITTEN_FIGURES := const_int X GN (S.d.fact 117 (f := .int "MOST_WRITTEN_FIGURES" (4000)) rfl)
  c_NOUGHT := const_tup X GN (S.d.fact 118 (f := .glo "NOUGHT") rfl) (ex_at S.more 127 (f := (fun K => (He.tupB K "NOUGHT" [.int (0), .int (1)]))) rfl) (flatRD (by rfl))
  c_TAKEN := const_tup X GN (S.d.fact 119 (f := .glo "TAKEN") rfl) (ex_at S.more 128 (f := (fun K => (He.tupB K "TAKEN" [.str "yes"]))) rfl) (flatRD (by rfl))
  c_WORDS := const_tup X GN (S.d.fact 120 (f := .glo "WORDS") rfl) (ex_at S.more 129 (f := (fun K => (He.tupB K "WORDS" [.str "most", .str "less", .str "least", .str "more"]))) rfl) (flatRD (by rfl))
  k_SIGNS := kdic_of (l := k_SIGNS) X GN (S.d.fact 121 (f := .glo "SIGNS") rfl) (S.tab 0 rfl) (ex_at S.more 130 (f := (fun K => He.valsB K (He.ga K "SIGNS") [("most", .str "<="), ("less", .str "<"), ("least", .str ">="), ("more", .str ">")])) rfl) (by rfl) (by rfl) (by rfl)
  e_BadClock := ⟨⟨_, _, _, _, _, _, _, _, rfl, errK_of PySem.F.excBase_ValueError pass_VE rfl (by decide +kernel) PySem.W.kxs_ValueError (S.ini 0 (c := "BadClock") rfl rfl) it_BadClock (ex_at S.more 0 (f := (fun K => errB R.prog K (He.ga K "BadClock") (He.ma K (He.ga K "BadClock") "__init__") "ValueError" "ValueError.__new__" "ValueError.__init__" [.type "ValueError", .type "Exception", .type "BaseException", .type "object"] "place")) rfl) (by decide +kernel) (by decide +kernel) (by decide +kernel), He.glo_ok X GN (S.d.fact 78 (f := .glo "BadClock") rfl)⟩, He.free_ok X GN (S.d.fact 105 (f := .free "super") rfl)⟩
  e_BadGuard := ⟨⟨_, _, _, _, _, _, _, _, rfl, errK_of PySem.F.excBase_ValueError pass_VE rfl (by decide +kernel) PySem.W.kxs_ValueError (S.ini 1 (c := "BadGuard") rfl rfl) it_BadGuard (ex_at S.more 3 (f := (fun K => errB R.prog K (He.ga K "BadGuard") (He.ma K (He.ga K "BadGuard") "__init__") "ValueError" "ValueError.__new__" "ValueError.__init__" [.type "ValueError", .type "Exception", .type "BaseException", .type "object"] "place")) rfl) (by decide +kernel) (by decide +kernel) (by decide +kernel), He.glo_ok X GN (S.d.fact 79 (f := .glo "BadGuard") rfl)⟩, He.free_ok X GN (S.d.fact 105 (f := .free "super") rfl)⟩
  e_BadPaper := ⟨⟨_, _, _, _, _, _, _, _, rfl, errK_of PySem.F.excBase_ValueError pass_VE rfl (by decide +kernel) PySem.W.kxs_ValueError (S.ini 2 (c := "BadPaper") rfl rfl) it_BadPaper (ex_at S.more 6 (f := (fun K => errB R.prog K (He.ga K "BadPaper") (He.ma K (He.ga K "BadPaper") "__init__") "ValueError" "ValueError.__new__" "ValueError.__init__" [.type "ValueError", .type "Exception", .type "BaseException", .type "object"] "place")) rfl) (by decide +kernel) (by decide +kernel) (by decide +kernel), He.glo_ok X GN (S.d.fact 83 (f := .glo "BadPaper") rfl)⟩, He.free_ok X GN (S.d.fact 105 (f := .free "super") rfl)⟩
  e_BadState := ⟨⟨_, _, _, _, _, _, _, _, rfl, errK_of PySem.F.excBase_ValueError pass_VE rfl (by decide +kernel) PySem.W.kxs_ValueError (S.ini 3 (c := "BadState") rfl rfl) it_BadState (ex_at S.more 9 (f := (fun K => errB R.prog K (He.ga K "BadState") (He.ma K (He.ga K "BadState") "__init__") "ValueError" "ValueError.__new__" "ValueError.__init__" [.type "ValueError", .type "Exception", .type "BaseException", .type "object"] "place")) rfl) (by decide +kernel) (by decide +kernel) (by decide +kernel), He.glo_ok X GN (S.d.fact 86 (f := .glo "BadState") rfl)⟩, He.free_ok X GN (S.d.fact 105 (f := .free "super") rfl)⟩
  e_BadText := ⟨⟨_, _, _, _, _, _, _, _, rfl, errK_of PySem.F.excBase_ValueError pass_VE rfl (by decide +kernel) PySem.W.kxs_ValueError (S.ini 4 (c := "BadText") rfl rfl) it_BadText (ex_at S.more 12 (f := (fun K => errB R.prog K (He.ga K "BadText") (He.ma K (He.ga K "BadText") "__init__") "ValueError" "ValueError.__new__" "ValueError.__init__" [.type "ValueError", .type "Exception", .type "BaseException", .type "object"] "place")) rfl) (by decide +kernel) (by decide +kernel) (by decide +kernel), He.glo_ok X GN (S.d.fact 87 (f := .glo "BadText") rfl)⟩, He.free_ok X GN (S.d.fact 105 (f := .free "super") rfl)⟩
  e_BadZone := ⟨⟨_, _, _, _, _, _, _, _, rfl, errK_of PySem.F.excBase_ValueError pass_VE rfl (by decide +kernel) PySem.W.kxs_ValueError (S.ini 5 (c := "BadZone") rfl rfl) it_BadZone (ex_at S.more 15 (f := (fun K => errB R.prog K (He.ga K "BadZone") (He.ma K (He.ga K "BadZone") "__init__") "ValueError" "ValueError.__new__" "ValueError.__init__" [.type "ValueError", .type "Exception", .type "BaseException", .type "object"] "place")) rfl) (by decide +kernel) (by decide +kernel) (by decide +kernel), He.glo_ok X GN (S.d.fact 89 (f := .glo "BadZone") rfl)⟩, He.free_ok X GN (S.d.fact 105 (f := .free "super") rfl)⟩
  e_TooMany := ⟨⟨_, _, _, _, _, _, _, _, rfl, errK_of PySem.F.excBase_OverflowError pass_OE rfl (by decide +kernel) PySem.W.kxs_OverflowError (S.ini 6 (c := "TooMany") rfl rfl) it_TooMany (ex_at S.more 18 (f := (fun K => errB R.prog K (He.ga K "TooMany") (He.ma K (He.ga K "TooMany") "__init__") "OverflowError" "OverflowError.__new__" "OverflowError.__init__" [.type "OverflowError", .type "ArithmeticError", .type "Exception", .type "BaseException", .type "object"] "most")) rfl) (by decide +kernel) (by decide +kernel) (by decide +kernel), He.glo_ok X GN (S.d.fact 92 (f := .glo "TooMany") rfl)⟩, He.free_ok X GN (S.d.fact 105 (f := .free "super") rfl)⟩
  nodg := nodg_of (ex_at S.more 131 (f := (fun K => (PySem.W.nsOkIn K cStatics && decide (PySem.W.nsIn K cStatics "sys.int_max_str_digits" = some none)))) rfl)
  g_gcd := PySem.W.mg_of X GN (of_decide_eq_true (ex_at S.more 132 (f := (fun K => decide (PySem.W.nsIn K mainGlobals "gcd" = some (some (.builtin "math.gcd"))))) rfl))
  s_BadClock := ⟨⟨_, He.glo_ok X GN (S.d.fact 78 (f := .glo "BadClock") rfl), rfl, rfl, xfB_ok (ex_at S.more 1 (f := (fun K => xfB K (He.ga K "BadClock"))) rfl), of_decide_eq_true (ex_at S.more 2 (f := (fun K => decide (PySem.W.findIn K (.ref (He.ga K "BadClock")) "place" = some none))) rfl), fE_all (of_decide_eq_true (ex_at S.more 21 (f := (fun K => decide (PySem.W.exmOne K (.ref (He.ga K "BadClock")) (.ref (He.ga K "BadClock")) = some true))) rfl)) (of_decide_eq_true (ex_at S.more 22 (f := (fun K => decide (PySem.W.exmOne K (.ref (He.ga K "BadGuard")) (.ref (He.ga K "BadClock")) = some false))) rfl)) (of_decide_eq_true (ex_at S.more 26 (f := (fun K => decide (PySem.W.exmOne K (.ref (He.ga K "BadZone")) (.ref (He.ga K "BadClock")) = some false))) rfl)) (of_decide_eq_true (ex_at S.more 24 (f := (fun K => decide (PySem.W.exmOne K (.ref (He.ga K "BadState")) (.ref (He.ga K "BadClock")) = some false))) rfl)) (of_decide_eq_true (ex_at S.more 23 (f := (fun K => decide (PySem.W.exmOne K (.ref (He.ga K "BadPaper")) (.ref (He.ga K "BadClock")) = some false))) rfl)) (of_decide_eq_true (ex_at S.more 25 (f := (fun K => decide (PySem.W.exmOne K (.ref (He.ga K "BadText")) (.ref (He.ga K "BadClock")) = some false))) rfl)) (of_decide_eq_true (ex_at S.more 27 (f := (fun K => decide (PySem.W.exmOne K (.ref (He.ga K "TooMany")) (.ref (He.ga K "BadClock")) = some false))) rfl))⟩⟩
  s_BadGuard := ⟨⟨_, He.glo_ok X GN (S.d.fact 79 (f := .glo "BadGuard") rfl), rfl, rfl, xfB_ok (ex_at S.more 4 (f := (fun K => xfB K (He.ga K "BadGuard"))) rfl), of_decide_eq_true (ex_at S.more 5 (f := (fun K => decide (PySem.W.findIn K (.ref (He.ga K "BadGuard")) "place" = some none))) rfl), fE_all (of_decide_eq_true (ex_at S.more 28 (f := (fun K => decide (PySem.W.exmOne K (.ref (He.ga K "BadClock")) (.ref (He.ga K "BadGuard")) = some false))) rfl)) (of_decide_eq_true (ex_at S.more 29 (f := (fun K => decide (PySem.W.exmOne K (.ref (He.ga K "BadGuard")) (.ref (He.ga K "BadGuard")) = some true))) rfl)) (of_decide_eq_true (ex_at S.more 33 (f := (fun K => decide (PySem.W.exmOne K (.ref (He.ga K "BadZone")) (.ref (He.ga K "BadGuard")) = some false))) rfl)) (of_decide_eq_true (ex_at S.more 31 (f := (fun K => decide (PySem.W.exmOne K (.ref (He.ga K "BadState")) (.ref (He.ga K "BadGuard")) = some false))) rfl)) (of_decide_eq_true (ex_at S.more 30 (f := (fun K => decide (PySem.W.exmOne K (.ref (He.ga K "BadPaper")) (.ref (He.ga K "BadGuard")) = some false))) rfl)) (of_decide_eq_true (ex_at S.more 32 (f := (fun K => decide (PySem.W.exmOne K (.ref (He.ga K "BadText")) (.ref (He.ga K "BadGuard")) = some false))) rfl)) (of_decide_eq_true (ex_at S.more 34 (f := (fun K => decide (PySem.W.exmOne K (.ref (He.ga K "TooMany")) (.ref (He.ga K "BadGuard")) = some false))) rfl))⟩⟩
  s_BadZone := ⟨⟨_, He.glo_ok X GN (S.d.fact 89 (f := .glo "BadZone") rfl), rfl, rfl, xfB_ok (ex_at S.more 16 (f := (fun K => xfB K (He.ga K "BadZone"))) rfl), of_decide_eq_true (ex_at S.more 17 (f := (fun K => decide (PySem.W.findIn K (.ref (He.ga K "BadZone")) "place" = some none))) rfl), fE_all (of_decide_eq_true (ex_at S.more 35 (f := (fun K => decide (PySem.W.exmOne K (.ref (He.ga K "BadClock")) (.ref (He.ga K "BadZone")) = some false))) rfl)) (of_decide_eq_true (ex_at S.more 36 (f := (fun K => decide (PySem.W.exmOne K (.ref (He.ga K "BadGuard")) (.ref (He.ga K "BadZone")) = some false))) rfl)) (of_decide_eq_true (ex_at S.more 40 (f := (fun K => decide (PySem.W.exmOne K (.ref (He.ga K "BadZone")) (.ref (He.ga K "BadZone")) = some true))) rfl)) (of_decide_eq_true (ex_at S.more 38 (f := (fun K => decide (PySem.W.exmOne K (.ref (He.ga K "BadState")) (.ref (He.ga K "BadZone")) = some false))) rfl)) (of_decide_eq_true (ex_at S.more 37 (f := (fun K => decide (PySem.W.exmOne K (.ref (He.ga K "BadPaper")) (.ref (He.ga K "BadZone")) = some false))) rfl)) (of_decide_eq_true (ex_at S.more 39 (f := (fun K => decide (PySem.W.exmOne K (.ref (He.ga K "BadText")) (.ref (He.ga K "BadZone")) = some false))) rfl)) (of_decide_eq_true (ex_at S.more 41 (f := (fun K => decide (PySem.W.exmOne K (.ref (He.ga K "TooMany")) (.ref (He.ga K "BadZone")) = some false))) rfl))⟩⟩
  s_BadMachine := clsOk_of X GN (S.d.fact 81 (f := .glo "BadMachine") rfl) (fE_all (of_decide_eq_true (ex_at S.more 42 (f := (fun K => decide (PySem.W.exmOne K (.ref (He.ga K "BadClock")) (.ref (He.ga K "BadMachine")) = some false))) rfl)) (of_decide_eq_true (ex_at S.more 43 (f := (fun K => decide (PySem.W.exmOne K (.ref (He.ga K "BadGuard")) (.ref (He.ga K "BadMachine")) = some false))) rfl)) (of_decide_eq_true (ex_at S.more 47 (f := (fun K => decide (PySem.W.exmOne K (.ref (He.ga K "BadZone")) (.ref (He.ga K "BadMachine")) = some false))) rfl)) (of_decide_eq_true (ex_at S.more 45 (f := (fun K => decide (PySem.W.exmOne K (.ref (He.ga K "BadState")) (.ref (He.ga K "BadMachine")) = some false))) rfl)) (of_decide_eq_true (ex_at S.more 44 (f := (fun K => decide (PySem.W.exmOne K (.ref (He.ga K "BadPaper")) (.ref (He.ga K "BadMachine")) = some false))) rfl)) (of_decide_eq_true (ex_at S.more 46 (f := (fun K => decide (PySem.W.exmOne K (.ref (He.ga K "BadText")) (.ref (He.ga K "BadMachine")) = some false))) rfl)) (of_decide_eq_true (ex_at S.more 48 (f := (fun K => decide (PySem.W.exmOne K (.ref (He.ga K "TooMany")) (.ref (He.ga K "BadMachine")) = some false))) rfl)))
  s_BadState := ⟨⟨_, He.glo_ok X GN (S.d.fact 86 (f := .glo "BadState") rfl), rfl, rfl, xfB_ok (ex_at S.more 10 (f := (fun K => xfB K (He.ga K "BadState"))) rfl), of_decide_eq_true (ex_at S.more 11 (f := (fun K => decide (PySem.W.findIn K (.ref (He.ga K "BadState")) "place" = some none))) rfl), fE_all (of_decide_eq_true (ex_at S.more 49 (f := (fun K => decide (PySem.W.exmOne K (.ref (He.ga K "BadClock")) (.ref (He.ga K "BadState")) = some false))) rfl)) (of_decide_eq_true (ex_at S.more 50 (f := (fun K => decide (PySem.W.exmOne K (.ref (He.ga K "BadGuard")) (.ref (He.ga K "BadState")) = some false))) rfl)) (of_decide_eq_true (ex_at S.more 54 (f := (fun K => decide (PySem.W.exmOne K (.ref (He.ga K "BadZone")) (.ref (He.ga K "BadState")) = some false))) rfl)) (of_decide_eq_true (ex_at S.more 52 (f := (fun K => decide (PySem.W.exmOne K (.ref (He.ga K "BadState")) (.ref (He.ga K "BadState")) = some true))) rfl)) (of_decide_eq_true (ex_at S.more 51 (f := (fun K => decide (PySem.W.exmOne K (.ref (He.ga K "BadPaper")) (.ref (He.ga K "BadState")) = some false))) rfl)) (of_decide_eq_true (ex_at S.more 53 (f := (fun K => decide (PySem.W.exmOne K (.ref (He.ga K "BadText")) (.ref (He.ga K "BadState")) = some false))) rfl)) (of_decide_eq_true (ex_at S.more 55 (f := (fun K => decide (PySem.W.exmOne K (.ref (He.ga K "TooMany")) (.ref (He.ga K "BadState")) = some false))) rfl))⟩⟩
  s_BadRun := clsOk_of X GN (S.d.fact 85 (f := .glo "BadRun") rfl) (fE_all (of_decide_eq_true (ex_at S.more 56 (f := (fun K => decide (PySem.W.exmOne K (.ref (He.ga K "BadClock")) (.ref (He.ga K "BadRun")) = some false))) rfl)) (of_decide_eq_true (ex_at S.more 57 (f := (fun K => decide (PySem.W.exmOne K (.ref (He.ga K "BadGuard")) (.ref (He.ga K "BadRun")) = some false))) rfl)) (of_decide_eq_true (ex_at S.more 61 (f := (fun K => decide (PySem.W.exmOne K (.ref (He.ga K "BadZone")) (.ref (He.ga K "BadRun")) = some false))) rfl)) (of_decide_eq_true (ex_at S.more 59 (f := (fun K => decide (PySem.W.exmOne K (.ref (He.ga K "BadState")) (.ref (He.ga K "BadRun")) = some false))) rfl)) (of_decide_eq_true (ex_at S.more 58 (f := (fun K => decide (PySem.W.exmOne K (.ref (He.ga K "BadPaper")) (.ref (He.ga K "BadRun")) = some false))) rfl)) (of_decide_eq_true (ex_at S.more 60 (f := (fun K => decide (PySem.W.exmOne K (.ref (He.ga K "BadText")) (.ref (He.ga K "BadRun")) = some false))) rfl)) (of_decide_eq_true (ex_at S.more 62 (f := (fun K => decide (PySem.W.exmOne K (.ref (He.ga K "TooMany")) (.ref (He.ga K "BadRun")) = some false))) rfl)))
  s_BadWord := clsOk_of X GN (S.d.fact 88 (f := .glo "BadWord") rfl) (fE_all (of_decide_eq_true (ex_at S.more 63 (f := (fun K => decide (PySem.W.exmOne K (.ref (He.ga K "BadClock")) (.ref (He.ga K "BadWord")) = some false))) rfl)) (of_decide_eq_true (ex_at S.more 64 (f := (fun K => decide (PySem.W.exmOne K (.ref (He.ga K "BadGuard")) (.ref (He.ga K "BadWord")) = some false))) rfl)) (of_decide_eq_true (ex_at S.more 68 (f := (fun K => decide (PySem.W.exmOne K (.ref (He.ga K "BadZone")) (.ref (He.ga K "BadWord")) = some false))) rfl)) (of_decide_eq_true (ex_at S.more 66 (f := (fun K => decide (PySem.W.exmOne K (.ref (He.ga K "BadState")) (.ref (He.ga K "BadWord")) = some false))) rfl)) (of_decide_eq_true (ex_at S.more 65 (f := (fun K => decide (PySem.W.exmOne K (.ref (He.ga K "BadPaper")) (.ref (He.ga K "BadWord")) = some false))) rfl)) (of_decide_eq_true (ex_at S.more 67 (f := (fun K => decide (PySem.W.exmOne K (.ref (He.ga K "BadText")) (.ref (He.ga K "BadWord")) = some false))) rfl)) (of_decide_eq_true (ex_at S.more 69 (f := (fun K => decide (PySem.W.exmOne K (.ref (He.ga K "TooMany")) (.ref (He.ga K "BadWord")) = some false))) rfl)))
  s_BadPlan := clsOk_of X GN (S.d.fact 84 (f := .glo "BadPlan") rfl) (fE_all (of_decide_eq_true (ex_at S.more 70 (f := (fun K => decide (PySem.W.exmOne K (.ref (He.ga K "BadClock")) (.ref (He.ga K "BadPlan")) = some false))) rfl)) (of_decide_eq_true (ex_at S.more 71 (f := (fun K => decide (PySem.W.exmOne K (.ref (He.ga K "BadGuard")) (.ref (He.ga K "BadPlan")) = some false))) rfl)) (of_decide_eq_true (ex_at S.more 75 (f := (fun K => decide (PySem.W.exmOne K (.ref (He.ga K "BadZone")) (.ref (He.ga K "BadPlan")) = some false))) rfl)) (of_decide_eq_true (ex_at S.more 73 (f := (fun K => decide (PySem.W.exmOne K (.ref (He.ga K "BadState")) (.ref (He.ga K "BadPlan")) = some false))) rfl)) (of_decide_eq_true (ex_at S.more 72 (f := (fun K => decide (PySem.W.exmOne K (.ref (He.ga K "BadPaper")) (.ref (He.ga K "BadPlan")) = some false))) rfl)) (of_decide_eq_true (ex_at S.more 74 (f := (fun K => decide (PySem.W.exmOne K (.ref (He.ga K "BadText")) (.ref (He.ga K "BadPlan")) = some false))) rfl)) (of_decide_eq_true (ex_at S.more 76 (f := (fun K => decide (PySem.W.exmOne K (.ref (He.ga K "TooMany")) (.ref (He.ga K "BadPlan")) = some false))) rfl)))
  s_BadText := ⟨⟨_, He.glo_ok X GN (S.d.fact 87 (f := .glo "BadText") rfl), rfl, rfl, xfB_ok (ex_at S.more 13 (f := (fun K => xfB K (He.ga K "BadText"))) rfl), of_decide_eq_true (ex_at S.more 14 (f := (fun K => decide (PySem.W.findIn K (.ref (He.ga K "BadText")) "place" = some none))) rfl), fE_all (of_decide_eq_true (ex_at S.more 77 (f := (fun K => decide (PySem.W.exmOne K (.ref (He.ga K "BadClock")) (.ref (He.ga K "BadText")) = some false))) rfl)) (of_decide_eq_true (ex_at S.more 78 (f := (fun K => decide (PySem.W.exmOne K (.ref (He.ga K "BadGuard")) (.ref (He.ga K "BadText")) = some false))) rfl)) (of_decide_eq_true (ex_at S.more 82 (f := (fun K => decide (PySem.W.exmOne K (.ref (He.ga K "BadZone")) (.ref (He.ga K "BadText")) = some false))) rfl)) (of_decide_eq_true (ex_at S.more 80 (f := (fun K => decide (PySem.W.exmOne K (.ref (He.ga K "BadState")) (.ref (He.ga K "BadText")) = some false))) rfl)) (of_decide_eq_true (ex_at S.more 79 (f := (fun K => decide (PySem.W.exmOne K (.ref (He.ga K "BadPaper")) (.ref (He.ga K "BadText")) = some false))) rfl)) (of_decide_eq_true (ex_at S.more 81 (f := (fun K => decide (PySem.W.exmOne K (.ref (He.ga K "BadText")) (.ref (He.ga K "BadText")) = some true))) rfl)) (of_decide_eq_true (ex_at S.more 83 (f := (fun K => decide (PySem.W.exmOne K (.ref (He.ga K "TooMany")) (.ref (He.ga K "BadText")) = some false))) rfl))⟩⟩
  s_BadList := clsOk_of X GN (S.d.fact 80 (f := .glo "BadList") rfl) (fE_all (of_decide_eq_true (ex_at S.more 84 (f := (fun K => decide (PySem.W.exmOne K (.ref (He.ga K "BadClock")) (.ref (He.ga K "BadList")) = some false))) rfl)) (of_decide_eq_true (ex_at S.more 85 (f := (fun K => decide (PySem.W.exmOne K (.ref (He.ga K "BadGuard")) (.ref (He.ga K "BadList")) = some false))) rfl)) (of_decide_eq_true (ex_at S.more 89 (f := (fun K => decide (PySem.W.exmOne K (.ref (He.ga K "BadZone")) (.ref (He.ga K "BadList")) = some false))) rfl)) (of_decide_eq_true (ex_at S.more 87 (f := (fun K => decide (PySem.W.exmOne K (.ref (He.ga K "BadState")) (.ref (He.ga K "BadList")) = some false))) rfl)) (of_decide_eq_true (ex_at S.more 86 (f := (fun K => decide (PySem.W.exmOne K (.ref (He.ga K "BadPaper")) (.ref (He.ga K "BadList")) = some false))) rfl)) (of_decide_eq_true (ex_at S.more 88 (f := (fun K => decide (PySem.W.exmOne K (.ref (He.ga K "BadText")) (.ref (He.ga K "BadList")) = some false))) rfl)) (of_decide_eq_true (ex_at S.more 90 (f := (fun K => decide (PySem.W.exmOne K (.ref (He.ga K "TooMany")) (.ref (He.ga K "BadList")) = some false))) rfl)))
  s_BadPaper := ⟨⟨_, He.glo_ok X GN (S.d.fact 83 (f := .glo "BadPaper") rfl), rfl, rfl, xfB_ok (ex_at S.more 7 (f := (fun K => xfB K (He.ga K "BadPaper"))) rfl), of_decide_eq_true (ex_at S.more 8 (f := (fun K => decide (PySem.W.findIn K (.ref (He.ga K "BadPaper")) "place" = some none))) rfl), fE_all (of_decide_eq_true (ex_at S.more 91 (f := (fun K => decide (PySem.W.exmOne K (.ref (He.ga K "BadClock")) (.ref (He.ga K "BadPaper")) = some false))) rfl)) (of_decide_eq_true (ex_at S.more 92 (f := (fun K => decide (PySem.W.exmOne K (.ref (He.ga K "BadGuard")) (.ref (He.ga K "BadPaper")) = some false))) rfl)) (of_decide_eq_true (ex_at S.more 96 (f := (fun K => decide (PySem.W.exmOne K (.ref (He.ga K "BadZone")) (.ref (He.ga K "BadPaper")) = some false))) rfl)) (of_decide_eq_true (ex_at S.more 94 (f := (fun K => decide (PySem.W.exmOne K (.ref (He.ga K "BadState")) (.ref (He.ga K "BadPaper")) = some false))) rfl)) (of_decide_eq_true (ex_at S.more 93 (f := (fun K => decide (PySem.W.exmOne K (.ref (He.ga K "BadPaper")) (.ref (He.ga K "BadPaper")) = some true))) rfl)) (of_decide_eq_true (ex_at S.more 95 (f := (fun K => decide (PySem.W.exmOne K (.ref (He.ga K "BadText")) (.ref (He.ga K "BadPaper")) = some false))) rfl)) (of_decide_eq_true (ex_at S.more 97 (f := (fun K => decide (PySem.W.exmOne K (.ref (He.ga K "TooMany")) (.ref (He.ga K "BadPaper")) = some false))) rfl))⟩⟩
  s_BadNumber := clsOk_of X GN (S.d.fact 82 (f := .glo "BadNumber") rfl) (fE_all (of_decide_eq_true (ex_at S.more 98 (f := (fun K => decide (PySem.W.exmOne K (.ref (He.ga K "BadClock")) (.ref (He.ga K "BadNumber")) = some false))) rfl)) (of_decide_eq_true (ex_at S.more 99 (f := (fun K => decide (PySem.W.exmOne K (.ref (He.ga K "BadGuard")) (.ref (He.ga K "BadNumber")) = some false))) rfl)) (of_decide_eq_true (ex_at S.more 103 (f := (fun K => decide (PySem.W.exmOne K (.ref (He.ga K "BadZone")) (.ref (He.ga K "BadNumber")) = some false))) rfl)) (of_decide_eq_true (ex_at S.more 101 (f := (fun K => decide (PySem.W.exmOne K (.ref (He.ga K "BadState")) (.ref (He.ga K "BadNumber")) = some false))) rfl)) (of_decide_eq_true (ex_at S.more 100 (f := (fun K => decide (PySem.W.exmOne K (.ref (He.ga K "BadPaper")) (.ref (He.ga K "BadNumber")) = some false))) rfl)) (of_decide_eq_true (ex_at S.more 102 (f := (fun K => decide (PySem.W.exmOne K (.ref (He.ga K "BadText")) (.ref (He.ga K "BadNumber")) = some false))) rfl)) (of_decide_eq_true (ex_at S.more 104 (f := (fun K => decide (PySem.W.exmOne K (.ref (He.ga K "TooMany")) (.ref (He.ga K "BadNumber")) = some false))) rfl)))
  s_TooMany := ⟨⟨_, He.glo_ok X GN (S.d.fact 92 (f := .glo "TooMany") rfl), rfl, rfl, xfB_ok (ex_at S.more 19 (f := (fun K => xfB K (He.ga K "TooMany"))) rfl), of_decide_eq_true (ex_at S.more 20 (f := (fun K => decide (PySem.W.findIn K (.ref (He.ga K "TooMany")) "most" = some none))) rfl), fE_all (of_decide_eq_true (ex_at S.more 105 (f := (fun K => decide (PySem.W.exmOne K (.ref (He.ga K "BadClock")) (.ref (He.ga K "TooMany")) = some false))) rfl)) (of_decide_eq_true (ex_at S.more 106 (f := (fun K => decide (PySem.W.exmOne K (.ref (He.ga K "BadGuard")) (.ref (He.ga K "TooMany")) = some false))) rfl)) (of_decide_eq_true (ex_at S.more 110 (f := (fun K => decide (PySem.W.exmOne K (.ref (He.ga K "BadZone")) (.ref (He.ga K "TooMany")) = some false))) rfl)) (of_decide_eq_true (ex_at S.more 108 (f := (fun K => decide (PySem.W.exmOne K (.ref (He.ga K "BadState")) (.ref (He.ga K "TooMany")) = some false))) rfl)) (of_decide_eq_true (ex_at S.more 107 (f := (fun K => decide (PySem.W.exmOne K (.ref (He.ga K "BadPaper")) (.ref (He.ga K "TooMany")) = some false))) rfl)) (of_decide_eq_true (ex_at S.more 109 (f := (fun K => decide (PySem.W.exmOne K (.ref (He.ga K "BadText")) (.ref (He.ga K "TooMany")) = some false))) rfl)) (of_decide_eq_true (ex_at S.more 111 (f := (fun K => decide (PySem.W.exmOne K (.ref (He.ga K "TooMany")) (.ref (He.ga K "TooMany")) = some true))) rfl))⟩⟩
  s_NoSuch := clsOk_of X GN (S.d.fact 91 (f := .glo "NoSuch") rfl) (fE_all (of_decide_eq_true (ex_at S.more 112 (f := (fun K => decide (PySem.W.exmOne K (.ref (He.ga K "BadClock")) (.ref (He.ga K "NoSuch")) = some false))) rfl)) (of_decide_eq_true (ex_at S.more 113 (f := (fun K => decide (PySem.W.exmOne K (.ref (He.ga K "BadGuard")) (.ref (He.ga K "NoSuch")) = some false))) rfl)) (of_decide_eq_true (ex_at S.more 117 (f := (fun K => decide (PySem.W.exmOne K (.ref (He.ga K "BadZone")) (.ref (He.ga K "NoSuch")) = some false))) rfl)) (of_decide_eq_true (ex_at S.more 115 (f := (fun K => decide (PySem.W.exmOne K (.ref (He.ga K "BadState")) (.ref (He.ga K "NoSuch")) = some false))) rfl)) (of_decide_eq_true (ex_at S.more 114 (f := (fun K => decide (PySem.W.exmOne K (.ref (He.ga K "BadPaper")) (.ref (He.ga K "NoSuch")) = some false))) rfl)) (of_decide_eq_true (ex_at S.more 116 (f := (fun K => decide (PySem.W.exmOne K (.ref (He.ga K "BadText")) (.ref (He.ga K "NoSuch")) = some false))) rfl)) (of_decide_eq_true (ex_at S.more 118 (f := (fun K => decide (PySem.W.exmOne K (.ref (He.ga K "TooMany")) (.ref (He.ga K "NoSuch")) = some false))) rfl)))
  s_HourError := clsOk_of X GN (S.d.fact 90 (f := .glo "HourError") rfl) (fE_all (of_decide_eq_true (ex_at S.more 119 (f := (fun K => decide (PySem.W.exmOne K (.ref (He.ga K "BadClock")) (.ref (He.ga K "HourError")) = some true))) rfl)) (of_decide_eq_true (ex_at S.more 120 (f := (fun K => decide (PySem.W.exmOne K (.ref (He.ga K "BadGuard")) (.ref (He.ga K "HourError")) = some true))) rfl)) (of_decide_eq_true (ex_at S.more 124 (f := (fun K => decide (PySem.W.exmOne K (.ref (He.ga K "BadZone")) (.ref (He.ga K "HourError")) = some true))) rfl)) (of_decide_eq_true (ex_at S.more 122 (f := (fun K => decide (PySem.W.exmOne K (.ref (He.ga K "BadState")) (.ref (He.ga K "HourError")) = some true))) rfl)) (of_decide_eq_true (ex_at S.more 121 (f := (fun K => decide (PySem.W.exmOne K (.ref (He.ga K "BadPaper")) (.ref (He.ga K "HourError")) = some true))) rfl)) (of_decide_eq_true (ex_at S.more 123 (f := (fun K => decide (PySem.W.exmOne K (.ref (He.ga K "BadText")) (.ref (He.ga K "HourError")) = some true))) rfl)) (of_decide_eq_true (ex_at S.more 125 (f := (fun K => decide (PySem.W.exmOne K (.ref (He.ga K "TooMany")) (.ref (He.ga K "HourError")) = some false))) rfl)))
theorem law_at {fa0 : Addr} (S : SaysE fa fn ts tf ex cs inits w h K) (X : K.In h2) (GN : h2.Ns mainGlobals mg) (hmg : mg "law" = some (.ref fa0)) (hh : h = h2) : LawAtS PySem.Challenge.rw_hourbound_k07_limits_of_zones w K (L2.CX R.prog w) 10 63 "script" mg fa0 h2 := by
  subst hh
  obtain ⟨fd, oc, od, kV, doc, pm, an, cdv, ct, osl, rfl, lk, hc, kp⟩ := fun_of S.d (x := "law") (st := top 114) (List.mem_of_getElem? (i := 38) rfl)
  have e := hmg.symm.trans (He.glo_ok X GN (S.d.fact 38 (f := .glo "law") rfl))
  cases e
  obtain ⟨c, rfl⟩ := He.codeIn_ref hc
  have ec : (He.cT K ("law", none)).1 = c := He.codeOf_eq (p := ("law", none)) lk rfl
  refine ⟨PySem.W.fnOf "law" "law" (defArgs (top 114)) (defBody (top 114)) (defScope (top 114)) .none kV doc pm an (.ref c) ct, tf.map (He.cT K), spLaw K (cE K), fun p hp => ?_, fun p hp => ?_, fun p hp => ?_, fun s u => ?_, fun H a ns hl hb hH hs => ⟨a, ns, rfl, hs, hl, hb, tabs_of fun p hp => ?_, fun _ => rfl⟩, fun base KB GB TB => ?_⟩
  · obtain ⟨q, hq, rfl⟩ := List.mem_map.mp hp
    exact S.empty q hq
  · obtain ⟨q, hq, rfl⟩ := List.mem_map.mp hp
    exact S.out q hq
  · obtain ⟨q, hq, rfl⟩ := List.mem_map.mp hp
    exact PySem.W.codeHd_of_K X (S.hd q hq)
  · exact .of_eq rfl
  · obtain ⟨y, hy, rfl⟩ := List.mem_map.mp hp
    obtain ⟨i, hi⟩ := List.mem_iff_getElem?.mp hy
    refine hH (He.cT K (y, none)) (List.mem_map.mpr ⟨(y, none), ?_, rfl⟩)
    have : tf = tx.map fun x => (x, none) := rfl
    rw [this]
    exact List.mem_map.mpr ⟨y, hy, rfl⟩
  · have M := facts S KB GB TB
    obtain ⟨f, fd, c', Pt, ⟨oc', od', kV', doc', pm', an', ct', osl', efd, lk', hc'⟩, kp', m', b', TBl, hm, hu⟩ := M.d_law.ex
    have ef := (He.glo_ok KB GB (S.d.fact 38 (f := .glo "law") rfl)).symm.trans m'
    have ef : He.ga K "law" = f := by cases ef; rfl
    subst ef
    subst efd
    rw [lk] at lk'
    cases lk'
    exact law_fn (i := 1) (gs := LS) ["script", "m", "three", "far", "near", "number", "zone", "text", "odd", "long", "eight", "spot"] lk hc (fnScope_by (by decide +kernel)) rfl TBl hm hu (fun f cdv A outer s H E lo hr => b_law M f cdv A outer s H E lo hr) GR.law_run
end GE
open PySem PySem.W PySem.Calls PyProof.Rows
theorem PySem.Challenge.cw_hourbound_k07_limits_of_zones_holds : PySem.Challenge.rw_hourbound_k07_limits_of_zones.Holds := by
  w_on; o_law
  refine HandSHeadRun.head_imp (r := OpenLaw.row PySem.Challenge.rw_hourbound_k07_limits_of_zones) (q := GH.Q0) (H := GH.hk) (ob := GH.ob) (M := 20000) (loose := GH.names) (d := HandSHeadRun.topDef (OpenLaw.row PySem.Challenge.rw_hourbound_k07_limits_of_zones).prog 114) (kwd := []) GH.ob_eq GH.run
    (by kernel_rfl) (by kernel_rfl) (by kernel_rfl) (by rfl) (by first | assumption | decide +kernel) (by decide +kernel) ⟨rfl, rfl, rfl, rfl, rfl, by decide +kernel⟩ ?hw ?hc
  case hw => w_witness2
  case hc =>
    refine LamX.walk_ofTsE (l := PySem.Challenge.rw_hourbound_k07_limits_of_zones) (n := 63) (k := 10) (x := "script") (CX := fun w => L2.CX GH.R.prog w) rfl (by decide) (by kernel_rfl) ⟨rfl, by decide, by decide⟩ ?F (fun _ _ _ _ _ z => Ev.hCX0 z)
    intro w mg fa h Y G hmg0
    obtain ⟨K, KX, c⟩ := Y
    have hmg : mg ("law" : PySem.Str) = some (.ref fa) := by
      have e : (HandSHeadRun.topDef (OpenLaw.row PySem.Challenge.rw_hourbound_k07_limits_of_zones).prog 114).name = ("law" : PySem.Str) := by kernel_rfl
      rw [← e]
      exact hmg0
    exact ⟨K, KX, GE.law_at c KX G hmg rfl⟩
#print axioms PySem.Challenge.cw_hourbound_k07_limits_of_zones_holds
