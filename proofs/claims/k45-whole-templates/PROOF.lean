import PyProof.Rows.All
import Wide.All
import OpenK.AllK
import Wide.FinOn
import HandS.ForMost
import HandS.IsInst
import HandS.TupMul
import HandS.TupAny
import HandS.Wide
import HandS.Zip
import HandS.Walk
import HandS.Strs
import HandS.Conv
import HandS.SetFor
import KE.GoesEnum
import HandS.Defaults
import PySem.Challenge.RW_onewithin_k45_whole_templates_at_work
import HandS.Head0
import HandS.Head1
import HandS.Head2
import HandS.HeadEnd
import HandS.HeadHook1
import HandS.HeadHook2
set_option Elab.async false
set_option linter.all false
set_option maxRecDepth 100000
set_option maxHeartbeats 2000000
/-! Md: a piece of the text evaluates to data. The data environment and what represents it. -/
namespace Md
open PySem PySem.Spec PyProof.Rows L2
abbrev St := L2.St

/-! ### heaps -/
/-- all that S tells is so in H -/
def Le (S H : Hp) : Prop := ∀ a o, S a = some o → H a = some o
theorem Le.refl (H : Hp) : Le H H := fun _ _ h => h
theorem Le.trans {A B C : Hp} (x : Le A B) (y : Le B C) : Le A C := fun a o h => y a o (x a o h)
theorem Le.fr {S H : Hp} (e : Le S H) {p : Addr} (h : H p = none) : S p = none := by
  cases q : S p with
  | none => rfl
  | some o => rw [e p o q] at h; cases h
theorem Le.new {S : Hp} {p : Addr} {o : HO} (h : S p = none) : Le S (upd S p o) := fun a u e => by
  rw [upd_ne (ne_of_none e h)]; exact e
theorem Le.both {S H : Hp} (e : Le S H) {p : Addr} {o : HO} : Le (upd S p o) (upd H p o) := fun a u q => by
  by_cases h : a = p
  · subst h; rw [upd_same] at q ⊢; exact q
  · rw [upd_ne h] at q ⊢; exact e a u q
/-- what S does not know may be written -/
theorem Le.write {S H : Hp} (e : Le S H) {p : Addr} {o : HO} (h : S p = Option.none) : Le S (upd H p o) := fun a u q => by
  rw [upd_ne (ne_of_none q h)]; exact e a u q
theorem Le.rd {S H : Hp} (e : Le S H) {a : Addr} {u : HO} (h : Rd S a u) : Rd H a u := by
  rcases h with h | ⟨o, h⟩
  · exact .inl (e _ _ h)
  · exact .inr ⟨o, e _ _ h⟩
theorem Le.seqT {K : PySem.W.Frag} {S H : Hp} (e : Le S H) {a : Addr} {xs : List V} (h : SqT K S a xs) : SqT K H a xs := by
  rcases h with h | h
  · exact .inl (e.rd h)
  · exact .inr h
theorem Le.seqL {K : PySem.W.Frag} {S H : Hp} (e : Le S H) {a : Addr} {xs : List V} (h : SqL K S a xs) : SqL K H a xs := by
  rcases h with h | h
  · exact .inl (e.rd h)
  · exact .inr h

/-! ### data -/
mutual
inductive Rp (K : PySem.W.Frag) (S : Hp) : V → PyData → Prop
  | non : Rp K S .non .none
  | bl (b : Bool) : Rp K S (.bl b) (.bool b)
  | int (i : Int) : Rp K S (.int i) (.int i)
  | str (x : Str) : Rp K S (.str x) (.str x)
  | lst {a : Addr} {xs : List V} {ds : List PyData} : Rd S a (.lst xs) → RpL K S xs ds → Rp K S (.ref a) (.list ds)
  | tup {a : Addr} {xs : List V} {ds : List PyData} : SqT K S a xs → RpL K S xs ds → Rp K S (.ref a) (.tuple ds)
inductive RpL (K : PySem.W.Frag) (S : Hp) : List V → List PyData → Prop
  | nil : RpL K S [] []
  | cons {v : V} {vs : List V} {d : PyData} {ds : List PyData} : Rp K S v d → RpL K S vs ds → RpL K S (v :: vs) (d :: ds)
end
section
variable {K : PySem.W.Frag} {S S' H : Hp}
mutual
theorem Rp.mono (e : Le S S') : ∀ (d : PyData) (v : V), Rp K S v d → Rp K S' v d
  | .none, _, h => by cases h; exact .non
  | .bool b, _, h => by cases h; exact .bl b
  | .int i, _, h => by cases h; exact .int i
  | .str x, _, h => by cases h; exact .str x
  | .list ds, _, h => by
    cases h with
    | lst r q => exact .lst (e.rd r) (RpL.mono e ds _ q)
  | .tuple ds, _, h => by
    cases h with
    | tup r q => exact .tup (e.seqT r) (RpL.mono e ds _ q)
  | .dict _, _, h => by cases h
theorem RpL.mono (e : Le S S') : ∀ (ds : List PyData) (vs : List V), RpL K S vs ds → RpL K S' vs ds
  | [], _, h => by cases h; exact .nil
  | d :: ds, _, h => by
    cases h with
    | cons r q => exact .cons (Rp.mono e d _ r) (RpL.mono e ds _ q)
end
theorem Rp.m {v : V} {d : PyData} (h : Rp K S v d) (e : Le S S') : Rp K S' v d := Rp.mono e d v h
theorem RpL.m {vs : List V} {ds : List PyData} (h : RpL K S vs ds) (e : Le S S') : RpL K S' vs ds := RpL.mono e ds vs h
mutual
theorem Rp.dp0 : ∀ (d : PyData) (v : V), Rp K S v d → Dp K S v d
  | .none, _, h => by cases h; exact .non
  | .bool b, _, h => by cases h; exact .bl b
  | .int i, _, h => by cases h; exact .int i
  | .str x, _, h => by cases h; exact .str x
  | .list ds, _, h => by
    cases h with
    | lst r q => exact .lst (.inl r) (RpL.dp0 ds _ q)
  | .tuple ds, _, h => by
    cases h with
    | tup r q => exact .tup r (RpL.dp0 ds _ q)
  | .dict _, _, h => by cases h
theorem RpL.dp0 : ∀ (ds : List PyData) (vs : List V), RpL K S vs ds → DpAll K S vs ds
  | [], _, h => by cases h; exact .nil
  | d :: ds, _, h => by
    cases h with
    | cons r q => exact .cons (Rp.dp0 d _ r) (RpL.dp0 ds _ q)
end
theorem Rp.dp {v : V} {d : PyData} (h : Rp K S v d) : Dp K S v d := Rp.dp0 d v h
theorem RpL.length {vs : List V} {ds : List PyData} (h : RpL K S vs ds) : vs.length = ds.length := by
  induction ds generalizing vs with
  | nil => cases h; rfl
  | cons d ds ih => cases h with | cons r q => simp [ih q]
theorem RpL.get {vs : List V} {ds : List PyData} (h : RpL K S vs ds) {i : Nat} {d : PyData} (e : ds[i]? = some d) : ∃ v, vs[i]? = some v ∧ Rp K S v d := by
  induction ds generalizing vs i with
  | nil => simp at e
  | cons x xs ih =>
    cases h with
    | cons r q =>
      cases i with
      | zero => simp at e; subst e; exact ⟨_, rfl, r⟩
      | succ i => simp at e; simpa using ih q e
theorem RpL.getv {vs : List V} {ds : List PyData} (h : RpL K S vs ds) {i : Nat} {v : V} (e : vs[i]? = some v) : ∃ d, ds[i]? = some d ∧ Rp K S v d := by
  induction ds generalizing vs i with
  | nil => cases h; simp at e
  | cons x xs ih =>
    cases h with
    | cons r q =>
      cases i with
      | zero => simp at e; subst e; exact ⟨_, rfl, r⟩
      | succ i => simp at e; simpa using ih q e
theorem RpL.app {vs ws : List V} {ds es : List PyData} (h : RpL K S vs ds) (h' : RpL K S ws es) : RpL K S (vs ++ ws) (ds ++ es) := by
  induction ds generalizing vs with
  | nil => cases h; exact h'
  | cons d ds ih => cases h with | cons r q => exact .cons r (ih q)
theorem RpL.one {v : V} {d : PyData} (h : Rp K S v d) : RpL K S [v] [d] := .cons h .nil
theorem RpL.take {vs : List V} {ds : List PyData} (h : RpL K S vs ds) (n : Nat) : RpL K S (vs.take n) (ds.take n) := by
  induction ds generalizing vs n with
  | nil => cases h; simp; exact .nil
  | cons d ds ih =>
    cases h with
    | cons r q =>
      cases n with
      | zero => exact .nil
      | succ n => exact .cons r (ih q n)
theorem RpL.drop {vs : List V} {ds : List PyData} (h : RpL K S vs ds) (n : Nat) : RpL K S (vs.drop n) (ds.drop n) := by
  induction ds generalizing vs n with
  | nil => cases h; simp; exact .nil
  | cons d ds ih =>
    cases h with
    | cons r q =>
      cases n with
      | zero => exact .cons r q
      | succ n => exact ih q n
theorem RpL.set {vs : List V} {ds : List PyData} (h : RpL K S vs ds) {v : V} {d : PyData} (r : Rp K S v d) (n : Nat) : RpL K S (vs.set n v) (ds.set n d) := by
  induction ds generalizing vs n with
  | nil => cases h; exact .nil
  | cons x xs ih =>
    cases h with
    | cons r' q =>
      cases n with
      | zero => exact .cons r q
      | succ n => exact .cons r' (ih q n)
theorem RpL.rep {vs : List V} {ds : List PyData} (h : RpL K S vs ds) (n : Nat) : RpL K S (List.replicate n vs).flatten (List.replicate n ds).flatten := by
  induction n with
  | zero => exact .nil
  | succ n ih => rw [List.replicate_succ, List.replicate_succ, List.flatten_cons, List.flatten_cons]; exact h.app ih
theorem RpL.ints {is : List Int} : ∀ {vs : List V}, RpL K S vs (is.map PyData.int) → vs = is.map V.int := by
  induction is with
  | nil => intro vs h; cases h; rfl
  | cons i is ih => intro vs h; cases h with | cons r q => cases r; rw [ih q]; rfl
theorem RpL.ofInts (is : List Int) : RpL K S (is.map V.int) (is.map PyData.int) := by
  induction is with
  | nil => exact .nil
  | cons i is ih => exact .cons (.int i) ih
theorem RpL.bools {bs : List Bool} : ∀ {vs : List V}, RpL K S vs (bs.map PyData.bool) → vs = bs.map V.bl := by
  induction bs with
  | nil => intro vs h; cases h; rfl
  | cons i is ih => intro vs h; cases h with | cons r q => cases r; rw [ih q]; rfl
end

/-! ### a step: what A tells may be written, all else is kept; what is newly known is new, or A's -/
structure Stp (A : Addr → Prop) (S H S' H' : Hp) : Prop where
  ex : Le S S'
  sub : Le S' H'
  keep : ∀ a o, H a = some o → ¬ A a → H' a = some o
  there : ∀ a, H' a = none → H a = none
  new : ∀ a, S' a ≠ none → S a ≠ none ∨ H a = none ∨ A a
section
variable {A A' : Addr → Prop} {S H S1 H1 S2 H2 : Hp}
theorem Stp.refl (e : Le S H) : Stp A S H S H := ⟨Le.refl S, e, fun _ _ h _ => h, fun _ h => h, fun _ h => .inl h⟩
theorem Stp.trans (x : Stp A S H S1 H1) (y : Stp A' S1 H1 S2 H2) (h : ∀ a, A' a → A a ∨ H a = none) : Stp A S H S2 H2 := by
  refine ⟨x.ex.trans y.ex, y.sub, fun a o e n => ?_, fun a e => x.there a (y.there a e), fun a e => ?_⟩
  · refine y.keep a o (x.keep a o e n) fun q => ?_
    rcases h a q with z | z
    · exact n z
    · rw [e] at z; cases z
  · rcases y.new a e with q | q | q
    · exact x.new a q
    · exact .inr (.inl (x.there a q))
    · rcases h a q with z | z
      · exact .inr (.inr z)
      · exact .inr (.inl z)
theorem Stp.mono (x : Stp A S H S1 H1) (h : ∀ a, A a → A' a) : Stp A' S H S1 H1 :=
  ⟨x.ex, x.sub, fun a o e n => x.keep a o e fun q => n (h a q), x.there, fun a e => by
    rcases x.new a e with q | q | q
    · exact .inl q
    · exact .inr (.inl q)
    · exact .inr (.inr (h a q))⟩
/-- a new object that is known -/
theorem Stp.laid {p : Addr} {o : HO} (e : Le S H) (h : H p = none) : Stp A S H (upd S p o) (upd H p o) := by
  refine ⟨Le.new (e.fr h), e.both, fun a u q _ => ?_, fun a q => ?_, fun a q => ?_⟩
  · rw [upd_ne (ne_of_none q h)]; exact q
  · by_cases z : a = p
    · subst z; exact h
    · rw [upd_ne z] at q; exact q
  · by_cases z : a = p
    · subst z; exact .inr (.inl h)
    · rw [upd_ne z] at q; exact .inl q
/-- a new object that is not (yet) known -/
theorem Stp.hidden {p : Addr} {o : HO} (e : Le S H) (h : H p = none) : Stp A S H S (upd H p o) := by
  refine ⟨Le.refl S, e.write (e.fr h), fun a u q _ => ?_, fun a q => ?_, fun a q => .inl q⟩
  · rw [upd_ne (ne_of_none q h)]; exact q
  · by_cases z : a = p
    · subst z; exact h
    · rw [upd_ne z] at q; exact q
/-- an own object is written -/
theorem Stp.write {p : Addr} {o : HO} (e : Le S H) (hp : S p = none) (ha : A p) : Stp A S H S (upd H p o) := by
  refine ⟨Le.refl S, e.write hp, fun a u q n => ?_, fun a q => ?_, fun a q => .inl q⟩
  · rw [upd_ne (show a ≠ p from fun z => n (z ▸ ha))]; exact q
  · by_cases z : a = p
    · subst z; rw [upd_same] at q; cases q
    · rw [upd_ne z] at q; exact q
end
abbrev NoA : Addr → Prop := fun _ => False
theorem Stp.of0 {A : Addr → Prop} {S H S1 H1 : Hp} (x : Stp NoA S H S1 H1) : Stp A S H S1 H1 := x.mono fun _ z => z.elim
theorem Stp.le {S H S1 H1 : Hp} (x : Stp NoA S H S1 H1) : Le H H1 := fun a o e => x.keep a o e fun z => z
theorem Stp.hid {S H S1 H1 : Hp} (x : Stp NoA S H S1 H1) {p : Addr} (hS : S p = none) (hH : H p ≠ none) : S1 p = none := by
  cases q : S1 p with
  | none => rfl
  | some o =>
    rcases x.new p (by rw [q]; exact fun z => by cases z) with z | z | z
    · exact absurd hS z
    · exact absurd z hH
    · exact z.elim

/-! ### the environment -/
inductive Sl where
  | val (d : PyData)
  | own (ds : List PyData)
abbrev En := List (Option Sl)
def Own (σ : St) (ρ : En) (a : Addr) : Prop := ∃ (i : Nat) (ds : List PyData), ρ[i]? = some (some (.own ds)) ∧ σ[i]? = some (some (.ref a))
structure Rep (K : PySem.W.Frag) (σ : St) (S H : Hp) (ρ : En) : Prop where
  len : σ.length = ρ.length
  sub : Le S H
  val : ∀ (i : Nat) (d : PyData), ρ[i]? = some (some (.val d)) → ∃ v, σ[i]? = some (some v) ∧ Rp K S v d
  own : ∀ (i : Nat) (ds : List PyData), ρ[i]? = some (some (.own ds)) → ∃ p xs, σ[i]? = some (some (.ref p)) ∧ S p = none ∧ H p = some (.lst xs) ∧ RpL K S xs ds
  apart : ∀ (i j : Nat) (ds es : List PyData) (p : Addr), ρ[i]? = some (some (.own ds)) → ρ[j]? = some (some (.own es)) → σ[i]? = some (some (.ref p)) → σ[j]? = some (some (.ref p)) → i = j
structure Nx (K : PySem.W.Frag) (σ : St) (ρ : En) (S H : Hp) (σ' : St) (ρ' : En) (S' H' : Hp) : Prop where
  stp : Stp (Own σ ρ) S H S' H'
  rep : Rep K σ' S' H' ρ'
  own : ∀ a, Own σ' ρ' a → Own σ ρ a ∨ H a = none
  z : σ'[0]? = σ[0]?
  zo : ∀ es, ρ[0]? = some (some (.own es)) → ∃ es', ρ'[0]? = some (some (.own es'))
section
variable {K : PySem.W.Frag} {σ σ1 σ2 : St} {ρ ρ1 ρ2 : En} {S H S1 H1 S2 H2 : Hp}
theorem Nx.refl (r : Rep K σ S H ρ) : Nx K σ ρ S H σ ρ S H := ⟨Stp.refl r.sub, r, fun _ h => .inl h, rfl, fun es h => ⟨es, h⟩⟩
theorem Nx.trans (x : Nx K σ ρ S H σ1 ρ1 S1 H1) (y : Nx K σ1 ρ1 S1 H1 σ2 ρ2 S2 H2) : Nx K σ ρ S H σ2 ρ2 S2 H2 := by
  refine ⟨x.stp.trans y.stp x.own, y.rep, fun a h => ?_, y.z.trans x.z, fun es h => ?_⟩
  · rcases y.own a h with q | q
    · exact x.own a q
    · exact .inr (x.stp.there a q)
  · obtain ⟨es', h'⟩ := x.zo es h
    exact y.zo es' h'
/-- a step that writes nothing of ours -/
theorem Rep.step (r : Rep K σ S H ρ) (x : Stp NoA S H S1 H1) : Rep K σ S1 H1 ρ := by
  refine ⟨r.len, x.sub, fun i d h => ?_, fun i ds h => ?_, r.apart⟩
  · obtain ⟨v, h1, h2⟩ := r.val i d h
    exact ⟨v, h1, h2.m x.ex⟩
  · obtain ⟨p, xs, h1, h2, h3, h4⟩ := r.own i ds h
    exact ⟨p, xs, h1, x.hid h2 (by rw [h3]; exact fun z => by cases z), x.le _ _ h3, h4.m x.ex⟩
theorem Nx.step (r : Rep K σ S H ρ) (x : Stp NoA S H S1 H1) : Nx K σ ρ S H σ ρ S1 H1 := ⟨x.of0, r.step x, fun _ h => .inl h, rfl, fun es h => ⟨es, h⟩⟩
/-- the own slots hidden -/
def hide (ρ : En) : En := ρ.map fun o => match o with
  | some (.val d) => some (.val d)
  | _ => none
theorem hide_val {i : Nat} {d : PyData} (h : (hide ρ)[i]? = some (some (.val d))) : ρ[i]? = some (some (.val d)) := by
  unfold hide at h
  rw [List.getElem?_map] at h
  cases e : ρ[i]? with
  | none => rw [e] at h; cases h
  | some o =>
    rw [e] at h
    cases o with
    | none => cases h
    | some s =>
      cases s with
      | val x => exact h
      | own x => cases h
theorem hide_own {i : Nat} {ds : List PyData} (h : (hide ρ)[i]? = some (some (.own ds))) : False := by
  unfold hide at h
  rw [List.getElem?_map] at h
  cases e : ρ[i]? with
  | none => rw [e] at h; cases h
  | some o =>
    rw [e] at h
    cases o with
    | none => cases h
    | some s => cases s <;> cases h
theorem hide_len : (hide ρ).length = ρ.length := List.length_map _
theorem Rep.hidden (r : Rep K σ S H ρ) : Rep K σ S H (hide ρ) :=
  ⟨by rw [hide_len]; exact r.len, r.sub, fun i d h => r.val i d (hide_val h), fun i ds h => (hide_own h).elim, fun i j ds es p h => (hide_own h).elim⟩
/-- no own slot -/
def Pure (ρ : En) : Prop := ∀ (i : Nat) (ds : List PyData), ρ[i]? ≠ some (some (.own ds))
theorem hide_pure : Pure (hide ρ) := fun i ds h => hide_own h
theorem own_pure (h : Pure ρ) (a : Addr) : ¬ Own σ ρ a := fun ⟨i, ds, q, _⟩ => h i ds q
theorem Stp.pure {S H S1 H1 : Hp} (h : Pure ρ) (x : Stp (Own σ ρ) S H S1 H1) : Stp NoA S H S1 H1 := x.mono fun a q => own_pure h a q
theorem Nx.pure (h : Pure ρ) (x : Nx K σ ρ S H σ1 ρ1 S1 H1) : Stp NoA S H S1 H1 := x.stp.pure h
end

theorem Rep.notOwn {K : PySem.W.Frag} {σ : St} {ρ : En} {S H : Hp} (r : Rep K σ S H ρ) {p : Addr} (h : H p = none) : ¬ Own σ ρ p := fun ⟨i, ds, q1, q2⟩ => by
  obtain ⟨p', xs, z1, _, z3, _⟩ := r.own i ds q1
  rw [q2] at z1
  cases z1
  rw [h] at z3; cases z3

/-! ### judgements -/
abbrev FE := En → Option (PyData × En)
abbrev FT := En → Option (Bool × En)
abbrev FA := En → Option (List PyData × En)
inductive Out where
  | nx (ρ : En)
  | rt (d : PyData) (ρ : En)
  | rn (ds : List PyData) (ρ : En)
abbrev FS := En → Option Out
def SE (K : PySem.W.Frag) (t : TE) (f : FE) : Prop := ∀ σ S H ρ d ρ' Q, Rep K σ S H ρ → f ρ = some (d, ρ') → (∀ v S' H', Nx K σ ρ S H σ ρ' S' H' → Rp K S' v d → Q v H') → t σ H Q
def ST (K : PySem.W.Frag) (t : TT) (f : FT) : Prop := ∀ σ S H ρ b ρ' Q, Rep K σ S H ρ → f ρ = some (b, ρ') → (∀ S' H', Nx K σ ρ S H σ ρ' S' H' → Q b H') → t σ H Q
def SA (K : PySem.W.Frag) (t : TA) (f : FA) : Prop := ∀ σ S H ρ ds ρ' Q, Rep K σ S H ρ → f ρ = some (ds, ρ') → (∀ vs S' H', Nx K σ ρ S H σ ρ' S' H' → RpL K S' vs ds → Q vs H') → t σ H Q
/-- a list of one's own: not known yet -/
def SN (K : PySem.W.Frag) (t : TE) (f : FA) : Prop := ∀ σ S H ρ ds ρ' Q, Rep K σ S H ρ → f ρ = some (ds, ρ') →
  (∀ p xs S' H', Nx K σ ρ S H σ ρ' S' H' → ¬ Own σ ρ' p → H p = none → S' p = none → H' p = some (.lst xs) → RpL K S' xs ds → Q (.ref p) H') → t σ H Q
/-- what is wanted behind, by the outcome -/
def OutOk (K : PySem.W.Frag) (D : Ends) (σ : St) (ρ : En) (S H : Hp) : Out → Prop
  | .nx ρ' => ∀ σ' S' H', Nx K σ ρ S H σ' ρ' S' H' → D.nx σ' H'
  | .rt d ρ' => ∀ v σ' S' H', Nx K σ ρ S H σ' ρ' S' H' → Rp K S' v d → D.rt v H'
  | .rn ds ρ' => ∀ p xs σ' S' H', Nx K σ ρ S H σ' ρ' S' H' → H p = none → S' p = none → H' p = some (.lst xs) → RpL K S' xs ds → D.rt (.ref p) H'
def SS (K : PySem.W.Frag) (t : TS) (F : FS) : Prop := ∀ σ S H ρ o D, Rep K σ S H ρ → F ρ = some o → OutOk K D σ ρ S H o → t D σ H
/-! a piece of the text, by its canonical reading -/
def tE (K : PySem.W.Frag) (f : FE) : TE := fun σ H Q => ∃ S ρ d ρ', Rep K σ S H ρ ∧ f ρ = some (d, ρ') ∧ ∀ v S' H', Nx K σ ρ S H σ ρ' S' H' → Rp K S' v d → Q v H'
def tT (K : PySem.W.Frag) (f : FT) : TT := fun σ H Q => ∃ S ρ b ρ', Rep K σ S H ρ ∧ f ρ = some (b, ρ') ∧ ∀ S' H', Nx K σ ρ S H σ ρ' S' H' → Q b H'
def tA (K : PySem.W.Frag) (f : FA) : TA := fun σ H Q => ∃ S ρ ds ρ', Rep K σ S H ρ ∧ f ρ = some (ds, ρ') ∧ ∀ vs S' H', Nx K σ ρ S H σ ρ' S' H' → RpL K S' vs ds → Q vs H'
def tN (K : PySem.W.Frag) (f : FA) : TE := fun σ H Q => ∃ S ρ ds ρ', Rep K σ S H ρ ∧ f ρ = some (ds, ρ') ∧
  ∀ p xs S' H', Nx K σ ρ S H σ ρ' S' H' → ¬ Own σ ρ' p → H p = none → S' p = none → H' p = some (.lst xs) → RpL K S' xs ds → Q (.ref p) H'
def tS (K : PySem.W.Frag) (F : FS) : TS := fun D σ H => ∃ S ρ o, Rep K σ S H ρ ∧ F ρ = some o ∧ OutOk K D σ ρ S H o
section
variable {K : PySem.W.Frag}
theorem se_self {f : FE} : SE K (tE K f) f := fun σ S H ρ d ρ' Q r e k => ⟨S, ρ, d, ρ', r, e, k⟩
theorem st_self {f : FT} : ST K (tT K f) f := fun σ S H ρ d ρ' Q r e k => ⟨S, ρ, d, ρ', r, e, k⟩
theorem sa_self {f : FA} : SA K (tA K f) f := fun σ S H ρ d ρ' Q r e k => ⟨S, ρ, d, ρ', r, e, k⟩
theorem sn_self {f : FA} : SN K (tN K f) f := fun σ S H ρ d ρ' Q r e k => ⟨S, ρ, d, ρ', r, e, k⟩
theorem ss_self {F : FS} : SS K (tS K F) F := fun σ S H ρ o D r e k => ⟨S, ρ, o, r, e, k⟩
end
abbrev JE (X : Cx) (e : Expr) (f : FE) : Prop := PE X e (tE X.K f)
abbrev JT (X : Cx) (e : Expr) (f : FT) : Prop := PT X e (tT X.K f)
/-- within and, or -/
abbrev JW (X : Cx) (e : Expr) (f : FT) : Prop := PW X e (tT X.K f)
abbrev JA (X : Cx) (es : List Expr) (f : FA) : Prop := PA X es (tA X.K f)
/-- a new list of one's own -/
abbrev JN (X : Cx) (e : Expr) (f : FA) : Prop := PE X e (tN X.K f)
abbrev JS (X : Cx) (s : Stmt) (F : FS) : Prop := PS X s (tS X.K F)
abbrev JSs (X : Cx) (s : List Stmt) (F : FS) : Prop := PSs X s (tS X.K F)
section
variable {X : Cx}
theorem je_of {e : Expr} {t : TE} {f : FE} (h : PE X e t) (s : SE X.K t f) : JE X e f := ⟨fun pins st σ H Q I ⟨S, ρ, d, ρ', r, e, k⟩ => h.run pins st σ H Q I (s σ S H ρ d ρ' Q r e k)⟩
theorem jt_of {e : Expr} {t : TT} {f : FT} (h : PT X e t) (s : ST X.K t f) : JT X e f := ⟨fun pins st σ H Q I ⟨S, ρ, d, ρ', r, e, k⟩ => h.run pins st σ H Q I (s σ S H ρ d ρ' Q r e k)⟩
theorem jw_of {e : Expr} {t : TT} {f : FT} (h : PW X e t) (s : ST X.K t f) : JW X e f := ⟨fun wh pins st σ H Q I ⟨S, ρ, d, ρ', r, e, k⟩ => h.run wh pins st σ H Q I (s σ S H ρ d ρ' Q r e k)⟩
theorem ja_of {e : List Expr} {t : TA} {f : FA} (h : PA X e t) (s : SA X.K t f) : JA X e f := ⟨fun p pins st σ H Q I ⟨S, ρ, d, ρ', r, e, k⟩ => h.run p pins st σ H Q I (s σ S H ρ d ρ' Q r e k)⟩
theorem jn_of {e : Expr} {t : TE} {f : FA} (h : PE X e t) (s : SN X.K t f) : JN X e f := ⟨fun pins st σ H Q I ⟨S, ρ, d, ρ', r, e, k⟩ => h.run pins st σ H Q I (s σ S H ρ d ρ' Q r e k)⟩
theorem js_of {e : Stmt} {t : TS} {F : FS} (h : PS X e t) (s : SS X.K t F) : JS X e F := ⟨fun pins st σ H D I ⟨S, ρ, o, r, e, k⟩ => h.run pins st σ H D I (s σ S H ρ o D r e k)⟩
theorem jss_of {e : List Stmt} {t : TS} {F : FS} (h : PSs X e t) (s : SS X.K t F) : JSs X e F := ⟨fun pins st σ H D I ⟨S, ρ, o, r, e, k⟩ => h.run pins st σ H D I (s σ S H ρ o D r e k)⟩
end
end Md

set_option Elab.async false
set_option linter.all false
set_option maxRecDepth 100000
set_option maxHeartbeats 2000000
/-! Md: expressions. -/
namespace Md
open PySem PySem.Spec PyProof.Rows L2

/-! ### combinators -/
def fC (d : PyData) : FE := fun ρ => some (d, ρ)
def fV (i : Nat) : FE := fun ρ => match ρ[i]? with
  | some (some (.val d)) => some (d, ρ)
  | _ => none
/-- a list of one's own, handed on: it is known from here on -/
def fZ (i : Nat) : FE := fun ρ => match ρ[i]? with
  | some (some (.own ds)) => some (.list ds, ρ.set i (some (.val (.list ds))))
  | _ => none
def fBin (op : PyData → PyData → Option PyData) (f g : FE) : FE := fun ρ => (f ρ).bind fun p => (g p.2).bind fun q => (op p.1 q.1).map fun z => (z, q.2)
def fUn (op : PyData → Option PyData) (f : FE) : FE := fun ρ => (f ρ).bind fun p => (op p.1).map fun z => (z, p.2)
def asB : PyData → Option Bool
  | .bool b => some b
  | _ => none
def fTest (f : FE) : FT := fun ρ => (f ρ).bind fun p => (asB p.1).map fun b => (b, p.2)
def fAndT (a b : FT) : FT := fun ρ => (a ρ).bind fun p => match p.1 with
  | true => b p.2
  | false => some (false, p.2)
def fOrT (a b : FT) : FT := fun ρ => (a ρ).bind fun p => match p.1 with
  | true => some (true, p.2)
  | false => b p.2
def fNotT (a : FT) : FT := fun ρ => (a ρ).map fun p => (!p.1, p.2)
/-- as values: the first one True or False -/
def fAndV (a b : FE) : FE := fun ρ => (a ρ).bind fun p => (asB p.1).bind fun c => match c with
  | true => b p.2
  | false => some (.bool false, p.2)
def fOrV (a b : FE) : FE := fun ρ => (a ρ).bind fun p => (asB p.1).bind fun c => match c with
  | true => some (.bool true, p.2)
  | false => b p.2
def fNotV (a : FE) : FE := fun ρ => (a ρ).bind fun p => (asB p.1).map fun c => (.bool (!c), p.2)
/-- a op b op' c -/
def fChain (op op' : PyData → PyData → Option PyData) (f g h : FE) : FE := fun ρ => (f ρ).bind fun p => (g p.2).bind fun q => (op p.1 q.1).bind fun z => (asB z).bind fun c => match c with
  | true => (h q.2).bind fun r => (op' q.1 r.1).map fun z' => (z', r.2)
  | false => some (.bool false, q.2)
def aNil : FA := fun ρ => some ([], ρ)
def aCons (f : FE) (g : FA) : FA := fun ρ => (f ρ).bind fun p => (g p.2).map fun q => (p.1 :: q.1, q.2)
def fTup (g : FA) : FE := fun ρ => (g ρ).bind fun p => if p.1.length ≤ 1000 then some (.tuple p.1, p.2) else none
def fLst (g : FA) : FE := fun ρ => (g ρ).bind fun p => if p.1.length ≤ 1000 then some (.list p.1, p.2) else none
def nLst (g : FA) : FA := fun ρ => (g ρ).bind fun p => if p.1.length ≤ 1000 then some (p.1, p.2) else none
/-- a call by values -/
def fCB (op : List PyData → Option PyData) (g : FA) : FE := fun ρ => (g ρ).bind fun p => (op p.1).map fun z => (z, p.2)
/-- .. that hands back a list of the caller's own -/
def nCB (op : List PyData → Option (List PyData)) (g : FA) : FA := fun ρ => (g ρ).bind fun p => (op p.1).map fun z => (z, p.2)

/-! ### operations on data -/
def dAdd : PyData → PyData → Option PyData
  | .int i, .int j => some (.int (i + j))
  | .tuple xs, .tuple ys => if xs.length + ys.length ≤ 1000 then some (.tuple (xs ++ ys)) else none
  | .list xs, .list ys => if xs.length + ys.length ≤ 1000 then some (.list (xs ++ ys)) else none
  | _, _ => none
def dSub : PyData → PyData → Option PyData
  | .int i, .int j => some (.int (i - j))
  | _, _ => none
def mulOk (i j : Int) : Prop := (i.natAbs < 2 ^ 64 ∨ j.natAbs < 2 ^ 64) ∨ i.natAbs.log2 + j.natAbs.log2 < 1000000
instance (i j : Int) : Decidable (mulOk i j) := inferInstanceAs (Decidable (_ ∨ _))
def dMul : PyData → PyData → Option PyData
  | .int i, .int j => if mulOk i j then some (.int (i * j)) else none
  | .tuple xs, .int k => if xs ≠ [] ∧ 2 ≤ k ∧ k ≤ 1000 ∧ xs.length ≤ 1000 then some (.tuple (List.replicate k.toNat xs).flatten) else none
  | .list xs, .int k => if 0 ≤ k ∧ k ≤ 1000 ∧ xs.length ≤ 1000 then some (.list (List.replicate k.toNat xs).flatten) else none
  | _, _ => none
def dMod : PyData → PyData → Option PyData
  | .int i, .int j => if 0 < j then some (.int (i % j)) else none
  | _, _ => none
def dFdiv : PyData → PyData → Option PyData
  | .int i, .int j => if 0 < j ∧ j.natAbs.log2 < 9000 then some (.int (i / j)) else none
  | _, _ => none
def dPow : PyData → PyData → Option PyData
  | .int i, .int j => if 0 ≤ j ∧ j ≤ 1000000 ∧ i.natAbs < 2 ^ 64 then some (.int (i ^ j.toNat)) else none
  | _, _ => none
def dShl : PyData → PyData → Option PyData
  | .int i, .int j => if 0 ≤ j ∧ j ≤ 1000000 ∧ i.natAbs < 2 ^ 64 then some (.int (i * 2 ^ j.toNat)) else none
  | _, _ => none
def dShr : PyData → PyData → Option PyData
  | .int i, .int j => if 0 ≤ j then some (.int (i / 2 ^ j.toNat)) else none
  | _, _ => none
def dAnd : PyData → PyData → Option PyData
  | .int i, .int j => some (.int (Builtin.bitAnd i j))
  | _, _ => none
def dLt : PyData → PyData → Option PyData
  | .int i, .int j => some (.bool (decide (i < j)))
  | _, _ => none
def dLe : PyData → PyData → Option PyData
  | .int i, .int j => some (.bool (decide (i ≤ j)))
  | _, _ => none
def dGt : PyData → PyData → Option PyData
  | .int i, .int j => some (.bool (decide (j < i)))
  | _, _ => none
def dGe : PyData → PyData → Option PyData
  | .int i, .int j => some (.bool (decide (j ≤ i)))
  | _, _ => none
def eqD : PyData → PyData → Option Bool
  | .int i, .int j => some (decide (i = j))
  | .str i, .str j => some (decide (i = j))
  | .bool i, .bool j => some (decide (i = j))
  | x, y => if SeqAt.shaped x = true ∧ SeqAt.shaped y = true then some (PyData.eqv x y) else none
def dEq (x y : PyData) : Option PyData := (eqD x y).map fun b => .bool b
def dNe (x y : PyData) : Option PyData := (eqD x y).map fun b => .bool (!b)
def isN : PyData → Bool
  | .none => true
  | _ => false
def dIsN (x y : PyData) : Option PyData := match y with
  | .none => some (.bool (isN x))
  | _ => none
def flatD : PyData → Bool
  | .none => true
  | .bool _ => true
  | .int _ => true
  | .str _ => true
  | _ => false
def eqF : PyData → PyData → Bool
  | .none, .none => true
  | .bool a, .bool b => a == b
  | .bool a, .int b => (if a then 1 else 0) == b
  | .int a, .bool b => a == (if b then 1 else 0)
  | .int a, .int b => a == b
  | .str a, .str b => a == b
  | _, _ => false
def items : PyData → Option (List PyData)
  | .list ds => some ds
  | .tuple ds => some ds
  | _ => none
def inD (neg : Bool) (x y : PyData) : Option PyData := (items y).bind fun ds => if flatD x = true ∧ ds.all flatD = true then some (.bool (if neg then !(ds.any fun e => eqF e x) else ds.any fun e => eqF e x)) else none
def dIx (x y : PyData) : Option PyData := (items x).bind fun ds => match y with
  | .int i => if 0 ≤ i then ds[i.toNat]? else none
  | _ => none

section
variable {K : PySem.W.Frag} {S H : Hp}
theorem Rp.flat {v : V} {d : PyData} (h : Rp K S v d) : flatV v = flatD d := by
  cases h <;> rfl
theorem RpL.flat {vs : List V} {ds : List PyData} (h : RpL K S vs ds) : vs.all flatV = ds.all flatD := by
  induction ds generalizing vs with
  | nil => cases h; rfl
  | cons d ds ih => cases h with | cons r q => rw [List.all_cons, List.all_cons, r.flat, ih q]
theorem Rp.eqF {v u : V} {d e : PyData} (h : Rp K S v d) (h' : Rp K S u e) : eqV v u = eqF d e := by
  cases h <;> cases h' <;> rfl
theorem RpL.any {vs : List V} {ds : List PyData} {x : V} {d : PyData} (h : RpL K S vs ds) (r : Rp K S x d) : inV x vs = ds.any fun e => Md.eqF e d := by
  unfold inV
  induction ds generalizing vs with
  | nil => cases h; rfl
  | cons e ds ih => cases h with | cons r' q => rw [List.any_cons, List.any_cons, r'.eqF r, ih q]
/-- a list, a tuple, read -/
theorem Rp.items {v : V} {d : PyData} {ds : List PyData} (h : Rp K S v d) (e : items d = some ds) : ∃ a vs, v = .ref a ∧ (Rd S a (.lst vs) ∨ SqT K S a vs) ∧ RpL K S vs ds := by
  cases h with
  | lst r q => cases e; exact ⟨_, _, rfl, .inl r, q⟩
  | tup r q => cases e; exact ⟨_, _, rfl, .inr r, q⟩
  | _ => cases e
end

/-! ### rules by values -/
def R2D (K : PySem.W.Frag) (r : R2) (op : PyData → PyData → Option PyData) : Prop := ∀ S H v u x y z Q, Le S H → Rp K S v x → Rp K S u y → op x y = some z →
  (∀ w S' H', Stp NoA S H S' H' → Rp K S' w z → Q w H') → r v u H Q
def RcD (K : PySem.W.Frag) (r : List V → Hp → VK → Prop) (op : List PyData → Option PyData) : Prop := ∀ S H vs ds z Q, Le S H → RpL K S vs ds → op ds = some z →
  (∀ w S' H', Stp NoA S H S' H' → Rp K S' w z → Q w H') → r vs H Q
def RcN (K : PySem.W.Frag) (r : List V → Hp → VK → Prop) (op : List PyData → Option (List PyData)) : Prop := ∀ S H vs ds zs Q, Le S H → RpL K S vs ds → op ds = some zs →
  (∀ p xs S' H', Stp NoA S H S' H' → H p = none → S' p = none → H' p = some (.lst xs) → RpL K S' xs zs → Q (.ref p) H') → r vs H Q
theorem some_inj {α : Type} {a b : α} (h : some a = some b) : a = b := Option.some.inj h
section
variable {K : PySem.W.Frag} {S H : Hp}
/-- an answer that makes nothing -/
theorem go0 {Q : VK} {z : PyData} (e : Le S H) (k : ∀ w S' H', Stp NoA S H S' H' → Rp K S' w z → Q w H') {w : V} (r : Rp K S w z) : Q w H := k w S H (Stp.refl e) r
theorem sz1000 {n : Nat} (h : n ≤ 1000) : n ≤ sizeLine := by rw [sizeLine_eq]; omega
theorem new_tup {p : Addr} {vs : List V} {ds : List PyData} (e : Le S H) (h : H p = none) (r : RpL K S vs ds) : Rp K (upd S p (.tup vs)) (.ref p) (.tuple ds) := .tup (.inl (.inl upd_same)) (r.m (Le.new (e.fr h)))
theorem new_lst {p : Addr} {vs : List V} {ds : List PyData} (e : Le S H) (h : H p = none) (r : RpL K S vs ds) : Rp K (upd S p (.lst vs)) (.ref p) (.list ds) := .lst (.inl upd_same) (r.m (Le.new (e.fr h)))
end

/-- l + m, lists that are read -/
def rCatR : R2 := fun x y H Q => ∃ l b xs zs, x = .ref l ∧ y = .ref b ∧ Rd H l (.lst xs) ∧ Rd H b (.lst zs) ∧ xs.length + zs.length ≤ sizeLine ∧ ∀ p, H p = none → Q (.ref p) (upd H p (.lst (xs ++ zs)))
theorem op_catR {X : Cx} : OpR X (binaryOp .Add) rCatR := by
  intro pins s σ H x y v u Q I rx ry h
  obtain ⟨l, b, xs, zs, rfl, rfl, hL, hB, hz, q⟩ := h
  cases rx
  cases ry
  obtain ⟨_, its, n, r, e⟩ : xs.length ≤ sizeLine ∧ ∃ (its : List Value) (n : Nat), Vals xs its ∧ s.heap.get? l = some { cls := .type "list", data := .seq its.toArray n } := hL.ok I.hok
  obtain ⟨_, its2, n2, r2, e2⟩ : zs.length ≤ sizeLine ∧ ∃ (its : List Value) (n : Nat), Vals zs its ∧ s.heap.get? b = some { cls := .type "list", data := .seq its.toArray n } := hB.ok I.hok
  refine PySem.P.add_list e e2 ?_ (by rw [List.size_toArray, List.size_toArray, ← r.length, ← r2.length]; exact hz)
  rw [show its.toArray ++ its2.toArray = (its ++ its2).toArray by simp]
  exact ⟨.ref _, _, I.lnew (t' := s.toks) (r.append r2) (by rw [List.length_append]; exact hz), rfl, q _ I.fresh⟩
def rAdd3 (K : PySem.W.Frag) : R2 := fun x y H Q => (rI0 (fun i j => .int (i + j)) x y H Q ∨ rCatA K x y H Q) ∨ rCatR x y H Q
theorem op_add3 {X : Cx} : OpR X (binaryOp .Add) (rAdd3 X.K) := (OpR.or op_add op_catA).or op_catR
section
variable {K : PySem.W.Frag}
theorem rd_add : R2D K (rAdd3 K) dAdd := by
  intro S H v u x y z Q e r1 r2 h k
  cases r1 with
  | int i =>
    cases r2 with
    | int j => cases h; exact .inl (.inl ⟨i, j, rfl, rfl, go0 e k (.int _)⟩)
    | _ => cases h
  | @tup a xs ds ha qa =>
    cases r2 with
    | @tup b ys es hb qb =>
      have h : (if ds.length + es.length ≤ 1000 then some (PyData.tuple (ds ++ es)) else none) = some z := h
      split at h
      · rename_i hl
        cases h
        refine .inl (.inr ⟨a, b, xs, ys, rfl, rfl, e.seqT ha, e.seqT hb, sz1000 (by rw [qa.length, qb.length]; exact hl), fun z => ?_, fun z z' => ?_, fun _ _ p hp => ?_⟩)
        · have e1 : ds = [] := by have := qa.length; rw [z] at this; exact List.eq_nil_of_length_eq_zero this.symm
          refine go0 e k (.tup hb ?_)
          rw [e1]; exact qb
        · have e1 : es = [] := by have := qb.length; rw [z'] at this; exact List.eq_nil_of_length_eq_zero this.symm
          refine go0 e k (.tup ha ?_)
          rw [e1, List.append_nil]; exact qa
        · exact k _ _ _ (Stp.laid e hp) (new_tup e hp (qa.app qb))
      · cases h
    | _ => cases h
  | @lst a xs ds ha qa =>
    cases r2 with
    | @lst b ys es hb qb =>
      have h : (if ds.length + es.length ≤ 1000 then some (PyData.list (ds ++ es)) else none) = some z := h
      split at h
      · rename_i hl
        cases h
        refine .inr ⟨a, b, xs, ys, rfl, rfl, e.rd ha, e.rd hb, sz1000 (by rw [qa.length, qb.length]; exact hl), fun p hp => ?_⟩
        exact k _ _ _ (Stp.laid e hp) (new_lst e hp (qa.app qb))
      · cases h
    | _ => cases h
  | _ => cases r2 <;> cases h
theorem rd_sub : R2D K (rI0 fun i j => .int (i - j)) dSub := by
  intro S H v u x y z Q e r1 r2 h k
  cases r1 with
  | int i =>
    cases r2 with
    | int j => cases h; exact ⟨i, j, rfl, rfl, go0 e k (.int _)⟩
    | _ => cases h
  | _ => cases r2 <;> cases h
end
/-- l * k, a list that is read -/
def rRepR : R2 := fun x y H Q => ∃ l k xs, x = .ref l ∧ y = .int k ∧ H l = some (.lst xs) ∧ -(2 ^ 63) ≤ k ∧ k < 2 ^ 63 ∧ xs.length * k.toNat ≤ sizeLine ∧ ∀ p, H p = none → Q (.ref p) (upd H p (.lst (List.replicate k.toNat xs).flatten))
def rMul3 (K : PySem.W.Frag) : R2 := fun x y H Q => (rI CMul (fun i j => .int (i * j)) x y H Q ∨ rI CMulW (fun i j => .int (i * j)) x y H Q) ∨ rRepT K x y H Q
theorem op_mul3 {X : Cx} : OpR X (binaryOp .Mult) (rMul3 X.K) := (OpR.or op_mul op_mulW).or op_repT
/-- by an int or a tuple; a list times a number: dRepL -/
def dMulT : PyData → PyData → Option PyData
  | .list _, _ => none
  | x, y => dMul x y
def dRepL : PyData → PyData → Option PyData
  | .list xs, .int k => if 0 ≤ k ∧ k ≤ 1000 ∧ xs.length ≤ 1000 then some (.list (List.replicate k.toNat xs).flatten) else none
  | _, _ => none
section
variable {K : PySem.W.Frag}
theorem rd_mul : R2D K (rMul3 K) dMulT := by
  intro S H v u x y z Q e r1 r2 h k
  cases r1 with
  | int i =>
    cases r2 with
    | int j =>
      have h : (if mulOk i j then some (PyData.int (i * j)) else none) = some z := h
      split at h
      · rename_i hm
        cases h
        rcases hm with hm | hm
        · exact .inl (.inl ⟨i, j, rfl, rfl, hm.imp (fun hx => ⟨by omega, by omega⟩) (fun hx => ⟨by omega, by omega⟩), go0 e k (.int _)⟩)
        · exact .inl (.inr ⟨i, j, rfl, rfl, hm, go0 e k (.int _)⟩)
      · cases h
    | _ => cases h
  | @tup a xs ds ha qa =>
    cases r2 with
    | int j =>
      have h : (if ds ≠ [] ∧ 2 ≤ j ∧ j ≤ 1000 ∧ ds.length ≤ 1000 then some (PyData.tuple (List.replicate j.toNat ds).flatten) else none) = some z := h
      split at h
      · rename_i hm
        cases h
        refine .inr ⟨a, j, xs, rfl, rfl, e.seqT ha, fun z => hm.1 ?_, hm.2.1, hm.2.2.1, by rw [qa.length]; exact hm.2.2.2, fun p hp => ?_⟩
        · have := qa.length; rw [z] at this; exact List.eq_nil_of_length_eq_zero this.symm
        · exact k _ _ _ (Stp.laid e hp) (new_tup e hp (qa.rep _))
      · cases h
    | _ => cases h
  | lst => cases h
  | _ => cases r2 <;> cases h
theorem rd_mod : R2D K (rI (fun _ j => 0 < j) fun i j => .int (i % j)) dMod := by
  intro S H v u x y z Q e r1 r2 h k
  cases r1 with
  | int i =>
    cases r2 with
    | int j =>
      have h : (if 0 < j then some (PyData.int (i % j)) else none) = some z := h
      split at h
      · rename_i hm
        cases h
        exact ⟨i, j, rfl, rfl, hm, go0 e k (.int _)⟩
      · cases h
    | _ => cases h
  | _ => cases r2 <;> cases h
theorem rd_fdiv : R2D K (rI CDivW fun i j => .int (i / j)) dFdiv := by
  intro S H v u x y z Q e r1 r2 h k
  cases r1 with
  | int i =>
    cases r2 with
    | int j =>
      have h : (if 0 < j ∧ j.natAbs.log2 < 9000 then some (PyData.int (i / j)) else none) = some z := h
      split at h
      · rename_i hm
        cases h
        exact ⟨i, j, rfl, rfl, hm, go0 e k (.int _)⟩
      · cases h
    | _ => cases h
  | _ => cases r2 <;> cases h
theorem rd_pow : R2D K (rI CPow fun i j => .int (i ^ j.toNat)) dPow := by
  intro S H v u x y z Q e r1 r2 h k
  cases r1 with
  | int i =>
    cases r2 with
    | int j =>
      have h : (if 0 ≤ j ∧ j ≤ 1000000 ∧ i.natAbs < 2 ^ 64 then some (PyData.int (i ^ j.toNat)) else none) = some z := h
      split at h
      · rename_i hm
        cases h
        exact ⟨i, j, rfl, rfl, hm, go0 e k (.int _)⟩
      · cases h
    | _ => cases h
  | _ => cases r2 <;> cases h
theorem rd_shl : R2D K (rI CPow fun i j => .int (i * 2 ^ j.toNat)) dShl := by
  intro S H v u x y z Q e r1 r2 h k
  cases r1 with
  | int i =>
    cases r2 with
    | int j =>
      have h : (if 0 ≤ j ∧ j ≤ 1000000 ∧ i.natAbs < 2 ^ 64 then some (PyData.int (i * 2 ^ j.toNat)) else none) = some z := h
      split at h
      · rename_i hm
        cases h
        exact ⟨i, j, rfl, rfl, hm, go0 e k (.int _)⟩
      · cases h
    | _ => cases h
  | _ => cases r2 <;> cases h
theorem rd_shr : R2D K (rI (fun _ j => 0 ≤ j) fun i j => .int (i / 2 ^ j.toNat)) dShr := by
  intro S H v u x y z Q e r1 r2 h k
  cases r1 with
  | int i =>
    cases r2 with
    | int j =>
      have h : (if 0 ≤ j then some (PyData.int (i / 2 ^ j.toNat)) else none) = some z := h
      split at h
      · rename_i hm
        cases h
        exact ⟨i, j, rfl, rfl, hm, go0 e k (.int _)⟩
      · cases h
    | _ => cases h
  | _ => cases r2 <;> cases h
theorem rd_and : R2D K (rI0 fun i j => .int (Builtin.bitAnd i j)) dAnd := by
  intro S H v u x y z Q e r1 r2 h k
  cases r1 with
  | int i =>
    cases r2 with
    | int j => cases h; exact ⟨i, j, rfl, rfl, go0 e k (.int _)⟩
    | _ => cases h
  | _ => cases r2 <;> cases h
theorem rd_cmpI {g : Int → Int → Bool} {op : PyData → PyData → Option PyData} (hop : ∀ x y z, op x y = some z → ∃ i j, x = .int i ∧ y = .int j ∧ z = .bool (g i j)) : R2D K (rI0 fun i j => .bl (g i j)) op := by
  intro S H v u x y z Q e r1 r2 h k
  obtain ⟨i, j, rfl, rfl, rfl⟩ := hop x y z h
  cases r1
  cases r2
  exact ⟨i, j, rfl, rfl, go0 e k (.bl _)⟩
theorem rd_lt : R2D K (rI0 fun i j => .bl (decide (i < j))) dLt := rd_cmpI fun x y z h => by
  unfold dLt at h
  split at h
  · cases h; exact ⟨_, _, rfl, rfl, rfl⟩
  · cases h
theorem rd_le : R2D K (rI0 fun i j => .bl (decide (i ≤ j))) dLe := rd_cmpI fun x y z h => by
  unfold dLe at h
  split at h
  · cases h; exact ⟨_, _, rfl, rfl, rfl⟩
  · cases h
theorem rd_gt : R2D K (rI0 fun i j => .bl (decide (j < i))) dGt := rd_cmpI fun x y z h => by
  unfold dGt at h
  split at h
  · cases h; exact ⟨_, _, rfl, rfl, rfl⟩
  · cases h
theorem rd_ge : R2D K (rI0 fun i j => .bl (decide (j ≤ i))) dGe := rd_cmpI fun x y z h => by
  unfold dGe at h
  split at h
  · cases h; exact ⟨_, _, rfl, rfl, rfl⟩
  · cases h
/-- == -/
def rEq2 (K : PySem.W.Frag) : R2 := fun x y H Q => rEq x y H Q ∨ rEqD K x y H Q
def rNe2 (K : PySem.W.Frag) : R2 := fun x y H Q => rNe x y H Q ∨ rNeD K x y H Q
theorem op_eq2 {X : Cx} (hu : X.A.units + 64 < cLine) : OpR X (compareOp .Eq) (rEq2 X.K) := OpR.or op_eq (op_eqD hu)
theorem op_ne2 {X : Cx} (hu : X.A.units + 64 < cLine) : OpR X (compareOp .NotEq) (rNe2 X.K) := OpR.or op_ne (op_neD hu)
theorem eqD_cases {x y : PyData} {b : Bool} (h : eqD x y = some b) : (∃ i j, x = .int i ∧ y = .int j ∧ b = decide (i = j)) ∨ (∃ i j, x = .str i ∧ y = .str j ∧ b = decide (i = j)) ∨ (∃ i j, x = .bool i ∧ y = .bool j ∧ b = decide (i = j)) ∨
    (SeqAt.shaped x = true ∧ SeqAt.shaped y = true ∧ b = PyData.eqv x y) := by
  unfold eqD at h
  split at h
  · cases h; exact .inl ⟨_, _, rfl, rfl, rfl⟩
  · cases h; exact .inr (.inl ⟨_, _, rfl, rfl, rfl⟩)
  · cases h; exact .inr (.inr (.inl ⟨_, _, rfl, rfl, rfl⟩))
  · split at h
    · rename_i hs
      cases h
      exact .inr (.inr (.inr ⟨hs.1, hs.2, rfl⟩))
    · cases h
theorem dec_inj {α : Type} {a b : α} {f : α → V} [DecidableEq α] (hf : ∀ a b, f a = f b → a = b) : decide (f a = f b) = decide (a = b) := by
  by_cases h : a = b
  · rw [h]; simp
  · rw [decide_eq_false h, decide_eq_false fun e => h (hf _ _ e)]
theorem rd_eq : R2D K (rEq2 K) dEq := by
  intro S H v u x y z Q e r1 r2 h k
  obtain ⟨b, hb, rfl⟩ := Option.map_eq_some_iff.mp h
  rcases eqD_cases hb with ⟨i, j, rfl, rfl, rfl⟩ | ⟨i, j, rfl, rfl, rfl⟩ | ⟨i, j, rfl, rfl, rfl⟩ | ⟨s1, s2, rfl⟩
  · cases r1; cases r2
    refine .inl ⟨rfl, ?_⟩
    rw [dec_inj (f := V.int) fun a b q => V.int.inj q]
    exact go0 e k (.bl _)
  · cases r1; cases r2
    refine .inl ⟨rfl, ?_⟩
    rw [dec_inj (f := V.str) fun a b q => V.str.inj q]
    exact go0 e k (.bl _)
  · cases r1; cases r2
    refine .inl ⟨rfl, ?_⟩
    rw [dec_inj (f := V.bl) fun a b q => V.bl.inj q]
    exact go0 e k (.bl _)
  · exact .inr ⟨x, y, (r1.m e).dp, (r2.m e).dp, s1, s2, go0 e k (.bl _)⟩
theorem rd_ne : R2D K (rNe2 K) dNe := by
  intro S H v u x y z Q e r1 r2 h k
  obtain ⟨b, hb, rfl⟩ := Option.map_eq_some_iff.mp h
  rcases eqD_cases hb with ⟨i, j, rfl, rfl, rfl⟩ | ⟨i, j, rfl, rfl, rfl⟩ | ⟨i, j, rfl, rfl, rfl⟩ | ⟨s1, s2, rfl⟩
  · cases r1; cases r2
    refine .inl ⟨rfl, ?_⟩
    rw [dec_inj (f := V.int) fun a b q => V.int.inj q]
    exact go0 e k (.bl _)
  · cases r1; cases r2
    refine .inl ⟨rfl, ?_⟩
    rw [dec_inj (f := V.str) fun a b q => V.str.inj q]
    exact go0 e k (.bl _)
  · cases r1; cases r2
    refine .inl ⟨rfl, ?_⟩
    rw [dec_inj (f := V.bl) fun a b q => V.bl.inj q]
    exact go0 e k (.bl _)
  · exact .inr ⟨x, y, (r1.m e).dp, (r2.m e).dp, s1, s2, go0 e k (.bl _)⟩
theorem rd_isN : R2D K (fun x y H Q => y = .non ∧ Q (.bl (decide (x = .non))) H) dIsN := by
  intro S H v u x y z Q e r1 r2 h k
  cases r2 with
  | non =>
    cases h
    have e1 : decide (v = V.non) = isN x := by
      cases r1 <;> rfl
    refine ⟨rfl, ?_⟩
    rw [e1]
    exact go0 e k (.bl _)
  | _ => cases h
theorem rd_in (neg : Bool) : R2D K (rIn K neg) (inD neg) := by
  intro S H v u x y z Q e r1 r2 h k
  obtain ⟨ds, h1, h2⟩ := Option.bind_eq_some_iff.mp h
  obtain ⟨a, vs, rfl, hq, q⟩ := r2.items h1
  split at h2
  · rename_i hf
    cases h2
    refine ⟨a, vs, rfl, ?_, by rw [r1.flat]; exact hf.1, by rw [q.flat]; exact hf.2, ?_⟩
    · rcases hq with hq | hq
      · exact .inl (.inl (e.rd hq))
      · exact .inr (e.seqT hq)
    · rw [q.any r1]
      exact go0 e k (.bl _)
  · cases h2
theorem atI_pos {α : Type} {xs : List α} {i : Int} {x : α} (h : 0 ≤ i) (e : xs[i.toNat]? = some x) : atI xs i = some x := by
  have h2 := atI_nat e
  rw [Int.toNat_of_nonneg h] at h2
  exact h2
def rIx2 (K : PySem.W.Frag) : R2 := fun x y H Q => rIxT K x y H Q ∨ rIxL K x y H Q
theorem ix_two {X : Cx} : IxR X (rIx2 X.K) := ix_tup.or ix_list
theorem rd_ix : R2D K (rIx2 K) dIx := by
  intro S H v u x y z Q e r1 r2 h k
  obtain ⟨ds, h1, h2⟩ := Option.bind_eq_some_iff.mp h
  obtain ⟨a, vs, rfl, hq, q⟩ := r1.items h1
  cases r2 with
  | int i =>
    have h2 : (if 0 ≤ i then ds[i.toNat]? else none) = some z := h2
    split at h2
    · rename_i h0
      obtain ⟨w, h3, h4⟩ := q.get h2
      rcases hq with hq | hq
      · exact .inr ⟨a, vs, i, w, rfl, rfl, .inl (e.rd hq), atI_pos h0 h3, go0 e k h4⟩
      · exact .inl ⟨a, vs, i, w, rfl, rfl, e.seqT hq, atI_pos h0 h3, go0 e k h4⟩
    · cases h2
  | _ => cases h2
end

/-! ### sentences about readings -/
section
variable {K : PySem.W.Frag} {ta tb tc te : TE} {t u : TT} {f g h : FE} {fa fb : FT}
theorem bind2 {α β : Type} {a : Option α} {f : α → Option β} {b : β} (h : a.bind f = some b) : ∃ x, a = some x ∧ f x = some b := Option.bind_eq_some_iff.mp h
theorem map2 {α β : Type} {a : Option α} {f : α → β} {b : β} (h : a.map f = some b) : ∃ x, a = some x ∧ f x = b := Option.map_eq_some_iff.mp h
theorem se_c {v : V} {d : PyData} (hv : ∀ S, Rp K S v d) : SE K (tC v) (fC d) := by
  intro σ S H ρ d' ρ' Q rep e k
  cases e
  exact k v S H (Nx.refl rep) (hv S)
theorem se_v {i : Nat} : SE K (tVar i) (fV i) := by
  intro σ S H ρ d ρ' Q rep e k
  unfold fV at e
  split at e
  · rename_i x hx
    cases e
    obtain ⟨v, h1, h2⟩ := rep.val i _ hx
    exact ⟨v, h1, k v S H (Nx.refl rep) h2⟩
  · cases e
theorem se_bin {r : R2} {op : PyData → PyData → Option PyData} (hr : R2D K r op) (ha : SE K ta f) (hb : SE K tb g) : SE K (tOp r ta tb) (fBin op f g) := by
  intro σ S H ρ d ρ' Q rep e k
  obtain ⟨⟨x, ρ1⟩, e1, e2⟩ := bind2 e
  obtain ⟨⟨y, ρ2⟩, e3, e4⟩ := bind2 e2
  obtain ⟨z, e5, e6⟩ := map2 e4
  cases e6
  refine ha σ S H ρ x ρ1 _ rep e1 fun v S1 H1 n1 r1 => ?_
  refine hb σ S1 H1 ρ1 y ρ2 _ n1.rep e3 fun u S2 H2 n2 r2 => ?_
  refine hr S2 H2 v u x y _ _ n2.rep.sub (r1.m n2.stp.ex) r2 e5 fun w S3 H3 s3 r3 => ?_
  exact k w S3 H3 ((n1.trans n2).trans (Nx.step n2.rep s3)) r3
theorem asB_some {d : PyData} {b : Bool} (h : asB d = some b) : d = .bool b := by
  unfold asB at h
  split at h
  · cases h; rfl
  · cases h
theorem Rp.b {S : Hp} {v : V} {b : Bool} (h : Rp K S v (.bool b)) : v = .bl b := by cases h; rfl
theorem st_test (ha : SE K ta f) : ST K (tTest ta) (fTest f) := by
  intro σ S H ρ b ρ' Q rep e k
  obtain ⟨⟨x, ρ1⟩, e1, e2⟩ := bind2 e
  obtain ⟨c, e3, e4⟩ := map2 e2
  cases e4
  refine ha σ S H ρ x ρ1 _ rep e1 fun v S1 H1 n1 r1 => ?_
  rw [show x = _ from asB_some e3] at r1
  exact ⟨b, r1.b, k S1 H1 n1⟩
theorem st_B (ha : SE K ta f) : ST K (tB ta) (fTest f) := st_test ha
theorem st_and (ha : ST K t fa) (hb : ST K u fb) : ST K (tAnd t u) (fAndT fa fb) := by
  intro σ S H ρ b ρ' Q rep e k
  obtain ⟨⟨c, ρ1⟩, e1, e2⟩ := bind2 e
  refine ha σ S H ρ c ρ1 _ rep e1 fun S1 H1 n1 => ?_
  cases c with
  | true =>
    show u σ H1 Q
    exact hb σ S1 H1 ρ1 b ρ' Q n1.rep e2 fun S2 H2 n2 => k S2 H2 (n1.trans n2)
  | false =>
    cases e2
    exact k S1 H1 n1
theorem st_or (ha : ST K t fa) (hb : ST K u fb) : ST K (tOr t u) (fOrT fa fb) := by
  intro σ S H ρ b ρ' Q rep e k
  obtain ⟨⟨c, ρ1⟩, e1, e2⟩ := bind2 e
  refine ha σ S H ρ c ρ1 _ rep e1 fun S1 H1 n1 => ?_
  cases c with
  | false =>
    show u σ H1 Q
    exact hb σ S1 H1 ρ1 b ρ' Q n1.rep e2 fun S2 H2 n2 => k S2 H2 (n1.trans n2)
  | true =>
    cases e2
    exact k S1 H1 n1
theorem st_not (ha : ST K t fa) : ST K (tNot t) (fNotT fa) := by
  intro σ S H ρ b ρ' Q rep e k
  obtain ⟨⟨c, ρ1⟩, e1, e2⟩ := map2 e
  cases e2
  exact ha σ S H ρ c ρ1 _ rep e1 fun S1 H1 n1 => k S1 H1 n1
theorem se_and (ha : SE K ta f) (hb : SE K tb g) : SE K (tAndV ta tb) (fAndV f g) := by
  intro σ S H ρ d ρ' Q rep e k
  obtain ⟨⟨x, ρ1⟩, e1, e2⟩ := bind2 e
  obtain ⟨c, e3, e4⟩ := bind2 e2
  refine ha σ S H ρ x ρ1 _ rep e1 fun v S1 H1 n1 r1 => ?_
  rw [show x = _ from asB_some e3] at r1
  refine ⟨c, r1.b, ?_⟩
  cases c with
  | true =>
    show tb σ H1 Q
    exact hb σ S1 H1 ρ1 d ρ' Q n1.rep e4 fun v S2 H2 n2 r2 => k v S2 H2 (n1.trans n2) r2
  | false =>
    cases e4
    exact k _ S1 H1 n1 (.bl false)
theorem se_or (ha : SE K ta f) (hb : SE K tb g) : SE K (tOrV ta tb) (fOrV f g) := by
  intro σ S H ρ d ρ' Q rep e k
  obtain ⟨⟨x, ρ1⟩, e1, e2⟩ := bind2 e
  obtain ⟨c, e3, e4⟩ := bind2 e2
  refine ha σ S H ρ x ρ1 _ rep e1 fun v S1 H1 n1 r1 => ?_
  rw [show x = _ from asB_some e3] at r1
  refine ⟨c, r1.b, ?_⟩
  cases c with
  | false =>
    show tb σ H1 Q
    exact hb σ S1 H1 ρ1 d ρ' Q n1.rep e4 fun v S2 H2 n2 r2 => k v S2 H2 (n1.trans n2) r2
  | true =>
    cases e4
    exact k _ S1 H1 n1 (.bl true)
theorem se_not (ha : SE K ta f) : SE K (tNotV ta) (fNotV f) := by
  intro σ S H ρ d ρ' Q rep e k
  obtain ⟨⟨x, ρ1⟩, e1, e2⟩ := bind2 e
  obtain ⟨c, e3, e4⟩ := map2 e2
  cases e4
  refine ha σ S H ρ x ρ1 _ rep e1 fun v S1 H1 n1 r1 => ?_
  rw [show x = _ from asB_some e3] at r1
  exact ⟨c, r1.b, k _ S1 H1 n1 (.bl _)⟩
theorem se_chain {r r' : R2} {op op' : PyData → PyData → Option PyData} (hr : R2D K r op) (hr' : R2D K r' op') (ha : SE K ta f) (hb : SE K tb g) (hc : SE K tc h) : SE K (tChain r r' ta tb tc) (fChain op op' f g h) := by
  intro σ S H ρ d ρ' Q rep e k
  obtain ⟨⟨x, ρ1⟩, e1, e2⟩ := bind2 e
  obtain ⟨⟨y, ρ2⟩, e3, e4⟩ := bind2 e2
  obtain ⟨z, e5, e6⟩ := bind2 e4
  obtain ⟨c, e7, e8⟩ := bind2 e6
  refine ha σ S H ρ x ρ1 _ rep e1 fun v S1 H1 n1 r1 => ?_
  refine hb σ S1 H1 ρ1 y ρ2 _ n1.rep e3 fun u S2 H2 n2 r2 => ?_
  refine hr S2 H2 v u x y z _ n2.rep.sub (r1.m n2.stp.ex) r2 e5 fun w S3 H3 s3 r3 => ?_
  have n3 := (n1.trans n2).trans (Nx.step n2.rep s3)
  rw [show z = _ from asB_some e7] at r3
  refine ⟨c, r3.b, ?_⟩
  cases c with
  | false =>
    cases e8
    exact k _ S3 H3 n3 (.bl false)
  | true =>
    obtain ⟨⟨y2, ρ3⟩, e9, e10⟩ := bind2 e8
    obtain ⟨z2, e11, e12⟩ := map2 e10
    cases e12
    show tc σ H3 fun w' H4 => r' u w' H4 Q
    refine hc σ S3 H3 ρ2 y2 ρ3 _ n3.rep e9 fun w2 S4 H4 n4 r4 => ?_
    refine hr' S4 H4 u w2 y y2 _ _ n4.rep.sub (r2.m (s3.ex.trans n4.stp.ex)) r4 e11 fun w3 S5 H5 s5 r5 => ?_
    exact k w3 S5 H5 ((n3.trans n4).trans (Nx.step n4.rep s5)) r5
theorem sa_nil : SA K tNil aNil := by
  intro σ S H ρ ds ρ' Q rep e k
  cases e
  exact k [] S H (Nx.refl rep) .nil
theorem sa_cons {tr : TA} {ga : FA} (ha : SE K ta f) (hr : SA K tr ga) : SA K (tCons ta tr) (aCons f ga) := by
  intro σ S H ρ ds ρ' Q rep e k
  obtain ⟨⟨x, ρ1⟩, e1, e2⟩ := bind2 e
  obtain ⟨⟨xs, ρ2⟩, e3, e4⟩ := map2 e2
  cases e4
  refine ha σ S H ρ x ρ1 _ rep e1 fun v S1 H1 n1 r1 => ?_
  refine hr σ S1 H1 ρ1 xs _ _ n1.rep e3 fun vs S2 H2 n2 r2 => ?_
  exact k (v :: vs) S2 H2 (n1.trans n2) (.cons (r1.m n2.stp.ex) r2)
theorem se_tup {tr : TA} {ga : FA} (hr : SA K tr ga) : SE K (tTup tr) (fTup ga) := by
  intro σ S H ρ d ρ' Q rep e k
  obtain ⟨⟨xs, ρ1⟩, e1, e2⟩ := bind2 e
  split at e2
  · rename_i hl
    cases e2
    refine hr σ S H ρ xs _ _ rep e1 fun vs S1 H1 n1 r1 => ⟨sz1000 (by rw [r1.length]; exact hl), fun p hp => ?_⟩
    exact k _ _ _ (n1.trans (Nx.step n1.rep (Stp.laid n1.rep.sub hp))) (new_tup n1.rep.sub hp r1)
  · cases e2
theorem se_lst {tr : TA} {ga : FA} (hr : SA K tr ga) : SE K (tLst tr) (fLst ga) := by
  intro σ S H ρ d ρ' Q rep e k
  obtain ⟨⟨xs, ρ1⟩, e1, e2⟩ := bind2 e
  split at e2
  · rename_i hl
    cases e2
    refine hr σ S H ρ xs _ _ rep e1 fun vs S1 H1 n1 r1 => ⟨sz1000 (by rw [r1.length]; exact hl), fun p hp => ?_⟩
    exact k _ _ _ (n1.trans (Nx.step n1.rep (Stp.laid n1.rep.sub hp))) (new_lst n1.rep.sub hp r1)
  · cases e2
theorem sn_lst {tr : TA} {ga : FA} (hr : SA K tr ga) : SN K (tLst tr) (nLst ga) := by
  intro σ S H ρ ds ρ' Q rep e k
  obtain ⟨⟨xs, ρ1⟩, e1, e2⟩ := bind2 e
  split at e2
  · rename_i hl
    cases e2
    refine hr σ S H ρ _ _ _ rep e1 fun vs S1 H1 n1 r1 => ⟨sz1000 (by rw [r1.length]; exact hl), fun p hp => ?_⟩
    exact k p vs S1 _ (n1.trans (Nx.step n1.rep (Stp.hidden n1.rep.sub hp))) (n1.rep.notOwn hp) (n1.stp.there p hp) (n1.rep.sub.fr hp) upd_same r1
  · cases e2
theorem se_cb {r : List V → Hp → VK → Prop} {op : List PyData → Option PyData} {tr : TA} {ga : FA} (hr : RcD K r op) (ha : SA K tr ga) : SE K (tCB r tr) (fCB op ga) := by
  intro σ S H ρ d ρ' Q rep e k
  obtain ⟨⟨xs, ρ1⟩, e1, e2⟩ := bind2 e
  obtain ⟨z, e3, e4⟩ := map2 e2
  cases e4
  refine ha σ S H ρ xs _ _ rep e1 fun vs S1 H1 n1 r1 => ?_
  refine hr S1 H1 vs xs _ _ n1.rep.sub r1 e3 fun w S2 H2 s2 r2 => ?_
  exact k w S2 H2 (n1.trans (Nx.step n1.rep s2)) r2
theorem sn_cb {r : List V → Hp → VK → Prop} {op : List PyData → Option (List PyData)} {tr : TA} {ga : FA} (hr : RcN K r op) (ha : SA K tr ga) : SN K (tCB r tr) (nCB op ga) := by
  intro σ S H ρ d ρ' Q rep e k
  obtain ⟨⟨xs, ρ1⟩, e1, e2⟩ := bind2 e
  obtain ⟨z, e3, e4⟩ := map2 e2
  cases e4
  refine ha σ S H ρ xs _ _ rep e1 fun vs S1 H1 n1 r1 => ?_
  refine hr S1 H1 vs xs _ _ n1.rep.sub r1 e3 fun p ws S2 H2 s2 hp hS hH r2 => ?_
  exact k p ws S2 H2 (n1.trans (Nx.step n1.rep s2)) (n1.rep.notOwn hp) (n1.stp.there p hp) hS hH r2
end
end Md

set_option Elab.async false
set_option linter.all false
set_option maxRecDepth 100000
set_option maxHeartbeats 2000000
/-! Md: rules for expressions of the text. -/
namespace Md
open PySem PySem.Spec PyProof.Rows L2

/-! ### built-in calls by values -/
def dLen (ds : List PyData) : Option PyData := match ds with
  | [x] => (items x).map fun l => .int l.length
  | _ => none
def boolsOf : List PyData → Option (List Bool)
  | [] => some []
  | .bool b :: r => (boolsOf r).map fun bs => b :: bs
  | _ => none
def intsOf : List PyData → Option (List Int)
  | [] => some []
  | .int i :: r => (intsOf r).map fun is => i :: is
  | _ => none
theorem bools_eq : ∀ {ds : List PyData} {bs : List Bool}, boolsOf ds = some bs → ds = bs.map PyData.bool
  | [], bs, h => by cases h; rfl
  | .bool b :: r, bs, h => by
    obtain ⟨x, h1, h2⟩ := map2 (show (boolsOf r).map (fun bs => b :: bs) = some bs from h)
    rw [← h2, bools_eq h1]; rfl
  | .none :: _, _, h => by cases h
  | .int _ :: _, _, h => by cases h
  | .str _ :: _, _, h => by cases h
  | .list _ :: _, _, h => by cases h
  | .tuple _ :: _, _, h => by cases h
  | .dict _ :: _, _, h => by cases h
theorem ints_eq : ∀ {ds : List PyData} {is : List Int}, intsOf ds = some is → ds = is.map PyData.int
  | [], bs, h => by cases h; rfl
  | .int b :: r, bs, h => by
    obtain ⟨x, h1, h2⟩ := map2 (show (intsOf r).map (fun bs => b :: bs) = some bs from h)
    rw [← h2, ints_eq h1]; rfl
  | .none :: _, _, h => by cases h
  | .bool _ :: _, _, h => by cases h
  | .str _ :: _, _, h => by cases h
  | .list _ :: _, _, h => by cases h
  | .tuple _ :: _, _, h => by cases h
  | .dict _ :: _, _, h => by cases h
theorem bools_map (bs : List Bool) : boolsOf (bs.map PyData.bool) = some bs := by
  induction bs with
  | nil => rfl
  | cons b bs ih => show (boolsOf (bs.map PyData.bool)).map _ = _; rw [ih]; rfl
theorem ints_map (is : List Int) : intsOf (is.map PyData.int) = some is := by
  induction is with
  | nil => rfl
  | cons b bs ih => show (intsOf (bs.map PyData.int)).map _ = _; rw [ih]; rfl
def dAll (ds : List PyData) : Option PyData := match ds with
  | [.list l] => (boolsOf l).map fun bs => .bool (bs.all id)
  | _ => none
def dAny (ds : List PyData) : Option PyData := match ds with
  | [.list l] => (boolsOf l).map fun bs => .bool (bs.any id)
  | _ => none
def dSum (ds : List PyData) : Option PyData := match ds with
  | [.list l] => (intsOf l).map fun is => .int is.sum
  | _ => none
def dInt (ds : List PyData) : Option PyData := match ds with
  | [.int i] => some (.int i)
  | [.bool b] => some (.int (if b then 1 else 0))
  | _ => none
def dTuple (ds : List PyData) : Option PyData := match ds with
  | [x] => (items x).map fun l => .tuple l
  | _ => none
def dList (ds : List PyData) : Option (List PyData) := match ds with
  | [x] => items x
  | _ => none
def dMax (ds : List PyData) : Option PyData := match ds with
  | [.int i, .int j] => some (.int (if j > i then j else i))
  | _ => none
def dMin (ds : List PyData) : Option PyData := match ds with
  | [.int i, .int j] => some (.int (if j < i then j else i))
  | _ => none
section
variable {K : PySem.W.Frag}
theorem rc_len : RcD K (fun xs H Q => ∃ p ys, xs = [.ref p] ∧ (SqL K H p ys ∨ SqT K H p ys) ∧ Q (.int ys.length) H) dLen := by
  intro S H vs ds z Q e r h k
  unfold dLen at h
  split at h
  · rename_i x
    cases r with
    | cons r q =>
      cases q
      obtain ⟨l, h1, h2⟩ := map2 h
      cases h2
      obtain ⟨a, ws, rfl, hq, hl⟩ := r.items h1
      refine ⟨a, ws, rfl, ?_, ?_⟩
      · rcases hq with hq | hq
        · exact .inl (.inl (e.rd hq))
        · exact .inr (e.seqT hq)
      · rw [hl.length]
        exact go0 e k (.int _)
  · cases h
theorem one_list {S : Hp} {vs : List V} {l : List PyData} (r : RpL K S vs [.list l]) : ∃ a ws, vs = [.ref a] ∧ Rd S a (.lst ws) ∧ RpL K S ws l := by
  cases r with
  | cons r q =>
    cases q
    cases r with
    | lst h1 h2 => exact ⟨_, _, rfl, h1, h2⟩
theorem rc_all : RcD K (rAll K) dAll := by
  intro S H vs ds z Q e r h k
  unfold dAll at h
  split at h
  · rename_i l
    obtain ⟨bs, h1, h2⟩ := map2 h
    cases h2
    obtain ⟨a, ws, rfl, hq, hl⟩ := one_list r
    rw [bools_eq h1] at hl
    exact ⟨a, bs, rfl, .inl (by rw [← hl.bools]; exact e.rd hq), go0 e k (.bl _)⟩
  · cases h
theorem rc_any : RcD K (rAny K) dAny := by
  intro S H vs ds z Q e r h k
  unfold dAny at h
  split at h
  · rename_i l
    obtain ⟨bs, h1, h2⟩ := map2 h
    cases h2
    obtain ⟨a, ws, rfl, hq, hl⟩ := one_list r
    rw [bools_eq h1] at hl
    exact ⟨a, bs, rfl, .inl (by rw [← hl.bools]; exact e.rd hq), go0 e k (.bl _)⟩
  · cases h
theorem rc_sum : RcD K (rSum K) dSum := by
  intro S H vs ds z Q e r h k
  unfold dSum at h
  split at h
  · rename_i l
    obtain ⟨bs, h1, h2⟩ := map2 h
    cases h2
    obtain ⟨a, ws, rfl, hq, hl⟩ := one_list r
    rw [ints_eq h1] at hl
    exact ⟨a, bs, rfl, .inl (by rw [← hl.ints]; exact e.rd hq), go0 e k (.int _)⟩
  · cases h
theorem rc_int : RcD K (fun xs H Q => (∃ i, xs = [.int i] ∧ Q (.int i) H) ∨ ∃ k, xs = [.bl k] ∧ Q (.int (if k then 1 else 0)) H) dInt := by
  intro S H vs ds z Q e r h k
  unfold dInt at h
  split at h
  · cases h
    cases r with
    | cons r q => cases q; cases r; exact .inl ⟨_, rfl, go0 e k (.int _)⟩
  · cases h
    cases r with
    | cons r q => cases q; cases r; exact .inr ⟨_, rfl, go0 e k (.int _)⟩
  · cases h
theorem rc_tuple : RcD K (fun xs H Q => ∃ p ys, xs = [.ref p] ∧ ((SqL K H p ys ∧ ∀ l, H l = none → Q (.ref l) (upd H l (.tup ys))) ∨ (SqT K H p ys ∧ Q (.ref p) H))) dTuple := by
  intro S H vs ds z Q e r h k
  unfold dTuple at h
  split at h
  · rename_i x
    cases r with
    | cons r q =>
      cases q
      obtain ⟨l, h1, h2⟩ := map2 h
      cases h2
      obtain ⟨a, ws, rfl, hq, hl⟩ := r.items h1
      refine ⟨a, ws, rfl, ?_⟩
      rcases hq with hq | hq
      · exact .inl ⟨.inl (e.rd hq), fun p hp => k _ _ _ (Stp.laid e hp) (new_tup e hp hl)⟩
      · exact .inr ⟨e.seqT hq, go0 e k (.tup hq hl)⟩
  · cases h
theorem rn_list : RcN K (fun xs H Q => ∃ p ys, xs = [.ref p] ∧ (SqL K H p ys ∨ SqT K H p ys) ∧ ∀ l, H l = none → Q (.ref l) (upd H l (.lst ys))) dList := by
  intro S H vs ds z Q e r h k
  unfold dList at h
  split at h
  · rename_i x
    cases r with
    | cons r q =>
      cases q
      obtain ⟨a, ws, rfl, hq, hl⟩ := r.items h
      refine ⟨a, ws, rfl, ?_, fun p hp => k p ws S _ (Stp.hidden e hp) hp (e.fr hp) upd_same hl⟩
      rcases hq with hq | hq
      · exact .inl (.inl (e.rd hq))
      · exact .inr (e.seqT hq)
  · cases h
theorem rc_max : RcD K (fun xs H Q => ∃ i j, xs = [.int i, .int j] ∧ Q (.int (if j > i then j else i)) H) dMax := by
  intro S H vs ds z Q e r h k
  unfold dMax at h
  split at h
  · cases h
    cases r with
    | cons r q =>
      cases r
      cases q with
      | cons r q => cases r; cases q; exact ⟨_, _, rfl, go0 e k (.int _)⟩
  · cases h
theorem rc_min : RcD K (fun xs H Q => ∃ i j, xs = [.int i, .int j] ∧ Q (.int (if j < i then j else i)) H) dMin := by
  intro S H vs ds z Q e r h k
  unfold dMin at h
  split at h
  · cases h
    cases r with
    | cons r q =>
      cases r
      cases q with
      | cons r q => cases r; cases q; exact ⟨_, _, rfl, go0 e k (.int _)⟩
  · cases h
end

/-! ### slices -/
def cutD (xs : List PyData) (lo hi : Option Int) : List PyData := (xs.drop (HT.sIx xs.length 0 lo)).take (HT.sIx xs.length xs.length hi - HT.sIx xs.length 0 lo)
abbrev FO := En → Option (Option Int × En)
def oNone : FO := fun ρ => some (none, ρ)
def oSome (f : FE) : FO := fun ρ => (f ρ).bind fun p => match p.1 with
  | .int i => some (some i, p.2)
  | _ => none
def dSl (x : PyData) (lo hi : Option Int) : Option PyData := match x with
  | .tuple ds => some (.tuple (cutD ds lo hi))
  | .list ds => some (.list (cutD ds lo hi))
  | _ => none
def fSl (f : FE) (lo hi : FO) : FE := fun ρ => (f ρ).bind fun p => (lo p.2).bind fun q => (hi q.2).bind fun r => (dSl p.1 q.1 r.1).map fun z => (z, r.2)
def rSl2 (K : PySem.W.Frag) : V → Option Int → Option Int → Hp → VK → Prop := fun x lo hi H Q => rSlA K x lo hi H Q ∨ rSlL K x lo hi H Q
theorem sl_two {X : Cx} : SlR X (rSl2 X.K) := sl_tupA.or sl_list
def SO (K : PySem.W.Frag) (t : L2.TO) (o : FO) : Prop := ∀ σ S H ρ i ρ' Q, Rep K σ S H ρ → o ρ = some (i, ρ') → (∀ S' H', Nx K σ ρ S H σ ρ' S' H' → Q i H') → t σ H Q
section
variable {K : PySem.W.Frag}
theorem RpL.cut {S : Hp} {vs : List V} {ds : List PyData} (h : RpL K S vs ds) (lo hi : Option Int) : RpL K S (cutV vs lo hi) (cutD ds lo hi) := by
  unfold cutV cutD
  rw [h.length]
  exact (h.drop _).take _
theorem cut_whole {ds : List PyData} {lo hi : Option Int} (h : HT.sIx ds.length 0 lo = 0 ∧ HT.sIx ds.length ds.length hi = ds.length) : cutD ds lo hi = ds := by
  unfold cutD
  rw [h.1, h.2]
  simp
theorem so_none : SO K tNoPart oNone := by
  intro σ S H ρ i ρ' Q rep e k
  cases e
  exact k S H (Nx.refl rep)
theorem so_some {te : TE} {f : FE} (h : SE K te f) : SO K (tPart te) (oSome f) := by
  intro σ S H ρ i ρ' Q rep e k
  obtain ⟨⟨x, ρ1⟩, e1, e2⟩ := bind2 e
  refine h σ S H ρ x ρ1 _ rep e1 fun v S1 H1 n1 r1 => ?_
  cases r1 with
  | int j =>
    cases e2
    exact ⟨j, rfl, k S1 H1 n1⟩
  | _ => cases e2
theorem se_sl {te : TE} {tl th : L2.TO} {f : FE} {lo hi : FO} (h : SE K te f) (hl : SO K tl lo) (hh : SO K th hi) : SE K (tSl (rSl2 K) te tl th) (fSl f lo hi) := by
  intro σ S H ρ d ρ' Q rep e k
  obtain ⟨⟨x, ρ1⟩, e1, e2⟩ := bind2 e
  obtain ⟨⟨i, ρ2⟩, e3, e4⟩ := bind2 e2
  obtain ⟨⟨j, ρ3⟩, e5, e6⟩ := bind2 e4
  obtain ⟨z, e7, e8⟩ := map2 e6
  cases e8
  refine h σ S H ρ x ρ1 _ rep e1 fun v S1 H1 n1 r1 => ?_
  refine hl σ S1 H1 ρ1 i ρ2 _ n1.rep e3 fun S2 H2 n2 => ?_
  refine hh σ S2 H2 ρ2 j _ _ n2.rep e5 fun S3 H3 n3 => ?_
  have r3 := r1.m (n2.stp.ex.trans n3.stp.ex)
  have n := (n1.trans n2).trans n3
  have le := n3.rep.sub
  have e7 : dSl x i j = some d := e7
  cases r3 with
  | @tup a vs ds ha hq =>
    cases e7
    refine .inl ⟨a, vs, rfl, le.seqT ha, fun hw => ?_, fun hw p hp => ?_⟩
    · rw [hq.length] at hw
      refine k _ S3 H3 n ?_
      rw [cut_whole hw]
      exact .tup ha hq
    · exact k _ _ _ (n.trans (Nx.step n3.rep (Stp.laid le hp))) (new_tup le hp (hq.cut i j))
  | @lst a vs ds ha hq =>
    cases e7
    exact .inr ⟨a, vs, rfl, .inl (le.rd ha), fun p hp => k _ _ _ (n.trans (Nx.step n3.rep (Stp.laid le hp))) (new_lst le hp (hq.cut i j))⟩
  | _ => cases e7
end

/-! ### isinstance -/
def tyD : PyData → String
  | .none => "NoneType"
  | .bool _ => "bool"
  | .int _ => "int"
  | .str _ => "str"
  | .list _ => "list"
  | .tuple _ => "tuple"
  | .dict _ => "dict"
/-- T: int, bool, str or tuple -/
def isiD (T : String) (d : PyData) : Bool := match d with
  | .bool _ => T == "bool" || T == "int"
  | d => T == tyD d
def fIsi (T : String) (f : FE) : FE := fUn (fun d => some (.bool (isiD T d))) f
theorem kit_tab {K : PySem.W.Frag} {T : String} (hT : T = "int" ∨ T = "bool" ∨ T = "str" ∨ T = "tuple") (d : PyData) (hd : ∀ l, d ≠ .dict l) : PySem.W.kitOne K (.type (tyD d)) (.type T) = some (isiD T d) := by
  rcases hT with rfl | rfl | rfl | rfl <;> cases d <;> first
    | exact absurd rfl (hd _)
    | exact kit_ty (by dsimp only [tyD, isiD]; decide +kernel)
section
variable {K : PySem.W.Frag}
theorem Rp.ty {S : Hp} {v : V} {d : PyData} (h : Rp K S v d) : TyX K S v (.type (tyD d)) := by
  cases h with
  | non => exact .base .non
  | bl b => exact .base (.bl b)
  | int i => exact .base (.int i)
  | str x => exact .base (.str x)
  | lst r q =>
    rcases r with r | ⟨o, r⟩
    · exact .base (.lst r)
    · exact .base (.frz r)
  | tup r q =>
    rcases r with (r | ⟨o, r⟩) | ⟨o, its, n, h1, h2, _⟩
    · exact .base (.tup r)
    · exact .fTuple r
    · exact .kTuple h1 h2
theorem Rp.nodict {S : Hp} {v : V} {d : PyData} (h : Rp K S v d) : ∀ l, d ≠ .dict l := fun l e => by
  subst e; cases h
theorem se_isi {te : TE} {f : FE} {T : String} (hT : T = "int" ∨ T = "bool" ∨ T = "str" ∨ T = "tuple") (h : SE K te f) : SE K (tCB (rIsi K) (tCons te (tCons (tC (.ty T)) tNil))) (fIsi T f) := by
  intro σ S H ρ d ρ' Q rep e k
  obtain ⟨⟨x, ρ1⟩, e1, e2⟩ := bind2 e
  obtain ⟨z, e3, e4⟩ := map2 e2
  cases e4
  cases e3
  refine h σ S H ρ x _ _ rep e1 fun v S1 H1 n1 r1 => ?_
  exact ⟨v, .ty T, _, .type T, _, rfl, .ty T, (r1.m n1.rep.sub).ty, kit_tab hT x r1.nodict, k _ S1 H1 n1 (.bl _)⟩
end

/-! ### list(range(..)) -/
def rngD (a b : Int) : List PyData := (List.range (b - a).toNat).map fun i => .int (a + (i : Nat))
def fLR1 (f : FE) : FE := fUn (fun d => match d with
  | .int n => if 0 ≤ n ∧ n ≤ 1000 then some (.list (rngD 0 n)) else none
  | _ => none) f
def fLR2 (f g : FE) : FE := fBin (fun x y => match x, y with
  | .int a, .int b => if 0 ≤ a ∧ a ≤ 1000 ∧ 0 ≤ b ∧ b ≤ 1000 then some (.list (rngD a b)) else none
  | _, _ => none) f g
section
variable {K : PySem.W.Frag}
theorem rg_rel {S : Hp} (a b : Int) : RpL K S (rgV a b) (rngD a b) := by
  unfold rgV rngD
  have : ∀ l : List Nat, RpL K S (l.map fun i => V.int (a + (i : Nat))) (l.map fun i => PyData.int (a + (i : Nat))) := fun l => by
    induction l with
    | nil => exact .nil
    | cons i l ih => exact .cons (.int _) ih
  exact this _
theorem se_lr1 {ta : TE} {f : FE} (h : SE K ta f) : SE K (tLstRg (tRg1 ta)) (fLR1 f) := by
  intro σ S H ρ d ρ' Q rep e k
  obtain ⟨⟨x, ρ1⟩, e1, e2⟩ := bind2 e
  obtain ⟨z, e3, e4⟩ := map2 e2
  cases e4
  refine h σ S H ρ x _ _ rep e1 fun v S1 H1 n1 r1 => ?_
  cases r1 with
  | int n =>
    have e3 : (if 0 ≤ n ∧ n ≤ 1000 then some (PyData.list (rngD 0 n)) else none) = some d := e3
    split at e3
    · rename_i hn
      cases e3
      exact ⟨n, rfl, RgOk.of_le (by omega) (by omega) (by omega) (by omega), fun p hp => k _ _ _ (n1.trans (Nx.step n1.rep (Stp.laid n1.rep.sub hp))) (new_lst n1.rep.sub hp (rg_rel 0 n))⟩
    · cases e3
  | _ => cases e3
theorem se_lr2 {ta tb : TE} {f g : FE} (h : SE K ta f) (h' : SE K tb g) : SE K (tLstRg (tRg2 ta tb)) (fLR2 f g) := by
  intro σ S H ρ d ρ' Q rep e k
  obtain ⟨⟨x, ρ1⟩, e1, e2⟩ := bind2 e
  obtain ⟨⟨y, ρ2⟩, e3, e4⟩ := bind2 e2
  obtain ⟨z, e5, e6⟩ := map2 e4
  cases e6
  refine h σ S H ρ x ρ1 _ rep e1 fun v S1 H1 n1 r1 => ?_
  refine h' σ S1 H1 ρ1 y _ _ n1.rep e3 fun u S2 H2 n2 r2 => ?_
  cases r1 with
  | int a =>
    cases r2 with
    | int b =>
      have e5 : (if 0 ≤ a ∧ a ≤ 1000 ∧ 0 ≤ b ∧ b ≤ 1000 then some (PyData.list (rngD a b)) else none) = some d := e5
      split at e5
      · rename_i hn
        cases e5
        exact ⟨a, b, rfl, rfl, RgOk.of_le (by omega) (by omega) (by omega) (by omega), fun p hp => k _ _ _ ((n1.trans n2).trans (Nx.step n2.rep (Stp.laid n2.rep.sub hp))) (new_lst n2.rep.sub hp (rg_rel a b))⟩
      · cases e5
    | _ => cases e5
  | _ => cases e5
/-- a written list, times an int -/
def fRepL (ga : FA) (g : FE) : FE := fun ρ => (ga ρ).bind fun p => (g p.2).bind fun q => match q.1 with
  | .int k => if 0 ≤ k ∧ k ≤ 1000 ∧ p.1.length ≤ 1000 then some (.list (List.replicate k.toNat p.1).flatten, q.2) else none
  | _ => none
theorem se_repL {ta tb : TE} {ga : FA} {g : FE} (h : SN K ta ga) (h' : SE K tb g) : SE K (tOp rRep ta tb) (fRepL ga g) := by
  intro σ S H ρ d ρ' Q rep e k
  obtain ⟨⟨xs, ρ1⟩, e1, e2⟩ := bind2 e
  obtain ⟨⟨y, ρ2⟩, e3, e4⟩ := bind2 e2
  refine h σ S H ρ xs ρ1 _ rep e1 fun p vs S1 H1 n1 hO hp hS hH r1 => ?_
  refine h' σ S1 H1 ρ1 y ρ2 _ n1.rep e3 fun u S2 H2 n2 r2 => ?_
  cases r2 with
  | int j =>
    have e4 : (if 0 ≤ j ∧ j ≤ 1000 ∧ xs.length ≤ 1000 then some (PyData.list (List.replicate j.toNat xs).flatten, ρ2) else none) = some (d, ρ') := e4
    split at e4
    · rename_i hj
      cases e4
      have hk : H2 p = some (.lst vs) := n2.stp.keep _ _ hH hO
      have hl : vs.length * j.toNat ≤ sizeLine := by
        rw [r1.length, sizeLine_eq]
        have : xs.length * j.toNat ≤ 1000 * 1000 := Nat.mul_le_mul hj.2.2 (by omega)
        omega
      refine ⟨p, j, vs, rfl, rfl, hk, by omega, by omega, hl, fun q hq => ?_⟩
      exact k _ _ _ ((n1.trans n2).trans (Nx.step n2.rep (Stp.laid n2.rep.sub hq))) (new_lst n2.rep.sub hq ((r1.m n2.stp.ex).rep _))
    · cases e4
  | _ => cases e4
end
end Md

set_option Elab.async false
set_option linter.all false
set_option maxRecDepth 100000
set_option maxHeartbeats 4000000
/-! Md: sorted(set(l)), l a list of two ints. -/
namespace Md
open PySem PySem.Spec PyProof.Rows L2

/-- the set that set(..) begins with -/
abbrev bareSet (w : World) : Obj := { cls := .type "set", dict := none, data := .set #[] 0 (.fresh 0 0 (!w.params.followText "set-order")) }
section
variable {P : Program} {w : World} {A : Around} {E : Value → Shared → Prop} {s : Shared}
/-- what set(l) leaves: the members of l -/
def Filled (w : World) (s : Shared) (ns : List Int) (s2 : Shared) : Prop := ∃ h' tk c, s2 = { s with heap := h', toks := tk } ∧ SetR w h' s.heap.objs.size (fun j => decide (j ∈ ns)) c ∧ c ≤ ns.length ∧ ∀ b o, s.heap.get? b = some o → h'.get? b = some o
/-- its filling, once the bare set stands -/
theorem fill_set {l : Addr} {items : Array Value} {ns : List Int} (hh : A.handled = none) (hl : s.heap.IsList l items) (hi : IntsAre items.toList ns) (hb : ns.length + 1 < scanBound) :
    codeAny (model P w) A.in1 (.call (.builtin "set.__init__") ⟨[.ref s.heap.objs.size, .ref l], []⟩) (wants (fun r s2 => r = .none ∧ Filled w s ns s2) E) { s with heap := s.heap.push (bareSet w) } := by
  have sz : items.size = ns.length := by rw [← Array.length_toList]; exact IntsAre.length hi
  have here : (s.heap.push (bareSet w)).get? s.heap.objs.size = some (bareSet w) := Heap.get?_push_size _ rfl
  have hT : Shared.TypeIs { s with heap := s.heap.push (bareSet w) } (.ref s.heap.objs.size) "set" := ⟨_, here, rfl⟩
  refine codeAny_call_builtin F.called_set.init.plain F.entry_set_init (check_set_init_1 hT ?_)
  obtain ⟨⟨oc, od, odt, osl⟩, hol, hcl, nl, hdl⟩ := id hl
  simp only at hcl hdl
  subst hcl hdl
  have lt : l < s.heap.objs.size := Heap.lt_size hol
  have hol1 : (s.heap.push (bareSet w)).get? l = some { cls := .type "list", dict := od, data := .seq items nl, slots := osl } := Heap.get?_push_of_some _ hol
  have ll : (s.heap.push (bareSet w)).IsList l items := ⟨_, hol1, rfl, nl, rfl⟩
  have n1 := F.sub_list_set
  have n2 := F.sub_list_frozenset
  have n3 : (Value.type "list" == Value.type "dict") = false := by decide
  unfold Builtin.«set.__init__» noKeywords Builtin.Frozenset.updateFrom
  generalize hPI : pyIter = PI
  wp_walk
  subst hPI
  refine wpAny_pyIter_list ll (wpAny_bind (wpAny_runValue ?_))
  have z : (s.heap.push (bareSet w)).objs.size = s.heap.objs.size + 1 := Heap.size_push ..
  have h3 : A.in1.in1.in1.handled = none := by simp [hh]
  have ne : l ≠ (s.heap.push (bareSet w)).objs.size := by rw [z]; exact Nat.ne_of_lt (Nat.lt_succ_of_lt lt)
  have out : s.heap.objs.size ∉ [(s.heap.push (bareSet w)).objs.size, l] := fun hm => by
    rw [z] at hm
    rcases List.mem_cons.mp hm with q | q
    · exact absurd q (Nat.ne_of_lt (Nat.lt_succ_self _))
    · exact absurd (List.mem_singleton.mp q) (Nat.ne_of_gt lt)
  have val : ∀ (i : Nat) (v : Value), items[i]? = some v → ∃ k t, ns[i]? = some k ∧ v = .int k t := fun i v hv => by
    have lt2 : i < ns.length := by rw [← sz]; exact (Array.getElem?_eq_some_iff.mp hv).1
    obtain ⟨t, e⟩ := IntsAre.int_at hi i v (by rw [Array.getElem?_toList]; exact hv)
    refine ⟨ns[i], t, List.getElem?_eq_getElem lt2, ?_⟩
    rw [e, List.getD_eq_getElem?_getD, List.getElem?_eq_getElem lt2] <;> rfl
  refine set_update_ints ((Walks.list h3 _ l ne items).toS) s.heap.objs.size out ns sz hb val (items.size - 0) 0 _ (by omega) (Nat.zero_le _)
    ⟨⟨_, Heap.get?_push_size _ rfl, rfl, rfl⟩, ll.push _⟩ ⟨0, Nat.le_refl 0, setR_new_at (Heap.get?_push_of_some _ here)⟩ ?_
  intro s2 c mv hc hR
  obtain ⟨h2, g2, d2, t2, o2⟩ := s2
  obtain rfl : g2 = s.gens := mv.gens
  obtain rfl : d2 = s.drawn := mv.drawn
  obtain rfl : o2 = s.os := mv.os
  show wpAny _ _ _ _ _ _
  refine wpAny_pure ?_
  show wpAny _ _ (ret Value.none) _ _ _
  rw [sz] at hc
  refine wpAny_pure ⟨rfl, h2, t2, c, rfl, hR, hc, fun b o e => mv.heap b o (fun hm => ?_) (Heap.get?_push_of_some _ (Heap.get?_push_of_some _ e))⟩
  have lb : b < s.heap.objs.size := Heap.lt_size e
  rcases List.mem_cons.mp hm with q | q
  · exact absurd q (Nat.ne_of_lt lb)
  · exact absurd (List.mem_singleton.mp q) (by rw [z]; exact Nat.ne_of_lt (Nat.lt_succ_of_lt lb))
theorem call_set_of {l : Addr} {items : Array Value} {ns : List Int} {Q : Value → Shared → Prop} (hh : A.handled = none) (hl : s.heap.IsList l items) (hi : IntsAre items.toList ns) (hb : ns.length + 1 < scanBound)
    (h : ∀ s2, Filled w s ns s2 → Q (.ref s.heap.objs.size) s2) : wpAny (model P w) A (call (.type "set") [.ref l]) Q E s := by
  obtain ⟨c, tl, hmro⟩ := F.called_set.mro
  have hmade := F.called_set.made
  have hsub := F.called_set.sub
  refine wpAny_call (codeAny_of_tree ?_)
  show wpAny _ _ (callAny (.type "set") _) _ _ _
  refine wpAny_pure ⟨Code.quiet_builtin _ (by decide +kernel), codeAny_builtin F.entry_type_call ?_⟩
  rw [Around.under_plain (weight_type_call_type "set" [.ref l] []) rfl]
  have h1 := F.called_set.notType
  have h2 := F.called_set.canCreate
  have hct := F.typeCall_set_1 (.ref l)
  repeat (any_goals (first | assumption | wp_step))
  refine codeAny_mono (code_set_led1 (.ref l) (E := E) (Q₁ := fun obj s1 => obj = .ref s.heap.objs.size ∧ s1 = { s with heap := s.heap.push (bareSet w) }) ⟨rfl, rfl⟩) fun r s1 hr => ?_
  cases r with
  | error e => exact hr
  | ok fl =>
    cases fl with
    | ret obj =>
      obtain ⟨rfl, rfl⟩ := hr
      have here : (s.heap.push (bareSet w)).get? s.heap.objs.size = some (bareSet w) := Heap.get?_push_size _ rfl
      have hT : Shared.TypeIs { s with heap := s.heap.push (bareSet w) } (.ref s.heap.objs.size) "set" := ⟨_, here, rfl⟩
      have hli := F.called_set.init.lookup
      have hbi := F.called_set.init.bind (.ref s.heap.objs.size)
      repeat (any_goals (first | assumption | wp_step))
      refine codeAny_mono (fill_set (E := E) hh hl hi hb) fun r2 s2 hr2 => ?_
      cases r2 with
      | error e => exact hr2
      | ok fl2 =>
        cases fl2 with
        | ret r =>
          obtain ⟨rfl, hF⟩ := hr2
          repeat (any_goals (first | assumption | wp_step))
          exact h _ hF
        | _ => exact hr2.elim
    | _ => exact hr.elim
end
/-! ### the rules -/
def rSetL (K : PySem.W.Frag) (w : World) : List V → Hp → VK → Prop := fun vs H Q => ∃ (l : Addr) (ns : List Int), vs = [V.ref l] ∧ Rd H l (.lst (ns.map V.int)) ∧ ns.length ≤ 50 ∧
  ∀ (p : Addr) (c : Nat), c ≤ ns.length → H p = none → Q (.ref p) (upd H p (SetO w p (fun j => decide (j ∈ ns)) c))
theorem cr_setL {X : Cx} (hc : X.calm = true) : CallR X (.type "set") (Md.rSetL X.K X.w) := by
  intro pins s σ H vs us Q I r h
  obtain ⟨l, ns, rfl, hl, hn, q⟩ := h
  rw [Vals.ref1 r]
  obtain ⟨its, rv, pl, _⟩ := I.list (.inl hl)
  refine call_set_of (I.ok.hd hc) pl.isList (ns := ns) (by simpa using rv.ints) (by unfold scanBound; omega) fun s2 hF => ?_
  obtain ⟨h', tk, c, rfl, hR, hcn, kp⟩ := hF
  exact ⟨.ref s.heap.objs.size, _, I.laid (t' := tk) kp (Nat.le_refl _) (setO_new hR), rfl, q _ c hcn I.fresh⟩
/-- two ints, rising, each once -/
def sort2 (a b : Int) : List Int := if a = b then [a] else if a < b then [a, b] else [b, a]
def fSS (f : FE) : FE := fUn (fun d => match d with
  | .list [.int a, .int b] => some (.list ((sort2 a b).map PyData.int))
  | _ => none) f
theorem sort2_of {a b : Int} {ns : List Int} (h : ns.Pairwise (· < ·)) (m : ∀ k : Int, k ∈ ns ↔ decide (k ∈ [a, b]) = true) : ns = sort2 a b := by
  have m2 : ∀ k : Int, k ∈ ns ↔ k = a ∨ k = b := fun k => by rw [m k]; simp
  unfold sort2
  match ns, h, m2 with
  | [], _, m2 => exact absurd ((m2 a).mpr (.inl rfl)) (by simp)
  | [x], _, m2 =>
    have ha := (m2 a).mpr (.inl rfl)
    have hb := (m2 b).mpr (.inr rfl)
    simp at ha hb
    subst ha hb
    simp
  | [x, y], h, m2 =>
    have ha := (m2 a).mpr (.inl rfl)
    have hb := (m2 b).mpr (.inr rfl)
    have hx := (m2 x).mp (by simp)
    have hy := (m2 y).mp (by simp)
    have lt : x < y := by simpa using h
    have ne : a ≠ b := fun e => by
      subst e
      rcases hx with rfl | rfl <;> rcases hy with rfl | rfl <;> omega
    rw [if_neg ne]
    rcases hx with rfl | rfl <;> rcases hy with rfl | rfl
    · omega
    · rw [if_pos lt]
    · rw [if_neg (by omega)]
    · omega
  | x :: y :: z :: r, h, m2 =>
    have hx := (m2 x).mp (by simp)
    have hy := (m2 y).mp (by simp)
    have hz := (m2 z).mp (by simp)
    have l1 : x < y := (List.pairwise_cons.mp h).1 y (by simp)
    have l2 : y < z := (List.pairwise_cons.mp (List.pairwise_cons.mp h).2).1 z (by simp)
    rcases hx with rfl | rfl <;> rcases hy with rfl | rfl <;> rcases hz with rfl | rfl <;> omega
theorem se_ss {K : PySem.W.Frag} {w : World} {te : TE} {f : FE} (h : SE K te f) : SE K (tCB (rSortedSet w) (tCons (tCB (Md.rSetL K w) (tCons te tNil)) tNil)) (fSS f) := by
  intro σ S H ρ d ρ' Q rep e k
  obtain ⟨⟨x, ρ1⟩, e1, e2⟩ := bind2 e
  obtain ⟨z, e3, e4⟩ := map2 e2
  cases e4
  refine h σ S H ρ x _ _ rep e1 fun v S1 H1 n1 r1 => ?_
  dsimp only at e3
  split at e3
  · rename_i a b
    cases e3
    cases r1 with
    | lst hl hq =>
      have hv := RpL.ints (is := [a, b]) hq
      subst hv
      refine ⟨_, [a, b], rfl, n1.rep.sub.rd hl, by show 2 ≤ 50; decide, fun p c hc hp => ?_⟩
      have s1 : Stp NoA S1 H1 S1 (upd H1 p (SetO w p (fun j => decide (j ∈ [a, b])) c)) := Stp.hidden n1.rep.sub hp
      have n2 := n1.trans (Nx.step n1.rep s1)
      refine ⟨p, _, c, rfl, upd_same, Nat.lt_of_le_of_lt hc (by show 2 < 64; decide), fun ns q hs hm _ hq => ?_⟩
      rw [sort2_of hs hm]
      exact k _ _ _ (n2.trans (Nx.step n2.rep (Stp.laid n2.rep.sub hq))) (new_lst n2.rep.sub hq (RpL.ofInts _))
  · cases e3
end Md

set_option Elab.async false
set_option linter.all false
set_option maxRecDepth 100000
set_option maxHeartbeats 4000000
/-! Md: enumerate over a tuple, from 0 and from a written number. -/
namespace Md
open PySem PySem.Spec PyProof.Rows L2

/-- the tuple at a, each item in a new pair with its number, the first one's k -/
def IteT (K : PySem.W.Frag) (a : Addr) (k : Int) : It :=
  ⟨fun i H => ∃ (xs : List V) (x : V), SqT K H a xs ∧ xs[i]? = some x, fun i H v H' => ∃ T x, v = .ref T ∧ H T = none ∧ H' = upd H T (.tup [.int (k + (i : Nat)), x]) ∧ ∀ xs, SqT K H a xs → xs[i]? = some x,
    fun i H => ∃ xs : List V, SqT K H a xs ∧ xs.length = i⟩
theorem turn_enumT {P : Program} {w : World} {K : PySem.W.Frag} {elts : List Expr} {kk : Nat} {tpos : Pos} (a e it : Addr) (k : Int) :
    Turn P w K (.Tuple elts kk tpos) (IteT K a k) [e, it] e (fun i h => (∃ old, IsEnum h e it (k + ((i : Nat) : Int)) old) ∧ h.IsTupleIter it a i ∧ e ≠ it ∧ a ≠ it ∧ a ≠ e) where
  mem := by simp
  obj := fun i h st b hb => by
    obtain ⟨⟨old, he⟩, ⟨o, ho, hc, hd⟩, _⟩ := st
    rcases List.mem_cons.mp hb with z | z
    · rw [z]; exact ⟨_, he, fun v q => nomatch q⟩
    · rw [List.mem_singleton.mp z]; exact ⟨o, ho, fun v q => by rw [hd] at q; cases q⟩
  keep := fun i h h' st kp => let ⟨⟨old, he⟩, hi, r⟩ := st; ⟨⟨old, kp e (by simp) _ he⟩, hi.at fun o q => kp it (by simp) o q, r⟩
  item := by
    intro X hP hw hK hc i pins s σ H E I hf st hg
    subst hP hw hK
    obtain ⟨⟨old, he⟩, hit, n1, n2, n3⟩ := st
    obtain ⟨xs, x, hq, hx⟩ := hg
    obtain ⟨its, rv, p, hz⟩ := I.tuple hq
    obtain ⟨u, hu, ru⟩ := rv.get hx
    have le : e < s.heap.objs.size := Heap.lt_size he
    have li : it < s.heap.objs.size := by obtain ⟨_, q, _⟩ := hit; exact Heap.lt_size q
    have ef : e ∉ [it, a] := fun hm => by
      rcases List.mem_cons.mp hm with q | q
      · exact n1 q
      · exact n3 (List.mem_singleton.mp q).symm
    have hlt : i < its.toArray.size := by
      rw [List.size_toArray, ← rv.length]
      exact (List.getElem?_eq_some_iff.mp hx).1
    refine wpAny_pyNext_enum_itemC (Draws.tuple (A := X.A.in1) (I.ok.hd hc) it a n2 its.toArray) he ⟨hit, p⟩ hlt n1 ef fun y h' tk hy ho hit' hT hsz kp => ?_
    have ey : y = u := by
      have : its.toArray[i]? = some u := by simpa using hu
      rw [this] at hy
      exact (Option.some.inj hy).symm
    subst ey
    refine ⟨_, rfl, wpAny_letOwnedTupleGo_enum (s := { s with heap := h', toks := tk + 1 }) ho fun h2 he' sb => ?_⟩
    have hT2 : h2.get? s.heap.objs.size = some { cls := .type "tuple", data := .seq #[.int (k + (i : Nat)) tk, y] } := (sb.2 _ (Nat.ne_of_gt le)).trans hT
    have new : ObjOk X.prog X.w (upd H s.heap.objs.size (.tup [.int (k + (i : Nat)), x])) h2 s.heap.objs.size (.tup [.int (k + (i : Nat)), x]) :=
      ⟨by show 2 ≤ sizeLine; decide, [.int (k + (i : Nat)) tk, y], .cons ⟨_, rfl⟩ (.cons ru .nil), ⟨_, hT2, rfl, _, rfl⟩⟩
    have I1 : Inv X pins σ (upd H s.heap.objs.size (.tup [.int (k + (i : Nat)), x])) { s with heap := h2, toks := tk + 1 } :=
      I.turnedNew (ch := [e, it]) (fun b ob hb q => (sb.2 b (fun z => hb (by simp [z]))).trans (kp b ob (fun z => hb (by simp [z])) (fun z => hb (by simp [z])) q)) hf (Nat.le_refl _) new
    refine ⟨.ref s.heap.objs.size, _, I1, rfl, ⟨_, x, rfl, I.hok.fresh (Nat.le_refl _), rfl, fun ys hy => by rw [I.tuple_inj hy hq]; exact hx⟩, ⟨⟨y, ?_⟩, hit'.1.at fun o q => (sb.2 it (Ne.symm n1)).trans q, n1, n2, n3⟩, fun b hb => ?_⟩
    · have e1 : k + ((i + 1 : Nat) : Int) = k + (i : Int) + 1 := by omega
      rw [e1]; exact he'
    · have lb : b < s.heap.objs.size := by
        rcases List.mem_cons.mp hb with z | z
        · rw [z]; exact le
        · rw [List.mem_singleton.mp z]; exact li
      rw [upd_ne (Nat.ne_of_lt lb)]
      exact (hf b hb).1
  done := by
    intro X hP hw hK hc i pins s σ H E I hf st hg
    subst hP hw hK
    obtain ⟨⟨old, he⟩, hit, n1, n2, n3⟩ := st
    obtain ⟨xs, hq, hx⟩ := hg
    obtain ⟨its, rv, p, hz⟩ := I.tuple hq
    obtain ⟨f0, f1, f2, f3, f4, f5⟩ := hf it (by simp)
    have hl := rv.length
    have hi : i = its.toArray.size := by rw [List.size_toArray, ← hl, hx]
    subst hi
    exact wpAny_pyNext_enum_endD (Draws.tuple (A := X.A.in1) (I.ok.hd hc) it a n2 its.toArray) he ⟨hit, p⟩ fun h' eb => ⟨rfl, I.turned (t' := s.toks) (fun b o hb q => eb b o hb q) f0 f1 f3 f4 f5⟩
  self := fun A i s Q E st h => let ⟨⟨_, he⟩, _⟩ := st; wpAny_pyIter_enum he h

/-! ### enumerate(t), enumerate(t, k) made -/
theorem meets_enum1 {v : Value} {o : Obj} {H : Heap → Prop} (B : Begins v o H) :
    Meets (Builtin.«enumerate.__new__» ⟨[.type "enumerate", v], []⟩) (fun _ R s => H s.heap ∧
      R (.ok (.ret (.ref (s.heap.push o).objs.size))) { s with heap := (s.heap.push o).push { cls := .type "enumerate", data := .fields #[.none, .bool false, .ref s.heap.objs.size, rawInt 0, .none, .none] } }) :=
  .of_wp fun prog w A R s h => by
    obtain ⟨hp, g, d, tk, os⟩ := s
    obtain ⟨h1, h⟩ := h
    have sub := sub_enumerate
    have begin1 : ∀ {A' : Around} {E : Value → Shared → Prop} {Q : Value → Shared → Prop}, Q (.ref hp.objs.size) ⟨hp.push o, g, d, tk, os⟩ → wpAny (model prog w) A' (pyIter v) Q E ⟨hp, g, d, tk, os⟩ :=
      fun q => B.iter prog w _ _ ⟨hp, g, d, tk, os⟩ _ h1 q
    wp_walk using begin1
    refine wpAny_stack_any fun st => wpAny_pure ?_
    split
    · rename_i c _ _ _ _ _
      cases (c == Value.type "enumerate") <;> (wp_walk using begin1; exact ⟨_, rfl, h⟩)
    · wp_walk using begin1
      exact ⟨_, rfl, h⟩
theorem call_enum1 {prog : Program} {w : World} {A : Around} {E : Value → Shared → Prop} {s : Shared} {v : Value} {o : Obj} {H : Heap → Prop} {Q : Value → Shared → Prop} (B : Begins v o H) (h1 : H s.heap)
    (h : ∀ h', IsEnum h' (s.heap.objs.size + 1) s.heap.objs.size 0 .none → h'.get? s.heap.objs.size = some o → h'.objs.size = s.heap.objs.size + 2 →
      (∀ b o, s.heap.get? b = some o → h'.get? b = some o) → Q (.ref (s.heap.objs.size + 1)) { s with heap := h' }) :
    wpAny (model prog w) A (call (.type "enumerate") [v]) Q E s := by
  refine callType_new F.called_enumerate (by decide) (F.typeCall_enumerate_1 _) (F.newCall_enumerate_1 _) (fun obj => F.args_object_init_2 obj _) F.entry_enumerate_new (meets_enum1 B) ⟨h1, ?_⟩
  have z : (s.heap.push o).objs.size = s.heap.objs.size + 1 := Heap.size_push ..
  have he : IsEnum ((s.heap.push o).push { cls := .type "enumerate", data := .fields #[.none, .bool false, .ref s.heap.objs.size, rawInt 0, .none, .none] }) (s.heap.objs.size + 1) s.heap.objs.size 0 .none := by
    have q := Heap.get?_push_size (s.heap.push o) (o := { cls := .type "enumerate", data := .fields #[.none, .bool false, .ref s.heap.objs.size, rawInt 0, .none, .none] }) rfl
    rw [z] at q; exact q
  show _ ∧ _
  rw [z]
  exact ⟨⟨_, he, rfl⟩, h _ he (Heap.get?_push_of_some _ (Heap.get?_push_size _ B.free)) (by rw [Heap.size_push, z]) fun b o x => Heap.get?_push_of_some _ (Heap.get?_push_of_some _ x)⟩
def iEnumT (K : PySem.W.Frag) (k : Int) (te : TE) : TI := fun σ H R => te σ H fun v H1 => ∃ a xs, v = .ref a ∧ SqT K H1 a xs ∧ R (IteT K a k) H1
def iEnumT2 (K : PySem.W.Frag) (k : Int) (te : TE) : TI := fun σ H R => tCons te (tCons (tC (.int k)) tNil) σ H fun vs H1 => ∃ a xs, vs = [.ref a, .int k] ∧ SqT K H1 a xs ∧ R (IteT K a k) H1
section
variable {X : Cx} {e : Expr} {te : TE} {p pos tpos : Pos} {elts : List Expr} {kk : Nat}
/-- the two new cells, walked -/
theorem enum_it {pins : List (Addr × Obj)} {σ : St} {H : Hp} {s : Shared} {R : It → Hp → Prop} {a : Addr} {xs : List V} {its : List Value} {k : Int} {h' : Heap} (I : Inv X pins σ H s) (hq : SqT X.K H a xs) (pt : IsTup s.heap a its.toArray)
    (he : IsEnum h' (s.heap.objs.size + 1) s.heap.objs.size k .none) (hi : h'.get? s.heap.objs.size = some { cls := .type "tuple_iterator", data := .fields #[.ref a, .int 0 0] }) (kp : ∀ b o, s.heap.get? b = some o → h'.get? b = some o) (q : R (IteT X.K a k) H) :
    wpAny (model X.prog X.w) X.A (pyIter (.ref (s.heap.objs.size + 1))) (PIE X pins σ (.Tuple elts kk tpos) R) X.xe { s with heap := h' } := by
  have la : a < s.heap.objs.size := by obtain ⟨_, z, _⟩ := pt; exact Heap.lt_size z
  refine wpAny_pyIter_enum he ?_
  have I2 : Inv X pins σ H { s with heap := h' } := I.kept (t' := s.toks) kp
  refine ⟨s.heap.objs.size + 1, [s.heap.objs.size + 1, s.heap.objs.size], _, _, H, rfl, I2, turn_enumT a (s.heap.objs.size + 1) s.heap.objs.size k, ⟨⟨.none, ?_⟩, ⟨_, hi, rfl, rfl⟩, Nat.succ_ne_self _, Nat.ne_of_lt la, Nat.ne_of_lt (Nat.lt_succ_of_lt la)⟩, fun b hb => ?_, q⟩
  · rw [show k + ((0 : Nat) : Int) = k by omega]; exact he
  · have le : s.heap.objs.size ≤ b := by
      rcases List.mem_cons.mp hb with z | z
      · rw [z]; exact Nat.le_add_right _ _
      · rw [List.mem_singleton.mp z]; exact Nat.le_refl _
    exact I.fpOk le (I.hok.fresh le)
theorem pi_enum1 (hg : Gl X "enumerate") (hm : X.mg "enumerate" = none) (he : PE X e te) (hs : starEach [e] X.env = [(false, eval e X.env)] := by rfl) :
    PI X (.Tuple elts kk tpos) (.Call (.Name "enumerate" p) [e] [] pos) (iEnumT X.K 0 te) := by
  refine ⟨fun pins s σ H R I h => ?_⟩
  refine Call_ (ld_blt I hg hm boot_enumerate (PyProof.Rows.callWith_type1 (args_cons (thn (he.run pins s σ H _ I h) fun u s1 ⟨x, H1, I1, r1, q1⟩ => args_nil ?_) hs) hs rfl))
  obtain ⟨a, xs, rfl, hq, q⟩ := q1
  cases r1
  obtain ⟨its, rv, pt, _⟩ := I1.tuple hq
  exact call_enum1 (begins_tuple a its.toArray) pt fun h' he hi _ kp => enum_it I1 hq pt he hi kp q
theorem pi_enum2 {e2 : Expr} {k : Int} (hk : -(2 ^ 63) ≤ k ∧ k < 2 ^ 63) (hg : Gl X "enumerate") (hm : X.mg "enumerate" = none) (he : PE X e te) (he2 : PE X e2 (tC (.int k)))
    (hs : starEach [e, e2] X.env = (false, eval e X.env) :: starEach [e2] X.env := by rfl) (hs2 : starEach [e2] X.env = [(false, eval e2 X.env)] := by rfl) (hpl : (backTo pos (starEach [e2] X.env)).any (·.1) = false := by rfl) :
    PI X (.Tuple elts kk tpos) (.Call (.Name "enumerate" p) [e, e2] [] pos) (iEnumT2 X.K k te) := by
  refine ⟨fun pins s σ H R I h => ?_⟩
  have ha : PA X [e, e2] (tCons te (tCons (tC (.int k)) tNil)) := pa_cons he (pa_cons he2 pa_nil hs2) hs
  refine Call_ (ld_blt I hg hm boot_enumerate (PyProof.Rows.callWith_type1 (thn (ha.run pos pins s σ H _ I h) fun us s1 ⟨vs, H1, I1, r1, q1⟩ => ?_) hs hpl))
  obtain ⟨a, xs, rfl, hq, q⟩ := q1
  obtain ⟨u1, u2, rfl, ra, rb⟩ := vals2 r1
  cases ra
  obtain ⟨t, rfl⟩ := rb
  obtain ⟨its, rv, pt, _⟩ := I1.tuple hq
  exact enum_begins (begins_tuple a its.toArray) pt hk.1 hk.2 fun h' he hi _ kp => enum_it I1 hq pt he hi kp q
end
end Md

set_option Elab.async false
set_option linter.all false
set_option maxRecDepth 100000
set_option maxHeartbeats 2000000
/-! Md: the rules for pieces of the text: expressions, calls, what is walked, comprehensions. -/
namespace Md
open PySem PySem.Spec PyProof.Rows L2

/-- the built-ins' names that the text asks are still theirs -/
structure Bi (mg : Str → Option Value) : Prop where
  isinstance : mg "isinstance" = none
  len : mg "len" = none
  all : mg "all" = none
  any : mg "any" = none
  sum : mg "sum" = none
  int : mg "int" = none
  bool : mg "bool" = none
  str : mg "str" = none
  tuple : mg "tuple" = none
  list : mg "list" = none
  range : mg "range" = none
  zip : mg "zip" = none
  enumerate : mg "enumerate" = none
  sorted : mg "sorted" = none
  set : mg "set" = none
  min : mg "min" = none
  max : mg "max" = none
  divmod : mg "divmod" = none

section
variable {X : Cx} {a b c e : Expr} {es rest : List Expr} {f g h : FE} {fa fb : FT} {ga : FA} {pos : Pos}
theorem je_v (i : Nat) {x : Str} (hN : X.N[i]? = some x := by rfl) (hv : Vis X.env.scope x := by first | exact Or.inl rfl | exact Or.inr (Or.inl rfl) | exact Or.inr (Or.inr rfl)) (hd : (x == ("__debug__" : Str)) = false := by decide)
    (hcd : (x == ("__classdict__" : Str)) = false := by decide) : JE X (.Name x pos) (fV i) := je_of (pe_var hN hv hd hcd) se_v
theorem se_z {K : PySem.W.Frag} {i : Nat} (hi : i ≠ 0) : SE K (tVar i) (fZ i) := by
  intro σ S H ρ d ρ' Q rep e k
  unfold fZ at e
  split at e
  · rename_i ds hx
    cases e
    obtain ⟨p, xs, h1, h2, h3, h4⟩ := rep.own i ds hx
    have le : Le S (upd S p (.lst xs)) := Le.new h2
    have sub : Le (upd S p (.lst xs)) H := fun q o e => by
      by_cases z : q = p
      · subst z; rw [upd_same] at e; cases e; exact h3
      · rw [upd_ne z] at e; exact rep.sub q o e
    have hil : i < ρ.length := (List.getElem?_eq_some_iff.mp hx).1
    have newv : Rp K (upd S p (.lst xs)) (.ref p) (.list ds) := .lst (.inl upd_same) (h4.m le)
    have own2 : ∀ (j : Nat) (es : List PyData), (ρ.set i (some (.val (.list ds))))[j]? = some (some (.own es)) → j ≠ i ∧ ρ[j]? = some (some (.own es)) := fun j es q => by
      by_cases z : j = i
      · subst z; rw [List.getElem?_set_self hil] at q; cases q
      · rw [List.getElem?_set_ne (Ne.symm z)] at q; exact ⟨z, q⟩
    refine ⟨.ref p, h1, k _ (upd S p (.lst xs)) H ⟨⟨le, sub, fun _ _ q _ => q, fun _ q => q, fun q hq => ?_⟩, ⟨by rw [List.length_set]; exact rep.len, sub, fun j x q => ?_, fun j es q => ?_, fun j j' es es' q h h' => ?_⟩, fun q h => ?_, rfl, fun es q => ?_⟩ newv⟩
    · by_cases z : q = p
      · subst z; exact .inr (.inr ⟨i, ds, hx, h1⟩)
      · rw [upd_ne z] at hq; exact .inl hq
    · by_cases z : j = i
      · subst z
        rw [List.getElem?_set_self hil] at q
        cases q
        exact ⟨_, h1, newv⟩
      · rw [List.getElem?_set_ne (Ne.symm z)] at q
        obtain ⟨v, q1, q2⟩ := rep.val j x q
        exact ⟨v, q1, q2.m le⟩
    · obtain ⟨z, q⟩ := own2 j es q
      obtain ⟨p', xs', q1, q2, q3, q4⟩ := rep.own j es q
      have ne : p' ≠ p := fun w => by
        subst w
        exact z (rep.apart j i es ds p' q hx q1 h1)
      exact ⟨p', xs', q1, by rw [upd_ne ne]; exact q2, q3, q4.m le⟩
    · exact rep.apart j j' es es' q (own2 j es h).2 (own2 j' es' h').2
    · obtain ⟨j, es, q1, q2⟩ := h
      exact .inl ⟨j, es, (own2 j es q1).2, q2⟩
    · exact ⟨es, by rw [List.getElem?_set_ne hi]; exact q⟩
  · cases e
theorem je_z (i : Nat) {x : Str} (hi : i ≠ 0 := by decide) (hN : X.N[i]? = some x := by rfl) (hv : Vis X.env.scope x := by first | exact Or.inl rfl | exact Or.inr (Or.inl rfl) | exact Or.inr (Or.inr rfl)) (hd : (x == ("__debug__" : Str)) = false := by decide)
    (hcd : (x == ("__classdict__" : Str)) = false := by decide) : JE X (.Name x pos) (fZ i) := je_of (pe_var hN hv hd hcd) (se_z hi)
theorem je_int {i : Int} {j : Nat} : JE X (.Constant (.int i) j pos) (fC (.int i)) := je_of pe_int (se_c fun _ => .int i)
theorem je_bl {i : Bool} {j : Nat} : JE X (.Constant (.bool i) j pos) (fC (.bool i)) := je_of pe_bl (se_c fun _ => .bl i)
theorem je_non {j : Nat} : JE X (.Constant .none j pos) (fC .none) := je_of pe_non (se_c fun _ => .non)
theorem je_str {x : Str} {j : Nat} : JE X (.Constant (.str x) j pos) (fC (.str x)) := je_of pe_str (se_c fun _ => .str x)
/-- a number of the module -/
theorem je_gint {x : Str} {i : Int} (hm : ∃ t, X.mg x = some (.int i t)) (hg : Gl X x := by rfl) (hd : (x == ("__debug__" : Str)) = false := by decide) : JE X (.Name x pos) (fC (.int i)) := by
  obtain ⟨t, hm⟩ := hm
  exact je_of (pe_glob hg hm (v := .int i) ⟨t, rfl⟩ hd) (se_c fun _ => .int i)
/-- a tuple of texts of the module -/
def strsD (xs : List Str) : PyData := .tuple (xs.map PyData.str)
theorem rp_strs {K : PySem.W.Frag} {S : Hp} (xs : List Str) : RpL K S (xs.map V.str) (xs.map PyData.str) := by
  induction xs with
  | nil => exact .nil
  | cons x xs ih => exact .cons (.str x) ih
theorem je_gstrs {x : Str} {ad : Addr} {xs : List Str} (hm : X.mg x = some (.ref ad)) (ht : ∀ H : Hp, SqT X.K H ad (xs.map V.str)) (hg : Gl X x := by rfl) (hd : (x == ("__debug__" : Str)) = false := by decide) : JE X (.Name x pos) (fC (strsD xs)) :=
  je_of (pe_glob hg hm (v := .ref ad) rfl hd) (se_c fun S => .tup (ht S) (rp_strs xs))

theorem je_bin {op : Operator} {r : R2} {o : PyData → PyData → Option PyData} (ho : OpR X (binaryOp op) r) (hr : R2D X.K r o) (ha : JE X a f) (hb : JE X b g) : JE X (.BinOp a op b pos) (fBin o f g) := je_of (pe_op ho ha hb) (se_bin hr se_self se_self)
theorem je_add (ha : JE X a f) (hb : JE X b g) : JE X (.BinOp a .Add b pos) (fBin dAdd f g) := je_bin op_add3 rd_add ha hb
theorem je_sub (ha : JE X a f) (hb : JE X b g) : JE X (.BinOp a .Sub b pos) (fBin dSub f g) := je_bin op_sub rd_sub ha hb
theorem je_mul (ha : JE X a f) (hb : JE X b g) : JE X (.BinOp a .Mult b pos) (fBin dMulT f g) := je_bin op_mul3 rd_mul ha hb
theorem je_mod (ha : JE X a f) (hb : JE X b g) : JE X (.BinOp a .Mod b pos) (fBin dMod f g) := je_bin op_mod rd_mod ha hb
theorem je_fdiv (ha : JE X a f) (hb : JE X b g) : JE X (.BinOp a .FloorDiv b pos) (fBin dFdiv f g) := je_bin op_fdivW rd_fdiv ha hb
theorem je_pow (ha : JE X a f) (hb : JE X b g) : JE X (.BinOp a .Pow b pos) (fBin dPow f g) := je_bin op_pow rd_pow ha hb
theorem je_shl (ha : JE X a f) (hb : JE X b g) : JE X (.BinOp a .LShift b pos) (fBin dShl f g) := je_bin op_shl rd_shl ha hb
theorem je_shr (ha : JE X a f) (hb : JE X b g) : JE X (.BinOp a .RShift b pos) (fBin dShr f g) := je_bin op_shr rd_shr ha hb
theorem je_band (ha : JE X a f) (hb : JE X b g) : JE X (.BinOp a .BitAnd b pos) (fBin dAnd f g) := je_bin op_and rd_and ha hb
/-- [..] * k -/
theorem je_repL (ha : JN X a ga) (hb : JE X b g) : JE X (.BinOp a .Mult b pos) (fRepL ga g) := je_of (pe_op op_rep ha hb) (se_repL sn_self se_self)
/-! comparisons, by their operation -/
structure Cmp (X : Cx) (op : CmpOp) (r : R2) (o : PyData → PyData → Option PyData) : Prop where
  run : OpR X (compareOp op) r
  says : R2D X.K r o
theorem c_lt : Cmp X .Lt (rI0 fun i j => .bl (decide (i < j))) dLt := ⟨op_lt, rd_lt⟩
theorem c_le : Cmp X .LtE (rI0 fun i j => .bl (decide (i ≤ j))) dLe := ⟨op_le, rd_le⟩
theorem c_gt : Cmp X .Gt (rI0 fun i j => .bl (decide (j < i))) dGt := ⟨op_gt, rd_gt⟩
theorem c_ge : Cmp X .GtE (rI0 fun i j => .bl (decide (j ≤ i))) dGe := ⟨op_ge, rd_ge⟩
theorem c_eq (hu : X.A.units + 64 < cLine) : Cmp X .Eq (rEq2 X.K) dEq := ⟨op_eq2 hu, rd_eq⟩
theorem c_ne (hu : X.A.units + 64 < cLine) : Cmp X .NotEq (rNe2 X.K) dNe := ⟨op_ne2 hu, rd_ne⟩
theorem c_is : Cmp X .Is (fun x y H Q => y = .non ∧ Q (.bl (decide (x = .non))) H) dIsN := ⟨op_isN, rd_isN⟩
theorem c_in : Cmp X .In (rIn X.K false) (inD false) := ⟨op_in_seq, rd_in false⟩
theorem c_nin : Cmp X .NotIn (rIn X.K true) (inD true) := ⟨op_notIn_seq, rd_in true⟩
variable {op op' : CmpOp} {r r' : R2} {o o' : PyData → PyData → Option PyData}
theorem je_cmp (hc : Cmp X op r o) (ha : JE X a f) (hb : JE X b g) (hm : behindInMarks op b = false := by first | exact nomark _ (by decide) (by decide) | rfl) : JE X (.Compare a [op] [b] pos) (fBin o f g) :=
  je_of (pe_cmpR hc.run ha hb hm) (se_bin hc.says se_self se_self)
theorem jt_cmp (hc : Cmp X op r o) (ha : JE X a f) (hb : JE X b g) (hm : behindInMarks op b = false := by first | exact nomark _ (by decide) (by decide) | rfl) : JT X (.Compare a [op] [b] pos) (fTest (fBin o f g)) :=
  jt_of (pt_cmpR hc.run ha hb hm) (st_test (se_bin hc.says se_self se_self))
theorem je_chain (hc : Cmp X op r o) (hc' : Cmp X op' r' o') (ha : JE X a f) (hb : JE X b g) (hd : JE X c h) (hm : lastMarks [op, op'] [b, c] = false := by with_unfolding_all rfl) : JE X (.Compare a [op, op'] [b, c] pos) (fChain o o' f g h) :=
  je_of (pe_chain hc.run hc'.run ha hb hd hm) (se_chain hc.says hc'.says se_self se_self se_self)
theorem jt_chain (hc : Cmp X op r o) (hc' : Cmp X op' r' o') (ha : JE X a f) (hb : JE X b g) (hd : JE X c h) (hm : lastMarks [op, op'] [b, c] = false := by with_unfolding_all rfl) : JT X (.Compare a [op, op'] [b, c] pos) (fTest (fChain o o' f g h)) :=
  jt_of (pt_chain hc.run hc'.run ha hb hd hm) (st_test (se_chain hc.says hc'.says se_self se_self se_self))
/-- an expression that gives True or False -/
theorem jt_val (ha : JE X e f) (he : ∀ whole, isTrue e X.env whole = (do let v ← whole; standAt e.pos; holding [v] (truthy v)) := by intro _; rfl) : JT X e (fTest f) := jt_of (pt_val ha he) (st_B se_self)
theorem jt_not (ha : JT X a fa) : JT X (.UnaryOp .Not a pos) (fNotT fa) := jt_of (pt_not ha) (st_not st_self)
theorem jw_and1 (ha : JT X a fa) : JW X (.BoolOp .And [a] pos) fa := pw_and1 ha
theorem jw_or1 (ha : JT X a fa) : JW X (.BoolOp .Or [a] pos) fa := pw_or1 ha
theorem jw_and (ha : JT X a fa) (hb : JW X (.BoolOp .And (b :: rest) pos) fb) : JW X (.BoolOp .And (a :: b :: rest) pos) (fAndT fa fb) := jw_of (pw_and ha hb) (st_and st_self st_self)
theorem jw_or (ha : JT X a fa) (hb : JW X (.BoolOp .Or (b :: rest) pos) fb) : JW X (.BoolOp .Or (a :: b :: rest) pos) (fOrT fa fb) := jw_of (pw_or ha hb) (st_or st_self st_self)
theorem jt_w (h : JW X e fa) : JT X e fa := PW.pt h
theorem je_one {op : BoolOp} (ha : JE X a f) : JE X (.BoolOp op [a] pos) f := pe_one ha
theorem je_and (ha : JE X a f) (hb : JE X (.BoolOp .And (b :: rest) pos) g) : JE X (.BoolOp .And (a :: b :: rest) pos) (fAndV f g) := je_of (pe_and ha hb) (se_and se_self se_self)
theorem je_or (ha : JE X a f) (hb : JE X (.BoolOp .Or (b :: rest) pos) g) : JE X (.BoolOp .Or (a :: b :: rest) pos) (fOrV f g) := je_of (pe_or ha hb) (se_or se_self se_self)
theorem je_not (ha : JE X a f) : JE X (.UnaryOp .Not a pos) (fNotV f) := je_of (pe_not ha) (se_not se_self)
theorem je_ix (ha : JE X a f) (hb : JE X b g) (hs : PlainIx b := by exact fun _ _ => rfl) : JE X (.Subscript a b pos) (fBin dIx f g) := je_of (pe_ix ix_two ha hb hs) (se_bin rd_ix se_self se_self)
theorem ja_nil : JA X [] aNil := ja_of pa_nil sa_nil
theorem ja_cons (ha : JE X e f) (hr : JA X es ga) (hs : starEach (e :: es) X.env = (false, eval e X.env) :: starEach es X.env := by rfl) : JA X (e :: es) (aCons f ga) := ja_of (pa_cons ha hr hs) (sa_cons se_self sa_self)
theorem je_tup {j : Nat} (ha : JA X es ga) : JE X (.Tuple es j pos) (fTup ga) := je_of (pe_tup ha) (se_tup sa_self)
theorem je_lst (ha : JA X es ga) : JE X (.List es pos) (fLst ga) := je_of (pe_lst ha) (se_lst sa_self)
theorem jn_lst (ha : JA X es ga) : JN X (.List es pos) (nLst ga) := jn_of (pe_lst ha) (sn_lst sa_self)
/-! slices -/
def tPt (K : PySem.W.Frag) (oo : FO) : L2.TO := fun σ H Q => ∃ S ρ i ρ', Rep K σ S H ρ ∧ oo ρ = some (i, ρ') ∧ ∀ S' H', Nx K σ ρ S H σ ρ' S' H' → Q i H'
theorem so_self {K : PySem.W.Frag} {oo : FO} : SO K (tPt K oo) oo := fun σ S H ρ d ρ' Q r e k => ⟨S, ρ, d, ρ', r, e, k⟩
abbrev JO (X : Cx) (e : Option Expr) (oo : FO) : Prop := PO X e (tPt X.K oo)
theorem jo_of {e : Option Expr} {t : L2.TO} {oo : FO} (h : PO X e t) (s : SO X.K t oo) : JO X e oo := ⟨fun pins st σ H Q I ⟨S, ρ, d, ρ', r, e, k⟩ => h.run pins st σ H Q I (s σ S H ρ d ρ' Q r e k)⟩
theorem jo_none : JO X none oNone := jo_of po_none so_none
theorem jo_some (h : JE X e f) : JO X (some e) (oSome f) := jo_of (po_some h) (so_some se_self)
theorem je_sl {lo hi : Option Expr} {ol oh : FO} {p2 : Pos} (ha : JE X a f) (hl : JO X lo ol) (hh : JO X hi oh) : JE X (.Subscript a (.Slice lo hi none p2) pos) (fSl f ol oh) := je_of (pe_slice sl_two ha hl hh) (se_sl se_self so_self so_self)
/-! built-in calls -/
variable {x : Str} {p : Pos} {id T : String} {rc : List V → Hp → VK → Prop} {oc : List PyData → Option PyData} {on : List PyData → Option (List PyData)}
theorem je_cb (hc : CallR X (.builtin id) rc) (hr : RcD X.K rc oc) (hm : X.mg x = none) (hv : bootBuiltins x = some (.builtin id)) (ha : JA X (e :: es) ga) (hg : Gl X x := by rfl) (hn : x ≠ "__name__" := by decide) (hdb : (x == ("__debug__" : Str)) = false := by decide)
    (he : starEach (e :: es) X.env = (false, eval e X.env) :: starEach es X.env := by rfl) (hpl : (backTo pos (starEach es X.env)).any (·.1) = false := by rfl) : JE X (.Call (.Name x p) (e :: es) [] pos) (fCB oc ga) :=
  je_of (pe_callB hc hg hm hv ha hn hdb he hpl) (se_cb hr sa_self)
theorem je_ty (hc : CallR X (.type T) rc) (hr : RcD X.K rc oc) (hm : X.mg x = none) (hv : bootBuiltins x = some (.type T)) (ha : JA X (e :: es) ga) (hg : Gl X x := by rfl) (hn : x ≠ "__name__" := by decide) (hdb : (x == ("__debug__" : Str)) = false := by decide)
    (he : starEach (e :: es) X.env = (false, eval e X.env) :: starEach es X.env := by rfl) (hpl : (backTo pos (starEach es X.env)).any (·.1) = false := by rfl) : JE X (.Call (.Name x p) (e :: es) [] pos) (fCB oc ga) :=
  je_of (pe_callTy hc hg hm hv ha hn hdb he hpl) (se_cb hr sa_self)
theorem jn_ty (hc : CallR X (.type T) rc) (hr : RcN X.K rc on) (hm : X.mg x = none) (hv : bootBuiltins x = some (.type T)) (ha : JA X (e :: es) ga) (hg : Gl X x := by rfl) (hn : x ≠ "__name__" := by decide) (hdb : (x == ("__debug__" : Str)) = false := by decide)
    (he : starEach (e :: es) X.env = (false, eval e X.env) :: starEach es X.env := by rfl) (hpl : (backTo pos (starEach es X.env)).any (·.1) = false := by rfl) : JN X (.Call (.Name x p) (e :: es) [] pos) (nCB on ga) :=
  jn_of (pe_callTy hc hg hm hv ha hn hdb he hpl) (sn_cb hr sa_self)
end
theorem bv_isinstance : bootBuiltins "isinstance" = some (.builtin "isinstance") := by decide +kernel
theorem bv_len : bootBuiltins "len" = some (.builtin "len") := by decide +kernel
theorem bv_all : bootBuiltins "all" = some (.builtin "all") := by decide +kernel
theorem bv_any : bootBuiltins "any" = some (.builtin "any") := by decide +kernel
theorem bv_sum : bootBuiltins "sum" = some (.builtin "sum") := by decide +kernel
theorem bv_sorted : bootBuiltins "sorted" = some (.builtin "sorted") := by decide +kernel
theorem bv_min : bootBuiltins "min" = some (.builtin "min") := by decide +kernel
theorem bv_max : bootBuiltins "max" = some (.builtin "max") := by decide +kernel
theorem bv_divmod : bootBuiltins "divmod" = some (.builtin "divmod") := by decide +kernel
theorem bv_int : bootBuiltins "int" = some (.type "int") := by decide +kernel
theorem bv_bool : bootBuiltins "bool" = some (.type "bool") := by decide +kernel
theorem bv_str : bootBuiltins "str" = some (.type "str") := by decide +kernel
theorem bv_tuple : bootBuiltins "tuple" = some (.type "tuple") := by decide +kernel
theorem bv_list : bootBuiltins "list" = some (.type "list") := by decide +kernel
theorem bv_set : bootBuiltins "set" = some (.type "set") := by decide +kernel
section
variable {X : Cx} {a b c e : Expr} {es rest : List Expr} {f g h : FE} {ga : FA} {pos p p2 q : Pos}
theorem je_len (T : Bi X.mg) (ha : JE X e f) (hg : Gl X "len" := by rfl) (he : starEach [e] X.env = (false, eval e X.env) :: starEach [] X.env := by rfl) : JE X (.Call (.Name "len" p) [e] [] pos) (fCB dLen (aCons f aNil)) := je_cb call_len_seq rc_len T.len bv_len (ja_cons ha ja_nil he) hg (by decide) (by decide) he
theorem je_all (hc : X.calm = true) (T : Bi X.mg) (ha : JE X e f) (hg : Gl X "all" := by rfl) (he : starEach [e] X.env = (false, eval e X.env) :: starEach [] X.env := by rfl) : JE X (.Call (.Name "all" p) [e] [] pos) (fCB dAll (aCons f aNil)) := je_cb (cr_all hc) rc_all T.all bv_all (ja_cons ha ja_nil he) hg (by decide) (by decide) he
theorem je_any (hc : X.calm = true) (T : Bi X.mg) (ha : JE X e f) (hg : Gl X "any" := by rfl) (he : starEach [e] X.env = (false, eval e X.env) :: starEach [] X.env := by rfl) : JE X (.Call (.Name "any" p) [e] [] pos) (fCB dAny (aCons f aNil)) := je_cb (cr_any hc) rc_any T.any bv_any (ja_cons ha ja_nil he) hg (by decide) (by decide) he
theorem je_sum (hc : X.calm = true) (T : Bi X.mg) (ha : JE X e f) (hg : Gl X "sum" := by rfl) (he : starEach [e] X.env = (false, eval e X.env) :: starEach [] X.env := by rfl) : JE X (.Call (.Name "sum" p) [e] [] pos) (fCB dSum (aCons f aNil)) := je_cb (cr_sum hc) rc_sum T.sum bv_sum (ja_cons ha ja_nil he) hg (by decide) (by decide) he
theorem je_toint (T : Bi X.mg) (ha : JE X e f) (hg : Gl X "int" := by rfl) (he : starEach [e] X.env = (false, eval e X.env) :: starEach [] X.env := by rfl) : JE X (.Call (.Name "int" p) [e] [] pos) (fCB dInt (aCons f aNil)) := je_ty call_int1 rc_int T.int bv_int (ja_cons ha ja_nil he) hg (by decide) (by decide) he
theorem je_tuple (T : Bi X.mg) (ha : JE X e f) (hg : Gl X "tuple" := by rfl) (he : starEach [e] X.env = (false, eval e X.env) :: starEach [] X.env := by rfl) : JE X (.Call (.Name "tuple" p) [e] [] pos) (fCB dTuple (aCons f aNil)) := je_ty call_tuple_of rc_tuple T.tuple bv_tuple (ja_cons ha ja_nil he) hg (by decide) (by decide) he
theorem jn_list (T : Bi X.mg) (ha : JE X e f) (hg : Gl X "list" := by rfl) (he : starEach [e] X.env = (false, eval e X.env) :: starEach [] X.env := by rfl) : JN X (.Call (.Name "list" p) [e] [] pos) (nCB dList (aCons f aNil)) := jn_ty call_list_of rn_list T.list bv_list (ja_cons ha ja_nil he) hg (by decide) (by decide) he
theorem je_max (hc : X.calm = true) (T : Bi X.mg) (ha : JE X a f) (hb : JE X b g) (hg : Gl X "max" := by rfl) (he : starEach [a, b] X.env = (false, eval a X.env) :: starEach [b] X.env := by rfl) (he2 : starEach [b] X.env = (false, eval b X.env) :: starEach [] X.env := by rfl)
    (hpl : (backTo pos (starEach [b] X.env)).any (·.1) = false := by rfl) : JE X (.Call (.Name "max" p) [a, b] [] pos) (fCB dMax (aCons f (aCons g aNil))) := je_cb (call_max2 hc) rc_max T.max bv_max (ja_cons ha (ja_cons hb ja_nil he2) he) hg (by decide) (by decide) he hpl
theorem je_min (hc : X.calm = true) (T : Bi X.mg) (ha : JE X a f) (hb : JE X b g) (hg : Gl X "min" := by rfl) (he : starEach [a, b] X.env = (false, eval a X.env) :: starEach [b] X.env := by rfl) (he2 : starEach [b] X.env = (false, eval b X.env) :: starEach [] X.env := by rfl)
    (hpl : (backTo pos (starEach [b] X.env)).any (·.1) = false := by rfl) : JE X (.Call (.Name "min" p) [a, b] [] pos) (fCB dMin (aCons f (aCons g aNil))) := je_cb (call_min2 hc) rc_min T.min bv_min (ja_cons ha (ja_cons hb ja_nil he2) he) hg (by decide) (by decide) he hpl
theorem je_isi {ty : String} {y : Str} (hT : ty = "int" ∨ ty = "bool" ∨ ty = "str" ∨ ty = "tuple") (T : Bi X.mg) (hm : X.mg y = none) (hv : bootBuiltins y = some (.type ty)) (ha : JE X e f) (hg : Gl X "isinstance" := by rfl) (hg2 : Gl X y := by rfl) (hn : y ≠ "__name__" := by decide) (hd : (y == ("__debug__" : Str)) = false := by decide)
    (he : starEach [e, .Name y p2] X.env = (false, eval e X.env) :: starEach [.Name y p2] X.env := by rfl) (he2 : starEach [.Name y p2] X.env = (false, eval (.Name y p2) X.env) :: starEach [] X.env := by rfl) (hpl : (backTo pos (starEach [.Name y p2] X.env)).any (·.1) = false := by rfl) :
    JE X (.Call (.Name "isinstance" p) [e, .Name y p2] [] pos) (fIsi ty f) :=
  je_of (pe_callB call_isi hg T.isinstance bv_isinstance (pa_cons ha (pa_cons (pe_bltn (v := .ty ty) hg2 hm hv rfl hn hd) pa_nil he2) he) (by decide) (by decide) he hpl) (se_isi hT se_self)
theorem je_lr1 (hc : X.calm = true) (T : Bi X.mg) (ha : JE X a f) (hg : Gl X "list" := by rfl) (hg2 : Gl X "range" := by rfl) (na : starEach [a] X.env = (false, eval a X.env) :: starEach [] X.env := by rfl)
    (nb : starEach [.Call (.Name "range" p2) [a] [] q] X.env = (false, eval (.Call (.Name "range" p2) [a] [] q) X.env) :: starEach [] X.env := by rfl) : JE X (.Call (.Name "list" p) [.Call (.Name "range" p2) [a] [] q] [] pos) (fLR1 f) :=
  je_of (pe_listRg hc hg T.list (prg_1 hg2 T.range ha na) nb) (se_lr1 se_self)
theorem je_lr2 (hc : X.calm = true) (T : Bi X.mg) (ha : JE X a f) (hb : JE X b g) (hg : Gl X "list" := by rfl) (hg2 : Gl X "range" := by rfl) (na : starEach [a, b] X.env = (false, eval a X.env) :: starEach [b] X.env := by rfl) (nc : starEach [b] X.env = (false, eval b X.env) :: starEach [] X.env := by rfl) (hp : (backTo q (starEach [b] X.env)).any (·.1) = false := by rfl)
    (nb : starEach [.Call (.Name "range" p2) [a, b] [] q] X.env = (false, eval (.Call (.Name "range" p2) [a, b] [] q) X.env) :: starEach [] X.env := by rfl) : JE X (.Call (.Name "list" p) [.Call (.Name "range" p2) [a, b] [] q] [] pos) (fLR2 f g) :=
  je_of (pe_listRg hc hg T.list (prg_2 hg2 T.range ha hb na nc hp) nb) (se_lr2 se_self se_self)
theorem je_ss (hc : X.calm = true) (T : Bi X.mg) (ha : JE X a f) (hg : Gl X "sorted" := by rfl) (hg2 : Gl X "set" := by rfl) (na : starEach [a] X.env = (false, eval a X.env) :: starEach [] X.env := by rfl)
    (nb : starEach [.Call (.Name "set" p2) [a] [] q] X.env = (false, eval (.Call (.Name "set" p2) [a] [] q) X.env) :: starEach [] X.env := by rfl) : JE X (.Call (.Name "sorted" p) [.Call (.Name "set" p2) [a] [] q] [] pos) (fSS f) :=
  je_of (pe_callB (cr_sortedSet hc) hg T.sorted bv_sorted (pa_cons (pe_callTy (cr_setL hc) hg2 T.set bv_set (pa_cons ha pa_nil na) (by decide) (by decide) na rfl) pa_nil nb) (by decide) (by decide) nb rfl) (se_ss se_self)
end
end Md

set_option Elab.async false
set_option linter.all false
set_option maxRecDepth 100000
set_option maxHeartbeats 2000000
/-! Md: what is walked, targets, comprehensions. -/
namespace Md
open PySem PySem.Spec PyProof.Rows L2

/-! ### what is walked -/
structure Wk (K : PySem.W.Frag) (J : It) (S : Hp) (ds : List PyData) : Prop where
  goes : ∀ i S' H, i < ds.length → Le S S' → Le S' H → J.go i H
  stops : ∀ S' H, Le S S' → Le S' H → J.stop ds.length H
  yields : ∀ i S' H x H', i < ds.length → Le S S' → Le S' H → J.yld i H x H' → ∃ S'', Stp NoA S' H S'' H' ∧ ∀ d, ds[i]? = some d → Rp K S'' x d
def SI (K : PySem.W.Frag) (wi : TI) (it : FA) : Prop := ∀ σ S H ρ ds ρ' R, Rep K σ S H ρ → it ρ = some (ds, ρ') → (∀ J S' H', Nx K σ ρ S H σ ρ' S' H' → Wk K J S' ds → R J H') → wi σ H R
def tI (K : PySem.W.Frag) (it : FA) : TI := fun σ H R => ∃ S ρ ds ρ', Rep K σ S H ρ ∧ it ρ = some (ds, ρ') ∧ ∀ J S' H', Nx K σ ρ S H σ ρ' S' H' → Wk K J S' ds → R J H'
abbrev JI (X : Cx) (tg e : Expr) (it : FA) : Prop := PI X tg e (tI X.K it)
theorem si_self {K : PySem.W.Frag} {it : FA} : SI K (tI K it) it := fun σ S H ρ ds ρ' R r e k => ⟨S, ρ, ds, ρ', r, e, k⟩
theorem ji_of {X : Cx} {tg e : Expr} {wi : TI} {it : FA} (h : PI X tg e wi) (s : SI X.K wi it) : JI X tg e it := ⟨fun pins st σ H R I ⟨S, ρ, ds, ρ', r, e, k⟩ => h.run pins st σ H R I (s σ S H ρ ds ρ' R r e k)⟩
section
variable {K : PySem.W.Frag} {S : Hp}
theorem wk_list {a : Addr} {vs : List V} {ds : List PyData} (h : Rd S a (.lst vs)) (r : RpL K S vs ds) : Wk K (Itl K a) S ds := by
  have rd : ∀ {S' H : Hp}, Le S S' → Le S' H → SqL K H a vs := fun e1 e2 => .inl ((e1.trans e2).rd h)
  refine ⟨fun i S' H hi e1 e2 => ?_, fun S' H e1 e2 => ⟨vs, rd e1 e2, by rw [r.length]; exact Nat.le_refl _⟩, fun i S' H x H' hi e1 e2 y => ?_⟩
  · have hv : i < vs.length := by rw [r.length]; exact hi
    exact ⟨vs, vs[i], rd e1 e2, List.getElem?_eq_getElem hv⟩
  · obtain ⟨rfl, hy⟩ := y
    refine ⟨S', Stp.refl e2, fun d hd => ?_⟩
    obtain ⟨v, h1, h2⟩ := r.get hd
    have h3 := hy vs (rd e1 e2)
    rw [h1] at h3
    cases h3
    exact h2.m e1
theorem wk_tup {a : Addr} {vs : List V} {ds : List PyData} (h : SqT K S a vs) (r : RpL K S vs ds) : Wk K (Itt K a) S ds := by
  have rd : ∀ {S' H : Hp}, Le S S' → Le S' H → SqT K H a vs := fun e1 e2 => (e1.trans e2).seqT h
  refine ⟨fun i S' H hi e1 e2 => ?_, fun S' H e1 e2 => ⟨vs, rd e1 e2, by rw [r.length]; exact Nat.le_refl _⟩, fun i S' H x H' hi e1 e2 y => ?_⟩
  · have hv : i < vs.length := by rw [r.length]; exact hi
    exact ⟨vs, vs[i], rd e1 e2, List.getElem?_eq_getElem hv⟩
  · obtain ⟨rfl, hy⟩ := y
    refine ⟨S', Stp.refl e2, fun d hd => ?_⟩
    obtain ⟨v, h1, h2⟩ := r.get hd
    have h3 := hy vs (rd e1 e2)
    rw [h1] at h3
    cases h3
    exact h2.m e1
theorem wk_enum {a : Addr} {vs : List V} {ds : List PyData} {k : Int} (h : SqT K S a vs) (r : RpL K S vs ds) : Wk K (IteT K a k) S (ds.mapIdx fun i d => .tuple [.int (k + (i : Nat)), d]) := by
  have rd : ∀ {S' H : Hp}, Le S S' → Le S' H → SqT K H a vs := fun e1 e2 => (e1.trans e2).seqT h
  refine ⟨fun i S' H hi e1 e2 => ?_, fun S' H e1 e2 => ⟨vs, rd e1 e2, by rw [r.length, List.length_mapIdx]⟩, fun i S' H x H' hi e1 e2 y => ?_⟩
  · have hv : i < vs.length := by rw [r.length]; rw [List.length_mapIdx] at hi; exact hi
    exact ⟨vs, vs[i], rd e1 e2, List.getElem?_eq_getElem hv⟩
  · obtain ⟨T, x', rfl, hT, rfl, hy⟩ := y
    refine ⟨upd S' T (.tup [.int (k + (i : Nat)), x']), Stp.laid e2 hT, fun d hd => ?_⟩
    rw [List.getElem?_mapIdx] at hd
    obtain ⟨d', h0, rfl⟩ := map2 hd
    obtain ⟨v, h1, h2⟩ := r.get h0
    have h3 := hy vs (rd e1 e2)
    rw [h1] at h3
    cases h3
    exact new_tup e2 hT (.cons (.int _) (.cons (h2.m e1) .nil))
theorem wk_zip {a b : Addr} {vs ws : List V} {ds es : List PyData} (h : SqT K S a vs) (r : RpL K S vs ds) (h' : SqT K S b ws) (r' : RpL K S ws es) : Wk K (RZ.ItzT K a b) S (List.zipWith (fun x y => .tuple [x, y]) ds es) := by
  have rd : ∀ {S' H : Hp}, Le S S' → Le S' H → SqT K H a vs := fun e1 e2 => (e1.trans e2).seqT h
  have rd' : ∀ {S' H : Hp}, Le S S' → Le S' H → SqT K H b ws := fun e1 e2 => (e1.trans e2).seqT h'
  refine ⟨fun i S' H hi e1 e2 => ?_, fun S' H e1 e2 => ⟨vs, ws, rd e1 e2, rd' e1 e2, by rw [List.length_zipWith, r.length, r'.length]; omega⟩, fun i S' H x H' hi e1 e2 y => ?_⟩
  · rw [List.length_zipWith] at hi
    have hv : i < vs.length := by rw [r.length]; omega
    have hw : i < ws.length := by rw [r'.length]; omega
    exact ⟨vs, ws, vs[i], ws[i], rd e1 e2, rd' e1 e2, List.getElem?_eq_getElem hv, List.getElem?_eq_getElem hw⟩
  · obtain ⟨T, x', y', rfl, hT, rfl, hx, hy⟩ := y
    refine ⟨upd S' T (.tup [x', y']), Stp.laid e2 hT, fun d hd => ?_⟩
    rw [List.getElem?_zipWith] at hd
    split at hd
    · rename_i d1 d2 q1 q2
      cases hd
      obtain ⟨v, h1, h2⟩ := r.get q1
      obtain ⟨u, h3, h4⟩ := r'.get q2
      have h5 := hx vs (rd e1 e2)
      have h6 := hy ws (rd' e1 e2)
      rw [h1] at h5
      rw [h3] at h6
      cases h5
      cases h6
      exact new_tup e2 hT (.cons (h2.m e1) (.cons (h4.m e1) .nil))
    · cases hd
theorem wk_rng {lo : Int} {n : Nat} : Wk K (Itr lo n) S ((List.range n).map fun i => .int (lo + (i : Nat))) := by
  refine ⟨fun i S' H hi _ _ => ?_, fun S' H _ _ => ?_, fun i S' H x H' hi e1 e2 y => ?_⟩
  · rw [List.length_map, List.length_range] at hi; exact hi
  · show n ≤ _
    rw [List.length_map, List.length_range]; exact Nat.le_refl _
  · obtain ⟨rfl, rfl⟩ := y
    refine ⟨S', Stp.refl e2, fun d hd => ?_⟩
    rw [List.getElem?_map] at hd
    obtain ⟨j, h0, rfl⟩ := map2 hd
    rw [List.length_map, List.length_range] at hi
    rw [List.getElem?_range hi] at h0
    cases h0
    exact .int _
theorem wk_rngC {lo c : Int} {n : Nat} : Wk K (Itc lo c n) S ((List.range n).map fun i => .int (lo + (i : Nat) * c)) := by
  refine ⟨fun i S' H hi _ _ => ?_, fun S' H _ _ => ?_, fun i S' H x H' hi e1 e2 y => ?_⟩
  · rw [List.length_map, List.length_range] at hi; exact hi
  · show n ≤ _
    rw [List.length_map, List.length_range]; exact Nat.le_refl _
  · obtain ⟨rfl, rfl⟩ := y
    refine ⟨S', Stp.refl e2, fun d hd => ?_⟩
    rw [List.getElem?_map] at hd
    obtain ⟨j, h0, rfl⟩ := map2 hd
    rw [List.length_map, List.length_range] at hi
    rw [List.getElem?_range hi] at h0
    cases h0
    exact .int _
end
def iLst (f : FE) : FA := fun ρ => (f ρ).bind fun p => match p.1 with
  | .list ds => some (ds, p.2)
  | _ => none
def iTupl (f : FE) : FA := fun ρ => (f ρ).bind fun p => match p.1 with
  | .tuple ds => some (ds, p.2)
  | _ => none
def iEnu (k : Int) (f : FE) : FA := fun ρ => (iTupl f ρ).map fun p => (p.1.mapIdx fun i d => .tuple [.int (k + (i : Nat)), d], p.2)
def iZp (f g : FE) : FA := fun ρ => (iTupl f ρ).bind fun p => (iTupl g p.2).map fun q => (List.zipWith (fun x y => .tuple [x, y]) p.1 q.1, q.2)
def iR1 (f : FE) : FA := fun ρ => (f ρ).bind fun p => match p.1 with
  | .int n => if -100000 ≤ n ∧ n ≤ 100000 then some (rngD 0 n, p.2) else none
  | _ => none
def iR2 (f g : FE) : FA := fun ρ => (f ρ).bind fun p => (g p.2).bind fun q => match p.1, q.1 with
  | .int a, .int b => if 0 ≤ a ∧ a ≤ 100000 ∧ 0 ≤ b ∧ b ≤ 100000 then some (rngD a b, q.2) else none
  | _, _ => none
/-- range(0, n, 2) -/
def evD (n : Int) : List PyData := (List.range ((n + 1) / 2).toNat).map fun i => .int ((i : Nat) * 2)
def iEv (g : FE) : FA := fun ρ => (g ρ).bind fun q => match q.1 with
  | .int b => if 0 ≤ b ∧ b ≤ 100000 then some (evD b, q.2) else none
  | _ => none
section
variable {K : PySem.W.Frag} {te ta tb : TE} {f g : FE}
theorem iTupl_some {ρ ρ' : En} {ds : List PyData} (h : iTupl f ρ = some (ds, ρ')) : f ρ = some (.tuple ds, ρ') := by
  obtain ⟨⟨x, ρ1⟩, e1, e2⟩ := bind2 h
  cases x with
  | tuple l => cases e2; exact e1
  | _ => cases e2
theorem iLst_some {ρ ρ' : En} {ds : List PyData} (h : iLst f ρ = some (ds, ρ')) : f ρ = some (.list ds, ρ') := by
  obtain ⟨⟨x, ρ1⟩, e1, e2⟩ := bind2 h
  cases x with
  | list l => cases e2; exact e1
  | _ => cases e2
theorem si_list (h : SE K te f) : SI K (iList K te) (iLst f) := by
  intro σ S H ρ ds ρ' R rep e k
  refine h σ S H ρ _ _ _ rep (iLst_some e) fun v S1 H1 n1 r1 => ?_
  cases r1 with
  | @lst a vs _ ha hq => exact ⟨a, rfl, ⟨vs, .inl (n1.rep.sub.rd ha)⟩, k _ S1 H1 n1 (wk_list ha hq)⟩
theorem si_tup (h : SE K te f) : SI K (iTup K te) (iTupl f) := by
  intro σ S H ρ ds ρ' R rep e k
  refine h σ S H ρ _ _ _ rep (iTupl_some e) fun v S1 H1 n1 r1 => ?_
  cases r1 with
  | @tup a vs _ ha hq => exact ⟨a, rfl, ⟨vs, n1.rep.sub.seqT ha⟩, k _ S1 H1 n1 (wk_tup ha hq)⟩
theorem si_enum (h : SE K te f) : SI K (iEnumT K 0 te) (iEnu 0 f) := by
  intro σ S H ρ ds ρ' R rep e k
  obtain ⟨⟨l, ρ1⟩, e1, e2⟩ := map2 e
  cases e2
  refine h σ S H ρ _ _ _ rep (iTupl_some e1) fun v S1 H1 n1 r1 => ?_
  cases r1 with
  | @tup a vs _ ha hq => exact ⟨a, vs, rfl, n1.rep.sub.seqT ha, k _ S1 H1 n1 (wk_enum ha hq)⟩
theorem si_enum2 {n : Int} (h : SE K te f) : SI K (iEnumT2 K n te) (iEnu n f) := by
  intro σ S H ρ ds ρ' R rep e k
  obtain ⟨⟨l, ρ1⟩, e1, e2⟩ := map2 e
  cases e2
  refine h σ S H ρ _ _ _ rep (iTupl_some e1) fun v S1 H1 n1 r1 => ?_
  cases r1 with
  | @tup a vs _ ha hq => exact ⟨a, vs, rfl, n1.rep.sub.seqT ha, k _ S1 H1 n1 (wk_enum ha hq)⟩
theorem si_zip (h : SE K ta f) (h' : SE K tb g) : SI K (RZ.iZipA K (tCons ta (tCons tb tNil))) (iZp f g) := by
  intro σ S H ρ ds ρ' R rep e k
  obtain ⟨⟨l, ρ1⟩, e1, e2⟩ := bind2 e
  obtain ⟨⟨m, ρ2⟩, e3, e4⟩ := map2 e2
  cases e4
  refine h σ S H ρ _ _ _ rep (iTupl_some e1) fun v S1 H1 n1 r1 => ?_
  refine h' σ S1 H1 ρ1 _ _ _ n1.rep (iTupl_some e3) fun u S2 H2 n2 r2 => ?_
  have r1 := r1.m n2.stp.ex
  cases r1 with
  | @tup a vs _ ha hq =>
    cases r2 with
    | @tup b ws _ hb hq2 => exact ⟨a, b, vs, ws, rfl, .inr ⟨n2.rep.sub.seqT ha, n2.rep.sub.seqT hb, k _ S2 H2 (n1.trans n2) (wk_zip ha hq hb hq2)⟩⟩
theorem si_r1 (h : SE K ta f) : SI K (iRng1 (tCons ta tNil)) (iR1 f) := by
  intro σ S H ρ ds ρ' R rep e k
  obtain ⟨⟨x, ρ1⟩, e1, e2⟩ := bind2 e
  refine h σ S H ρ x ρ1 _ rep e1 fun v S1 H1 n1 r1 => ?_
  cases r1 with
  | int n =>
    have e2 : (if -100000 ≤ n ∧ n ≤ 100000 then some (rngD 0 n, ρ1) else none) = some (ds, ρ') := e2
    split at e2
    · rename_i hn
      cases e2
      refine ⟨n, rfl, by omega, by omega, k _ S1 H1 n1 ?_⟩
      unfold rngD
      rw [Int.sub_zero]
      exact wk_rng
    · cases e2
  | _ => cases e2
theorem si_r2 (h : SE K ta f) (h' : SE K tb g) : SI K (iRng2 (tCons ta (tCons tb tNil))) (iR2 f g) := by
  intro σ S H ρ ds ρ' R rep e k
  obtain ⟨⟨x, ρ1⟩, e1, e2⟩ := bind2 e
  obtain ⟨⟨y, ρ2⟩, e3, e4⟩ := bind2 e2
  refine h σ S H ρ x ρ1 _ rep e1 fun v S1 H1 n1 r1 => ?_
  refine h' σ S1 H1 ρ1 y ρ2 _ n1.rep e3 fun u S2 H2 n2 r2 => ?_
  cases r1 with
  | int a =>
    cases r2 with
    | int b =>
      have e4 : (if 0 ≤ a ∧ a ≤ 100000 ∧ 0 ≤ b ∧ b ≤ 100000 then some (rngD a b, ρ2) else none) = some (ds, ρ') := e4
      split at e4
      · rename_i hn
        cases e4
        exact ⟨a, b, rfl, ⟨by omega, by omega, by omega, by omega⟩, k _ S2 H2 (n1.trans n2) wk_rng⟩
      · cases e4
    | _ => cases e4
  | _ => cases e4
end
section
variable {X : Cx} {tg a b e : Expr} {f g : FE} {pos p tpos : Pos} {elts : List Expr} {kk : Nat}
theorem ji_list (h : JE X e f) : JI X tg e (iLst f) := ji_of (pi_list h) (si_list se_self)
theorem ji_tup (h : JE X e f) : JI X tg e (iTupl f) := ji_of (pi_tup h) (si_tup se_self)
theorem ji_enum (T : Bi X.mg) (h : JE X e f) (hg : Gl X "enumerate" := by rfl) (hs : starEach [e] X.env = [(false, eval e X.env)] := by rfl) : JI X (.Tuple elts kk tpos) (.Call (.Name "enumerate" p) [e] [] pos) (iEnu 0 f) := ji_of (pi_enum1 hg T.enumerate h hs) (si_enum se_self)
theorem ji_enum1 {j : Nat} {p2 : Pos} (T : Bi X.mg) (h : JE X e f) (hg : Gl X "enumerate" := by rfl) (hs : starEach [e, .Constant (.int 1) j p2] X.env = (false, eval e X.env) :: starEach [.Constant (.int 1) j p2] X.env := by rfl)
    (hs2 : starEach [.Constant (.int 1) j p2] X.env = [(false, eval (.Constant (.int 1) j p2) X.env)] := by rfl) (hpl : (backTo pos (starEach [.Constant (.int 1) j p2] X.env)).any (·.1) = false := by rfl) :
    JI X (.Tuple elts kk tpos) (.Call (.Name "enumerate" p) [e, .Constant (.int 1) j p2] [] pos) (iEnu 1 f) := ji_of (pi_enum2 ⟨by decide, by decide⟩ hg T.enumerate h pe_int hs hs2 hpl) (si_enum2 se_self)
theorem ji_zip (T : Bi X.mg) (ha : JE X a f) (hb : JE X b g) (hg : Gl X "zip" := by rfl) (hs : starEach [a, b] X.env = (false, eval a X.env) :: starEach [b] X.env := by rfl) (hs2 : starEach [b] X.env = (false, eval b X.env) :: starEach [] X.env := by rfl) (hpl : (backTo pos (starEach [b] X.env)).any (·.1) = false := by rfl) :
    JI X (.Tuple elts kk tpos) (.Call (.Name "zip" p) [a, b] [] pos) (iZp f g) := ji_of (RZ.pi_zipA hg T.zip (pa_cons ha (pa_cons hb pa_nil hs2) hs) hs hpl) (si_zip se_self se_self)
theorem ji_r1 (T : Bi X.mg) (h : JE X a f) (hg : Gl X "range" := by rfl) (hs : starEach [a] X.env = [(false, eval a X.env)] := by rfl) : JI X tg (.Call (.Name "range" p) [a] [] pos) (iR1 f) := ji_of (pi_range1 hg T.range (pa_cons h pa_nil hs) hs) (si_r1 se_self)
theorem ji_r2 (T : Bi X.mg) (ha : JE X a f) (hb : JE X b g) (hg : Gl X "range" := by rfl) (hs : starEach [a, b] X.env = (false, eval a X.env) :: starEach [b] X.env := by rfl) (hs2 : starEach [b] X.env = (false, eval b X.env) :: starEach [] X.env := by rfl) :
    JI X tg (.Call (.Name "range" p) [a, b] [] pos) (iR2 f g) := ji_of (pi_range2 hg T.range (pa_cons ha (pa_cons hb pa_nil hs2) hs) (by rw [hs, hs2]; rfl) hs2) (si_r2 se_self se_self)
end
end Md

set_option Elab.async false
set_option linter.all false
set_option maxRecDepth 100000
set_option maxHeartbeats 2000000
/-! Md: targets, comprehensions. -/
namespace Md
open PySem PySem.Spec PyProof.Rows L2

theorem rgC_ev {b : Int} (h0 : 0 ≤ b) (h1 : b ≤ 100000) : RgC 0 b 2 ((b + 1) / 2).toNat := by
  have rs : Builtin.Range.rangeSize 0 b 2 = (((b + 1) / 2).toNat : Int) := by
    unfold Builtin.Range.rangeSize
    simp only [show (2 : Int) > 0 by decide, if_true]
    split <;> omega
  refine ⟨by decide, by decide, ?_, rs⟩
  unfold Builtin.Range.small
  rw [rs]
  simp only [Builtin.Range.rangeFitsLong, Bool.and_eq_true, Bool.or_eq_true, decide_eq_true_eq, beq_iff_eq, show (2 : Int) > 0 by decide, if_true]
  omega
section
variable {X : Cx} {tg a b c e : Expr} {f g : FE} {pos p : Pos} {K : PySem.W.Frag}
theorem si_ev {tb : TE} (h : SE K tb g) : SI K (iRng3 (tCons (tC (.int 0)) (tCons tb (tCons (tC (.int 2)) tNil)))) (iEv g) := by
  intro σ S H ρ ds ρ' R rep e k
  obtain ⟨⟨x, ρ1⟩, e1, e2⟩ := bind2 e
  refine h σ S H ρ x ρ1 _ rep e1 fun v S1 H1 n1 r1 => ?_
  cases r1 with
  | int n =>
    have e2 : (if 0 ≤ n ∧ n ≤ 100000 then some (evD n, ρ1) else none) = some (ds, ρ') := e2
    split at e2
    · rename_i hn
      cases e2
      refine ⟨0, n, 2, _, rfl, rgC_ev hn.1 hn.2, k _ S1 H1 n1 ?_⟩
      have w : Wk K (Itc 0 2 ((n + 1) / 2).toNat) S1 ((List.range ((n + 1) / 2).toNat).map fun i => .int (0 + (i : Nat) * 2)) := wk_rngC
      have ed : ((List.range ((n + 1) / 2).toNat).map fun (i : Nat) => PyData.int (0 + (i : Nat) * 2)) = evD n := by
        unfold evD
        exact List.map_congr_left fun i _ => by rw [Int.zero_add]
      rw [ed] at w
      exact w
    · cases e2
  | _ => cases e2
theorem ji_ev {j1 j2 : Nat} {p1 p2 : Pos} (T : Bi X.mg) (hb : JE X b g) (hg : Gl X "range" := by rfl) (hs : starEach [.Constant (.int 0) j1 p1, b, .Constant (.int 2) j2 p2] X.env = (false, eval (.Constant (.int 0) j1 p1) X.env) :: starEach [b, .Constant (.int 2) j2 p2] X.env := by rfl)
    (hs2 : starEach [b, .Constant (.int 2) j2 p2] X.env = (false, eval b X.env) :: starEach [.Constant (.int 2) j2 p2] X.env := by rfl) (hs3 : starEach [.Constant (.int 2) j2 p2] X.env = (false, eval (.Constant (.int 2) j2 p2) X.env) :: starEach [] X.env := by rfl)
    (hpl : (backTo pos (starEach [b, .Constant (.int 2) j2 p2] X.env)).any (·.1) = false := by rfl) : JI X tg (.Call (.Name "range" p) [.Constant (.int 0) j1 p1, b, .Constant (.int 2) j2 p2] [] pos) (iEv g) :=
  ji_of (pi_range3 hg T.range (pa_cons pe_int (pa_cons hb (pa_cons pe_int pa_nil hs3) hs2) hs) hs hpl) (si_ev se_self)
end

/-! ### targets -/
abbrev FG := PyData → En → Option En
abbrev FGs := List PyData → En → Option En
/-- what is stored at js: all else is as it was, nothing of one's own stands there -/
structure Put (js : List Nat) (σ : St) (ρ : En) (σ' : St) (ρ' : En) : Prop where
  same : ∀ i, i ∉ js → σ'[i]? = σ[i]? ∧ ρ'[i]? = ρ[i]?
  noown : ∀ i ds, i ∈ js → ρ'[i]? ≠ some (some (.own ds))
  len : ρ'.length = ρ.length
def SG (K : PySem.W.Frag) (t : TG) (b : FG) (js : List Nat) : Prop := ∀ v d σ S H ρ ρ' Q, Rep K σ S H ρ → Rp K S v d → b d ρ = some ρ' → (∀ σ', Rep K σ' S H ρ' → Put js σ ρ σ' ρ' → Q σ' H) → t v σ H Q
def SGs (K : PySem.W.Frag) (t : TGs) (b : FGs) (js : List Nat) : Prop := ∀ vs ds σ S H ρ ρ' Q, Rep K σ S H ρ → RpL K S vs ds → b ds ρ = some ρ' → (∀ σ', Rep K σ' S H ρ' → Put js σ ρ σ' ρ' → Q σ' H) → t vs σ H Q
def tGt (K : PySem.W.Frag) (b : FG) (js : List Nat) : TG := fun v σ H Q => ∃ d S ρ ρ', Rep K σ S H ρ ∧ Rp K S v d ∧ b d ρ = some ρ' ∧ ∀ σ', Rep K σ' S H ρ' → Put js σ ρ σ' ρ' → Q σ' H
def tGts (K : PySem.W.Frag) (b : FGs) (js : List Nat) : TGs := fun vs σ H Q => ∃ ds S ρ ρ', Rep K σ S H ρ ∧ RpL K S vs ds ∧ b ds ρ = some ρ' ∧ ∀ σ', Rep K σ' S H ρ' → Put js σ ρ σ' ρ' → Q σ' H
abbrev JG (X : Cx) (tg : Expr) (b : FG) (js : List Nat) : Prop := PG X tg (tGt X.K b js)
abbrev JGs (X : Cx) (tgs : List Expr) (b : FGs) (js : List Nat) : Prop := PGs X tgs (tGts X.K b js)
def bName (i : Nat) : FG := fun d ρ => some (ρ.set i (some (.val d)))
def bNil : FGs := fun ds ρ => match ds with
  | [] => some ρ
  | _ => none
def bCons (b : FG) (bs : FGs) : FGs := fun ds ρ => match ds with
  | d :: r => (b d ρ).bind fun ρ1 => bs r ρ1
  | [] => none
def bTup (n : Nat) (bs : FGs) : FG := fun d ρ => match d with
  | .tuple ds => if ds.length = n then bs ds ρ else none
  | _ => none
section
variable {K : PySem.W.Frag} {σ : St} {S H : Hp} {ρ : En}
theorem sg_self {b : FG} {js : List Nat} : SG K (tGt K b js) b js := fun v d σ S H ρ ρ' Q r q e k => ⟨d, S, ρ, ρ', r, q, e, k⟩
theorem sgs_self {b : FGs} {js : List Nat} : SGs K (tGts K b js) b js := fun v d σ S H ρ ρ' Q r q e k => ⟨d, S, ρ, ρ', r, q, e, k⟩
theorem jg_of {X : Cx} {tg : Expr} {t : TG} {b : FG} {js : List Nat} (h : PG X tg t) (s : SG X.K t b js) : JG X tg b js := ⟨fun pins st σ H v u Q I rv ⟨d, S, ρ, ρ', r, q, e, k⟩ => h.run pins st σ H v u Q I rv (s v d σ S H ρ ρ' Q r q e k)⟩
theorem jgs_of {X : Cx} {tg : List Expr} {t : TGs} {b : FGs} {js : List Nat} (h : PGs X tg t) (s : SGs X.K t b js) : JGs X tg b js := ⟨fun pins st σ H v u Q I rv ⟨d, S, ρ, ρ', r, q, e, k⟩ => h.run pins st σ H v u Q I rv (s v d σ S H ρ ρ' Q r q e k)⟩
/-- a name holds a value -/
theorem Rep.set (r : Rep K σ S H ρ) {v : V} {d : PyData} (q : Rp K S v d) (i : Nat) : Rep K (σ.set i (some v)) S H (ρ.set i (some (.val d))) := by
  have own2 : ∀ (j : Nat) (es : List PyData), (ρ.set i (some (.val d)))[j]? = some (some (.own es)) → j ≠ i ∧ ρ[j]? = some (some (.own es)) := fun j es h => by
    by_cases z : j = i
    · subst z
      by_cases hl : j < ρ.length
      · rw [List.getElem?_set_self hl] at h; cases h
      · rw [List.getElem?_eq_none (by rw [List.length_set]; omega)] at h; cases h
    · rw [List.getElem?_set_ne (Ne.symm z)] at h; exact ⟨z, h⟩
  refine ⟨by rw [List.length_set, List.length_set]; exact r.len, r.sub, fun j x h => ?_, fun j es h => ?_, fun j j' es es' p h h' q q' => ?_⟩
  · by_cases z : j = i
    · subst z
      have hl : j < ρ.length := by have := (List.getElem?_eq_some_iff.mp h).1; rw [List.length_set] at this; exact this
      rw [List.getElem?_set_self hl] at h
      cases h
      exact ⟨v, List.getElem?_set_self (by rw [r.len]; exact hl), q⟩
    · rw [List.getElem?_set_ne (Ne.symm z)] at h ⊢
      exact r.val j x h
  · obtain ⟨z, h⟩ := own2 j es h
    rw [List.getElem?_set_ne (Ne.symm z)]
    exact r.own j es h
  · obtain ⟨z, h⟩ := own2 j es h
    obtain ⟨z', h'⟩ := own2 j' es' h'
    rw [List.getElem?_set_ne (Ne.symm z)] at q
    rw [List.getElem?_set_ne (Ne.symm z')] at q'
    exact r.apart j j' es es' p h h' q q'
theorem sg_name {i : Nat} : SG K (gName i) (bName i) [i] := by
  intro v d σ S H ρ ρ' Q r q e k
  cases e
  refine k _ (r.set q i) ⟨fun j hj => ?_, fun j ds hj => ?_, ?_⟩
  · have z : i ≠ j := fun e => hj (by rw [e]; exact List.mem_singleton.mpr rfl)
    exact ⟨List.getElem?_set_ne z, List.getElem?_set_ne z⟩
  · rw [List.mem_singleton.mp hj]
    by_cases hl : i < ρ.length
    · rw [List.getElem?_set_self hl]; exact fun z => by cases z
    · rw [List.getElem?_eq_none (by rw [List.length_set]; omega)]; exact fun z => by cases z
  · rw [List.length_set]
theorem sgs_nil : SGs K gNil bNil [] := by
  intro vs ds σ S H ρ ρ' Q r q e k
  cases ds with
  | nil => cases e; cases q; exact ⟨rfl, k σ r ⟨fun _ _ => ⟨rfl, rfl⟩, fun _ _ h => (nomatch h), rfl⟩⟩
  | cons d ds => cases e
theorem Put.trans {js js' : List Nat} {σ1 σ2 : St} {ρ1 ρ2 : En} (x : Put js σ ρ σ1 ρ1) (y : Put js' σ1 ρ1 σ2 ρ2) : Put (js ++ js') σ ρ σ2 ρ2 := by
  refine ⟨fun i hi => ?_, fun i ds hi => ?_, y.len.trans x.len⟩
  · rw [List.mem_append, not_or] at hi
    exact ⟨(y.same i hi.2).1.trans (x.same i hi.1).1, (y.same i hi.2).2.trans (x.same i hi.1).2⟩
  · by_cases z : i ∈ js'
    · exact y.noown i ds z
    · rw [(y.same i z).2]
      exact x.noown i ds ((List.mem_append.mp hi).resolve_right z)
theorem sgs_cons {t : TG} {u : TGs} {b : FG} {bs : FGs} {js js' : List Nat} (h : SG K t b js) (h' : SGs K u bs js') : SGs K (gCons t u) (bCons b bs) (js ++ js') := by
  intro vs ds σ S H ρ ρ' Q r q e k
  cases ds with
  | nil => cases e
  | cons d ds =>
    cases q with
    | @cons v vs _ _ q1 q2 =>
      obtain ⟨ρ1, e1, e2⟩ := bind2 e
      refine ⟨v, vs, rfl, h v d σ S H ρ ρ1 _ r q1 e1 fun σ1 r1 p1 => ?_⟩
      exact h' vs ds σ1 S H ρ1 ρ' Q r1 q2 e2 fun σ2 r2 p2 => k σ2 r2 (p1.trans p2)
theorem sg_tup {n : Nat} {t : TGs} {bs : FGs} {js : List Nat} (h : SGs K t bs js) : SG K (gTup K n t) (bTup n bs) js := by
  intro v d σ S H ρ ρ' Q r q e k
  cases q with
  | @tup a vs ds ha hq =>
    have e : (if ds.length = n then bs ds ρ else none) = some ρ' := e
    split at e
    · rename_i hn
      exact ⟨a, vs, rfl, r.sub.seqT ha, by rw [hq.length]; exact hn, h vs ds σ S H ρ ρ' Q r hq e k⟩
    · cases e
  | _ => cases e
/-- a store as a step -/
theorem Put.nx {js : List Nat} {σ' : St} {ρ' : En} (p : Put js σ ρ σ' ρ') (r : Rep K σ S H ρ) (r' : Rep K σ' S H ρ') (h0 : 0 ∉ js) : Nx K σ ρ S H σ' ρ' S H := by
  refine ⟨Stp.refl r.sub, r', fun a ⟨i, ds, q1, q2⟩ => ?_, (p.same 0 h0).1, fun es h => ⟨es, by rw [(p.same 0 h0).2]; exact h⟩⟩
  by_cases z : i ∈ js
  · exact absurd q1 (p.noown i ds z)
  · rw [(p.same i z).2] at q1
    rw [(p.same i z).1] at q2
    exact .inl ⟨i, ds, q1, q2⟩
end
section
variable {X : Cx} {tg : Expr} {tgs : List Expr} {b : FG} {bs : FGs} {js js' : List Nat} {pos : Pos} {i : Nat} {x : Str}
theorem jg_name (i : Nat) (hN : X.N.Nodup) (hi : X.N[i]? = some x := by rfl) (hx : Loc X.env.scope x := by first | exact Or.inl rfl | exact Or.inr rfl) (hf : X.fn x = true ∨ X.env.scope.names.lookup x = some .local := by first | exact .inl rfl | exact .inr rfl) : JG X (.Name x pos) (bName i) [i] := jg_of (pg_name hN hi hx hf) sg_name
theorem jgs_nil : JGs X [] bNil [] := jgs_of pgs_nil sgs_nil
theorem jgs_cons (h : JG X tg b js) (h' : JGs X tgs bs js') (hs : (assignEach (tg :: tgs) X.env).map (·.2) = assign tg X.env :: (assignEach tgs X.env).map (·.2) := by rfl) : JGs X (tg :: tgs) (bCons b bs) (js ++ js') := jgs_of (pgs_cons h h' hs) (sgs_cons sg_self sgs_self)
theorem jg_tup {k n : Nat} (hc : X.calm = true) (h : JGs X tgs bs js) (hn : (assignEach tgs X.env).length = n := by rfl) (hst : (assignEach tgs X.env).findIdx? (·.1) = none := by rfl) : JG X (.Tuple tgs k pos) (bTup n bs) js := jg_of (pg_tup hc h hn hst) (sg_tup sgs_self)
end

/-! ### comprehensions -/
def wipeE (ρ : En) : List Nat → En
  | [] => ρ
  | v :: vs => (wipeE ρ vs).set v none
theorem wipeE_len (ρ : En) : ∀ vs, (wipeE ρ vs).length = ρ.length
  | [] => rfl
  | v :: vs => by unfold wipeE; rw [List.length_set, wipeE_len ρ vs]
theorem wipeE_get {ρ : En} {i : Nat} {s : Sl} : ∀ {vs : List Nat}, (wipeE ρ vs)[i]? = some (some s) → ρ[i]? = some (some s) ∧ i ∉ vs
  | [], h => ⟨h, by simp⟩
  | v :: vs, h => by
    unfold wipeE at h
    by_cases hi : v = i
    · subst hi
      by_cases hv : v < (wipeE ρ vs).length
      · rw [List.getElem?_set_self hv] at h; cases h
      · rw [List.getElem?_eq_none (by rw [List.length_set]; omega)] at h; cases h
    · rw [List.getElem?_set_ne hi] at h
      obtain ⟨h1, h2⟩ := wipeE_get h
      exact ⟨h1, by simp only [List.mem_cons, not_or]; exact ⟨fun e => hi e.symm, h2⟩⟩
theorem wipe_out {σ : St} {i : Nat} : ∀ {vs : List Nat}, i ∉ vs → (wipe σ vs)[i]? = σ[i]?
  | [], _ => rfl
  | v :: vs, h => by
    simp only [List.mem_cons, not_or] at h
    unfold wipe
    rw [List.getElem?_set_ne (Ne.symm h.1)]
    exact wipe_out h.2
theorem wipe_in {σ : St} {i : Nat} (hl : i < σ.length) : ∀ {vs : List Nat}, i ∈ vs → (wipe σ vs)[i]? = some none
  | [], h => nomatch h
  | v :: vs, h => by
    unfold wipe
    by_cases z : v = i
    · subst z
      exact List.getElem?_set_self (by rw [wipe_length]; exact hl)
    · rw [List.getElem?_set_ne z]
      exact wipe_in hl ((List.mem_cons.mp h).resolve_left fun e => z e.symm)
theorem wipe_eq {σ σ' : St} {vs : List Nat} (hl : σ'.length = σ.length) (h : ∀ i, i ∉ vs → σ'[i]? = (wipe σ vs)[i]?) : wipe σ' vs = wipe σ vs := by
  refine List.ext_getElem? fun i => ?_
  by_cases hi : i ∈ vs
  · by_cases hx : i < σ.length
    · rw [wipe_in hx hi, wipe_in (by rw [hl]; exact hx) hi]
    · rw [List.getElem?_eq_none (by rw [wipe_length]; omega), List.getElem?_eq_none (by rw [wipe_length]; omega)]
  · rw [wipe_out hi, h i hi]
/-- the turns -/
def compD (b : FG) (c : FT) (f : FE) (ρ : En) : List PyData → Option (List PyData)
  | [] => some []
  | d :: ds => (b d ρ).bind fun ρ1 => (c ρ1).bind fun p => match p.1 with
    | true => (f p.2).bind fun q => (compD b c f ρ ds).map fun r => q.1 :: r
    | false => compD b c f ρ ds
def cYes : FT := fun ρ => some (true, ρ)
def fComp (it : FA) (b : FG) (c : FT) (f : FE) (vs : List Nat) : FE := fun ρ => (it ρ).bind fun p => if p.1.length ≤ 1000 then (compD b c f (wipeE (hide p.2) vs) p.1).map fun ys => (.list ys, p.2) else none
section
variable {K : PySem.W.Frag} {σ : St} {S H : Hp} {ρ : En}
theorem Rep.wiped (r : Rep K σ S H ρ) (vs : List Nat) : Rep K (wipe σ vs) S H (wipeE (hide ρ) vs) := by
  have pr : ∀ (i : Nat) (ds : List PyData), (wipeE (hide ρ) vs)[i]? ≠ some (some (.own ds)) := fun i ds h => hide_own (wipeE_get h).1
  refine ⟨by rw [wipe_length, wipeE_len, hide_len]; exact r.len, r.sub, fun i d h => ?_, fun i ds h => absurd h (pr i ds), fun i j ds es p h => absurd h (pr i ds)⟩
  obtain ⟨h1, h2⟩ := wipeE_get h
  obtain ⟨v, h3, h4⟩ := r.val i d (hide_val h1)
  exact ⟨v, by rw [wipe_out h2]; exact h3, h4⟩
theorem wiped_pure (ρ : En) (vs : List Nat) : Pure (wipeE (hide ρ) vs) := fun i ds h => hide_own (wipeE_get h).1
theorem compD_len {b : FG} {c : FT} {f : FE} {ρ : En} : ∀ {ds ys : List PyData}, compD b c f ρ ds = some ys → ys.length ≤ ds.length
  | [], ys, h => by cases h; exact Nat.le_refl _
  | d :: ds, ys, h => by
    obtain ⟨ρ1, _, h1⟩ := bind2 h
    obtain ⟨⟨t, ρ2⟩, _, h2⟩ := bind2 h1
    cases t with
    | true =>
      obtain ⟨⟨y, ρ3⟩, _, h3⟩ := bind2 h2
      obtain ⟨r, h4, rfl⟩ := map2 h3
      have := compD_len h4
      simp only [List.length_cons]; omega
    | false =>
      have := compD_len (show compD b c f ρ ds = some ys from h2)
      simp only [List.length_cons]; omega
/-- what holds at a turn: acc stands at D, which is not known yet -/
structure AtTurn (K : PySem.W.Frag) (S1 H1 : Hp) (D : Addr) (ys : List PyData) (H : Hp) (S' : Hp) (acc : List V) : Prop where
  stp : Stp (fun a => a = D) S1 H1 S' H
  hid : S' D = none
  here : H D = some (.lst acc)
  rel : RpL K S' acc ys
theorem se_comp {wi : TI} {it : FA} {g : TG} {b : FG} {js vs : List Nat} {tt : TT} {c : FT} {te : TE} {f : FE} (hi : SI K wi it) (hg : SG K g b js) (hj : ∀ i ∈ js, i ∈ vs) (ht : ST K tt c) (he : SE K te f) : SE K (tLc wi g tt te vs) (fComp it b c f vs) := by
  intro σ S H ρ d ρ' Q rep e k
  obtain ⟨⟨ds, ρ1⟩, e1, e2⟩ := bind2 e
  split at e2
  · rename_i hl
    obtain ⟨zs, e3, e4⟩ := map2 e2
    cases e4
    refine hi σ S H ρ ds _ _ rep e1 fun J S1 H1 n1 w => fun D hD => ?_
    have hl : ds.length ≤ 1000 := hl
    have e3 : compD b c f (wipeE (hide ρ1) vs) ds = some zs := e3
    refine ⟨fun i m H' => m = ds.length - i ∧ i ≤ ds.length ∧ ∃ S' acc ys rs, AtTurn K S1 H1 D ys H' S' acc ∧ compD b c f (wipeE (hide ρ1) vs) (ds.drop i) = some rs ∧ zs = ys ++ rs,
      ⟨ds.length, by simp, Nat.zero_le _, S1, [], [], zs, ⟨(Stp.hidden n1.rep.sub hD).mono fun _ z => z, n1.rep.sub.fr hD, upd_same, .nil⟩, e3, rfl⟩, ?_⟩
    rintro i m H' ⟨rfl, hi', S', acc, ys, rs, t, er, ez⟩
    have sub' := t.stp.sub
    by_cases hlt : i < ds.length
    · right
      refine ⟨w.goes i S' H' hlt t.stp.ex sub', fun H2 => (i + 1 ≤ ds.length ∧ ∃ S' acc ys rs, AtTurn K S1 H1 D ys H2 S' acc ∧ compD b c f (wipeE (hide ρ1) vs) (ds.drop (i + 1)) = some rs ∧ zs = ys ++ rs),
        fun H2 h2 => ⟨ds.length - (i + 1), by omega, rfl, h2⟩, fun x H2 y => ?_⟩
      obtain ⟨S2, s2, hx⟩ := w.yields i S' H' x H2 hlt t.stp.ex sub' y
      have hd : ds.drop i = ds[i] :: ds.drop (i + 1) := List.drop_eq_getElem_cons hlt
      rw [hd] at er
      obtain ⟨ρ2, b1, er2⟩ := bind2 er
      obtain ⟨⟨tb, ρ3⟩, c1, er3⟩ := bind2 er2
      have rx := hx ds[i] (List.getElem?_eq_getElem hlt)
      -- the block's environment
      have hD2 : S2 D = none := s2.hid t.hid (by rw [t.here]; exact fun z => by cases z)
      have keepD : ∀ {Sa Ha : Hp}, Stp NoA S2 H2 Sa Ha → Sa D = none ∧ Ha D = some (.lst acc) := fun x =>
        have h2 : H2 D = some (.lst acc) := s2.le _ _ t.here
        ⟨x.hid hD2 (by rw [h2]; exact fun z => by cases z), x.le _ _ h2⟩
      have base : Rep K (wipe σ vs) S2 H2 (wipeE (hide ρ1) vs) := by
        have q := (n1.rep.wiped vs)
        -- carried to S2, H2
        refine ⟨q.len, s2.sub, fun j x h => ?_, fun j es h => absurd h (wiped_pure ρ1 vs j es), fun j j' es es' p h => absurd h (wiped_pure ρ1 vs j es)⟩
        obtain ⟨v, h1, h2⟩ := q.val j x h
        exact ⟨v, h1, h2.m (t.stp.ex.trans s2.ex)⟩
      refine hg x ds[i] (wipe σ vs) S2 H2 (wipeE (hide ρ1) vs) ρ2 _ base rx b1 fun σ2 r2 p2 => ?_
      have pure2 : Pure ρ2 := fun j es h => by
        by_cases z : j ∈ js
        · exact p2.noown j es z h
        · rw [(p2.same j z).2] at h
          exact wiped_pure ρ1 vs j es h
      have len2 : σ2.length = σ.length := by rw [r2.len, p2.len, ← base.len, wipe_length]
      have ly : ys.length ≤ 1000 := by
        have := compD_len e3
        rw [ez, List.length_append] at this
        omega
      refine ⟨wipe_eq len2 fun j hj' => (p2.same j fun z => hj' (hj j z)).1, ?_⟩
      refine ht σ2 S2 H2 ρ2 tb ρ3 _ r2 c1 fun S3 H3 n3 => ?_
      cases tb with
      | false =>
        have s3 := n3.pure pure2
        obtain ⟨d3, h3⟩ := keepD s3
        exact ⟨hlt, S3, acc, ys, rs, ⟨(t.stp.trans s2 fun _ z => z.elim).trans s3 fun _ z => z.elim, d3, h3, t.rel.m (s2.ex.trans s3.ex)⟩, er3, ez⟩
      | true =>
        obtain ⟨⟨yd, ρ4⟩, f1, er4⟩ := bind2 er3
        obtain ⟨r', er5, rfl⟩ := map2 er4
        show te σ2 H3 _
        refine he σ2 S3 H3 ρ3 yd ρ4 _ n3.rep f1 fun v S4 H4 n4 ry => ?_
        have s4 := (n3.trans n4).pure pure2
        obtain ⟨d4, h4⟩ := keepD s4
        refine ⟨acc, h4, Nat.lt_of_le_of_lt (show acc.length ≤ 1000 by rw [t.rel.length]; exact ly) (by decide), hlt, S4, acc ++ [v], ys ++ [yd], r', ⟨?_, d4, upd_same, (t.rel.m (s2.ex.trans s4.ex)).app (.one ry)⟩, er5, by rw [ez, List.append_assoc]; rfl⟩
        exact ((t.stp.trans s2 fun _ z => z.elim).trans s4 fun _ z => z.elim).trans (Stp.write (A := fun a => a = D) s4.sub d4 rfl) fun _ z => .inl z
    · left
      have ei : i = ds.length := by omega
      subst ei
      rw [List.drop_length] at er
      cases er
      rw [List.append_nil] at ez
      subst ez
      refine ⟨w.stops S' H' t.stp.ex sub', ?_⟩
      have sub2 : Le (upd S' D (.lst acc)) H' := fun a o e => by
        by_cases z : a = D
        · subst z; rw [upd_same] at e; cases e; exact t.here
        · rw [upd_ne z] at e; exact sub' a o e
      refine k _ (upd S' D (.lst acc)) H' (n1.trans (Nx.step n1.rep ⟨t.stp.ex.trans (Le.new t.hid), sub2, fun a o e _ => t.stp.keep a o e (ne_of_none e hD), t.stp.there, fun a e => ?_⟩)) (.lst (.inl upd_same) (t.rel.m (Le.new t.hid)))
      by_cases z : a = D
      · rw [z]; exact .inr (.inl hD)
      · rw [upd_ne z] at e
        rcases t.stp.new a e with q | q | q
        · exact .inl q
        · exact .inr (.inl q)
        · exact absurd q z
  · cases e2
end
end Md

set_option Elab.async false
set_option linter.all false
set_option maxRecDepth 100000
set_option maxHeartbeats 2000000
/-! Md: comprehensions of the text, calls of the text's own defs, statements. -/
namespace Md
open PySem PySem.Spec PyProof.Rows L2

abbrev JTs (X : Cx) (es : List Expr) (f : FT) : Prop := PTs X es (tT X.K f)
section
variable {X : Cx} {K : PySem.W.Frag}
theorem st_yes : ST K tYes cYes := fun σ S H ρ b ρ' Q rep e k => by
  cases e
  exact k S H (Nx.refl rep)
theorem jts_of {es : List Expr} {t : TT} {f : FT} (h : PTs X es t) (s : ST X.K t f) : JTs X es f := ⟨fun pins st σ H Q I ⟨S, ρ, d, ρ', r, e, k⟩ => h.run pins st σ H Q I (s σ S H ρ d ρ' Q r e k)⟩
theorem jts_nil : JTs X [] cYes := jts_of pts_nil st_yes
theorem jts_one {e : Expr} {c : FT} (h : JT X e c) : JTs X [e] c := pts_one h
theorem je_comp {elt tg iter : Expr} {ifs : List Expr} {scope : Scope} {pos : Pos} {it : FA} {b : FG} {js : List Nat} {c : FT} {f : FE} (own : List (Str × Nat)) (hc : X.calm = true) (hN : X.N.Nodup) (hi : JI X tg iter it) (ok : BlkOk X.N X.env.scope scope own) (hj : ∀ i ∈ js, i ∈ own.map (·.2))
    (hg : ∀ (s : Shared) (H : Hp) (C : Addr) (cl : List (Str × Addr)) (fp : List Addr), JG (X.blk s H scope (compEnvC scope cl C X.env) fp) tg b js) (ht : ∀ (s : Shared) (H : Hp) (C : Addr) (cl : List (Str × Addr)) (fp : List Addr), JTs (X.blk s H scope (compEnvC scope cl C X.env) fp) ifs c)
    (he : ∀ (s : Shared) (H : Hp) (C : Addr) (cl : List (Str × Addr)) (fp : List Addr), JE (X.blk s H scope (compEnvC scope cl C X.env) fp) elt f) (hs : ∀ x, foldedSetIterable iter X.env x = pure x := by intro _; rfl) :
    JE X (.ListComp elt [⟨tg, iter, ifs, 0⟩] scope pos) (fComp it b c f (own.map (·.2))) := je_of (pe_lc hc hN hi ok hg ht he hs) (se_comp si_self sg_self hj st_self se_self)
end

/-! ### promises -/
/-- no list of one's own goes in or out -/
def spV (K : PySem.W.Frag) (g : List PyData → Option PyData) : Sp := fun vs H Q _ => ∃ S ds d, Le S H ∧ RpL K S vs ds ∧ g ds = some d ∧ ∀ v S' H', Stp NoA S H S' H' → Rp K S' v d → Q v H'
/-- a new list of the caller's own comes out -/
def spN (K : PySem.W.Frag) (g : List PyData → Option (List PyData)) : Sp := fun vs H Q _ => ∃ S ds zs, Le S H ∧ RpL K S vs ds ∧ g ds = some zs ∧
  ∀ p xs S' H', Stp NoA S H S' H' → H p = none → S' p = none → H' p = some (.lst xs) → RpL K S' xs zs → Q (.ref p) H'
/-- the first argument is a list of the caller's own, and is changed -/
def spO (K : PySem.W.Frag) (g : List PyData → List PyData → Option (PyData × List PyData)) : Sp := fun vs H Q _ => ∃ S p xs es ws ds d es', vs = .ref p :: ws ∧ Le S H ∧ S p = none ∧ H p = some (.lst xs) ∧ RpL K S xs es ∧ RpL K S ws ds ∧ g es ds = some (d, es') ∧
  ∀ v xs' S' H', Stp (fun a => a = p) S H S' H' → S' p = none → H' p = some (.lst xs') → RpL K S' xs' es' → Rp K S' v d → Q v H'
theorem RpL.nil_app {K : PySem.W.Frag} {S : Hp} {vs : List V} {ds : List PyData} (h : RpL K S vs ds) : RpL K S (vs ++ []) ds := by rw [List.append_nil]; exact h
def fCallO (g : List PyData → List PyData → Option (PyData × List PyData)) (i : Nat) (ga : FA) : FE := fun ρ => match ρ[i]? with
  | some (some (.own _)) => (ga ρ).bind fun p => match p.2[i]? with
    | some (some (.own es)) => (g es p.1).map fun r => (r.1, p.2.set i (some (.own r.2)))
    | _ => none
  | _ => none
def fCallT (g : List PyData → List PyData → Option (PyData × List PyData)) (n0 : FA) : FE := fun ρ => (n0 ρ).bind fun p => (g p.1 []).map fun r => (r.1, p.2)
section
variable {K : PySem.W.Frag} {σ : St} {S H : Hp} {ρ : En}
theorem se_call {g : List PyData → Option PyData} {ta : TA} {ga : FA} (h : SA K ta ga) : SE K (tCall (spV K g) [] E0 ta) (fCB g ga) := by
  intro σ S H ρ d ρ' Q rep e k
  obtain ⟨⟨xs, ρ1⟩, e1, e2⟩ := bind2 e
  obtain ⟨z, e3, e4⟩ := map2 e2
  cases e4
  refine h σ S H ρ xs _ _ rep e1 fun vs S1 H1 n1 r1 => ?_
  exact ⟨S1, xs, d, n1.rep.sub, r1.nil_app, e3, fun v S2 H2 s2 r2 => k v S2 H2 (n1.trans (Nx.step n1.rep s2)) r2⟩
theorem sn_call {g : List PyData → Option (List PyData)} {ta : TA} {ga : FA} (h : SA K ta ga) : SN K (tCall (spN K g) [] E0 ta) (nCB g ga) := by
  intro σ S H ρ d ρ' Q rep e k
  obtain ⟨⟨xs, ρ1⟩, e1, e2⟩ := bind2 e
  obtain ⟨z, e3, e4⟩ := map2 e2
  cases e4
  refine h σ S H ρ xs _ _ rep e1 fun vs S1 H1 n1 r1 => ?_
  exact ⟨S1, xs, d, n1.rep.sub, r1.nil_app, e3, fun p ws S2 H2 s2 hp hS hH r2 => k p ws S2 H2 (n1.trans (Nx.step n1.rep s2)) (n1.rep.notOwn hp) (n1.stp.there p hp) hS hH r2⟩
/-- an own list has been changed (by a callee, by a store) -/
theorem Rep.wrote (r : Rep K σ S H ρ) {i : Nat} {es es' : List PyData} {p : Addr} {xs' : List V} {S' H' : Hp} (hi : ρ[i]? = some (some (.own es))) (hp : σ[i]? = some (some (.ref p))) (t : Stp (fun a => a = p) S H S' H') (hS : S' p = none) (hH : H' p = some (.lst xs')) (q : RpL K S' xs' es') :
    Nx K σ ρ S H σ (ρ.set i (some (.own es'))) S' H' := by
  have hil : i < ρ.length := (List.getElem?_eq_some_iff.mp hi).1
  have ow : Own σ ρ p := ⟨i, es, hi, hp⟩
  have own2 : ∀ (j : Nat) (zs : List PyData), (ρ.set i (some (.own es')))[j]? = some (some (.own zs)) → (j = i ∧ zs = es') ∨ (j ≠ i ∧ ρ[j]? = some (some (.own zs))) := fun j zs h => by
    by_cases z : j = i
    · subst z; rw [List.getElem?_set_self hil] at h; cases h; exact .inl ⟨rfl, rfl⟩
    · rw [List.getElem?_set_ne (Ne.symm z)] at h; exact .inr ⟨z, h⟩
  have own3 : ∀ (j : Nat) (zs : List PyData), (ρ.set i (some (.own es')))[j]? = some (some (.own zs)) → ∃ zs', ρ[j]? = some (some (.own zs')) := fun j zs h => by
    rcases own2 j zs h with ⟨rfl, _⟩ | ⟨_, h⟩
    · exact ⟨es, hi⟩
    · exact ⟨zs, h⟩
  refine ⟨t.mono fun a e => by rw [e]; exact ow, ⟨by rw [List.length_set]; exact r.len, t.sub, fun j d h => ?_, fun j zs h => ?_, fun j j' zs zs' a h h' g g' => ?_⟩, fun a ⟨j, zs, h1, h2⟩ => ?_, rfl, fun zs h => ?_⟩
  · have z : j ≠ i := fun z => by subst z; rw [List.getElem?_set_self hil] at h; cases h
    rw [List.getElem?_set_ne (Ne.symm z)] at h
    obtain ⟨v, h1, h2⟩ := r.val j d h
    exact ⟨v, h1, h2.m t.ex⟩
  · rcases own2 j zs h with ⟨rfl, rfl⟩ | ⟨z, h⟩
    · exact ⟨p, xs', hp, hS, hH, q⟩
    · obtain ⟨a, ws, h1, h2, h3, h4⟩ := r.own j zs h
      have ne : a ≠ p := fun w => by subst w; exact z (r.apart j i zs es a h hi h1 hp)
      refine ⟨a, ws, h1, ?_, t.keep a _ h3 ne, h4.m t.ex⟩
      cases e : S' a with
      | none => rfl
      | some o =>
        rcases t.new a (by rw [e]; exact fun z => by cases z) with w | w | w
        · exact absurd h2 w
        · rw [h3] at w; cases w
        · exact absurd w ne
  · obtain ⟨y, h⟩ := own3 j zs h
    obtain ⟨y', h'⟩ := own3 j' zs' h'
    exact r.apart j j' y y' a h h' g g'
  · obtain ⟨y, h⟩ := own3 j zs h1
    exact .inl ⟨j, y, h, h2⟩
  · by_cases z : i = 0
    · subst z; exact ⟨es', List.getElem?_set_self hil⟩
    · exact ⟨zs, by rw [List.getElem?_set_ne z]; exact h⟩
theorem se_callO {g : List PyData → List PyData → Option (PyData × List PyData)} {i : Nat} {ta : TA} {ga : FA} (h : SA K ta ga) : SE K (tCall (spO K g) [] E0 (tCons (tVar i) ta)) (fCallO g i ga) := by
  intro σ S H ρ d ρ' Q rep e k
  unfold fCallO at e
  split at e
  · rename_i zs hz
    obtain ⟨⟨xs, ρ1⟩, e1, e2⟩ := bind2 e
    obtain ⟨p0, _, q1, _⟩ := rep.own i zs hz
    refine ⟨.ref p0, q1, ?_⟩
    refine h σ S H ρ xs ρ1 _ rep e1 fun vs S1 H1 n1 r1 => ?_
    dsimp only at e2
    split at e2
    · rename_i es he
      obtain ⟨⟨y, es'⟩, e3, e4⟩ := map2 e2
      cases e4
      obtain ⟨p, ws, h1, h2, h3, h4⟩ := n1.rep.own i es he
      have ep : p0 = p := by rw [q1] at h1; cases h1; rfl
      subst ep
      refine ⟨S1, p0, ws, es, vs ++ [], xs, _, _, rfl, n1.rep.sub, h2, h3, h4, r1.nil_app, e3, fun v xs' S2 H2 s2 hS hH q r2 => ?_⟩
      exact k v S2 H2 (n1.trans (n1.rep.wrote he h1 s2 hS hH q)) r2
    · cases e2
  · cases e
theorem se_callT {g : List PyData → List PyData → Option (PyData × List PyData)} {te : TE} {n0 : FA} (h : SN K te n0) : SE K (tCall (spO K g) [] E0 (tCons te tNil)) (fCallT g n0) := by
  intro σ S H ρ d ρ' Q rep e k
  obtain ⟨⟨xs, ρ1⟩, e1, e2⟩ := bind2 e
  obtain ⟨⟨y, es'⟩, e3, e4⟩ := map2 e2
  cases e4
  refine h σ S H ρ xs _ _ rep e1 fun p ws S1 H1 n1 no hp hS hH r1 => ?_
  refine ⟨S1, p, ws, xs, [], [], _, _, rfl, n1.rep.sub, hS, hH, r1, .nil, e3, fun v xs' S2 H2 s2 hS2 hH2 q r2 => ?_⟩
  have n2 : Nx K σ ρ1 S1 H1 σ ρ1 S2 H2 → Nx K σ ρ S H σ ρ1 S2 H2 := fun z => n1.trans z
  -- the whole step: p is new since S, H
  have st : Stp (Own σ ρ) S H S2 H2 := n1.stp.trans s2 fun a z => by rw [z]; exact .inr hp
  refine k v S2 H2 ⟨st, ⟨n1.rep.len, s2.sub, fun j x hj => ?_, fun j zs hj => ?_, n1.rep.apart⟩, n1.own, n1.z, n1.zo⟩ r2
  · obtain ⟨u, u1, u2⟩ := n1.rep.val j x hj
    exact ⟨u, u1, u2.m s2.ex⟩
  · obtain ⟨a, us, u1, u2, u3, u4⟩ := n1.rep.own j zs hj
    have ne : a ≠ p := fun z => by subst z; exact no ⟨j, zs, hj, u1⟩
    refine ⟨a, us, u1, ?_, s2.keep a _ u3 ne, u4.m s2.ex⟩
    cases ea : S2 a with
    | none => rfl
    | some o =>
      rcases s2.new a (by rw [ea]; exact fun z => by cases z) with w | w | w
      · exact absurd u2 w
      · rw [u3] at w; cases w
      · exact absurd w ne
end
section
variable {X : Cx} {k : Nat} {fa : Addr} {fd : FuncData} {ps : List Str} {x y : Str} {p p2 pos : Pos} {e : Expr} {es : List Expr} {ga : FA}
/-- a def of the text, known by its promise -/
structure Df (P : Program) (w : World) (K : PySem.W.Frag) (mg : Str → Option Value) (base : Heap) (k : Nat) (x : Str) (sp : Sp) : Prop where
  ok : ∃ fa fd ps, FnOk P w K mg base CX0 k fa fd ps sp ∧ mg x = some (.ref fa) ∧ PySem.W.keepIn K (.ref fa) = true ∧ Binds K fd ps []
abbrev DfX (X : Cx) (k : Nat) (x : Str) (sp : Sp) : Prop := Df X.prog X.w X.K X.mg X.base k x sp
theorem je_call {g : List PyData → Option PyData} (F : DfX X k x (spV X.K g)) (hr : Room k X.A) (ha : JA X (e :: es) ga) (hg : Gl X x := by rfl) (hdb : (x == ("__debug__" : Str)) = false := by decide) (he : starEach (e :: es) X.env = (false, eval e X.env) :: starEach es X.env := by rfl) (hpl : (backTo pos (starEach es X.env)).any (·.1) = false := by rfl) :
    JE X (.Call (.Name x p) (e :: es) [] pos) (fCB g ga) := by
  obtain ⟨fa, fd, ps, h1, h2, h3, h4⟩ := F.ok
  exact je_of (pe_call h1 hr hg h2 h3 h4 .nil pass0 ha hdb he hpl) (se_call sa_self)
theorem jn_call {g : List PyData → Option (List PyData)} (F : DfX X k x (spN X.K g)) (hr : Room k X.A) (ha : JA X (e :: es) ga) (hg : Gl X x := by rfl) (hdb : (x == ("__debug__" : Str)) = false := by decide) (he : starEach (e :: es) X.env = (false, eval e X.env) :: starEach es X.env := by rfl) (hpl : (backTo pos (starEach es X.env)).any (·.1) = false := by rfl) :
    JN X (.Call (.Name x p) (e :: es) [] pos) (nCB g ga) := by
  obtain ⟨fa, fd, ps, h1, h2, h3, h4⟩ := F.ok
  exact jn_of (pe_call h1 hr hg h2 h3 h4 .nil pass0 ha hdb he hpl) (sn_call sa_self)
theorem je_callO {g : List PyData → List PyData → Option (PyData × List PyData)} (i : Nat) (F : DfX X k x (spO X.K g)) (hr : Room k X.A) (ha : JA X es ga) (hN : X.N[i]? = some y := by rfl) (hv : Vis X.env.scope y := by first | exact Or.inl rfl | exact Or.inr (Or.inl rfl) | exact Or.inr (Or.inr rfl)) (hd : (y == ("__debug__" : Str)) = false := by decide)
    (hcd : (y == ("__classdict__" : Str)) = false := by decide) (hg : Gl X x := by rfl) (hdb : (x == ("__debug__" : Str)) = false := by decide) (he : starEach (.Name y p2 :: es) X.env = (false, eval (.Name y p2) X.env) :: starEach es X.env := by rfl) (hpl : (backTo pos (starEach es X.env)).any (·.1) = false := by rfl) :
    JE X (.Call (.Name x p) (.Name y p2 :: es) [] pos) (fCallO g i ga) := by
  obtain ⟨fa, fd, ps, h1, h2, h3, h4⟩ := F.ok
  exact je_of (pe_call h1 hr hg h2 h3 h4 .nil pass0 (pa_cons (pe_var hN hv hd hcd) ha he) hdb he hpl) (se_callO sa_self)
theorem je_callT {g : List PyData → List PyData → Option (PyData × List PyData)} {n0 : FA} (F : DfX X k x (spO X.K g)) (hr : Room k X.A) (ha : JN X e n0) (hg : Gl X x := by rfl) (hdb : (x == ("__debug__" : Str)) = false := by decide) (he : starEach [e] X.env = (false, eval e X.env) :: starEach [] X.env := by rfl) (hpl : (backTo pos (starEach [] X.env)).any (·.1) = false := by rfl) :
    JE X (.Call (.Name x p) [e] [] pos) (fCallT g n0) := by
  obtain ⟨fa, fd, ps, h1, h2, h3, h4⟩ := F.ok
  exact je_of (pe_call h1 hr hg h2 h3 h4 .nil pass0 (pa_cons ha pa_nil he) hdb he hpl) (se_callT sn_self)
end
/-- an own list's length, its item -/
def fLenO (i : Nat) : FE := fun ρ => match ρ[i]? with
  | some (some (.own ds)) => some (.int ds.length, ρ)
  | _ => none
def fIxO (i : Nat) (g : FE) : FE := fun ρ => match ρ[i]? with
  | some (some (.own _)) => (g ρ).bind fun q => match q.2[i]?, q.1 with
    | some (some (.own ds)), .int j => if 0 ≤ j then (ds[j.toNat]?).map fun z => (z, q.2) else none
    | _, _ => none
  | _ => none
section
variable {K : PySem.W.Frag} {i : Nat}
theorem se_lenO : SE K (tCB (fun xs H Q => ∃ p ys, xs = [.ref p] ∧ (SqL K H p ys ∨ SqT K H p ys) ∧ Q (.int ys.length) H) (tCons (tVar i) tNil)) (fLenO i) := by
  intro σ S H ρ d ρ' Q rep e k
  unfold fLenO at e
  split at e
  · rename_i ds hx
    cases e
    obtain ⟨p, xs, h1, h2, h3, h4⟩ := rep.own i ds hx
    refine ⟨_, h1, p, xs, rfl, .inl (.inl (.inl h3)), ?_⟩
    rw [h4.length]
    exact k _ S H (Nx.refl rep) (.int _)
  · cases e
theorem se_ixO {tb : TE} {g : FE} (h : SE K tb g) : SE K (tOp (rIx2 K) (tVar i) tb) (fIxO i g) := by
  intro σ S H ρ d ρ' Q rep e k
  unfold fIxO at e
  split at e
  · rename_i zs hz
    obtain ⟨⟨y, ρ1⟩, e1, e2⟩ := bind2 e
    obtain ⟨p0, _, q1, _⟩ := rep.own i zs hz
    refine ⟨.ref p0, q1, ?_⟩
    refine h σ S H ρ y ρ1 _ rep e1 fun v S1 H1 n1 r1 => ?_
    dsimp only at e2
    split at e2
    · rename_i ds j he
      split at e2
      · rename_i h0
        obtain ⟨z, e3, e4⟩ := map2 e2
        cases e4
        obtain ⟨p, ws, h1, h2, h3, h4⟩ := n1.rep.own i ds he
        have ep : p0 = p := by rw [q1] at h1; cases h1; rfl
        subst ep
        cases r1
        obtain ⟨u, h5, h6⟩ := h4.get e3
        exact .inr ⟨p0, ws, j, u, rfl, rfl, .inl (.inl h3), atI_pos h0 h5, k u S1 H1 n1 h6⟩
      · cases e2
    · cases e2
  · cases e
end
section
variable {X : Cx} {x : Str} {b : Expr} {g : FE} {p p2 pos : Pos}
theorem je_lenO (i : Nat) (T : Bi X.mg) (hN : X.N[i]? = some x := by rfl) (hv : Vis X.env.scope x := by first | exact Or.inl rfl | exact Or.inr (Or.inl rfl) | exact Or.inr (Or.inr rfl)) (hd : (x == ("__debug__" : Str)) = false := by decide) (hcd : (x == ("__classdict__" : Str)) = false := by decide)
    (hg : Gl X "len" := by rfl) (he : starEach [.Name x p2] X.env = (false, eval (.Name x p2) X.env) :: starEach [] X.env := by rfl) : JE X (.Call (.Name "len" p) [.Name x p2] [] pos) (fLenO i) :=
  je_of (pe_callB call_len_seq hg T.len bv_len (pa_cons (pe_var hN hv hd hcd) pa_nil he) (by decide) (by decide) he) se_lenO
theorem je_ixO (i : Nat) (hb : JE X b g) (hN : X.N[i]? = some x := by rfl) (hv : Vis X.env.scope x := by first | exact Or.inl rfl | exact Or.inr (Or.inl rfl) | exact Or.inr (Or.inr rfl)) (hd : (x == ("__debug__" : Str)) = false := by decide) (hcd : (x == ("__classdict__" : Str)) = false := by decide)
    (hs : PlainIx b := by exact fun _ _ => rfl) : JE X (.Subscript (.Name x p) b pos) (fIxO i g) := je_of (pe_ix ix_two (pe_var hN hv hd hcd) hb hs) (se_ixO se_self)
end
end Md

set_option Elab.async false
set_option linter.all false
set_option maxRecDepth 100000
set_option maxHeartbeats 2000000
/-! Md: statements, defs. -/
namespace Md
open PySem PySem.Spec PyProof.Rows L2

def sNext : FS := fun ρ => some (.nx ρ)
def sNever : FS := fun _ => none
def sSeq (F G : FS) : FS := fun ρ => (F ρ).bind fun o => match o with
  | .nx ρ' => G ρ'
  | .rt d ρ' => some (.rt d ρ')
  | .rn d ρ' => some (.rn d ρ')
def sRetN (n : FA) : FS := fun ρ => (n ρ).map fun p => .rn p.1 p.2
def sAsg (b : FG) (f : FE) : FS := fun ρ => (f ρ).bind fun p => (b p.1 p.2).map Out.nx
def sSetN (i : Nat) (n : FA) : FS := fun ρ => (n ρ).map fun p => .nx (p.2.set i (some (.own p.1)))
def sPar (i j : Nat) (a : FA) : FS := fun ρ => (a ρ).bind fun p => match p.1 with
  | [x, y] => some (.nx ((p.2.set i (some (.val x))).set j (some (.val y))))
  | _ => none
def sDrop (f : FE) : FS := fun ρ => (f ρ).map fun p => .nx p.2
def sRet (f : FE) : FS := fun ρ => (f ρ).map fun p => .rt p.1 p.2
def sIf (c : FT) (F G : FS) : FS := fun ρ => (c ρ).bind fun p => match p.1 with
  | true => F p.2
  | false => G p.2
def sApp (i : Nat) (f : FE) : FS := fun ρ => match ρ[i]? with
  | some (some (.own _)) => (f ρ).bind fun p => match p.2[i]? with
    | some (some (.own ds)) => if ds.length < 1000 then some (.nx (p.2.set i (some (.own (ds ++ [p.1]))))) else none
    | _ => none
  | _ => none
def sExt (i : Nat) (f : FE) : FS := fun ρ => match ρ[i]? with
  | some (some (.own _)) => (f ρ).bind fun p => match p.2[i]?, p.1 with
    | some (some (.own ds)), .list es => if ds.length + es.length ≤ 1000 then some (.nx (p.2.set i (some (.own (ds ++ es))))) else none
    | _, _ => none
  | _ => none
/-- l[g] = f -/
def sSetIx (i : Nat) (g f : FE) : FS := fun ρ => (f ρ).bind fun p => match p.2[i]? with
  | some (some (.own _)) => (g p.2).bind fun q => match q.2[i]?, q.1 with
    | some (some (.own ds)), .int j => if 0 ≤ j ∧ j.toNat < ds.length then some (.nx (q.2.set i (some (.own (ds.set j.toNat p.1))))) else none
    | _, _ => none
  | _ => none
def loopF (b : FG) (F : FS) : En → List PyData → Option Out
  | ρ, [] => some (.nx ρ)
  | ρ, d :: ds => (b d ρ).bind fun ρ1 => (F ρ1).bind fun o => match o with
    | .nx ρ2 => loopF b F ρ2 ds
    | .rt d ρ2 => some (.rt d ρ2)
    | .rn d ρ2 => some (.rn d ρ2)
def sFor (it : FA) (b : FG) (F : FS) : FS := fun ρ => (it ρ).bind fun p => loopF b F p.2 p.1

section
variable {K : PySem.W.Frag} {t u : TS} {F G : FS}
theorem OutOk.after {D : Ends} {σ σ1 : St} {ρ ρ1 : En} {S H S1 H1 : Hp} {o : Out} (k : OutOk K D σ ρ S H o) (n : Nx K σ ρ S H σ1 ρ1 S1 H1) : OutOk K D σ1 ρ1 S1 H1 o := by
  cases o with
  | nx ρ2 => exact fun σ2 S2 H2 n2 => k σ2 S2 H2 (n.trans n2)
  | rt d ρ2 => exact fun v σ2 S2 H2 n2 r2 => k v σ2 S2 H2 (n.trans n2) r2
  | rn d ρ2 => exact fun p xs σ2 S2 H2 n2 hp hS hH r2 => k p xs σ2 S2 H2 (n.trans n2) (n.stp.there p hp) hS hH r2
theorem set_put {σ : St} {ρ : En} {v : V} {d : PyData} {i : Nat} : Put [i] σ ρ (σ.set i (some v)) (ρ.set i (some (.val d))) := by
  refine ⟨fun j hj => ?_, fun j ds hj => ?_, List.length_set⟩
  · have z : i ≠ j := fun e => hj (by rw [e]; exact List.mem_singleton.mpr rfl)
    exact ⟨List.getElem?_set_ne z, List.getElem?_set_ne z⟩
  · rw [List.mem_singleton.mp hj]
    by_cases hl : i < ρ.length
    · rw [List.getElem?_set_self hl]; exact fun z => by cases z
    · rw [List.getElem?_eq_none (by rw [List.length_set]; omega)]; exact fun z => by cases z
theorem not0 {i : Nat} (hi : i ≠ 0) : 0 ∉ [i] := fun h => hi (List.mem_singleton.mp h).symm
theorem ss_seq (h : SS K t F) (h' : SS K u G) : SS K (tSeq t u) (sSeq F G) := by
  intro σ S H ρ o D rep e k
  obtain ⟨o1, e1, e2⟩ := bind2 e
  refine h σ S H ρ o1 { D with nx := u D } rep e1 ?_
  cases o1 with
  | nx ρ1 =>
    refine fun σ1 S1 H1 n1 => h' σ1 S1 H1 ρ1 o D n1.rep e2 ?_
    exact k.after n1
  | rt d ρ1 =>
    cases e2
    exact k
  | rn d ρ1 =>
    cases e2
    exact k
theorem ss_next : SS K tNext sNext := by
  intro σ S H ρ o D rep e k
  cases e
  exact k σ S H (Nx.refl rep)
theorem ss_never : SS K tNever sNever := by
  intro σ S H ρ o D rep e k
  cases e
theorem ss_asg {te : TE} {f : FE} {g : TG} {b : FG} {js : List Nat} (h : SE K te f) (hg : SG K g b js) (h0 : 0 ∉ js) : SS K (tAsg te g) (sAsg b f) := by
  intro σ S H ρ o D rep e k
  obtain ⟨⟨x, ρ1⟩, e1, e2⟩ := bind2 e
  obtain ⟨ρ2, e3, e4⟩ := map2 e2
  cases e4
  refine h σ S H ρ x ρ1 _ rep e1 fun v S1 H1 n1 r1 => ?_
  refine hg v x σ S1 H1 ρ1 ρ2 _ n1.rep r1 e3 fun σ2 r2 p2 => ?_
  exact k σ2 S1 H1 (n1.trans (p2.nx n1.rep r2 h0))
theorem ss_setN {te : TE} {n : FA} {i : Nat} (h : SN K te n) (hi : i ≠ 0) : SS K (tAsg te (gName i)) (sSetN i n) := by
  intro σ S H ρ o D rep e k
  obtain ⟨⟨xs, ρ1⟩, e1, e2⟩ := map2 e
  cases e2
  refine h σ S H ρ xs ρ1 _ rep e1 fun p ws S1 H1 n1 no hp hS hH r1 => ?_
  have own2 : ∀ (j : Nat) (zs : List PyData), (ρ1.set i (some (.own xs)))[j]? = some (some (.own zs)) → (j = i ∧ i < ρ1.length ∧ zs = xs) ∨ (j ≠ i ∧ ρ1[j]? = some (some (.own zs))) := fun j zs hz => by
    by_cases z : j = i
    · subst z
      by_cases hl : j < ρ1.length
      · rw [List.getElem?_set_self hl] at hz; cases hz; exact .inl ⟨rfl, hl, rfl⟩
      · rw [List.getElem?_eq_none (by rw [List.length_set]; omega)] at hz; cases hz
    · rw [List.getElem?_set_ne (Ne.symm z)] at hz; exact .inr ⟨z, hz⟩
  have at_i : i < ρ1.length → (σ.set i (some (.ref p)))[i]? = some (some (.ref p)) := fun hl => List.getElem?_set_self (by rw [n1.rep.len]; exact hl)
  have not_p : ∀ (j : Nat) (zs : List PyData), ρ1[j]? = some (some (.own zs)) → σ[j]? ≠ some (some (.ref p)) := fun j zs h1 h2 => no ⟨j, zs, h1, h2⟩
  have r2 : Rep K (σ.set i (some (.ref p))) S1 H1 (ρ1.set i (some (.own xs))) := by
    refine ⟨by rw [List.length_set, List.length_set]; exact n1.rep.len, n1.rep.sub, fun j x hj => ?_, fun j zs hj => ?_, fun j j' zs zs' q h1 h2 g1 g2 => ?_⟩
    · have z : j ≠ i := fun z => by
        subst z
        by_cases hl : j < ρ1.length
        · rw [List.getElem?_set_self hl] at hj; cases hj
        · rw [List.getElem?_eq_none (by rw [List.length_set]; omega)] at hj; cases hj
      rw [List.getElem?_set_ne (Ne.symm z)] at hj ⊢
      exact n1.rep.val j x hj
    · rcases own2 j zs hj with ⟨rfl, hl, rfl⟩ | ⟨z, hj⟩
      · exact ⟨p, ws, at_i hl, hS, hH, r1⟩
      · rw [List.getElem?_set_ne (Ne.symm z)]
        exact n1.rep.own j zs hj
    · rcases own2 j zs h1 with ⟨rfl, hl, _⟩ | ⟨z, w1⟩ <;> rcases own2 j' zs' h2 with ⟨rfl, hl', _⟩ | ⟨z', w2⟩
      · rfl
      · rw [at_i hl] at g1
        cases g1
        rw [List.getElem?_set_ne (Ne.symm z')] at g2
        exact absurd g2 (not_p j' zs' w2)
      · rw [at_i hl'] at g2
        cases g2
        rw [List.getElem?_set_ne (Ne.symm z)] at g1
        exact absurd g1 (not_p j zs w1)
      · rw [List.getElem?_set_ne (Ne.symm z)] at g1
        rw [List.getElem?_set_ne (Ne.symm z')] at g2
        exact n1.rep.apart j j' zs zs' q w1 w2 g1 g2
  refine k _ S1 H1 ⟨n1.stp, r2, fun a ⟨j, zs, h1, h2⟩ => ?_, ?_, fun es hes => ?_⟩
  · rcases own2 j zs h1 with ⟨rfl, hl, _⟩ | ⟨z, h1⟩
    · rw [at_i hl] at h2; cases h2; exact .inr hp
    · rw [List.getElem?_set_ne (Ne.symm z)] at h2
      exact n1.own a ⟨j, zs, h1, h2⟩
  · rw [List.getElem?_set_ne hi]
  · obtain ⟨es', h'⟩ := n1.zo es hes
    exact ⟨es', by rw [List.getElem?_set_ne hi]; exact h'⟩
theorem ss_par {ta : TA} {ga : FA} {i j : Nat} (h : SA K ta ga) (hi : i ≠ 0) (hj : j ≠ 0) : SS K (tPar i j ta) (sPar i j ga) := by
  intro σ S H ρ o D rep e k
  obtain ⟨⟨xs, ρ1⟩, e1, e2⟩ := bind2 e
  refine h σ S H ρ xs ρ1 _ rep e1 fun vs S1 H1 n1 r1 => ?_
  dsimp only at e2
  split at e2
  · rename_i x y
    cases e2
    cases r1 with
    | @cons v _ _ _ q1 r1 =>
      cases r1 with
      | @cons w _ _ _ q2 r1 =>
        cases r1
        refine ⟨v, w, rfl, ?_⟩
        have r2 := n1.rep.set q1 i
        have n2 := (set_put (v := v) (d := x)).nx n1.rep r2 (not0 hi)
        have r3 := r2.set q2 j
        exact k _ S1 H1 ((n1.trans n2).trans ((set_put (v := w) (d := y)).nx r2 r3 (not0 hj)))
  · cases e2
theorem ss_drop {te : TE} {f : FE} (h : SE K te f) : SS K (tDrop te) (sDrop f) := by
  intro σ S H ρ o D rep e k
  obtain ⟨⟨x, ρ1⟩, e1, e2⟩ := map2 e
  cases e2
  exact h σ S H ρ x ρ1 _ rep e1 fun v S1 H1 n1 r1 => k σ S1 H1 n1
theorem ss_ret {te : TE} {f : FE} (h : SE K te f) : SS K (tRet te) (sRet f) := by
  intro σ S H ρ o D rep e k
  obtain ⟨⟨x, ρ1⟩, e1, e2⟩ := map2 e
  cases e2
  exact h σ S H ρ x ρ1 _ rep e1 fun v S1 H1 n1 r1 => k v σ S1 H1 n1 r1
theorem ss_retN {te : TE} {n : FA} (h : SN K te n) : SS K (tRet te) (sRetN n) := by
  intro σ S H ρ o D rep e k
  obtain ⟨⟨x, ρ1⟩, e1, e2⟩ := map2 e
  cases e2
  exact h σ S H ρ x ρ1 _ rep e1 fun p xs S1 H1 n1 _ hp hS hH r1 => k p xs σ S1 H1 n1 hp hS hH r1
theorem ss_if {tc : TT} {c : FT} (h : ST K tc c) (h1 : SS K t F) (h2 : SS K u G) : SS K (tIfS tc t u) (sIf c F G) := by
  intro σ S H ρ o D rep e k
  obtain ⟨⟨b, ρ1⟩, e1, e2⟩ := bind2 e
  refine h σ S H ρ b ρ1 _ rep e1 fun S1 H1 n1 => ?_
  have k1 := k.after n1
  cases b with
  | true => exact h1 σ S1 H1 ρ1 o D n1.rep e2 k1
  | false => exact h2 σ S1 H1 ρ1 o D n1.rep e2 k1
/-- an own list rewritten -/
theorem Rep.put {σ : St} {S H : Hp} {ρ : En} (r : Rep K σ S H ρ) {i : Nat} {ds zs : List PyData} {p : Addr} {ws : List V} (hi : ρ[i]? = some (some (.own ds))) (hp : σ[i]? = some (some (.ref p))) (hS : S p = none) (q : RpL K S ws zs) : Nx K σ ρ S H σ (ρ.set i (some (.own zs))) S (upd H p (.lst ws)) :=
  r.wrote hi hp (Stp.write r.sub hS rfl) hS upd_same q
theorem ss_app {te : TE} {f : FE} {i : Nat} (h : SE K te f) : SS K (tDrop (tBM K "list" rAppend (tVar i) (tCons te tNil))) (sApp i f) := by
  intro σ S H ρ o D rep e k
  unfold sApp at e
  split at e
  · rename_i zs hz
    obtain ⟨⟨x, ρ1⟩, e1, e2⟩ := bind2 e
    obtain ⟨p0, ws0, q1, _, q3, _⟩ := rep.own i zs hz
    refine ⟨.ref p0, q1, .inl ⟨rfl, ws0, .inl (.inl q3)⟩, ?_⟩
    refine h σ S H ρ x ρ1 _ rep e1 fun v S1 H1 n1 r1 => ?_
    dsimp only at e2
    split at e2
    · rename_i ds hd
      split at e2
      · rename_i hl
        cases e2
        obtain ⟨p, ws, h1, h2, h3, h4⟩ := n1.rep.own i ds hd
        have ep : p0 = p := by rw [q1] at h1; cases h1; rfl
        subst ep
        refine ⟨p0, ws, v, rfl, rfl, h3, Nat.lt_of_lt_of_le (by rw [h4.length]; exact hl) (sz1000 (Nat.le_refl _)), ?_⟩
        exact k σ S1 _ (n1.trans (n1.rep.put hd h1 h2 (h4.app (.one r1))))
      · cases e2
    · cases e2
  · cases e
/-- l.extend(m), m read -/
def rExtR : V → List V → Hp → VK → Prop := fun x vs H Q => ∃ l b xs zs, x = .ref l ∧ vs = [.ref b] ∧ H l = some (.lst xs) ∧ Rd H b (.lst zs) ∧ xs.length + zs.length ≤ sizeLine ∧ Q .non (upd H l (.lst (xs ++ zs)))
theorem mt_extR {X : Cx} : MtM X "list.extend" rExtR := by
  intro pins s σ H x vs v us Q I rx rv h
  obtain ⟨l, b, xs, zs, rfl, rfl, hL, hB, hz, q⟩ := h
  cases rx
  obtain ⟨u, rfl, ru⟩ := rv.one
  cases ru
  obtain ⟨z, its, n, r, hl, e⟩ := I.lstM hL
  obtain ⟨_, its2, n2, r2, e2⟩ : zs.length ≤ sizeLine ∧ ∃ (its : List Value) (n : Nat), Vals zs its ∧ s.heap.get? b = some { cls := .type "list", data := .seq its.toArray n } := hB.ok I.hok
  have hl2 := r2.length
  have fits : its.toArray.size + its2.toArray.size ≤ sizeLine := by rw [List.size_toArray, List.size_toArray]; omega
  have short : ¬ (!its.toArray.isEmpty && Builtin.List.listTooLong (its.toArray.size + its2.toArray.size)) = true := by rw [notLongL fits, Bool.and_false]; exact Bool.false_ne_true
  refine call_meets F.slot_list_extend ⟨_, e, rfl⟩ F.entry_list_extend (F.args_list_extend_2 _ _) (AutoSeq1.list_extend_list_list_0 l its.toArray n b its2.toArray n2 short (by rw [List.size_toArray]; omega) (by omega)) ⟨e, e2, ?_⟩
  exact ⟨.non, _, I.lset (its' := its ++ its2) hL e (by simp) (r.append r2) (by rw [List.length_append]; exact hz), rfl, q⟩
theorem ss_ext {te : TE} {f : FE} {i : Nat} (h : SE K te f) : SS K (tDrop (tBM K "list" rExtR (tVar i) (tCons te tNil))) (sExt i f) := by
  intro σ S H ρ o D rep e k
  unfold sExt at e
  split at e
  · rename_i zs hz
    obtain ⟨⟨x, ρ1⟩, e1, e2⟩ := bind2 e
    obtain ⟨p0, ws0, q1, _, q3, _⟩ := rep.own i zs hz
    refine ⟨.ref p0, q1, .inl ⟨rfl, ws0, .inl (.inl q3)⟩, ?_⟩
    refine h σ S H ρ x ρ1 _ rep e1 fun v S1 H1 n1 r1 => ?_
    dsimp only at e2
    split at e2
    · rename_i ds es hd
      split at e2
      · rename_i hl
        cases e2
        obtain ⟨p, ws, h1, h2, h3, h4⟩ := n1.rep.own i ds hd
        have ep : p0 = p := by rw [q1] at h1; cases h1; rfl
        subst ep
        cases r1 with
        | @lst b vs _ hb hq =>
          refine ⟨p0, b, ws, vs, rfl, rfl, h3, n1.rep.sub.rd hb, sz1000 (by rw [h4.length, hq.length]; exact hl), ?_⟩
          exact k σ S1 _ (n1.trans (n1.rep.put hd h1 h2 (h4.app hq)))
      · cases e2
    · cases e2
  · cases e
theorem ixN_pos {n : Nat} {j : Int} (h0 : 0 ≤ j) (h1 : j.toNat < n) : ixN n j = some j.toNat := by
  unfold ixN
  rw [if_pos h0, if_pos (by omega)]
theorem ss_setIx {te tb : TE} {f g : FE} {i : Nat} (h : SE K te f) (h' : SE K tb g) : SS K (tAsg te (gSub (tVar i) tb L2.rSetL)) (sSetIx i g f) := by
  intro σ S H ρ o D rep e k
  obtain ⟨⟨x, ρ1⟩, e1, e2⟩ := bind2 e
  refine h σ S H ρ x ρ1 _ rep e1 fun v S1 H1 n1 r1 => ?_
  dsimp only at e2
  split at e2
  · rename_i zs hz
    obtain ⟨⟨y, ρ2⟩, e3, e4⟩ := bind2 e2
    obtain ⟨p0, ws0, q1, _, q3, _⟩ := n1.rep.own i zs hz
    refine ⟨.ref p0, q1, ?_⟩
    refine h' σ S1 H1 ρ1 y ρ2 _ n1.rep e3 fun u S2 H2 n2 r2 => ?_
    dsimp only at e4
    split at e4
    · rename_i ds j hd
      split at e4
      · rename_i hj
        cases e4
        obtain ⟨p, ws, h1, h2, h3, h4⟩ := n2.rep.own i ds hd
        have ep : p0 = p := by rw [q1] at h1; cases h1; rfl
        subst ep
        cases r2
        refine ⟨p0, ws, j, j.toNat, rfl, rfl, h3, ixN_pos hj.1 (by rw [h4.length]; exact hj.2), ?_⟩
        exact k σ S2 _ ((n1.trans n2).trans (n2.rep.put hd h1 h2 (h4.set (r1.m n2.stp.ex) _)))
      · cases e4
    · cases e4
  · cases e2
theorem ss_for {wi : TI} {it : FA} {g : TG} {b : FG} {js : List Nat} {tb : TS} (hi : SI K wi it) (hg : SG K g b js) (h0 : 0 ∉ js) (h : SS K tb F) : SS K (tFor wi g tb) (sFor it b F) := by
  intro σ S H ρ o D rep e k
  obtain ⟨⟨ds, ρ1⟩, e1, e2⟩ := bind2 e
  refine hi σ S H ρ ds ρ1 _ rep e1 fun J S1 H1 n1 w => ?_
  refine ⟨fun i m σ' H' => m = ds.length - i ∧ i ≤ ds.length ∧ ∃ S' ρ', Nx K σ ρ S H σ' ρ' S' H' ∧ Le S1 S' ∧ loopF b F ρ' (ds.drop i) = some o, ⟨ds.length, by simp, Nat.zero_le _, S1, ρ1, n1, Le.refl _, e2⟩, ?_⟩
  rintro i m σ' H' ⟨rfl, hi', S', ρ', n', le', el⟩
  by_cases hlt : i < ds.length
  · refine .inr ⟨w.goes i S' H' hlt le' n'.rep.sub, fun σ2 H2 => (i + 1 ≤ ds.length ∧ ∃ S2 ρ2, Nx K σ ρ S H σ2 ρ2 S2 H2 ∧ Le S1 S2 ∧ loopF b F ρ2 (ds.drop (i + 1)) = some o), fun σ2 H2 q => ⟨ds.length - (i + 1), by omega, rfl, q⟩, fun x H2 y => ?_⟩
    obtain ⟨S2, s2, hx⟩ := w.yields i S' H' x H2 hlt le' n'.rep.sub y
    rw [List.drop_eq_getElem_cons hlt] at el
    obtain ⟨ρ2, b1, el2⟩ := bind2 el
    obtain ⟨o1, f1, el3⟩ := bind2 el2
    have n2 := n'.trans (Nx.step n'.rep s2)
    refine hg x ds[i] σ' S2 H2 ρ' ρ2 _ n2.rep (hx _ (List.getElem?_eq_getElem hlt)) b1 fun σ3 r3 p3 => ?_
    have n3 := n2.trans (p3.nx n2.rep r3 h0)
    refine h σ3 S2 H2 ρ2 o1 _ n3.rep f1 ?_
    cases o1 with
    | nx ρ3 => exact fun σ4 S4 H4 n4 => ⟨hlt, S4, ρ3, n3.trans n4, (le'.trans s2.ex).trans n4.stp.ex, el3⟩
    | rt d ρ3 =>
      cases el3
      exact fun v σ4 S4 H4 n4 r4 => k v σ4 S4 H4 (n3.trans n4) r4
    | rn d ρ3 =>
      cases el3
      exact fun p xs σ4 S4 H4 n4 hp hS hH r4 => k p xs σ4 S4 H4 (n3.trans n4) (n3.stp.there p hp) hS hH r4
  · have ei : i = ds.length := by omega
    subst ei
    rw [List.drop_length] at el
    cases el
    exact .inl ⟨w.stops S' H' le' n'.rep.sub, k σ' S' H' n'⟩
end
end Md

set_option Elab.async false
set_option linter.all false
set_option maxRecDepth 100000
set_option maxHeartbeats 2000000
/-! Md: the rules for statements of the text; a def keeps its promise. -/
namespace Md
open PySem PySem.Spec PyProof.Rows L2
section
variable {X : Cx} {s : Stmt} {ss as bs : List Stmt} {F G : FS} {e a b c o : Expr} {f g : FE} {ft : FT} {ga : FA} {it : FA} {bd : FG} {js : List Nat} {x y : Str} {pos p p1 p2 pt pt2 : Pos} {tg : Expr}
theorem jss_nil : JSs X [] sNext := jss_of pss_nil ss_next
theorem jss_cons (h : JS X s F) (h' : JSs X ss G) : JSs X (s :: ss) (sSeq F G) := jss_of (pss_cons h h') (ss_seq ss_self ss_self)
theorem jss_one (h : JS X s F) : JSs X [s] F := pss_one h
theorem js_never : JS X s sNever := js_of ps_never ss_never
theorem js_set (i : Nat) (hN : X.N.Nodup) (he : JE X e f) (hi : i ≠ 0 := by decide) (hx : X.N[i]? = some x := by rfl) (hl : Loc X.env.scope x := by first | exact Or.inl rfl | exact Or.inr rfl) (hs : swapsWith e (some (.Name x p)) pos.line X.env = pure false := by rfl)
    (hf : X.fn x = true ∨ X.env.scope.names.lookup x = some .local := by first | exact .inl rfl | exact .inr rfl) : JS X (.Assign [.Name x p] e pos) (sAsg (bName i) f) := js_of (ps_set hN hx hl he hs hf) (ss_asg se_self sg_name (not0 hi))
theorem js_setN (i : Nat) (hN : X.N.Nodup) (he : JN X e ga) (hi : i ≠ 0 := by decide) (hx : X.N[i]? = some x := by rfl) (hl : Loc X.env.scope x := by first | exact Or.inl rfl | exact Or.inr rfl) (hs : swapsWith e (some (.Name x p)) pos.line X.env = pure false := by rfl)
    (hf : X.fn x = true ∨ X.env.scope.names.lookup x = some .local := by first | exact .inl rfl | exact .inr rfl) : JS X (.Assign [.Name x p] e pos) (sSetN i ga) := js_of (ps_set hN hx hl he hs hf) (ss_setN sn_self hi)
theorem js_asg (he : JE X e f) (hg : JG X tg bd js) (h0 : 0 ∉ js := by decide) (hs : swapsWithSole [tg] e pos.line X.env = pure false := by rfl) (hw : swappedStores [tg] e X.env = pure none := by rfl) (h1 : (assignEach [tg] X.env).map (·.2) = [assign tg X.env] := by rfl) :
    JS X (.Assign [tg] e pos) (sAsg bd f) := js_of (ps_asg he hg hs hw h1) (ss_asg se_self sg_self h0)
theorem js_par (i j : Nat) {kt k2 : Nat} (hc : X.calm = true) (hN : X.N.Nodup) (ha : JA X [a, b] ga) (hi : X.N[i]? = some x := by rfl) (hj : X.N[j]? = some y := by rfl) (hij : i ≠ j := by decide) (h0 : i ≠ 0 := by decide) (h1 : j ≠ 0 := by decide)
    (hx : X.env.scope.names.lookup x = some .local := by rfl) (hy : X.env.scope.names.lookup y = some .local := by rfl) (hw : swappedStores [.Tuple [.Name x p1, .Name y p2] kt pt] (.Tuple [a, b] k2 pt2) X.env = pure (some [x, y]) := by rfl)
    (hs : swapsWithSole [.Tuple [.Name x p1, .Name y p2] kt pt] (.Tuple [a, b] k2 pt2) pos.line X.env = pure false := by rfl) : JS X (.Assign [.Tuple [.Name x p1, .Name y p2] kt pt] (.Tuple [a, b] k2 pt2) pos) (sPar i j ga) :=
  js_of (ps_par hc hN hi hj hij hx hy ha hw hs) (ss_par sa_self h0 h1)
theorem js_expr (he : JE X e f) (hs : swapsWith e none pos.line X.env = pure false := by rfl) : JS X (.Expr e pos) (sDrop f) := js_of (ps_expr he hs) (ss_drop se_self)
theorem js_ret (he : JE X e f) : JS X (.Return (some e) pos) (sRet f) := js_of (ps_ret he) (ss_ret se_self)
theorem js_retN (he : JN X e ga) : JS X (.Return (some e) pos) (sRetN ga) := js_of (ps_ret he) (ss_retN sn_self)
theorem js_if (hc : JT X c ft) (ha : JSs X as F) (hb : JSs X bs G) : JS X (.If c as bs pos) (sIf ft F G) := js_of (ps_if hc ha hb) (ss_if st_self ss_self ss_self)
theorem js_for (hp : PassesOwn (model X.prog X.w) X.A X.env X.xe) (hc : X.calm = true) (hi : JI X tg e it) (hg : JG X tg bd js) (hb : JSs X as F) (h0 : 0 ∉ js := by decide) (hs : ∀ x, foldedSetIterable e X.env x = pure x := by intro _; rfl) : JS X (.For tg e as [] pos) (sFor it bd F) :=
  js_of (ps_for hp hc hi hg hb hs) (ss_for si_self sg_self h0 ss_self)
theorem js_app (i : Nat) {apos cpos : Pos} (he : JE X e f) (hN : X.N[i]? = some x := by rfl) (hv : Vis X.env.scope x := by first | exact Or.inl rfl | exact Or.inr (Or.inl rfl) | exact Or.inr (Or.inr rfl)) (hd : (x == ("__debug__" : Str)) = false := by decide) (hcd : (x == ("__classdict__" : Str)) = false := by decide)
    (hbase : attributeBase (.Name x p) "append" X.env (eval (.Name x p) X.env) = eval (.Name x p) X.env := by rfl)
    (hfew : ((backTo cpos (starEach [e] X.env)).all (fun x => !x.1) && (backToKw cpos (keywordEach [] X.env)).all (fun x => x.1.isSome) && decide ([e].length + ([] : List Keyword).length + (if ([] : List Keyword).isEmpty then 0 else 1) < 30)) = true := by rfl)
    (hline : (apos.endLine == cpos.line) = true := by rfl) (hst : starEach [e] X.env = (false, eval e X.env) :: starEach [] X.env := by rfl) (hplain : (backTo cpos (starEach [] X.env)).any (·.1) = false := by rfl)
    (hs : swapsWith (.Call (.Attribute (.Name x p) "append" apos) [e] [] cpos) none pos.line X.env = pure false := by rfl) : JS X (.Expr (.Call (.Attribute (.Name x p) "append" apos) [e] [] cpos) pos) (sApp i f) :=
  js_of (ps_expr (pe_bm PySem.F.plainAttrs_list PySem.F.slot_list_append PySem.F.type_list_append mt_append (pe_var hN hv hd hcd) (pa_cons he pa_nil hst) hbase hfew hline hst hplain) hs) (ss_app se_self)
theorem js_ext (i : Nat) {apos cpos : Pos} (he : JE X e f) (hN : X.N[i]? = some x := by rfl) (hv : Vis X.env.scope x := by first | exact Or.inl rfl | exact Or.inr (Or.inl rfl) | exact Or.inr (Or.inr rfl)) (hd : (x == ("__debug__" : Str)) = false := by decide) (hcd : (x == ("__classdict__" : Str)) = false := by decide)
    (hbase : attributeBase (.Name x p) "extend" X.env (eval (.Name x p) X.env) = eval (.Name x p) X.env := by rfl)
    (hfew : ((backTo cpos (starEach [e] X.env)).all (fun x => !x.1) && (backToKw cpos (keywordEach [] X.env)).all (fun x => x.1.isSome) && decide ([e].length + ([] : List Keyword).length + (if ([] : List Keyword).isEmpty then 0 else 1) < 30)) = true := by rfl)
    (hline : (apos.endLine == cpos.line) = true := by rfl) (hst : starEach [e] X.env = (false, eval e X.env) :: starEach [] X.env := by rfl) (hplain : (backTo cpos (starEach [] X.env)).any (·.1) = false := by rfl)
    (hs : swapsWith (.Call (.Attribute (.Name x p) "extend" apos) [e] [] cpos) none pos.line X.env = pure false := by rfl) : JS X (.Expr (.Call (.Attribute (.Name x p) "extend" apos) [e] [] cpos) pos) (sExt i f) :=
  js_of (ps_expr (pe_bm PySem.F.plainAttrs_list PySem.F.slot_list_extend PySem.F.type_list_extend mt_extR (pe_var hN hv hd hcd) (pa_cons he pa_nil hst) hbase hfew hline hst hplain) hs) (ss_ext se_self)
theorem js_setIx (i : Nat) (he : JE X e f) (hb : JE X b g) (hN : X.N[i]? = some x := by rfl) (hv : Vis X.env.scope x := by first | exact Or.inl rfl | exact Or.inr (Or.inl rfl) | exact Or.inr (Or.inr rfl)) (hd : (x == ("__debug__" : Str)) = false := by decide) (hcd : (x == ("__classdict__" : Str)) = false := by decide)
    (ha : ∀ v, assign (.Subscript (.Name x p) b p1) X.env v = (do
      let ov ← holding [v] (eval (.Name x p) X.env)
      let iv ← holding [v, ov] (eval b X.env)
      standAt p1
      holding [v, ov, iv] (setItem ov iv v)
      release [v, ov, iv] []) := by intro _; rfl)
    (hs : swapsWithSole [.Subscript (.Name x p) b p1] e pos.line X.env = pure false := by rfl) (hw : swappedStores [.Subscript (.Name x p) b p1] e X.env = pure none := by rfl) (h1 : (assignEach [.Subscript (.Name x p) b p1] X.env).map (·.2) = [assign (.Subscript (.Name x p) b p1) X.env] := by rfl) :
    JS X (.Assign [.Subscript (.Name x p) b p1] e pos) (sSetIx i g f) := js_of (ps_asg he (pg_sub (pe_var hN hv hd hcd) hb set_list ha) hs hw h1) (ss_setIx se_self se_self)
end

/-! ### defs -/
def slots (n : Nat) (ss : List Sl) : En := ss.map some ++ List.replicate (n - ss.length) none
/-- np parameters, n names; F the body -/
def runV (np n : Nat) (F : FS) : List PyData → Option PyData := fun ds => if ds.length = np then match F (slots n (ds.map .val)) with
  | some (.rt d _) => some d
  | some (.nx _) => some .none
  | _ => none else none
def runN (np n : Nat) (F : FS) : List PyData → Option (List PyData) := fun ds => if ds.length = np then match F (slots n (ds.map .val)) with
  | some (.rn d _) => some d
  | _ => none else none
def own0 (ρ : En) : Option (List PyData) := match (ρ[0]? : Option (Option Sl)) with
  | some (some (.own es)) => some es
  | _ => none
def runO (np n : Nat) (F : FS) : List PyData → List PyData → Option (PyData × List PyData) := fun es ds => if ds.length + 1 = np then match F (slots n (.own es :: ds.map .val)) with
  | some (.rt d ρ) => (own0 ρ).map fun es' => (d, es')
  | _ => none else none
section
variable {K : PySem.W.Frag}
theorem rep_start {N : List Str} {vs : List V} {ds : List PyData} {S H : Hp} (e : Le S H) (r : RpL K S vs ds) : Rep K (L2.start N vs) S H (slots N.length (ds.map .val)) := by
  have hl := r.length
  have pr : ∀ (i : Nat) (s : Sl), (slots N.length (ds.map .val))[i]? = some (some s) → i < ds.length ∧ ∃ d, ds[i]? = some d ∧ s = .val d := fun i s h => by
    unfold slots at h
    by_cases hi : i < ds.length
    · rw [List.getElem?_append_left (by simpa using hi), List.getElem?_map, List.getElem?_map, List.getElem?_eq_getElem hi] at h
      cases h
      exact ⟨hi, ds[i], List.getElem?_eq_getElem hi, rfl⟩
    · rw [List.getElem?_append_right (by simpa using hi), List.getElem?_replicate] at h
      split at h <;> cases h
  refine ⟨by unfold L2.start slots; simp [hl], e, fun i d h => ?_, fun i es h => ?_, fun i j es es' p h => ?_⟩
  · obtain ⟨hi, d', h1, h2⟩ := pr i _ h
    cases h2
    obtain ⟨v, h3, h4⟩ := r.get h1
    refine ⟨v, ?_, h4⟩
    unfold L2.start
    rw [List.getElem?_append_left (by rw [List.length_map, hl]; exact hi), List.getElem?_map, h3]
    rfl
  · obtain ⟨_, _, _, h2⟩ := pr i _ h
    cases h2
  · obtain ⟨_, _, _, h2⟩ := pr i _ h
    cases h2
theorem start_pure {n : Nat} {ds : List PyData} : Pure (slots n (ds.map .val)) := fun i es h => by
  unfold slots at h
  by_cases hi : i < ds.length
  · rw [List.getElem?_append_left (by simpa using hi), List.getElem?_map, List.getElem?_map, List.getElem?_eq_getElem hi] at h
    cases h
  · rw [List.getElem?_append_right (by simpa using hi), List.getElem?_replicate] at h
    split at h <;> cases h
end
section
variable {P : Program} {w : World} {K : PySem.W.Frag} {mg : Str → Option Value} {base : Heap} {f : Addr} {fd : FuncData} {st : Stmt} {x : Str} {N ps : List Str} {k : Nat} {F : FS}
abbrev FnP (K : PySem.W.Frag) (x : Str) (st : Stmt) (f : Addr) (fd : FuncData) : Prop := FunD K x x (defArgs st) (defBody st) (defScope st) [] [] f fd
/-- the body's context, where nothing raised leaves -/
abbrev Bd (P : Program) (w : World) (K : PySem.W.Frag) (mg : Str → Option Value) (base : Heap) (N : List Str) (x : Str) (st : Stmt) (f : Addr) (cdv : Value) (A : Around) (outer : List Env) (s : Shared) (H : Hp) (E : XK) : Cx := (cxOf CX0 P w K mg base N x (defScope st) f cdv A outer s H E).nox
theorem fn_v (D : FnP K x st f fd) (S : FnScope N ps (defScope st)) (hb : ∀ (cdv : Value) (A : Around) (outer : List Env) (s : Shared) (H : Hp) (E : XK), Room k (A.deeper (envOfC x (defScope st) s.heap.objs.size f cdv)) → JSs (Bd P w K mg base N x st f cdv A outer s H E) (defBody st) F) :
    FnOk P w K mg base CX0 (k + 1) f fd ps (spV K (runV ps.length N.length F)) := by
  refine D.ok S (fun vs H Q E h => ?_) (fun cdv A outer s H vs Q E hr h => ⟨_, PSs.nox (hb cdv A outer s H E hr), ?_⟩)
  · obtain ⟨S0, ds, d, _, r, e, _⟩ := h
    unfold runV at e
    split at e
    · rename_i hn; rw [r.length]; exact hn
    · cases e
  · obtain ⟨S0, ds, d, le, r, e, q⟩ := h
    unfold runV at e
    split at e
    · split at e
      · rename_i d' ρ' hF
        cases e
        exact ⟨S0, _, _, rep_start le r, hF, fun v σ' S' H' n rv => q v S' H' (n.pure start_pure) rv⟩
      · rename_i ρ' hF
        cases e
        exact ⟨S0, _, _, rep_start le r, hF, fun σ' S' H' n => q .non S' H' (n.pure start_pure) .non⟩
      · cases e
    · cases e
theorem fn_n (D : FnP K x st f fd) (S : FnScope N ps (defScope st)) (hb : ∀ (cdv : Value) (A : Around) (outer : List Env) (s : Shared) (H : Hp) (E : XK), Room k (A.deeper (envOfC x (defScope st) s.heap.objs.size f cdv)) → JSs (Bd P w K mg base N x st f cdv A outer s H E) (defBody st) F) :
    FnOk P w K mg base CX0 (k + 1) f fd ps (spN K (runN ps.length N.length F)) := by
  refine D.ok S (fun vs H Q E h => ?_) (fun cdv A outer s H vs Q E hr h => ⟨_, PSs.nox (hb cdv A outer s H E hr), ?_⟩)
  · obtain ⟨S0, ds, d, _, r, e, _⟩ := h
    unfold runN at e
    split at e
    · rename_i hn; rw [r.length]; exact hn
    · cases e
  · obtain ⟨S0, ds, d, le, r, e, q⟩ := h
    unfold runN at e
    split at e
    · split at e
      · rename_i d' ρ' hF
        cases e
        exact ⟨S0, _, _, rep_start le r, hF, fun p xs σ' S' H' n hp hS hH rv => q p xs S' H' (n.pure start_pure) hp hS hH rv⟩
      · cases e
    · cases e
theorem fn_o (D : FnP K x st f fd) (S : FnScope N ps (defScope st)) (hb : ∀ (cdv : Value) (A : Around) (outer : List Env) (s : Shared) (H : Hp) (E : XK), Room k (A.deeper (envOfC x (defScope st) s.heap.objs.size f cdv)) → JSs (Bd P w K mg base N x st f cdv A outer s H E) (defBody st) F) :
    FnOk P w K mg base CX0 (k + 1) f fd ps (spO K (runO ps.length N.length F)) := by
  refine D.ok S (fun vs H Q E h => ?_) (fun cdv A outer s H vs Q E hr h => ⟨_, PSs.nox (hb cdv A outer s H E hr), ?_⟩)
  · obtain ⟨S0, p, xs, es, ws, ds, d, es', rfl, _, _, _, _, r, e, _⟩ := h
    unfold runO at e
    split at e
    · rename_i hn; rw [List.length_cons, r.length]; exact hn
    · cases e
  · obtain ⟨S0, p, xs, es, ws, ds, d, es', rfl, le, hS, hH, rx, r, e, q⟩ := h
    unfold runO at e
    split at e
    · split at e
      · rename_i d' ρ' hF
        obtain ⟨es2, h1, h2⟩ := map2 e
        unfold own0 at h1
        split at h1
        · rename_i es3 h0
          cases h1
          cases h2
          have pr : ∀ (i : Nat) (s : Sl), (slots N.length (.own es :: ds.map .val))[i]? = some (some s) → (i = 0 ∧ s = .own es) ∨ ∃ j d, i = j + 1 ∧ ds[j]? = some d ∧ s = .val d := fun i s h => by
            unfold slots at h
            cases i with
            | zero => cases h; exact .inl ⟨rfl, rfl⟩
            | succ j =>
              right
              by_cases hj : j < ds.length
              · rw [List.getElem?_append_left (by simpa using hj), List.getElem?_map, List.getElem?_cons_succ, List.getElem?_map, List.getElem?_eq_getElem hj] at h
                cases h
                exact ⟨j, ds[j], rfl, List.getElem?_eq_getElem hj, rfl⟩
              · rw [List.getElem?_append_right (by simpa using hj), List.getElem?_replicate] at h
                split at h <;> cases h
          have s0 : (L2.start N (.ref p :: ws))[0]? = some (some (.ref p)) := rfl
          have rep : Rep K (L2.start N (.ref p :: ws)) S0 H (slots N.length (.own es :: ds.map .val)) := by
            refine ⟨by unfold L2.start slots; simp [r.length], le, fun i d h => ?_, fun i zs h => ?_, fun i j zs zs' a h h' _ _ => ?_⟩
            · rcases pr i _ h with ⟨_, z⟩ | ⟨j, d', rfl, h1, z⟩
              · cases z
              · cases z
                obtain ⟨v, h3, h4⟩ := r.get h1
                refine ⟨v, ?_, h4⟩
                have hj : j < ws.length := (List.getElem?_eq_some_iff.mp h3).1
                unfold L2.start
                rw [List.getElem?_append_left (by simpa using hj), List.getElem?_map, List.getElem?_cons_succ, h3]
                rfl
            · rcases pr i _ h with ⟨rfl, z⟩ | ⟨j, d', rfl, h1, z⟩
              · cases z
                exact ⟨p, xs, s0, hS, hH, rx⟩
              · cases z
            · rcases pr i _ h with ⟨rfl, _⟩ | ⟨_, _, _, _, z⟩
              · rcases pr j _ h' with ⟨rfl, _⟩ | ⟨_, _, _, _, z⟩
                · rfl
                · cases z
              · cases z
          refine ⟨S0, _, _, rep, hF, fun v σ' S' H' n rv => ?_⟩
          have z0 : σ'[0]? = some (some (.ref p)) := n.z.trans s0
          obtain ⟨p', xs', z1, z2, z3, z4⟩ := n.rep.own 0 _ h0
          rw [z0] at z1
          cases z1
          refine q v xs' S' H' (n.stp.mono fun a ⟨i, zs, h1, h2⟩ => ?_) z2 z3 z4 rv
          rcases pr i _ h1 with ⟨rfl, _⟩ | ⟨_, _, _, _, z⟩
          · rw [s0] at h2; cases h2; rfl
          · cases z
        · cases h1
      · cases e
    · cases e
end
end Md

set_option Elab.async false
set_option linter.all false
set_option maxRecDepth 100000
set_option maxHeartbeats 2000000
/-! K45: what the program's top gives; the def that takes a digit. -/
namespace K45
open PySem PySem.Spec PyProof.Rows L2 Md
def topSt (i : Nat) : Stmt := PySem.Challenge.pw_onewithin_k45_whole_templates_at_work.main.body.getD i (.Pass ⟨0, 0, 0, 0⟩)
/-- the module's constants -/
structure Gv (K : PySem.W.Frag) (mg : Str → Option Value) : Prop where
  least_size : ∃ t, mg "LEAST_SIZE" = some (.int 2 t)
  most_size : ∃ t, mg "MOST_SIZE" = some (.int 5 t)
  most_rows : ∃ t, mg "MOST_ROWS" = some (.int 16 t)
  most_boxes : ∃ t, mg "MOST_BOXES" = some (.int 12 t)
  most_hands : ∃ t, mg "MOST_HANDS" = some (.int 4 t)
  most_kinds : ∃ t, mg "MOST_KINDS" = some (.int 2 t)
  most_template_rows : ∃ t, mg "MOST_TEMPLATE_ROWS" = some (.int 8 t)
  most_together : ∃ t, mg "MOST_TOGETHER" = some (.int 16 t)
  kinds : ∃ a, mg "KINDS" = some (.ref a) ∧ ∀ H : Hp, SqT K H a ((["whole", "either", "torn"] : List Str).map V.str)
  whom : ∃ a, mg "WHOM" = some (.ref a) ∧ ∀ H : Hp, SqT K H a ((["others", "lower", "higher"] : List Str).map V.str)
theorem je_gstr2 {X : Cx} {x : Str} {xs : List Str} {pos : Pos} (h : ∃ a, X.mg x = some (.ref a) ∧ ∀ H : Hp, SqT X.K H a (xs.map V.str)) (hg : Gl X x := by rfl) (hd : (x == ("__debug__" : Str)) = false := by decide) : JE X (.Name x pos) (fC (strsD xs)) := by
  obtain ⟨a, h1, h2⟩ := h
  exact je_gstrs h1 h2 hg hd
/-- where a def of the text stands -/
def At (K : PySem.W.Frag) (mg : Str → Option Value) (x : Str) (st : Stmt) : Prop := ∃ f fd, FnP K x st f fd ∧ mg x = some (.ref f)
/-- the lowest figure of a pack: _law_take -/
def m__law_take : List PyData → List PyData → Option (PyData × List PyData)
  | [.int n], [.int k] => if 0 < k ∧ k < 1073741824 then some (.int (n % k), [.int (n / k)]) else none
  | _, _ => none
theorem sc__law_take : FnScope ["_law_pack_here", "_law_size", "_law_digit"] ["_law_pack_here", "_law_size"] (defScope (topSt 64)) := ⟨rfl, rfl, rfl, by decide +kernel, rfl, by decide +kernel, by decide +kernel⟩
section
variable {P : Program} {w : World} {K : PySem.W.Frag} {mg : Str → Option Value} {base : Heap}
theorem df__law_take (D : At K mg "_law_take" (topSt 64)) (T : Bi mg) : Df P w K mg base 1 "_law_take" (spO K m__law_take) := by
  obtain ⟨f, fd, F, hm⟩ := D
  refine ⟨f, fd, ["_law_pack_here", "_law_size"], F.ok (N := ["_law_pack_here", "_law_size", "_law_digit"]) (k := 0) sc__law_take (fun vs H Q E h => ?_) (fun cdv A outer s H vs Q E hr h => ⟨_, PSs.nox (pss_cons (ps_asg (pe_callB call_divmod rfl T.divmod bv_divmod (pa_cons (pe_ix ix_list (pv 0) pe_int (fun _ _ => rfl)) (pa_cons (pv 1) pa_nil)))
    (pg_tup rfl (pgs_cons (pg_sub (pv 0) pe_int set_list) (pgs_cons (pg_name (i := 2) sc__law_take.nd rfl (.inl rfl)) pgs_nil)))) (pss_one (ps_ret (pv 2)))), ?_⟩), hm, F.kp, F.bindsN fun _ _ _ _ _ _ us hl => match us, hl with | [_, _], _ => rfl⟩
  · obtain ⟨S0, p, xs, es, ws, ds, d, es', rfl, _, _, _, _, r, e, _⟩ := h
    unfold m__law_take at e
    split at e
    · rw [List.length_cons, r.length]; rfl
    · cases e
  · obtain ⟨S0, p, xs, es, ws, ds, d, es', rfl, le, hS, hH, rx, r, e, q⟩ := h
    unfold m__law_take at e
    split at e
    · rename_i n k
      split at e
      · rename_i hk
        cases e
        have hx := RpL.ints (is := [n]) rx
        have hw := RpL.ints (is := [k]) r
        subst hx
        subst hw
        refine ⟨_, rfl, p, [.int n], 0, .int n, rfl, rfl, .inl (.inl hH), rfl, .int k, rfl, n, k, rfl, hk, fun t ht => ?_⟩
        have ntp : p ≠ t := ne_of_none hH ht
        refine ⟨t, [.int (n / k), .int (n % k)], rfl, .inl (.inl upd_same), rfl, .int (n / k), [.int (n % k)], rfl, ?_⟩
        refine ⟨.ref p, rfl, p, [.int n], 0, 0, rfl, rfl, by rw [upd_ne ntp]; exact hH, rfl, .int (n % k), [], rfl, rfl, .int (n % k), rfl, ?_⟩
        have s1 : Stp (fun a => a = p) S0 H S0 (upd H t (.tup [.int (n / k), .int (n % k)])) := Stp.hidden le ht
        exact q (.int (n % k)) [.int (n / k)] S0 _ (s1.trans (Stp.write (A := fun a => a = p) s1.sub hS rfl) fun _ z => .inl z) hS upd_same (.one (.int _)) (.int _)
      · cases e
    · cases e
end
end K45

set_option Elab.async false
set_option linter.all false
set_option maxRecDepth 100000
set_option maxHeartbeats 4000000
/-! K45: the mirrors, printed by gen.py. -/
namespace K45
open PySem PySem.Spec PyProof.Rows L2 Md
def F_is_whole : FS := (sRet (fAndV (fIsi "int" (fV 0)) (fNotV (fIsi "bool" (fV 0)))))
def m_is_whole : List PyData → Option PyData := runV 1 1 F_is_whole

def F_is_between : FS := (sRet (fAndV (fCB m_is_whole (aCons (fV 0) aNil)) (fChain dLe dLe (fV 1) (fV 0) (fV 2))))
def m_is_between : List PyData → Option PyData := runV 3 3 F_is_between

def F_is_kind : FS := (sRet (fAndV (fIsi "str" (fV 0)) (fBin (inD false) (fV 0) (fC (strsD ["whole", "either", "torn"])))))
def m_is_kind : List PyData → Option PyData := runV 1 1 F_is_kind

def F_is_box : FS := (sSeq (sIf (fOrT (fNotT (fTest (fIsi "tuple" (fV 0)))) (fOrT (fTest (fBin dNe (fCB dLen (aCons (fV 0) aNil)) (fC (.int 3)))) (fNotT (fTest (fCB m_is_kind (aCons (fBin dIx (fV 0) (fC (.int 0))) aNil)))))) (sRet (fC (.bool false))) sNext)
  (sRet (fAndV (fCB m_is_between (aCons (fBin dIx (fV 0) (fC (.int 1))) (aCons (fC (.int 2)) (aCons (fC (.int 5)) aNil)))) (fCB m_is_between (aCons (fBin dIx (fV 0) (fC (.int 2))) (aCons (fC (.int 0)) (aCons (fBin dSub (fBin dIx (fV 0) (fC (.int 1))) (fC (.int 1))) aNil)))))))
def m_is_box : List PyData → Option PyData := runV 1 1 F_is_box

def F_are_boxes : FS := (sRet (fAndV (fIsi "tuple" (fV 0)) (fAndV (fChain dLe dLe (fC (.int 1)) (fCB dLen (aCons (fV 0) aNil)) (fV 1)) (fCB dAll (aCons (fComp (iTupl (fV 0)) (bName 2) cYes (fCB m_is_box (aCons (fV 2) aNil)) [2]) aNil)))))
def m_are_boxes : List PyData → Option PyData := runV 2 3 F_are_boxes

def F_are_numbers : FS := (sSeq (sIf (fOrT (fNotT (fTest (fIsi "tuple" (fV 0)))) (fNotT (fTest (fCB dAll (aCons (fComp (iTupl (fV 0)) (bName 3) cYes (fCB m_is_between (aCons (fV 3) (aCons (fC (.int 0)) (aCons (fBin dSub (fV 1) (fC (.int 1))) aNil)))) [3]) aNil))))) (sRet (fC (.bool false))) sNext)
  (sRet (fCB dAll (aCons (fComp (iR1 (fBin dSub (fCB dLen (aCons (fV 0) aNil)) (fC (.int 1)))) (bName 2) cYes (fBin dLt (fBin dIx (fV 0) (fV 2)) (fBin dIx (fV 0) (fBin dAdd (fV 2) (fC (.int 1))))) [2]) aNil))))
def m_are_numbers : List PyData → Option PyData := runV 2 4 F_are_numbers

def F_is_write : FS := (sSeq (sIf (fOrT (fNotT (fTest (fIsi "tuple" (fV 1)))) (fOrT (fTest (fBin dNe (fCB dLen (aCons (fV 1) aNil)) (fC (.int 3)))) (fOrT (fNotT (fTest (fIsi "str" (fBin dIx (fV 1) (fC (.int 0)))))) (fTest (fBin dNe (fBin dIx (fV 1) (fC (.int 0))) (fC (.str "write"))))))) (sRet (fC (.bool false))) sNext)
  (sRet (fAndV (fCB m_is_between (aCons (fBin dIx (fV 1) (fC (.int 1))) (aCons (fC (.int 0)) (aCons (fBin dSub (fCB dLen (aCons (fV 0) aNil)) (fC (.int 1))) aNil)))) (fCB m_is_between (aCons (fBin dIx (fV 1) (fC (.int 2))) (aCons (fC (.int 0)) (aCons (fBin dSub (fBin dIx (fBin dIx (fV 0) (fBin dIx (fV 1) (fC (.int 1)))) (fC (.int 1))) (fC (.int 1))) aNil)))))))
def m_is_write : List PyData → Option PyData := runV 2 2 F_is_write

def F_is_place_for : FS := (sSeq (sIf (fTest (fBin dLt (fV 1) (fV 2))) (sRet (fCB m_is_between (aCons (fV 0) (aCons (fC (.int 1)) (aCons (fV 2) aNil))))) sNext)
  (sSeq (sIf (fTest (fBin dEq (fV 1) (fV 2))) (sRet (fCB m_is_between (aCons (fV 0) (aCons (fV 2) (aCons (fV 2) aNil))))) sNext)
  (sRet (fCB m_is_between (aCons (fV 0) (aCons (fBin dAdd (fV 2) (fC (.int 1))) (aCons (fV 3) aNil)))))))
def m_is_place_for : List PyData → Option PyData := runV 4 4 F_is_place_for

def F_is_look : FS := (sSeq (sIf (fOrT (fNotT (fTest (fIsi "tuple" (fV 1)))) (fOrT (fTest (fBin dNe (fCB dLen (aCons (fV 1) aNil)) (fC (.int 4)))) (fOrT (fNotT (fTest (fIsi "str" (fBin dIx (fV 1) (fC (.int 0)))))) (fTest (fBin dNe (fBin dIx (fV 1) (fC (.int 0))) (fC (.str "look"))))))) (sRet (fC (.bool false))) sNext)
  (sRet (fAndV (fCB m_is_between (aCons (fBin dIx (fV 1) (fC (.int 1))) (aCons (fC (.int 0)) (aCons (fBin dSub (fCB dLen (aCons (fV 0) aNil)) (fC (.int 1))) aNil)))) (fCB m_are_numbers (aCons (fBin dIx (fV 1) (fC (.int 2))) (aCons (fBin dIx (fBin dIx (fV 0) (fBin dIx (fV 1) (fC (.int 1)))) (fC (.int 1))) aNil))))))
def m_is_look : List PyData → Option PyData := runV 2 2 F_is_look

def F_has_ends : FS := (sSeq (sIf (fOrT (fNotT (fTest (fIsi "tuple" (fV 0)))) (fOrT (fTest (fBin dNe (fCB dLen (aCons (fV 0) aNil)) (fC (.int 3)))) (fNotT (fTest (fIsi "tuple" (fBin dIx (fV 0) (fC (.int 2)))))))) (sRet (fC (.bool false))) sNext)
  (sSeq (sIf (fOrT (fNotT (fTest (fChain dLe dLe (fC (.int 1)) (fCB dLen (aCons (fBin dIx (fV 0) (fC (.int 2))) aNil)) (fV 1)))) (fNotT (fTest (fCB m_is_between (aCons (fBin dIx (fV 0) (fC (.int 1))) (aCons (fC (.int 1)) (aCons (fCB dLen (aCons (fBin dIx (fV 0) (fC (.int 2))) aNil)) aNil))))))) (sRet (fC (.bool false))) sNext)
  (sRet (fCB m_is_between (aCons (fBin dIx (fV 0) (fC (.int 0))) (aCons (fC (.int 0)) (aCons (fBin dSub (fBin dIx (fV 0) (fC (.int 1))) (fC (.int 1))) aNil)))))))
def m_has_ends : List PyData → Option PyData := runV 2 2 F_has_ends

def F_is_program : FS := (sSeq (sIf (fNotT (fTest (fCB m_has_ends (aCons (fV 1) (aCons (fC (.int 16)) aNil))))) (sRet (fC (.bool false))) sNext)
  (sSeq (sAsg (bTup 3 (bCons (bName 2) (bCons (bName 3) (bCons (bName 4) bNil)))) (fV 1))
  (sSeq (sFor (iEnu 1 (fV 4)) (bTup 2 (bCons (bName 5) (bCons (bName 6) bNil))) (sSeq (sIf (fAndT (fNotT (fTest (fCB m_is_write (aCons (fV 0) (aCons (fV 6) aNil))))) (fNotT (fTest (fCB m_is_look (aCons (fV 0) (aCons (fV 6) aNil)))))) (sRet (fC (.bool false))) sNext)
  (sIf (fAndT (fTest (fBin dEq (fBin dIx (fV 6) (fC (.int 0))) (fC (.str "look")))) (fNotT (fTest (fCB m_is_place_for (aCons (fBin dIx (fV 6) (fC (.int 3))) (aCons (fV 5) (aCons (fV 3) (aCons (fCB dLen (aCons (fV 4) aNil)) aNil)))))))) (sRet (fC (.bool false))) sNext)))
  (sRet (fC (.bool true))))))
def m_is_program : List PyData → Option PyData := runV 2 7 F_is_program

def F_writers : FS := (sRet (fCB dLen (aCons (fComp (iTupl (fV 0)) (bTup 3 (bCons (bName 2) (bCons (bName 3) (bCons (bName 4) bNil)))) (fTest (fCB dAny (aCons (fComp (iTupl (fV 4)) (bName 5) cYes (fBin dEq (fSl (fV 5) oNone (oSome (fC (.int 2)))) (fTup (aCons (fC (.str "write")) (aCons (fV 1) aNil)))) [5]) aNil))) (fV 2) [2, 3, 4]) aNil)))
def m_writers : List PyData → Option PyData := runV 2 6 F_writers

def F_is_way : FS := (sSeq (sIf (fOrT (fNotT (fTest (fIsi "tuple" (fV 0)))) (fOrT (fTest (fBin dNe (fCB dLen (aCons (fV 0) aNil)) (fC (.int 2)))) (fNotT (fTest (fCB m_are_boxes (aCons (fBin dIx (fV 0) (fC (.int 0))) (aCons (fC (.int 12)) aNil))))))) (sRet (fC (.bool false))) sNext)
  (sSeq (sAsg (bTup 2 (bCons (bName 1) (bCons (bName 2) bNil))) (fV 0))
  (sSeq (sIf (fOrT (fNotT (fTest (fIsi "tuple" (fV 2)))) (fNotT (fTest (fChain dLe dLe (fC (.int 1)) (fCB dLen (aCons (fV 2) aNil)) (fC (.int 4)))))) (sRet (fC (.bool false))) sNext)
  (sSeq (sIf (fNotT (fTest (fCB dAll (aCons (fComp (iTupl (fV 2)) (bName 3) cYes (fCB m_is_program (aCons (fV 1) (aCons (fV 3) aNil))) [3]) aNil)))) (sRet (fC (.bool false))) sNext)
  (sRet (fCB dAll (aCons (fComp (iEnu 0 (fV 1)) (bTup 2 (bCons (bName 4) (bCons (bName 5) bNil))) cYes (fOrV (fBin dEq (fBin dIx (fV 5) (fC (.int 0))) (fC (.str "whole"))) (fBin dLe (fCB m_writers (aCons (fV 2) (aCons (fV 4) aNil))) (fC (.int 1)))) [4, 5]) aNil)))))))
def m_is_way : List PyData → Option PyData := runV 1 6 F_is_way

def F_check_way : FS := (sIf (fNotT (fTest (fCB m_is_way (aCons (fV 0) aNil)))) sNever sNext)
def m_check_way : List PyData → Option PyData := runV 1 1 F_check_way

def F_check_hand : FS := (sSeq (sDrop (fCB m_check_way (aCons (fV 0) aNil)))
  (sIf (fNotT (fTest (fCB m_is_between (aCons (fV 1) (aCons (fC (.int 0)) (aCons (fBin dSub (fCB dLen (aCons (fBin dIx (fV 0) (fC (.int 1))) aNil)) (fC (.int 1))) aNil)))))) sNever sNext))
def m_check_hand : List PyData → Option PyData := runV 2 2 F_check_hand

def F_next_place : FS := (sSeq (sIf (fTest (fBin dEq (fV 1) (fCB dLen (aCons (fBin dIx (fV 0) (fC (.int 2))) aNil)))) (sRet (fC (.int 0))) sNext)
  (sRet (fBin dAdd (fV 1) (fC (.int 1)))))
def m_next_place : List PyData → Option PyData := runV 2 2 F_next_place

def F_part_of : FS := (sSeq (sAsg (bTup 3 (bCons (bName 2) (bCons (bName 3) (bCons (bName 4) bNil)))) (fV 0))
  (sSeq (sIf (fTest (fBin dEq (fV 1) (fC (.int 0)))) (sRet (fC (.str "outside"))) sNext)
  (sSeq (sIf (fTest (fBin dLe (fV 1) (fV 2))) (sRet (fC (.str "doorway"))) sNext)
  (sSeq (sIf (fTest (fBin dLt (fV 1) (fV 3))) (sRet (fC (.str "waiting"))) sNext)
  (sRet (fBin dIx (fLst (aCons (fC (.str "leaving")) (aCons (fC (.str "within")) aNil))) (fCB dInt (aCons (fBin dEq (fV 1) (fV 3)) aNil))))))))
def m_part_of : List PyData → Option PyData := runV 2 5 F_part_of

def F_part_at : FS := (sSeq (sDrop (fCB m_check_hand (aCons (fV 0) (aCons (fV 1) aNil))))
  (sSeq (sAsg (bName 3) (fBin dIx (fBin dIx (fV 0) (fC (.int 1))) (fV 1)))
  (sSeq (sIf (fNotT (fTest (fCB m_is_between (aCons (fV 2) (aCons (fC (.int 0)) (aCons (fCB dLen (aCons (fBin dIx (fV 3) (fC (.int 2))) aNil)) aNil)))))) sNever sNext)
  (sRet (fCB m_part_of (aCons (fV 3) (aCons (fV 2) aNil)))))))
def m_part_at : List PyData → Option PyData := runV 3 4 F_part_at

def F_is_template_look : FS := (sSeq (sIf (fOrT (fNotT (fTest (fIsi "tuple" (fV 1)))) (fOrT (fTest (fBin dNe (fCB dLen (aCons (fV 1) aNil)) (fC (.int 5)))) (fOrT (fNotT (fTest (fIsi "str" (fBin dIx (fV 1) (fC (.int 1)))))) (fTest (fBin (inD true) (fBin dIx (fV 1) (fC (.int 1))) (fC (strsD ["others", "lower", "higher"]))))))) (sRet (fC (.bool false))) sNext)
  (sRet (fAndV (fCB m_is_look (aCons (fV 0) (aCons (fBin dAdd (fSl (fV 1) oNone (oSome (fC (.int 1)))) (fSl (fV 1) (oSome (fC (.int 2))) oNone)) aNil))) (fAndV (fBin dLt (fV 2) (fV 3)) (fCB m_is_between (aCons (fBin dIx (fV 1) (fC (.int 4))) (aCons (fC (.int 1)) (aCons (fV 3) aNil))))))))
def m_is_template_look : List PyData → Option PyData := runV 4 4 F_is_template_look

def F_together : FS := (sRet (fCB dSum (aCons (fComp (iTupl (fV 0)) (bName 1) cYes (fBin dIx (fLst (aCons (fC (.int 3)) (aCons (fC (.int 1)) aNil))) (fCB dInt (aCons (fBin dEq (fBin dIx (fV 1) (fC (.int 0))) (fC (.str "write"))) aNil))) [1]) aNil)))
def m_together : List PyData → Option PyData := runV 1 2 F_together

def F_is_template : FS := (sSeq (sIf (fOrT (fNotT (fTest (fIsi "tuple" (fV 0)))) (fOrT (fTest (fBin dNe (fCB dLen (aCons (fV 0) aNil)) (fC (.int 2)))) (fNotT (fTest (fCB m_are_boxes (aCons (fBin dIx (fV 0) (fC (.int 0))) (aCons (fC (.int 2)) aNil))))))) (sRet (fC (.bool false))) sNext)
  (sSeq (sAsg (bTup 2 (bCons (bName 1) (bCons (bName 2) bNil))) (fV 0))
  (sSeq (sIf (fNotT (fTest (fCB m_has_ends (aCons (fV 2) (aCons (fC (.int 8)) aNil))))) (sRet (fC (.bool false))) sNext)
  (sSeq (sAsg (bTup 3 (bCons (bName 3) (bCons (bName 4) (bCons (bName 5) bNil)))) (fV 2))
  (sSeq (sFor (iEnu 1 (fV 5)) (bTup 2 (bCons (bName 6) (bCons (bName 7) bNil))) (sIf (fAndT (fNotT (fTest (fCB m_is_write (aCons (fV 1) (aCons (fV 7) aNil))))) (fNotT (fTest (fCB m_is_template_look (aCons (fV 1) (aCons (fV 7) (aCons (fV 6) (aCons (fV 4) aNil)))))))) (sRet (fC (.bool false))) sNext))
  (sRet (fBin dLe (fCB m_together (aCons (fV 5) aNil)) (fC (.int 16)))))))))
def m_is_template : List PyData → Option PyData := runV 1 8 F_is_template

def F_check_template : FS := (sIf (fNotT (fTest (fCB m_is_template (aCons (fV 0) aNil)))) sNever sNext)
def m_check_template : List PyData → Option PyData := runV 1 1 F_check_template

def F_looked_at : FS := (sSeq (sIf (fTest (fBin dEq (fV 0) (fC (.str "lower")))) (sRet (fLR1 (fV 1))) sNext)
  (sSeq (sIf (fTest (fBin dEq (fV 0) (fC (.str "higher")))) (sRet (fLR2 (fBin dAdd (fV 1) (fC (.int 1))) (fV 2))) sNext)
  (sRet (fComp (iR1 (fV 2)) (bName 3) (fTest (fBin dNe (fV 3) (fV 1))) (fV 3) [3]))))
def m_looked_at : List PyData → Option PyData := runV 3 4 F_looked_at

def F_rows_of : FS := (sSeq (sIf (fTest (fBin dEq (fBin dIx (fV 0) (fC (.int 0))) (fC (.str "write")))) (sRet (fC (.int 1))) sNext)
  (sRet (fCB dLen (aCons (fCB m_looked_at (aCons (fBin dIx (fV 0) (fC (.int 1))) (aCons (fV 1) (aCons (fV 2) aNil)))) aNil))))
def m_rows_of : List PyData → Option PyData := runV 3 3 F_rows_of

def F_begins : FS := (sSeq (sSetN 3 (nLst aNil))
  (sSeq (sAsg (bName 4) (fC (.int 1)))
  (sSeq (sFor (iTupl (fV 0)) (bName 5) (sSeq (sApp 3 (fV 4))
  (sAsg (bName 4) (fBin dAdd (fV 4) (fCB m_rows_of (aCons (fV 5) (aCons (fV 1) (aCons (fV 2) aNil))))))))
  (sRet (fZ 3)))))
def m_begins : List PyData → Option PyData := runV 3 6 F_begins

def F_program_for : FS := (sSeq (sAsg (bTup 2 (bCons (bName 7) (bCons (bTup 3 (bCons (bName 8) (bCons (bName 9) (bCons (bName 10) bNil)))) bNil))) (fV 0))
  (sSeq (sAsg (bName 3) (fCB m_begins (aCons (fV 10) (aCons (fV 1) (aCons (fV 2) aNil)))))
  (sSeq (sSetN 4 (nLst aNil))
  (sSeq (sFor (iTupl (fV 10)) (bName 5) (sIf (fTest (fBin dEq (fBin dIx (fV 5) (fC (.int 0))) (fC (.str "write")))) (sApp 4 (fTup (aCons (fC (.str "write")) (aCons (fBin dAdd (fBin dMulT (fV 1) (fCB dLen (aCons (fV 7) aNil))) (fBin dIx (fV 5) (fC (.int 1)))) (aCons (fBin dIx (fV 5) (fC (.int 2))) aNil))))) (sFor (iLst (fCB m_looked_at (aCons (fBin dIx (fV 5) (fC (.int 1))) (aCons (fV 1) (aCons (fV 2) aNil))))) (bName 11) (sApp 4 (fTup (aCons (fC (.str "look")) (aCons (fBin dAdd (fBin dMulT (fV 11) (fCB dLen (aCons (fV 7) aNil))) (fBin dIx (fV 5) (fC (.int 2)))) (aCons (fBin dIx (fV 5) (fC (.int 3))) (aCons (fBin dIx (fV 3) (fBin dSub (fBin dIx (fV 5) (fC (.int 4))) (fC (.int 1)))) aNil)))))))))
  (sSeq (sAsg (bName 6) (fCB dSum (aCons (fComp (iTupl (fSl (fV 10) oNone (oSome (fV 8)))) (bName 5) cYes (fCB m_rows_of (aCons (fV 5) (aCons (fV 1) (aCons (fV 2) aNil)))) [5]) aNil)))
  (sRet (fTup (aCons (fV 6) (aCons (fBin dIx (fV 3) (fBin dSub (fV 9) (fC (.int 1)))) (aCons (fCB dTuple (aCons (fZ 4) aNil)) aNil))))))))))
def m_program_for : List PyData → Option PyData := runV 3 12 F_program_for

def F_way_for : FS := (sSeq (sDrop (fCB m_check_template (aCons (fV 0) aNil)))
  (sSeq (sIf (fNotT (fTest (fCB m_is_between (aCons (fV 1) (aCons (fC (.int 1)) (aCons (fC (.int 4)) aNil)))))) sNever sNext)
  (sRet (fTup (aCons (fBin dMulT (fBin dIx (fV 0) (fC (.int 0))) (fV 1)) (aCons (fCB dTuple (aCons (fComp (iR1 (fV 1)) (bName 2) cYes (fCB m_program_for (aCons (fV 0) (aCons (fV 2) (aCons (fV 1) aNil)))) [2]) aNil)) aNil))))))
def m_way_for : List PyData → Option PyData := runV 2 3 F_way_for

def F_is_spot : FS := (sSeq (sAsg (bName 3) (fBin dIx (fV 1) (fC (.int 2))))
  (sSeq (sIf (fOrT (fNotT (fTest (fCB m_is_whole (aCons (fV 2) aNil)))) (fOrT (fNotT (fTest (fChain dLe dLe (fC (.int 0)) (fV 2) (fBin dAdd (fBin dMulT (fC (.int 2)) (fCB dLen (aCons (fV 3) aNil))) (fC (.int 1)))))) (fTest (fBin dEq (fV 2) (fC (.int 1)))))) (sRet (fC (.bool false))) sNext)
  (sSeq (sIf (fTest (fBin dEq (fBin dMod (fV 2) (fC (.int 2))) (fC (.int 0)))) (sRet (fC (.bool true))) sNext)
  (sSeq (sAsg (bName 4) (fBin dIx (fV 3) (fBin dSub (fBin dFdiv (fV 2) (fC (.int 2))) (fC (.int 1)))))
  (sRet (fAndV (fBin dEq (fBin dIx (fV 4) (fC (.int 0))) (fC (.str "write"))) (fBin dNe (fBin dIx (fBin dIx (fV 0) (fBin dIx (fV 4) (fC (.int 1)))) (fC (.int 0))) (fC (.str "whole")))))))))
def m_is_spot : List PyData → Option PyData := runV 3 5 F_is_spot

def F_is_standing : FS := (sSeq (sDrop (fCB m_check_way (aCons (fV 0) aNil)))
  (sSeq (sAsg (bTup 2 (bCons (bName 2) (bCons (bName 3) bNil))) (fV 0))
  (sSeq (sIf (fOrT (fNotT (fTest (fIsi "tuple" (fV 1)))) (fOrT (fTest (fBin dNe (fCB dLen (aCons (fV 1) aNil)) (fC (.int 2)))) (fNotT (fTest (fCB dAll (aCons (fComp (iTupl (fV 1)) (bName 8) cYes (fIsi "tuple" (fV 8)) [8]) aNil)))))) (sRet (fC (.bool false))) sNext)
  (sSeq (sAsg (bTup 2 (bCons (bName 4) (bCons (bName 5) bNil))) (fV 1))
  (sSeq (sIf (fOrT (fTest (fBin dNe (fCB dLen (aCons (fV 4) aNil)) (fCB dLen (aCons (fV 3) aNil)))) (fTest (fBin dNe (fCB dLen (aCons (fV 5) aNil)) (fCB dLen (aCons (fV 2) aNil))))) (sRet (fC (.bool false))) sNext)
  (sSeq (sIf (fNotT (fTest (fCB dAll (aCons (fComp (iZp (fV 3) (fV 4)) (bTup 2 (bCons (bName 9) (bCons (bName 10) bNil))) cYes (fCB m_is_spot (aCons (fV 2) (aCons (fV 9) (aCons (fV 10) aNil)))) [9, 10]) aNil)))) (sRet (fC (.bool false))) sNext)
  (sRet (fCB dAll (aCons (fComp (iZp (fV 2) (fV 5)) (bTup 2 (bCons (bName 6) (bCons (bName 7) bNil))) cYes (fAndV (fCB m_is_whole (aCons (fV 7) aNil)) (fChain dLe dLt (fC (.int 0)) (fV 7) (fBin dIx (fV 6) (fC (.int 1))))) [6, 7]) aNil)))))))))
def m_is_standing : List PyData → Option PyData := runV 2 11 F_is_standing

def F_check_standing : FS := (sIf (fNotT (fTest (fCB m_is_standing (aCons (fV 0) (aCons (fV 1) aNil))))) sNever sNext)
def m_check_standing : List PyData → Option PyData := runV 2 2 F_check_standing

def F_first_standing : FS := (sSeq (sDrop (fCB m_check_way (aCons (fV 0) aNil)))
  (sSeq (sAsg (bTup 2 (bCons (bName 1) (bCons (bName 2) bNil))) (fV 0))
  (sRet (fTup (aCons (fBin dMulT (fTup (aCons (fC (.int 0)) aNil)) (fCB dLen (aCons (fV 2) aNil))) (aCons (fCB dTuple (aCons (fComp (iTupl (fV 1)) (bName 3) cYes (fBin dIx (fV 3) (fC (.int 2))) [3]) aNil)) aNil))))))
def m_first_standing : List PyData → Option PyData := runV 1 4 F_first_standing

def F_put_in : FS := (sRet (fBin dAdd (fBin dAdd (fSl (fV 0) oNone (oSome (fV 1))) (fTup (aCons (fV 2) aNil))) (fSl (fV 0) (oSome (fBin dAdd (fV 1) (fC (.int 1)))) oNone)))
def m_put_in : List PyData → Option PyData := runV 3 3 F_put_in

def F_spot_on : FS := (sRet (fBin dMulT (fC (.int 2)) (fCB m_next_place (aCons (fV 0) (aCons (fV 1) aNil)))))
def m_spot_on : List PyData → Option PyData := runV 2 2 F_spot_on

def F_written_now : FS := (sSeq (sFor (iZp (fBin dIx (fV 0) (fC (.int 1))) (fV 1)) (bTup 2 (bCons (bName 3) (bCons (bName 4) bNil))) (sIf (fTest (fBin dEq (fBin dMod (fV 4) (fC (.int 2))) (fC (.int 1)))) (sSeq (sAsg (bName 5) (fBin dIx (fBin dIx (fV 3) (fC (.int 2))) (fBin dSub (fBin dFdiv (fV 4) (fC (.int 2))) (fC (.int 1)))))
  (sIf (fTest (fBin dEq (fBin dIx (fV 5) (fC (.int 1))) (fV 2))) (sRet (fBin dIx (fV 5) (fC (.int 2)))) sNext)) sNext))
  (sRet (fC .none)))
def m_written_now : List PyData → Option PyData := runV 3 6 F_written_now

def F_can_be_told : FS := (sSeq (sAsg (bTup 3 (bCons (bName 4) (bCons (bName 5) (bCons (bName 6) bNil)))) (fBin dIx (fBin dIx (fV 0) (fC (.int 0))) (fV 2)))
  (sSeq (sAsg (bTup 2 (bCons (bName 7) (bCons (bName 8) bNil))) (fV 1))
  (sSeq (sAsg (bName 3) (fCB m_written_now (aCons (fV 0) (aCons (fV 7) (aCons (fV 2) aNil)))))
  (sSeq (sIf (fTest (fBin dIsN (fV 3) (fC .none))) (sRet (fLst (aCons (fBin dIx (fV 8) (fV 2)) aNil))) sNext)
  (sSeq (sIf (fTest (fBin dEq (fV 4) (fC (.str "torn")))) (sRet (fLR1 (fV 5))) sNext)
  (sRet (fSS (fLst (aCons (fBin dIx (fV 8) (fV 2)) (aCons (fV 3) aNil))))))))))
def m_can_be_told : List PyData → Option PyData := runV 3 9 F_can_be_told

def F_write_step : FS := (sSeq (sAsg (bTup 2 (bCons (bName 3) (bCons (bName 4) bNil))) (fV 1))
  (sSeq (sPar 5 6 (aCons (fBin dIx (fBin dIx (fV 0) (fC (.int 1))) (fV 2)) (aCons (fBin dIx (fV 3) (fV 2)) aNil)))
  (sSeq (sAsg (bTup 3 (bCons (bName 7) (bCons (bName 8) (bCons (bName 9) bNil)))) (fBin dIx (fBin dIx (fV 5) (fC (.int 2))) (fBin dSub (fBin dFdiv (fV 6) (fC (.int 2))) (fC (.int 1)))))
  (sSeq (sIf (fAndT (fTest (fBin dNe (fBin dIx (fBin dIx (fBin dIx (fV 0) (fC (.int 0))) (fV 8)) (fC (.int 0))) (fC (.str "whole")))) (fTest (fBin dEq (fBin dMod (fV 6) (fC (.int 2))) (fC (.int 0))))) (sRet (fTup (aCons (fCB m_put_in (aCons (fV 3) (aCons (fV 2) (aCons (fBin dAdd (fV 6) (fC (.int 1))) aNil)))) (aCons (fV 4) aNil)))) sNext)
  (sRet (fTup (aCons (fCB m_put_in (aCons (fV 3) (aCons (fV 2) (aCons (fCB m_spot_on (aCons (fV 5) (aCons (fBin dFdiv (fV 6) (fC (.int 2))) aNil))) aNil)))) (aCons (fCB m_put_in (aCons (fV 4) (aCons (fV 8) (aCons (fV 9) aNil)))) aNil))))))))
def m_write_step : List PyData → Option PyData := runV 3 10 F_write_step

def F_look_steps : FS := (sSeq (sAsg (bTup 2 (bCons (bName 5) (bCons (bName 6) bNil))) (fV 1))
  (sSeq (sPar 7 8 (aCons (fBin dIx (fBin dIx (fV 0) (fC (.int 1))) (fV 2)) (aCons (fBin dIx (fV 5) (fV 2)) aNil)))
  (sSeq (sAsg (bTup 4 (bCons (bName 9) (bCons (bName 10) (bCons (bName 11) (bCons (bName 12) bNil))))) (fBin dIx (fBin dIx (fV 7) (fC (.int 2))) (fBin dSub (fBin dFdiv (fV 8) (fC (.int 2))) (fC (.int 1)))))
  (sSeq (sSetN 3 (nLst aNil))
  (sSeq (sFor (iLst (fCB m_can_be_told (aCons (fV 0) (aCons (fV 1) (aCons (fV 10) aNil))))) (bName 4) (sSeq (sAsg (bName 13) (fBin dMulT (fC (.int 2)) (fV 12)))
  (sSeq (sIf (fTest (fBin (inD false) (fV 4) (fV 11))) (sAsg (bName 13) (fCB m_spot_on (aCons (fV 7) (aCons (fBin dFdiv (fV 8) (fC (.int 2))) aNil)))) sNext)
  (sApp 3 (fTup (aCons (fTup (aCons (fV 2) (aCons (fV 4) aNil))) (aCons (fTup (aCons (fCB m_put_in (aCons (fV 5) (aCons (fV 2) (aCons (fV 13) aNil)))) (aCons (fV 6) aNil))) aNil)))))))
  (sRet (fZ 3)))))))
def m_look_steps : List PyData → Option PyData := runV 3 14 F_look_steps

def F_hand_steps : FS := (sSeq (sAsg (bTup 2 (bCons (bName 4) (bCons (bName 5) bNil))) (fV 1))
  (sSeq (sAsg (bName 3) (fBin dIx (fV 4) (fV 2)))
  (sSeq (sIf (fTest (fBin dEq (fV 3) (fC (.int 0)))) (sRet (fLst (aCons (fTup (aCons (fTup (aCons (fV 2) (aCons (fC .none) aNil))) (aCons (fTup (aCons (fCB m_put_in (aCons (fV 4) (aCons (fV 2) (aCons (fC (.int 2)) aNil)))) (aCons (fV 5) aNil))) aNil))) aNil))) sNext)
  (sSeq (sIf (fTest (fBin dEq (fBin dIx (fBin dIx (fBin dIx (fBin dIx (fBin dIx (fV 0) (fC (.int 1))) (fV 2)) (fC (.int 2))) (fBin dSub (fBin dFdiv (fV 3) (fC (.int 2))) (fC (.int 1)))) (fC (.int 0))) (fC (.str "write")))) (sRet (fLst (aCons (fTup (aCons (fTup (aCons (fV 2) (aCons (fC .none) aNil))) (aCons (fCB m_write_step (aCons (fV 0) (aCons (fV 1) (aCons (fV 2) aNil)))) aNil))) aNil))) sNext)
  (sRet (fCB m_look_steps (aCons (fV 0) (aCons (fV 1) (aCons (fV 2) aNil)))))))))
def m_hand_steps : List PyData → Option PyData := runV 3 6 F_hand_steps

def F_steps_of : FS := (sSeq (sSetN 2 (nLst aNil))
  (sSeq (sFor (iR1 (fCB dLen (aCons (fBin dIx (fV 0) (fC (.int 1))) aNil))) (bName 3) (sExt 2 (fCB m_hand_steps (aCons (fV 0) (aCons (fV 1) (aCons (fV 3) aNil))))))
  (sRet (fCB dTuple (aCons (fZ 2) aNil)))))
def m_steps_of : List PyData → Option PyData := runV 2 4 F_steps_of

def F_steps_from : FS := (sSeq (sDrop (fCB m_check_standing (aCons (fV 0) (aCons (fV 1) aNil))))
  (sRet (fCB m_steps_of (aCons (fV 0) (aCons (fV 1) aNil)))))
def m_steps_from : List PyData → Option PyData := runV 2 2 F_steps_from

def F__law_mixed : FS := (sRet (fBin dMod (fBin dMulT (fBin dMod (fV 0) (fBin dPow (fC (.int 10)) (fC (.int 60)))) (fC (.int 977121254719662437295027903255115309200128864190695864829866917))) (fBin dPow (fC (.int 10)) (fC (.int 60)))))
def m__law_mixed : List PyData → Option PyData := runV 1 1 F__law_mixed

def F__law_pack : FS := (sSeq (sAsg (bName 2) (fC (.int 0)))
  (sSeq (sFor (iLst (fLst (aCons (fBin dAdd (fV 1) (fC (.int 1))) (aCons (fV 1) aNil)))) (bName 3) (sSeq (sAsg (bName 4) (fBin dFdiv (fCB m__law_mixed (aCons (fBin dAdd (fBin dAdd (fBin dMulT (fC (.int 6007)) (fV 3)) (fC (.int 41))) (fBin dMulT (fC (.int 11)) (fBin dIx (fBin dAdd (fV 0) (fLst (aCons (fC (.int 0)) aNil))) (fC (.int 0))))) aNil)) (fBin dPow (fC (.int 10)) (fC (.int 25)))))
  (sAsg (bName 2) (fBin dAdd (fBin dMulT (fV 2) (fBin dPow (fC (.int 10)) (fC (.int 60)))) (fCB m__law_mixed (aCons (fBin dIx (fBin dAdd (fSl (fV 0) (oSome (fV 3)) (oSome (fBin dAdd (fV 3) (fC (.int 1))))) (fLst (aCons (fV 4) aNil))) (fC (.int 0))) aNil))))))
  (sRetN (nLst (aCons (fV 2) aNil)))))
def m__law_pack : List PyData → Option (List PyData) := runN 2 5 F__law_pack

def F__law_numbers : FS := (sSeq (sAsg (bName 2) (fCallO m__law_take 0 (aCons (fBin dShl (fC (.int 1)) (fV 1)) aNil)))
  (sRet (fCB dTuple (aCons (fComp (iR1 (fV 1)) (bName 3) (fTest (fBin dEq (fBin dAnd (fBin dShr (fV 2) (fV 3)) (fC (.int 1))) (fC (.int 1)))) (fV 3) [3]) aNil))))
def m__law_numbers : List PyData → List PyData → Option (PyData × List PyData) := runO 2 4 F__law_numbers

def F__law_template : FS := (sSeq (sSetN 1 (nLst aNil))
  (sSeq (sFor (iR1 (fBin dAdd (fC (.int 1)) (fCallO m__law_take 0 (aCons (fC (.int 2)) aNil)))) (bName 2) (sSeq (sAsg (bName 9) (fBin dIx (fLst (aCons (fC (.int 2)) (aCons (fC (.int 2)) (aCons (fC (.int 3)) (aCons (fC (.int 5)) aNil))))) (fCallO m__law_take 0 (aCons (fC (.int 4)) aNil))))
  (sApp 1 (fTup (aCons (fBin dIx (fLst (aCons (fC (.str "whole")) (aCons (fC (.str "either")) (aCons (fC (.str "torn")) aNil)))) (fCallO m__law_take 0 (aCons (fC (.int 3)) aNil))) (aCons (fV 9) (aCons (fCallO m__law_take 0 (aCons (fV 9) aNil)) aNil)))))))
  (sSeq (sAsg (bName 3) (fBin dAdd (fC (.int 1)) (fCallO m__law_take 0 (aCons (fC (.int 8)) aNil))))
  (sSeq (sAsg (bName 4) (fBin dAdd (fC (.int 1)) (fCallO m__law_take 0 (aCons (fV 3) aNil))))
  (sSeq (sAsg (bName 5) (fCallO m__law_take 0 (aCons (fV 4) aNil)))
  (sSeq (sSetN 6 (nLst aNil))
  (sSeq (sAsg (bName 7) (fBin dSub (fC (.int 16)) (fV 3)))
  (sSeq (sFor (iR2 (fC (.int 1)) (fBin dAdd (fV 3) (fC (.int 1)))) (bName 8) (sSeq (sAsg (bName 10) (fBin dGt (fCallO m__law_take 0 (aCons (fC (.int 3)) aNil)) (fC (.int 0))))
  (sSeq (sAsg (bName 11) (fCallO m__law_take 0 (aCons (fLenO 1) aNil)))
  (sSeq (sAsg (bName 9) (fBin dIx (fIxO 1 (fV 11)) (fC (.int 1))))
  (sIf (fAndT (fTest (fV 10)) (fAndT (fTest (fBin dLt (fV 8) (fV 4))) (fTest (fBin dGt (fV 7) (fC (.int 1)))))) (sSeq (sAsg (bName 7) (fBin dSub (fV 7) (fC (.int 2))))
  (sSeq (sAsg (bName 12) (fBin dIx (fLst (aCons (fC (.str "others")) (aCons (fC (.str "lower")) (aCons (fC (.str "higher")) aNil)))) (fCallO m__law_take 0 (aCons (fC (.int 3)) aNil))))
  (sApp 6 (fTup (aCons (fC (.str "look")) (aCons (fV 12) (aCons (fV 11) (aCons (fCallO m__law_numbers 0 (aCons (fV 9) aNil)) (aCons (fBin dAdd (fC (.int 1)) (fCallO m__law_take 0 (aCons (fV 4) aNil))) aNil))))))))) (sApp 6 (fTup (aCons (fC (.str "write")) (aCons (fV 11) (aCons (fCallO m__law_take 0 (aCons (fV 9) aNil)) aNil))))))))))
  (sRet (fTup (aCons (fCB dTuple (aCons (fZ 1) aNil)) (aCons (fTup (aCons (fV 5) (aCons (fV 4) (aCons (fCB dTuple (aCons (fZ 6) aNil)) aNil)))) aNil))))))))))))
def m__law_template : List PyData → List PyData → Option (PyData × List PyData) := runO 1 13 F__law_template

def F__law_known_template : FS := (sSeq (sAsg (bName 1) (fTup (aCons (fTup (aCons (fC (.str "whole")) (aCons (fC (.int 2)) (aCons (fC (.int 0)) aNil)))) aNil)))
  (sSeq (sIf (fTest (fBin dEq (fV 0) (fC (.int 0)))) (sRet (fTup (aCons (fV 1) (aCons (fTup (aCons (fC (.int 1)) (aCons (fC (.int 3)) (aCons (fTup (aCons (fTup (aCons (fC (.str "write")) (aCons (fC (.int 0)) (aCons (fC (.int 1)) aNil)))) (aCons (fTup (aCons (fC (.str "look")) (aCons (fC (.str "others")) (aCons (fC (.int 0)) (aCons (fTup (aCons (fC (.int 0)) aNil)) (aCons (fC (.int 2)) aNil)))))) (aCons (fTup (aCons (fC (.str "write")) (aCons (fC (.int 0)) (aCons (fC (.int 0)) aNil)))) aNil)))) aNil)))) aNil)))) sNext)
  (sSeq (sAsg (bName 2) (fTup (aCons (fTup (aCons (fC (.str "write")) (aCons (fC (.int 0)) (aCons (fC (.int 0)) aNil)))) (aCons (fTup (aCons (fC (.str "look")) (aCons (fC (.str "lower")) (aCons (fC (.int 0)) (aCons (fTup (aCons (fC (.int 0)) aNil)) (aCons (fC (.int 2)) aNil)))))) (aCons (fTup (aCons (fC (.str "write")) (aCons (fC (.int 0)) (aCons (fC (.int 1)) aNil)))) (aCons (fTup (aCons (fC (.str "look")) (aCons (fC (.str "lower")) (aCons (fC (.int 0)) (aCons (fTup (aCons (fC (.int 0)) aNil)) (aCons (fC (.int 1)) aNil)))))) aNil))))))
  (sRet (fTup (aCons (fV 1) (aCons (fTup (aCons (fC (.int 0)) (aCons (fC (.int 6)) (aCons (fBin dAdd (fV 2) (fTup (aCons (fTup (aCons (fC (.str "look")) (aCons (fC (.str "higher")) (aCons (fC (.int 0)) (aCons (fTup (aCons (fC (.int 0)) aNil)) (aCons (fC (.int 5)) aNil)))))) (aCons (fTup (aCons (fC (.str "write")) (aCons (fC (.int 0)) (aCons (fC (.int 0)) aNil)))) aNil)))) aNil)))) aNil)))))))
def m__law_known_template : List PyData → Option PyData := runV 1 3 F__law_known_template

def F__law_some_template : FS := (sSeq (sAsg (bName 1) (fCallO m__law_take 0 (aCons (fC (.int 5)) aNil)))
  (sSeq (sIf (fTest (fBin dLt (fV 1) (fC (.int 2)))) (sRet (fCB m__law_known_template (aCons (fV 1) aNil))) sNext)
  (sRet (fCallO m__law_template 0 aNil))))
def m__law_some_template : List PyData → List PyData → Option (PyData × List PyData) := runO 1 2 F__law_some_template

def F__law_whom : FS := (sRet (fComp (iR1 (fV 2)) (bName 3) (fOrT (fAndT (fTest (fBin dLt (fV 3) (fV 1))) (fTest (fBin dNe (fV 0) (fC (.str "higher"))))) (fAndT (fTest (fBin dGt (fV 3) (fV 1))) (fTest (fBin dNe (fV 0) (fC (.str "lower")))))) (fV 3) [3]))
def m__law_whom : List PyData → Option PyData := runV 3 4 F__law_whom

def F__law_settled : FS := (sSeq (sAsg (bName 4) (fBin dIx (fBin dIx (fV 0) (fC (.int 1))) (fC (.int 2))))
  (sSeq (sAsg (bTup 3 (bCons (bName 6) (bCons (bName 7) (bCons (bName 8) bNil)))) (fV 3))
  (sSeq (sFor (iR1 (fBin dAdd (fCB dLen (aCons (fV 4) aNil)) (fC (.int 1)))) (bName 5) (sIf (fAndT (fTest (fBin dGt (fV 6) (fC (.int 0)))) (fAndT (fTest (fBin dLe (fV 6) (fCB dLen (aCons (fV 4) aNil)))) (fTest (fBin dEq (fBin dIx (fBin dIx (fV 4) (fBin dSub (fV 6) (fC (.int 1)))) (fC (.int 0))) (fC (.str "look")))))) (sIf (fTest (fBin dEq (fV 7) (fCB dLen (aCons (fCB m__law_whom (aCons (fBin dIx (fBin dIx (fV 4) (fBin dSub (fV 6) (fC (.int 1)))) (fC (.int 1))) (aCons (fV 2) (aCons (fV 1) aNil)))) aNil)))) (sPar 6 7 (aCons (fBin dAdd (fV 6) (fC (.int 1))) (aCons (fC (.int 0)) aNil))) sNext) sNext))
  (sSeq (sIf (fTest (fBin dGt (fV 6) (fCB dLen (aCons (fV 4) aNil)))) (sAsg (bName 6) (fC (.int 0))) sNext)
  (sRet (fTup (aCons (fV 6) (aCons (fV 7) (aCons (fV 8) aNil)))))))))
def m__law_settled : List PyData → Option PyData := runV 4 9 F__law_settled

def F__law_stepped : FS := (sSeq (sAsg (bTup 2 (bCons (bName 6) (bCons (bTup 3 (bCons (bName 13) (bCons (bName 14) (bCons (bName 15) bNil)))) bNil))) (fV 0))
  (sSeq (sAsg (bTup 2 (bCons (bName 7) (bCons (bName 8) bNil))) (fV 4))
  (sSeq (sAsg (bTup 3 (bCons (bName 9) (bCons (bName 10) (bCons (bName 11) bNil)))) (fBin dIx (fV 2) (fV 7)))
  (sSeq (sIf (fTest (fBin dEq (fV 9) (fC (.int 0)))) (sAsg (bName 12) (fTup (aCons (fC (.int 1)) (aCons (fC (.int 0)) (aCons (fC (.bool false)) aNil))))) (sIf (fTest (fBin dEq (fBin dIx (fBin dIx (fV 15) (fBin dSub (fV 9) (fC (.int 1)))) (fC (.int 0))) (fC (.str "look")))) (sSeq (sAsg (bName 12) (fTup (aCons (fV 9) (aCons (fBin dAdd (fV 10) (fC (.int 1))) (aCons (fC (.bool false)) aNil)))))
  (sIf (fTest (fBin (inD true) (fV 8) (fBin dIx (fBin dIx (fV 15) (fBin dSub (fV 9) (fC (.int 1)))) (fC (.int 3))))) (sAsg (bName 12) (fTup (aCons (fBin dIx (fBin dIx (fV 15) (fBin dSub (fV 9) (fC (.int 1)))) (fC (.int 4))) (aCons (fC (.int 0)) (aCons (fC (.bool false)) aNil))))) sNext)) (sIf (fAndT (fTest (fBin dNe (fBin dIx (fBin dIx (fV 6) (fBin dIx (fBin dIx (fV 15) (fBin dSub (fV 9) (fC (.int 1)))) (fC (.int 1)))) (fC (.int 0))) (fC (.str "whole")))) (fNotT (fTest (fV 11)))) (sAsg (bName 12) (fTup (aCons (fV 9) (aCons (fC (.int 0)) (aCons (fC (.bool true)) aNil))))) (sSeq (sAsg (bName 16) (fBin dAdd (fBin dMulT (fV 7) (fCB dLen (aCons (fV 6) aNil))) (fBin dIx (fBin dIx (fV 15) (fBin dSub (fV 9) (fC (.int 1)))) (fC (.int 1)))))
  (sSeq (sAsg (bName 3) (fBin dAdd (fBin dAdd (fSl (fV 3) oNone (oSome (fV 16))) (fTup (aCons (fBin dIx (fBin dIx (fV 15) (fBin dSub (fV 9) (fC (.int 1)))) (fC (.int 2))) aNil))) (fSl (fV 3) (oSome (fBin dAdd (fV 16) (fC (.int 1)))) oNone)))
  (sAsg (bName 12) (fTup (aCons (fBin dAdd (fV 9) (fC (.int 1))) (aCons (fC (.int 0)) (aCons (fC (.bool false)) aNil))))))))))
  (sSeq (sSetN 5 (nCB dList (aCons (fV 2) aNil)))
  (sSeq (sSetIx 5 (fV 7) (fCB m__law_settled (aCons (fV 0) (aCons (fV 1) (aCons (fV 7) (aCons (fV 12) aNil))))))
  (sRet (fTup (aCons (fZ 5) (aCons (fV 3) aNil))))))))))
def m__law_stepped : List PyData → Option PyData := runV 5 17 F__law_stepped

def F__law_part : FS := (sSeq (sAsg (bTup 3 (bCons (bName 2) (bCons (bName 3) (bCons (bName 4) bNil)))) (fBin dIx (fV 0) (fC (.int 1))))
  (sSeq (sIf (fTest (fBin dEq (fV 1) (fC (.int 0)))) (sRet (fC (.str "outside"))) sNext)
  (sSeq (sIf (fTest (fBin dGe (fV 1) (fV 3))) (sRet (fBin dIx (fLst (aCons (fC (.str "within")) (aCons (fC (.str "leaving")) aNil))) (fCB dInt (aCons (fBin dGt (fV 1) (fV 3)) aNil)))) sNext)
  (sRet (fBin dIx (fLst (aCons (fC (.str "doorway")) (aCons (fC (.str "waiting")) aNil))) (fCB dInt (aCons (fBin dGt (fV 1) (fV 2)) aNil)))))))
def m__law_part : List PyData → Option PyData := runV 2 5 F__law_part

def F__law_right : FS := (sSeq (sAsg (bName 3) (fCB m_way_for (aCons (fV 1) (aCons (fV 2) aNil))))
  (sSeq (sAsg (bName 4) (fCB m_first_standing (aCons (fV 3) aNil)))
  (sSeq (sAsg (bName 5) (fRepL (nLst (aCons (fTup (aCons (fC (.int 0)) (aCons (fC (.int 0)) (aCons (fC (.bool false)) aNil)))) aNil)) (fV 2)))
  (sSeq (sAsg (bName 6) (fBin dMulT (fCB dTuple (aCons (fComp (iTupl (fBin dIx (fV 1) (fC (.int 0)))) (bName 11) cYes (fBin dIx (fV 11) (fC (.int 2))) [11]) aNil)) (fV 2)))
  (sSeq (sFor (iR1 (fC (.int 40))) (bName 7) (sSeq (sAsg (bName 8) (fCB m_steps_from (aCons (fV 3) (aCons (fV 4) aNil))))
  (sSeq (sAsg (bTup 2 (bCons (bName 10) (bCons (bName 4) bNil))) (fBin dIx (fV 8) (fCallO m__law_take 0 (aCons (fCB dLen (aCons (fV 8) aNil)) aNil))))
  (sSeq (sAsg (bTup 2 (bCons (bName 5) (bCons (bName 6) bNil))) (fCB m__law_stepped (aCons (fV 1) (aCons (fV 2) (aCons (fV 5) (aCons (fV 6) (aCons (fV 10) aNil)))))))
  (sSeq (sIf (fTest (fBin dNe (fBin dIx (fV 4) (fC (.int 1))) (fV 6))) (sRet (fC (.bool false))) sNext)
  (sFor (iR1 (fV 2)) (bName 9) (sSeq (sIf (fTest (fBin dNe (fCB m_part_at (aCons (fV 3) (aCons (fV 9) (aCons (fBin dFdiv (fBin dIx (fBin dIx (fV 4) (fC (.int 0))) (fV 9)) (fC (.int 2))) aNil)))) (fCB m__law_part (aCons (fV 1) (aCons (fBin dIx (fBin dIx (fV 5) (fV 9)) (fC (.int 0))) aNil))))) (sRet (fC (.bool false))) sNext)
  (sIf (fTest (fBin dNe (fBin dEq (fBin dMod (fBin dIx (fBin dIx (fV 4) (fC (.int 0))) (fV 9)) (fC (.int 2))) (fC (.int 1))) (fBin dIx (fBin dIx (fV 5) (fV 9)) (fC (.int 2))))) (sRet (fC (.bool false))) sNext))))))))
  (sRet (fC (.bool true))))))))
def m__law_right : List PyData → List PyData → Option (PyData × List PyData) := runO 3 12 F__law_right

def F_law : FS := (sSeq (sFor (iEv (fCB dMax (aCons (fC (.int 1)) (aCons (fCB dMin (aCons (fCB dLen (aCons (fV 0) aNil)) (aCons (fC (.int 8)) aNil))) aNil)))) (bName 1) (sSeq (sAsg (bName 2) (fCallT m__law_some_template (nCB m__law_pack (aCons (fV 0) (aCons (fV 1) aNil)))))
  (sSeq (sSetN 3 (nCB m__law_pack (aCons (fV 0) (aCons (fBin dAdd (fV 1) (fC (.int 3))) aNil))))
  (sIf (fNotT (fTest (fCallO m__law_right 3 (aCons (fV 2) (aCons (fBin dAdd (fC (.int 2)) (fCallO m__law_take 3 (aCons (fC (.int 3)) aNil))) aNil))))) (sRet (fC (.bool false))) sNext))))
  (sRet (fC (.bool true))))
def m_law : List PyData → Option PyData := runV 1 4 F_law
end K45

set_option Elab.async false
set_option linter.all false
set_option maxRecDepth 100000
set_option maxHeartbeats 4000000
namespace K45
open PySem PySem.Spec PyProof.Rows L2 Md
section
variable {P : Program} {w : World} {K : PySem.W.Frag} {mg : Str → Option Value} {base : Heap}
theorem sc_is_whole : FnScope ["thing"] ["thing"] (defScope (topSt 15)) := ⟨rfl, rfl, rfl, by decide +kernel, rfl, by decide +kernel, by decide +kernel⟩
theorem df_is_whole (D : At K mg "is_whole" (topSt 15)) (T : Bi mg) (G : Gv K mg) : Df P w K mg base 1 "is_whole" (spV K m_is_whole) := by
  obtain ⟨f, fd, F, hm⟩ := D
  refine ⟨f, fd, ["thing"], fn_v (N := ["thing"]) (k := 0) (F := F_is_whole) F sc_is_whole (fun cdv A outer s H E hr => ?_), hm, F.kp, F.bindsN fun _ _ _ _ _ _ us hl => match us, hl with | [_], _ => rfl⟩
  exact (jss_one (js_ret (je_and (je_isi (.inl rfl) T T.int bv_int (je_v 0)) (je_one (je_not (je_isi (.inr (.inl rfl)) T T.bool bv_bool (je_v 0)))))))

theorem sc_is_between : FnScope ["thing", "least", "most"] ["thing", "least", "most"] (defScope (topSt 16)) := ⟨rfl, rfl, rfl, by decide +kernel, rfl, by decide +kernel, by decide +kernel⟩
theorem df_is_between (D : At K mg "is_between" (topSt 16)) (T : Bi mg) (G : Gv K mg) (his_whole : Df P w K mg base 1 "is_whole" (spV K m_is_whole)) : Df P w K mg base 2 "is_between" (spV K m_is_between) := by
  obtain ⟨f, fd, F, hm⟩ := D
  refine ⟨f, fd, ["thing", "least", "most"], fn_v (N := ["thing", "least", "most"]) (k := 1) (F := F_is_between) F sc_is_between (fun cdv A outer s H E hr => ?_), hm, F.kp, F.bindsN fun _ _ _ _ _ _ us hl => match us, hl with | [_, _, _], _ => rfl⟩
  exact (jss_one (js_ret (je_and (je_call his_whole (hr.mono (by decide)) (ja_cons (je_v 0) ja_nil)) (je_one (je_chain c_le c_le (je_v 1) (je_v 0) (je_v 2))))))

theorem sc_is_kind : FnScope ["thing"] ["thing"] (defScope (topSt 17)) := ⟨rfl, rfl, rfl, by decide +kernel, rfl, by decide +kernel, by decide +kernel⟩
theorem df_is_kind (D : At K mg "is_kind" (topSt 17)) (T : Bi mg) (G : Gv K mg) : Df P w K mg base 1 "is_kind" (spV K m_is_kind) := by
  obtain ⟨f, fd, F, hm⟩ := D
  refine ⟨f, fd, ["thing"], fn_v (N := ["thing"]) (k := 0) (F := F_is_kind) F sc_is_kind (fun cdv A outer s H E hr => ?_), hm, F.kp, F.bindsN fun _ _ _ _ _ _ us hl => match us, hl with | [_], _ => rfl⟩
  exact (jss_one (js_ret (je_and (je_isi (.inr (.inr (.inl rfl))) T T.str bv_str (je_v 0)) (je_one (je_cmp c_in (je_v 0) (je_gstr2 G.kinds))))))

theorem sc_is_box : FnScope ["thing"] ["thing"] (defScope (topSt 18)) := ⟨rfl, rfl, rfl, by decide +kernel, rfl, by decide +kernel, by decide +kernel⟩
theorem df_is_box (D : At K mg "is_box" (topSt 18)) (T : Bi mg) (G : Gv K mg) (his_between : Df P w K mg base 2 "is_between" (spV K m_is_between)) (his_kind : Df P w K mg base 1 "is_kind" (spV K m_is_kind)) : Df P w K mg base 3 "is_box" (spV K m_is_box) := by
  obtain ⟨f, fd, F, hm⟩ := D
  refine ⟨f, fd, ["thing"], fn_v (N := ["thing"]) (k := 2) (F := F_is_box) F sc_is_box (fun cdv A outer s H E hr => ?_), hm, F.kp, F.bindsN fun _ _ _ _ _ _ us hl => match us, hl with | [_], _ => rfl⟩
  exact (jss_cons (js_if (jt_w (jw_or (jt_not (jt_val (je_isi (.inr (.inr (.inr rfl))) T T.tuple bv_tuple (je_v 0)))) (jw_or (jt_cmp (c_ne hr.units) (je_len T (je_v 0)) je_int) (jw_or1 (jt_not (jt_val (je_call his_kind (hr.mono (by decide)) (ja_cons (je_ix (je_v 0) je_int) ja_nil)))))))) (jss_one (js_ret je_bl)) jss_nil)
    (jss_one (js_ret (je_and (je_call his_between (hr.mono (by decide)) (ja_cons (je_ix (je_v 0) je_int) (ja_cons (je_gint G.least_size) (ja_cons (je_gint G.most_size) ja_nil)))) (je_one (je_call his_between (hr.mono (by decide)) (ja_cons (je_ix (je_v 0) je_int) (ja_cons je_int (ja_cons (je_sub (je_ix (je_v 0) je_int) je_int) ja_nil)))))))))

theorem sc_are_boxes : FnScope ["thing", "most", "box"] ["thing", "most"] (defScope (topSt 19)) := ⟨rfl, rfl, rfl, by decide +kernel, rfl, by decide +kernel, by decide +kernel⟩
theorem df_are_boxes (D : At K mg "are_boxes" (topSt 19)) (T : Bi mg) (G : Gv K mg) (his_box : Df P w K mg base 3 "is_box" (spV K m_is_box)) : Df P w K mg base 4 "are_boxes" (spV K m_are_boxes) := by
  obtain ⟨f, fd, F, hm⟩ := D
  refine ⟨f, fd, ["thing", "most"], fn_v (N := ["thing", "most", "box"]) (k := 3) (F := F_are_boxes) F sc_are_boxes (fun cdv A outer s H E hr => ?_), hm, F.kp, F.bindsN fun _ _ _ _ _ _ us hl => match us, hl with | [_, _], _ => rfl⟩
  exact (jss_one (js_ret (je_and (je_isi (.inr (.inr (.inr rfl))) T T.tuple bv_tuple (je_v 0)) (je_and (je_chain c_le c_le je_int (je_len T (je_v 0)) (je_v 1)) (je_one (je_all rfl T (je_comp [("box", 2)] rfl sc_are_boxes.nd (ji_tup (je_v 0)) (blkOk_by (by kernel_rfl)) (by decide) (fun _ _ _ _ _ => (jg_name 2 sc_are_boxes.nd)) (fun _ _ _ _ _ => jts_nil) (fun _ _ _ _ _ => (je_call his_box (hr.mono (by decide)) (ja_cons (je_v 2) ja_nil))))))))))

theorem sc_are_numbers : FnScope ["thing", "size", "k", "one"] ["thing", "size"] (defScope (topSt 20)) := ⟨rfl, rfl, rfl, by decide +kernel, rfl, by decide +kernel, by decide +kernel⟩
theorem df_are_numbers (D : At K mg "are_numbers" (topSt 20)) (T : Bi mg) (G : Gv K mg) (his_between : Df P w K mg base 2 "is_between" (spV K m_is_between)) : Df P w K mg base 3 "are_numbers" (spV K m_are_numbers) := by
  obtain ⟨f, fd, F, hm⟩ := D
  refine ⟨f, fd, ["thing", "size"], fn_v (N := ["thing", "size", "k", "one"]) (k := 2) (F := F_are_numbers) F sc_are_numbers (fun cdv A outer s H E hr => ?_), hm, F.kp, F.bindsN fun _ _ _ _ _ _ us hl => match us, hl with | [_, _], _ => rfl⟩
  exact (jss_cons (js_if (jt_w (jw_or (jt_not (jt_val (je_isi (.inr (.inr (.inr rfl))) T T.tuple bv_tuple (je_v 0)))) (jw_or1 (jt_not (jt_val (je_all rfl T (je_comp [("one", 3)] rfl sc_are_numbers.nd (ji_tup (je_v 0)) (blkOk_by (by kernel_rfl)) (by decide) (fun _ _ _ _ _ => (jg_name 3 sc_are_numbers.nd)) (fun _ _ _ _ _ => jts_nil) (fun _ _ _ _ _ => (je_call his_between (hr.mono (by decide)) (ja_cons (je_v 3) (ja_cons je_int (ja_cons (je_sub (je_v 1) je_int) ja_nil)))))))))))) (jss_one (js_ret je_bl)) jss_nil)
    (jss_one (js_ret (je_all rfl T (je_comp [("k", 2)] rfl sc_are_numbers.nd (ji_r1 T (je_sub (je_len T (je_v 0)) je_int)) (blkOk_by (by kernel_rfl)) (by decide) (fun _ _ _ _ _ => (jg_name 2 sc_are_numbers.nd)) (fun _ _ _ _ _ => jts_nil) (fun _ _ _ _ _ => (je_cmp c_lt (je_ix (je_v 0) (je_v 2)) (je_ix (je_v 0) (je_add (je_v 2) je_int)))))))))

theorem sc_is_write : FnScope ["boxes", "thing"] ["boxes", "thing"] (defScope (topSt 21)) := ⟨rfl, rfl, rfl, by decide +kernel, rfl, by decide +kernel, by decide +kernel⟩
theorem df_is_write (D : At K mg "is_write" (topSt 21)) (T : Bi mg) (G : Gv K mg) (his_between : Df P w K mg base 2 "is_between" (spV K m_is_between)) : Df P w K mg base 3 "is_write" (spV K m_is_write) := by
  obtain ⟨f, fd, F, hm⟩ := D
  refine ⟨f, fd, ["boxes", "thing"], fn_v (N := ["boxes", "thing"]) (k := 2) (F := F_is_write) F sc_is_write (fun cdv A outer s H E hr => ?_), hm, F.kp, F.bindsN fun _ _ _ _ _ _ us hl => match us, hl with | [_, _], _ => rfl⟩
  exact (jss_cons (js_if (jt_w (jw_or (jt_not (jt_val (je_isi (.inr (.inr (.inr rfl))) T T.tuple bv_tuple (je_v 1)))) (jw_or (jt_cmp (c_ne hr.units) (je_len T (je_v 1)) je_int) (jw_or (jt_not (jt_val (je_isi (.inr (.inr (.inl rfl))) T T.str bv_str (je_ix (je_v 1) je_int)))) (jw_or1 (jt_cmp (c_ne hr.units) (je_ix (je_v 1) je_int) je_str)))))) (jss_one (js_ret je_bl)) jss_nil)
    (jss_one (js_ret (je_and (je_call his_between (hr.mono (by decide)) (ja_cons (je_ix (je_v 1) je_int) (ja_cons je_int (ja_cons (je_sub (je_len T (je_v 0)) je_int) ja_nil)))) (je_one (je_call his_between (hr.mono (by decide)) (ja_cons (je_ix (je_v 1) je_int) (ja_cons je_int (ja_cons (je_sub (je_ix (je_ix (je_v 0) (je_ix (je_v 1) je_int)) je_int) je_int) ja_nil)))))))))
end
end K45

set_option Elab.async false
set_option linter.all false
set_option maxRecDepth 100000
set_option maxHeartbeats 4000000
namespace K45
open PySem PySem.Spec PyProof.Rows L2 Md
section
variable {P : Program} {w : World} {K : PySem.W.Frag} {mg : Str → Option Value} {base : Heap}
theorem sc_is_place_for : FnScope ["thing", "at", "within", "many"] ["thing", "at", "within", "many"] (defScope (topSt 22)) := ⟨rfl, rfl, rfl, by decide +kernel, rfl, by decide +kernel, by decide +kernel⟩
theorem df_is_place_for (D : At K mg "is_place_for" (topSt 22)) (T : Bi mg) (G : Gv K mg) (his_between : Df P w K mg base 2 "is_between" (spV K m_is_between)) : Df P w K mg base 3 "is_place_for" (spV K m_is_place_for) := by
  obtain ⟨f, fd, F, hm⟩ := D
  refine ⟨f, fd, ["thing", "at", "within", "many"], fn_v (N := ["thing", "at", "within", "many"]) (k := 2) (F := F_is_place_for) F sc_is_place_for (fun cdv A outer s H E hr => ?_), hm, F.kp, F.bindsN fun _ _ _ _ _ _ us hl => match us, hl with | [_, _, _, _], _ => rfl⟩
  exact (jss_cons (js_if (jt_cmp c_lt (je_v 1) (je_v 2)) (jss_one (js_ret (je_call his_between (hr.mono (by decide)) (ja_cons (je_v 0) (ja_cons je_int (ja_cons (je_v 2) ja_nil)))))) jss_nil)
    (jss_cons (js_if (jt_cmp (c_eq hr.units) (je_v 1) (je_v 2)) (jss_one (js_ret (je_call his_between (hr.mono (by decide)) (ja_cons (je_v 0) (ja_cons (je_v 2) (ja_cons (je_v 2) ja_nil)))))) jss_nil)
    (jss_one (js_ret (je_call his_between (hr.mono (by decide)) (ja_cons (je_v 0) (ja_cons (je_add (je_v 2) je_int) (ja_cons (je_v 3) ja_nil))))))))

theorem sc_is_look : FnScope ["boxes", "thing"] ["boxes", "thing"] (defScope (topSt 23)) := ⟨rfl, rfl, rfl, by decide +kernel, rfl, by decide +kernel, by decide +kernel⟩
theorem df_is_look (D : At K mg "is_look" (topSt 23)) (T : Bi mg) (G : Gv K mg) (his_between : Df P w K mg base 2 "is_between" (spV K m_is_between)) (hare_numbers : Df P w K mg base 3 "are_numbers" (spV K m_are_numbers)) : Df P w K mg base 4 "is_look" (spV K m_is_look) := by
  obtain ⟨f, fd, F, hm⟩ := D
  refine ⟨f, fd, ["boxes", "thing"], fn_v (N := ["boxes", "thing"]) (k := 3) (F := F_is_look) F sc_is_look (fun cdv A outer s H E hr => ?_), hm, F.kp, F.bindsN fun _ _ _ _ _ _ us hl => match us, hl with | [_, _], _ => rfl⟩
  exact (jss_cons (js_if (jt_w (jw_or (jt_not (jt_val (je_isi (.inr (.inr (.inr rfl))) T T.tuple bv_tuple (je_v 1)))) (jw_or (jt_cmp (c_ne hr.units) (je_len T (je_v 1)) je_int) (jw_or (jt_not (jt_val (je_isi (.inr (.inr (.inl rfl))) T T.str bv_str (je_ix (je_v 1) je_int)))) (jw_or1 (jt_cmp (c_ne hr.units) (je_ix (je_v 1) je_int) je_str)))))) (jss_one (js_ret je_bl)) jss_nil)
    (jss_one (js_ret (je_and (je_call his_between (hr.mono (by decide)) (ja_cons (je_ix (je_v 1) je_int) (ja_cons je_int (ja_cons (je_sub (je_len T (je_v 0)) je_int) ja_nil)))) (je_one (je_call hare_numbers (hr.mono (by decide)) (ja_cons (je_ix (je_v 1) je_int) (ja_cons (je_ix (je_ix (je_v 0) (je_ix (je_v 1) je_int)) je_int) ja_nil))))))))

theorem sc_has_ends : FnScope ["thing", "most"] ["thing", "most"] (defScope (topSt 24)) := ⟨rfl, rfl, rfl, by decide +kernel, rfl, by decide +kernel, by decide +kernel⟩
theorem df_has_ends (D : At K mg "has_ends" (topSt 24)) (T : Bi mg) (G : Gv K mg) (his_between : Df P w K mg base 2 "is_between" (spV K m_is_between)) : Df P w K mg base 3 "has_ends" (spV K m_has_ends) := by
  obtain ⟨f, fd, F, hm⟩ := D
  refine ⟨f, fd, ["thing", "most"], fn_v (N := ["thing", "most"]) (k := 2) (F := F_has_ends) F sc_has_ends (fun cdv A outer s H E hr => ?_), hm, F.kp, F.bindsN fun _ _ _ _ _ _ us hl => match us, hl with | [_, _], _ => rfl⟩
  exact (jss_cons (js_if (jt_w (jw_or (jt_not (jt_val (je_isi (.inr (.inr (.inr rfl))) T T.tuple bv_tuple (je_v 0)))) (jw_or (jt_cmp (c_ne hr.units) (je_len T (je_v 0)) je_int) (jw_or1 (jt_not (jt_val (je_isi (.inr (.inr (.inr rfl))) T T.tuple bv_tuple (je_ix (je_v 0) je_int)))))))) (jss_one (js_ret je_bl)) jss_nil)
    (jss_cons (js_if (jt_w (jw_or (jt_not (jt_chain c_le c_le je_int (je_len T (je_ix (je_v 0) je_int)) (je_v 1))) (jw_or1 (jt_not (jt_val (je_call his_between (hr.mono (by decide)) (ja_cons (je_ix (je_v 0) je_int) (ja_cons je_int (ja_cons (je_len T (je_ix (je_v 0) je_int)) ja_nil))))))))) (jss_one (js_ret je_bl)) jss_nil)
    (jss_one (js_ret (je_call his_between (hr.mono (by decide)) (ja_cons (je_ix (je_v 0) je_int) (ja_cons je_int (ja_cons (je_sub (je_ix (je_v 0) je_int) je_int) ja_nil))))))))

theorem sc_is_program : FnScope ["boxes", "thing", "door", "within", "rows", "at", "row"] ["boxes", "thing"] (defScope (topSt 25)) := ⟨rfl, rfl, rfl, by decide +kernel, rfl, by decide +kernel, by decide +kernel⟩
theorem df_is_program (D : At K mg "is_program" (topSt 25)) (T : Bi mg) (G : Gv K mg) (his_write : Df P w K mg base 3 "is_write" (spV K m_is_write)) (his_place_for : Df P w K mg base 3 "is_place_for" (spV K m_is_place_for)) (his_look : Df P w K mg base 4 "is_look" (spV K m_is_look)) (hhas_ends : Df P w K mg base 3 "has_ends" (spV K m_has_ends)) : Df P w K mg base 5 "is_program" (spV K m_is_program) := by
  obtain ⟨f, fd, F, hm⟩ := D
  refine ⟨f, fd, ["boxes", "thing"], fn_v (N := ["boxes", "thing", "door", "within", "rows", "at", "row"]) (k := 4) (F := F_is_program) F sc_is_program (fun cdv A outer s H E hr => ?_), hm, F.kp, F.bindsN fun _ _ _ _ _ _ us hl => match us, hl with | [_, _], _ => rfl⟩
  exact (jss_cons (js_if (jt_not (jt_val (je_call hhas_ends (hr.mono (by decide)) (ja_cons (je_v 1) (ja_cons (je_gint G.most_rows) ja_nil))))) (jss_one (js_ret je_bl)) jss_nil)
    (jss_cons (js_asg (je_v 1) (jg_tup rfl (jgs_cons (jg_name 2 sc_is_program.nd) (jgs_cons (jg_name 3 sc_is_program.nd) (jgs_cons (jg_name 4 sc_is_program.nd) jgs_nil)))))
    (jss_cons (js_for PassesOwn.never rfl (ji_enum1 T (je_v 4)) (jg_tup rfl (jgs_cons (jg_name 5 sc_is_program.nd) (jgs_cons (jg_name 6 sc_is_program.nd) jgs_nil))) (jss_cons (js_if (jt_w (jw_and (jt_not (jt_val (je_call his_write (hr.mono (by decide)) (ja_cons (je_v 0) (ja_cons (je_v 6) ja_nil))))) (jw_and1 (jt_not (jt_val (je_call his_look (hr.mono (by decide)) (ja_cons (je_v 0) (ja_cons (je_v 6) ja_nil)))))))) (jss_one (js_ret je_bl)) jss_nil)
    (jss_one (js_if (jt_w (jw_and (jt_cmp (c_eq hr.units) (je_ix (je_v 6) je_int) je_str) (jw_and1 (jt_not (jt_val (je_call his_place_for (hr.mono (by decide)) (ja_cons (je_ix (je_v 6) je_int) (ja_cons (je_v 5) (ja_cons (je_v 3) (ja_cons (je_len T (je_v 4)) ja_nil)))))))))) (jss_one (js_ret je_bl)) jss_nil))))
    (jss_one (js_ret je_bl)))))

theorem sc_writers : FnScope ["hands", "box", "door", "within", "rows", "row"] ["hands", "box"] (defScope (topSt 26)) := ⟨rfl, rfl, rfl, by decide +kernel, rfl, by decide +kernel, by decide +kernel⟩
theorem df_writers (D : At K mg "writers" (topSt 26)) (T : Bi mg) (G : Gv K mg) : Df P w K mg base 1 "writers" (spV K m_writers) := by
  obtain ⟨f, fd, F, hm⟩ := D
  refine ⟨f, fd, ["hands", "box"], fn_v (N := ["hands", "box", "door", "within", "rows", "row"]) (k := 0) (F := F_writers) F sc_writers (fun cdv A outer s H E hr => ?_), hm, F.kp, F.bindsN fun _ _ _ _ _ _ us hl => match us, hl with | [_, _], _ => rfl⟩
  exact (jss_one (js_ret (je_len T (je_comp [("door", 2), ("within", 3), ("rows", 4)] rfl sc_writers.nd (ji_tup (je_v 0)) (blkOk_by (by kernel_rfl)) (by decide) (fun _ _ _ _ _ => (jg_tup rfl (jgs_cons (jg_name 2 sc_writers.nd) (jgs_cons (jg_name 3 sc_writers.nd) (jgs_cons (jg_name 4 sc_writers.nd) jgs_nil))))) (fun _ _ _ _ _ => (jts_one (jt_val (je_any rfl T (je_comp [("row", 5)] rfl sc_writers.nd (ji_tup (je_v 4)) (blkOk_by (by kernel_rfl)) (by decide) (fun _ _ _ _ _ => (jg_name 5 sc_writers.nd)) (fun _ _ _ _ _ => jts_nil) (fun _ _ _ _ _ => (je_cmp (c_eq hr.units) (je_sl (je_v 5) jo_none (jo_some je_int)) (je_tup (ja_cons je_str (ja_cons (je_v 1) ja_nil)))))))))) (fun _ _ _ _ _ => (je_v 2))))))

theorem sc_is_way : FnScope ["thing", "boxes", "hands", "program", "k", "box"] ["thing"] (defScope (topSt 27)) := ⟨rfl, rfl, rfl, by decide +kernel, rfl, by decide +kernel, by decide +kernel⟩
theorem df_is_way (D : At K mg "is_way" (topSt 27)) (T : Bi mg) (G : Gv K mg) (hare_boxes : Df P w K mg base 4 "are_boxes" (spV K m_are_boxes)) (his_program : Df P w K mg base 5 "is_program" (spV K m_is_program)) (hwriters : Df P w K mg base 1 "writers" (spV K m_writers)) : Df P w K mg base 6 "is_way" (spV K m_is_way) := by
  obtain ⟨f, fd, F, hm⟩ := D
  refine ⟨f, fd, ["thing"], fn_v (N := ["thing", "boxes", "hands", "program", "k", "box"]) (k := 5) (F := F_is_way) F sc_is_way (fun cdv A outer s H E hr => ?_), hm, F.kp, F.bindsN fun _ _ _ _ _ _ us hl => match us, hl with | [_], _ => rfl⟩
  exact (jss_cons (js_if (jt_w (jw_or (jt_not (jt_val (je_isi (.inr (.inr (.inr rfl))) T T.tuple bv_tuple (je_v 0)))) (jw_or (jt_cmp (c_ne hr.units) (je_len T (je_v 0)) je_int) (jw_or1 (jt_not (jt_val (je_call hare_boxes (hr.mono (by decide)) (ja_cons (je_ix (je_v 0) je_int) (ja_cons (je_gint G.most_boxes) ja_nil))))))))) (jss_one (js_ret je_bl)) jss_nil)
    (jss_cons (js_asg (je_v 0) (jg_tup rfl (jgs_cons (jg_name 1 sc_is_way.nd) (jgs_cons (jg_name 2 sc_is_way.nd) jgs_nil))))
    (jss_cons (js_if (jt_w (jw_or (jt_not (jt_val (je_isi (.inr (.inr (.inr rfl))) T T.tuple bv_tuple (je_v 2)))) (jw_or1 (jt_not (jt_chain c_le c_le je_int (je_len T (je_v 2)) (je_gint G.most_hands)))))) (jss_one (js_ret je_bl)) jss_nil)
    (jss_cons (js_if (jt_not (jt_val (je_all rfl T (je_comp [("program", 3)] rfl sc_is_way.nd (ji_tup (je_v 2)) (blkOk_by (by kernel_rfl)) (by decide) (fun _ _ _ _ _ => (jg_name 3 sc_is_way.nd)) (fun _ _ _ _ _ => jts_nil) (fun _ _ _ _ _ => (je_call his_program (hr.mono (by decide)) (ja_cons (je_v 1) (ja_cons (je_v 3) ja_nil)))))))) (jss_one (js_ret je_bl)) jss_nil)
    (jss_one (js_ret (je_all rfl T (je_comp [("k", 4), ("box", 5)] rfl sc_is_way.nd (ji_enum T (je_v 1)) (blkOk_by (by kernel_rfl)) (by decide) (fun _ _ _ _ _ => (jg_tup rfl (jgs_cons (jg_name 4 sc_is_way.nd) (jgs_cons (jg_name 5 sc_is_way.nd) jgs_nil)))) (fun _ _ _ _ _ => jts_nil) (fun _ _ _ _ _ => (je_or (je_cmp (c_eq hr.units) (je_ix (je_v 5) je_int) je_str) (je_one (je_cmp c_le (je_call hwriters (hr.mono (by decide)) (ja_cons (je_v 2) (ja_cons (je_v 4) ja_nil))) je_int))))))))))))

theorem sc_check_way : FnScope ["way"] ["way"] (defScope (topSt 28)) := ⟨rfl, rfl, rfl, by decide +kernel, rfl, by decide +kernel, by decide +kernel⟩
theorem df_check_way (D : At K mg "check_way" (topSt 28)) (T : Bi mg) (G : Gv K mg) (his_way : Df P w K mg base 6 "is_way" (spV K m_is_way)) : Df P w K mg base 7 "check_way" (spV K m_check_way) := by
  obtain ⟨f, fd, F, hm⟩ := D
  refine ⟨f, fd, ["way"], fn_v (N := ["way"]) (k := 6) (F := F_check_way) F sc_check_way (fun cdv A outer s H E hr => ?_), hm, F.kp, F.bindsN fun _ _ _ _ _ _ us hl => match us, hl with | [_], _ => rfl⟩
  exact (jss_one (js_if (jt_not (jt_val (je_call his_way (hr.mono (by decide)) (ja_cons (je_v 0) ja_nil)))) (jss_one js_never) jss_nil))
end
end K45

set_option Elab.async false
set_option linter.all false
set_option maxRecDepth 100000
set_option maxHeartbeats 4000000
namespace K45
open PySem PySem.Spec PyProof.Rows L2 Md
section
variable {P : Program} {w : World} {K : PySem.W.Frag} {mg : Str → Option Value} {base : Heap}
theorem sc_check_hand : FnScope ["way", "hand"] ["way", "hand"] (defScope (topSt 29)) := ⟨rfl, rfl, rfl, by decide +kernel, rfl, by decide +kernel, by decide +kernel⟩
theorem df_check_hand (D : At K mg "check_hand" (topSt 29)) (T : Bi mg) (G : Gv K mg) (his_between : Df P w K mg base 2 "is_between" (spV K m_is_between)) (hcheck_way : Df P w K mg base 7 "check_way" (spV K m_check_way)) : Df P w K mg base 8 "check_hand" (spV K m_check_hand) := by
  obtain ⟨f, fd, F, hm⟩ := D
  refine ⟨f, fd, ["way", "hand"], fn_v (N := ["way", "hand"]) (k := 7) (F := F_check_hand) F sc_check_hand (fun cdv A outer s H E hr => ?_), hm, F.kp, F.bindsN fun _ _ _ _ _ _ us hl => match us, hl with | [_, _], _ => rfl⟩
  exact (jss_cons (js_expr (je_call hcheck_way (hr.mono (by decide)) (ja_cons (je_v 0) ja_nil)))
    (jss_one (js_if (jt_not (jt_val (je_call his_between (hr.mono (by decide)) (ja_cons (je_v 1) (ja_cons je_int (ja_cons (je_sub (je_len T (je_ix (je_v 0) je_int)) je_int) ja_nil)))))) (jss_one js_never) jss_nil)))

theorem sc_next_place : FnScope ["program", "place"] ["program", "place"] (defScope (topSt 30)) := ⟨rfl, rfl, rfl, by decide +kernel, rfl, by decide +kernel, by decide +kernel⟩
theorem df_next_place (D : At K mg "next_place" (topSt 30)) (T : Bi mg) (G : Gv K mg) : Df P w K mg base 1 "next_place" (spV K m_next_place) := by
  obtain ⟨f, fd, F, hm⟩ := D
  refine ⟨f, fd, ["program", "place"], fn_v (N := ["program", "place"]) (k := 0) (F := F_next_place) F sc_next_place (fun cdv A outer s H E hr => ?_), hm, F.kp, F.bindsN fun _ _ _ _ _ _ us hl => match us, hl with | [_, _], _ => rfl⟩
  exact (jss_cons (js_if (jt_cmp (c_eq hr.units) (je_v 1) (je_len T (je_ix (je_v 0) je_int))) (jss_one (js_ret je_int)) jss_nil)
    (jss_one (js_ret (je_add (je_v 1) je_int))))

theorem sc_part_of : FnScope ["program", "place", "door", "within", "rows"] ["program", "place"] (defScope (topSt 31)) := ⟨rfl, rfl, rfl, by decide +kernel, rfl, by decide +kernel, by decide +kernel⟩
theorem df_part_of (D : At K mg "part_of" (topSt 31)) (T : Bi mg) (G : Gv K mg) : Df P w K mg base 1 "part_of" (spV K m_part_of) := by
  obtain ⟨f, fd, F, hm⟩ := D
  refine ⟨f, fd, ["program", "place"], fn_v (N := ["program", "place", "door", "within", "rows"]) (k := 0) (F := F_part_of) F sc_part_of (fun cdv A outer s H E hr => ?_), hm, F.kp, F.bindsN fun _ _ _ _ _ _ us hl => match us, hl with | [_, _], _ => rfl⟩
  exact (jss_cons (js_asg (je_v 0) (jg_tup rfl (jgs_cons (jg_name 2 sc_part_of.nd) (jgs_cons (jg_name 3 sc_part_of.nd) (jgs_cons (jg_name 4 sc_part_of.nd) jgs_nil)))))
    (jss_cons (js_if (jt_cmp (c_eq hr.units) (je_v 1) je_int) (jss_one (js_ret je_str)) jss_nil)
    (jss_cons (js_if (jt_cmp c_le (je_v 1) (je_v 2)) (jss_one (js_ret je_str)) jss_nil)
    (jss_cons (js_if (jt_cmp c_lt (je_v 1) (je_v 3)) (jss_one (js_ret je_str)) jss_nil)
    (jss_one (js_ret (je_ix (je_lst (ja_cons je_str (ja_cons je_str ja_nil))) (je_toint T (je_cmp (c_eq hr.units) (je_v 1) (je_v 3))))))))))

theorem sc_part_at : FnScope ["way", "hand", "place", "program"] ["way", "hand", "place"] (defScope (topSt 32)) := ⟨rfl, rfl, rfl, by decide +kernel, rfl, by decide +kernel, by decide +kernel⟩
theorem df_part_at (D : At K mg "part_at" (topSt 32)) (T : Bi mg) (G : Gv K mg) (his_between : Df P w K mg base 2 "is_between" (spV K m_is_between)) (hcheck_hand : Df P w K mg base 8 "check_hand" (spV K m_check_hand)) (hpart_of : Df P w K mg base 1 "part_of" (spV K m_part_of)) : Df P w K mg base 9 "part_at" (spV K m_part_at) := by
  obtain ⟨f, fd, F, hm⟩ := D
  refine ⟨f, fd, ["way", "hand", "place"], fn_v (N := ["way", "hand", "place", "program"]) (k := 8) (F := F_part_at) F sc_part_at (fun cdv A outer s H E hr => ?_), hm, F.kp, F.bindsN fun _ _ _ _ _ _ us hl => match us, hl with | [_, _, _], _ => rfl⟩
  exact (jss_cons (js_expr (je_call hcheck_hand (hr.mono (by decide)) (ja_cons (je_v 0) (ja_cons (je_v 1) ja_nil))))
    (jss_cons (js_set 3 sc_part_at.nd (je_ix (je_ix (je_v 0) je_int) (je_v 1)))
    (jss_cons (js_if (jt_not (jt_val (je_call his_between (hr.mono (by decide)) (ja_cons (je_v 2) (ja_cons je_int (ja_cons (je_len T (je_ix (je_v 3) je_int)) ja_nil)))))) (jss_one js_never) jss_nil)
    (jss_one (js_ret (je_call hpart_of (hr.mono (by decide)) (ja_cons (je_v 3) (ja_cons (je_v 2) ja_nil))))))))

theorem sc_is_template_look : FnScope ["kinds", "thing", "at", "within"] ["kinds", "thing", "at", "within"] (defScope (topSt 38)) := ⟨rfl, rfl, rfl, by decide +kernel, rfl, by decide +kernel, by decide +kernel⟩
theorem df_is_template_look (D : At K mg "is_template_look" (topSt 38)) (T : Bi mg) (G : Gv K mg) (his_between : Df P w K mg base 2 "is_between" (spV K m_is_between)) (his_look : Df P w K mg base 4 "is_look" (spV K m_is_look)) : Df P w K mg base 5 "is_template_look" (spV K m_is_template_look) := by
  obtain ⟨f, fd, F, hm⟩ := D
  refine ⟨f, fd, ["kinds", "thing", "at", "within"], fn_v (N := ["kinds", "thing", "at", "within"]) (k := 4) (F := F_is_template_look) F sc_is_template_look (fun cdv A outer s H E hr => ?_), hm, F.kp, F.bindsN fun _ _ _ _ _ _ us hl => match us, hl with | [_, _, _, _], _ => rfl⟩
  exact (jss_cons (js_if (jt_w (jw_or (jt_not (jt_val (je_isi (.inr (.inr (.inr rfl))) T T.tuple bv_tuple (je_v 1)))) (jw_or (jt_cmp (c_ne hr.units) (je_len T (je_v 1)) je_int) (jw_or (jt_not (jt_val (je_isi (.inr (.inr (.inl rfl))) T T.str bv_str (je_ix (je_v 1) je_int)))) (jw_or1 (jt_cmp c_nin (je_ix (je_v 1) je_int) (je_gstr2 G.whom))))))) (jss_one (js_ret je_bl)) jss_nil)
    (jss_one (js_ret (je_and (je_call his_look (hr.mono (by decide)) (ja_cons (je_v 0) (ja_cons (je_add (je_sl (je_v 1) jo_none (jo_some je_int)) (je_sl (je_v 1) (jo_some je_int) jo_none)) ja_nil))) (je_and (je_cmp c_lt (je_v 2) (je_v 3)) (je_one (je_call his_between (hr.mono (by decide)) (ja_cons (je_ix (je_v 1) je_int) (ja_cons je_int (ja_cons (je_v 3) ja_nil))))))))))

theorem sc_together : FnScope ["rows", "row"] ["rows"] (defScope (topSt 39)) := ⟨rfl, rfl, rfl, by decide +kernel, rfl, by decide +kernel, by decide +kernel⟩
theorem df_together (D : At K mg "together" (topSt 39)) (T : Bi mg) (G : Gv K mg) : Df P w K mg base 1 "together" (spV K m_together) := by
  obtain ⟨f, fd, F, hm⟩ := D
  refine ⟨f, fd, ["rows"], fn_v (N := ["rows", "row"]) (k := 0) (F := F_together) F sc_together (fun cdv A outer s H E hr => ?_), hm, F.kp, F.bindsN fun _ _ _ _ _ _ us hl => match us, hl with | [_], _ => rfl⟩
  exact (jss_one (js_ret (je_sum rfl T (je_comp [("row", 1)] rfl sc_together.nd (ji_tup (je_v 0)) (blkOk_by (by kernel_rfl)) (by decide) (fun _ _ _ _ _ => (jg_name 1 sc_together.nd)) (fun _ _ _ _ _ => jts_nil) (fun _ _ _ _ _ => (je_ix (je_lst (ja_cons je_int (ja_cons je_int ja_nil))) (je_toint T (je_cmp (c_eq hr.units) (je_ix (je_v 1) je_int) je_str))))))))

theorem sc_is_template : FnScope ["thing", "kinds", "program", "door", "within", "rows", "at", "row"] ["thing"] (defScope (topSt 40)) := ⟨rfl, rfl, rfl, by decide +kernel, rfl, by decide +kernel, by decide +kernel⟩
theorem df_is_template (D : At K mg "is_template" (topSt 40)) (T : Bi mg) (G : Gv K mg) (hare_boxes : Df P w K mg base 4 "are_boxes" (spV K m_are_boxes)) (his_write : Df P w K mg base 3 "is_write" (spV K m_is_write)) (hhas_ends : Df P w K mg base 3 "has_ends" (spV K m_has_ends)) (his_template_look : Df P w K mg base 5 "is_template_look" (spV K m_is_template_look)) (htogether : Df P w K mg base 1 "together" (spV K m_together)) : Df P w K mg base 6 "is_template" (spV K m_is_template) := by
  obtain ⟨f, fd, F, hm⟩ := D
  refine ⟨f, fd, ["thing"], fn_v (N := ["thing", "kinds", "program", "door", "within", "rows", "at", "row"]) (k := 5) (F := F_is_template) F sc_is_template (fun cdv A outer s H E hr => ?_), hm, F.kp, F.bindsN fun _ _ _ _ _ _ us hl => match us, hl with | [_], _ => rfl⟩
  exact (jss_cons (js_if (jt_w (jw_or (jt_not (jt_val (je_isi (.inr (.inr (.inr rfl))) T T.tuple bv_tuple (je_v 0)))) (jw_or (jt_cmp (c_ne hr.units) (je_len T (je_v 0)) je_int) (jw_or1 (jt_not (jt_val (je_call hare_boxes (hr.mono (by decide)) (ja_cons (je_ix (je_v 0) je_int) (ja_cons (je_gint G.most_kinds) ja_nil))))))))) (jss_one (js_ret je_bl)) jss_nil)
    (jss_cons (js_asg (je_v 0) (jg_tup rfl (jgs_cons (jg_name 1 sc_is_template.nd) (jgs_cons (jg_name 2 sc_is_template.nd) jgs_nil))))
    (jss_cons (js_if (jt_not (jt_val (je_call hhas_ends (hr.mono (by decide)) (ja_cons (je_v 2) (ja_cons (je_gint G.most_template_rows) ja_nil))))) (jss_one (js_ret je_bl)) jss_nil)
    (jss_cons (js_asg (je_v 2) (jg_tup rfl (jgs_cons (jg_name 3 sc_is_template.nd) (jgs_cons (jg_name 4 sc_is_template.nd) (jgs_cons (jg_name 5 sc_is_template.nd) jgs_nil)))))
    (jss_cons (js_for PassesOwn.never rfl (ji_enum1 T (je_v 5)) (jg_tup rfl (jgs_cons (jg_name 6 sc_is_template.nd) (jgs_cons (jg_name 7 sc_is_template.nd) jgs_nil))) (jss_one (js_if (jt_w (jw_and (jt_not (jt_val (je_call his_write (hr.mono (by decide)) (ja_cons (je_v 1) (ja_cons (je_v 7) ja_nil))))) (jw_and1 (jt_not (jt_val (je_call his_template_look (hr.mono (by decide)) (ja_cons (je_v 1) (ja_cons (je_v 7) (ja_cons (je_v 6) (ja_cons (je_v 4) ja_nil)))))))))) (jss_one (js_ret je_bl)) jss_nil)))
    (jss_one (js_ret (je_cmp c_le (je_call htogether (hr.mono (by decide)) (ja_cons (je_v 5) ja_nil)) (je_gint G.most_together)))))))))
end
end K45

set_option Elab.async false
set_option linter.all false
set_option maxRecDepth 100000
set_option maxHeartbeats 4000000
namespace K45
open PySem PySem.Spec PyProof.Rows L2 Md
section
variable {P : Program} {w : World} {K : PySem.W.Frag} {mg : Str → Option Value} {base : Heap}
theorem sc_check_template : FnScope ["template"] ["template"] (defScope (topSt 41)) := ⟨rfl, rfl, rfl, by decide +kernel, rfl, by decide +kernel, by decide +kernel⟩
theorem df_check_template (D : At K mg "check_template" (topSt 41)) (T : Bi mg) (G : Gv K mg) (his_template : Df P w K mg base 6 "is_template" (spV K m_is_template)) : Df P w K mg base 7 "check_template" (spV K m_check_template) := by
  obtain ⟨f, fd, F, hm⟩ := D
  refine ⟨f, fd, ["template"], fn_v (N := ["template"]) (k := 6) (F := F_check_template) F sc_check_template (fun cdv A outer s H E hr => ?_), hm, F.kp, F.bindsN fun _ _ _ _ _ _ us hl => match us, hl with | [_], _ => rfl⟩
  exact (jss_one (js_if (jt_not (jt_val (je_call his_template (hr.mono (by decide)) (ja_cons (je_v 0) ja_nil)))) (jss_one js_never) jss_nil))

theorem sc_looked_at : FnScope ["whom", "hand", "many", "other"] ["whom", "hand", "many"] (defScope (topSt 42)) := ⟨rfl, rfl, rfl, by decide +kernel, rfl, by decide +kernel, by decide +kernel⟩
theorem df_looked_at (D : At K mg "looked_at" (topSt 42)) (T : Bi mg) (G : Gv K mg) : Df P w K mg base 1 "looked_at" (spV K m_looked_at) := by
  obtain ⟨f, fd, F, hm⟩ := D
  refine ⟨f, fd, ["whom", "hand", "many"], fn_v (N := ["whom", "hand", "many", "other"]) (k := 0) (F := F_looked_at) F sc_looked_at (fun cdv A outer s H E hr => ?_), hm, F.kp, F.bindsN fun _ _ _ _ _ _ us hl => match us, hl with | [_, _, _], _ => rfl⟩
  exact (jss_cons (js_if (jt_cmp (c_eq hr.units) (je_v 0) je_str) (jss_one (js_ret (je_lr1 rfl T (je_v 1)))) jss_nil)
    (jss_cons (js_if (jt_cmp (c_eq hr.units) (je_v 0) je_str) (jss_one (js_ret (je_lr2 rfl T (je_add (je_v 1) je_int) (je_v 2)))) jss_nil)
    (jss_one (js_ret (je_comp [("other", 3)] rfl sc_looked_at.nd (ji_r1 T (je_v 2)) (blkOk_by (by kernel_rfl)) (by decide) (fun _ _ _ _ _ => (jg_name 3 sc_looked_at.nd)) (fun _ _ _ _ _ => (jts_one (jt_cmp (c_ne hr.units) (je_v 3) (je_v 1)))) (fun _ _ _ _ _ => (je_v 3)))))))

theorem sc_rows_of : FnScope ["row", "hand", "many"] ["row", "hand", "many"] (defScope (topSt 43)) := ⟨rfl, rfl, rfl, by decide +kernel, rfl, by decide +kernel, by decide +kernel⟩
theorem df_rows_of (D : At K mg "rows_of" (topSt 43)) (T : Bi mg) (G : Gv K mg) (hlooked_at : Df P w K mg base 1 "looked_at" (spV K m_looked_at)) : Df P w K mg base 2 "rows_of" (spV K m_rows_of) := by
  obtain ⟨f, fd, F, hm⟩ := D
  refine ⟨f, fd, ["row", "hand", "many"], fn_v (N := ["row", "hand", "many"]) (k := 1) (F := F_rows_of) F sc_rows_of (fun cdv A outer s H E hr => ?_), hm, F.kp, F.bindsN fun _ _ _ _ _ _ us hl => match us, hl with | [_, _, _], _ => rfl⟩
  exact (jss_cons (js_if (jt_cmp (c_eq hr.units) (je_ix (je_v 0) je_int) je_str) (jss_one (js_ret je_int)) jss_nil)
    (jss_one (js_ret (je_len T (je_call hlooked_at (hr.mono (by decide)) (ja_cons (je_ix (je_v 0) je_int) (ja_cons (je_v 1) (ja_cons (je_v 2) ja_nil))))))))

theorem sc_begins : FnScope ["rows", "hand", "many", "found", "come", "row"] ["rows", "hand", "many"] (defScope (topSt 44)) := ⟨rfl, rfl, rfl, by decide +kernel, rfl, by decide +kernel, by decide +kernel⟩
theorem df_begins (D : At K mg "begins" (topSt 44)) (T : Bi mg) (G : Gv K mg) (hrows_of : Df P w K mg base 2 "rows_of" (spV K m_rows_of)) : Df P w K mg base 3 "begins" (spV K m_begins) := by
  obtain ⟨f, fd, F, hm⟩ := D
  refine ⟨f, fd, ["rows", "hand", "many"], fn_v (N := ["rows", "hand", "many", "found", "come", "row"]) (k := 2) (F := F_begins) F sc_begins (fun cdv A outer s H E hr => ?_), hm, F.kp, F.bindsN fun _ _ _ _ _ _ us hl => match us, hl with | [_, _, _], _ => rfl⟩
  exact (jss_cons (js_setN 3 sc_begins.nd (jn_lst ja_nil))
    (jss_cons (js_set 4 sc_begins.nd je_int)
    (jss_cons (js_for PassesOwn.never rfl (ji_tup (je_v 0)) (jg_name 5 sc_begins.nd) (jss_cons (js_app 3 (je_v 4))
    (jss_one (js_set 4 sc_begins.nd (je_add (je_v 4) (je_call hrows_of (hr.mono (by decide)) (ja_cons (je_v 5) (ja_cons (je_v 1) (ja_cons (je_v 2) ja_nil)))))))))
    (jss_one (js_ret (je_z 3))))))

theorem sc_program_for : FnScope ["template", "hand", "many", "firsts", "found", "row", "through", "kinds", "door", "within", "rows", "other"] ["template", "hand", "many"] (defScope (topSt 45)) := ⟨rfl, rfl, rfl, by decide +kernel, rfl, by decide +kernel, by decide +kernel⟩
theorem df_program_for (D : At K mg "program_for" (topSt 45)) (T : Bi mg) (G : Gv K mg) (hlooked_at : Df P w K mg base 1 "looked_at" (spV K m_looked_at)) (hrows_of : Df P w K mg base 2 "rows_of" (spV K m_rows_of)) (hbegins : Df P w K mg base 3 "begins" (spV K m_begins)) : Df P w K mg base 4 "program_for" (spV K m_program_for) := by
  obtain ⟨f, fd, F, hm⟩ := D
  refine ⟨f, fd, ["template", "hand", "many"], fn_v (N := ["template", "hand", "many", "firsts", "found", "row", "through", "kinds", "door", "within", "rows", "other"]) (k := 3) (F := F_program_for) F sc_program_for (fun cdv A outer s H E hr => ?_), hm, F.kp, F.bindsN fun _ _ _ _ _ _ us hl => match us, hl with | [_, _, _], _ => rfl⟩
  exact (jss_cons (js_asg (je_v 0) (jg_tup rfl (jgs_cons (jg_name 7 sc_program_for.nd) (jgs_cons (jg_tup rfl (jgs_cons (jg_name 8 sc_program_for.nd) (jgs_cons (jg_name 9 sc_program_for.nd) (jgs_cons (jg_name 10 sc_program_for.nd) jgs_nil)))) jgs_nil))))
    (jss_cons (js_set 3 sc_program_for.nd (je_call hbegins (hr.mono (by decide)) (ja_cons (je_v 10) (ja_cons (je_v 1) (ja_cons (je_v 2) ja_nil)))))
    (jss_cons (js_setN 4 sc_program_for.nd (jn_lst ja_nil))
    (jss_cons (js_for PassesOwn.never rfl (ji_tup (je_v 10)) (jg_name 5 sc_program_for.nd) (jss_one (js_if (jt_cmp (c_eq hr.units) (je_ix (je_v 5) je_int) je_str) (jss_one (js_app 4 (je_tup (ja_cons je_str (ja_cons (je_add (je_mul (je_v 1) (je_len T (je_v 7))) (je_ix (je_v 5) je_int)) (ja_cons (je_ix (je_v 5) je_int) ja_nil)))))) (jss_one (js_for PassesOwn.never rfl (ji_list (je_call hlooked_at (hr.mono (by decide)) (ja_cons (je_ix (je_v 5) je_int) (ja_cons (je_v 1) (ja_cons (je_v 2) ja_nil))))) (jg_name 11 sc_program_for.nd) (jss_one (js_app 4 (je_tup (ja_cons je_str (ja_cons (je_add (je_mul (je_v 11) (je_len T (je_v 7))) (je_ix (je_v 5) je_int)) (ja_cons (je_ix (je_v 5) je_int) (ja_cons (je_ix (je_v 3) (je_sub (je_ix (je_v 5) je_int) je_int)) ja_nil))))))))))))
    (jss_cons (js_set 6 sc_program_for.nd (je_sum rfl T (je_comp [("row", 5)] rfl sc_program_for.nd (ji_tup (je_sl (je_v 10) jo_none (jo_some (je_v 8)))) (blkOk_by (by kernel_rfl)) (by decide) (fun _ _ _ _ _ => (jg_name 5 sc_program_for.nd)) (fun _ _ _ _ _ => jts_nil) (fun _ _ _ _ _ => (je_call hrows_of (hr.mono (by decide)) (ja_cons (je_v 5) (ja_cons (je_v 1) (ja_cons (je_v 2) ja_nil))))))))
    (jss_one (js_ret (je_tup (ja_cons (je_v 6) (ja_cons (je_ix (je_v 3) (je_sub (je_v 9) je_int)) (ja_cons (je_tuple T (je_z 4)) ja_nil)))))))))))

theorem sc_way_for : FnScope ["template", "many", "hand"] ["template", "many"] (defScope (topSt 46)) := ⟨rfl, rfl, rfl, by decide +kernel, rfl, by decide +kernel, by decide +kernel⟩
theorem df_way_for (D : At K mg "way_for" (topSt 46)) (T : Bi mg) (G : Gv K mg) (his_between : Df P w K mg base 2 "is_between" (spV K m_is_between)) (hcheck_template : Df P w K mg base 7 "check_template" (spV K m_check_template)) (hprogram_for : Df P w K mg base 4 "program_for" (spV K m_program_for)) : Df P w K mg base 8 "way_for" (spV K m_way_for) := by
  obtain ⟨f, fd, F, hm⟩ := D
  refine ⟨f, fd, ["template", "many"], fn_v (N := ["template", "many", "hand"]) (k := 7) (F := F_way_for) F sc_way_for (fun cdv A outer s H E hr => ?_), hm, F.kp, F.bindsN fun _ _ _ _ _ _ us hl => match us, hl with | [_, _], _ => rfl⟩
  exact (jss_cons (js_expr (je_call hcheck_template (hr.mono (by decide)) (ja_cons (je_v 0) ja_nil)))
    (jss_cons (js_if (jt_not (jt_val (je_call his_between (hr.mono (by decide)) (ja_cons (je_v 1) (ja_cons je_int (ja_cons (je_gint G.most_hands) ja_nil)))))) (jss_one js_never) jss_nil)
    (jss_one (js_ret (je_tup (ja_cons (je_mul (je_ix (je_v 0) je_int) (je_v 1)) (ja_cons (je_tuple T (je_comp [("hand", 2)] rfl sc_way_for.nd (ji_r1 T (je_v 1)) (blkOk_by (by kernel_rfl)) (by decide) (fun _ _ _ _ _ => (jg_name 2 sc_way_for.nd)) (fun _ _ _ _ _ => jts_nil) (fun _ _ _ _ _ => (je_call hprogram_for (hr.mono (by decide)) (ja_cons (je_v 0) (ja_cons (je_v 2) (ja_cons (je_v 1) ja_nil))))))) ja_nil)))))))

theorem sc_is_spot : FnScope ["boxes", "program", "thing", "rows", "row"] ["boxes", "program", "thing"] (defScope (topSt 48)) := ⟨rfl, rfl, rfl, by decide +kernel, rfl, by decide +kernel, by decide +kernel⟩
theorem df_is_spot (D : At K mg "is_spot" (topSt 48)) (T : Bi mg) (G : Gv K mg) (his_whole : Df P w K mg base 1 "is_whole" (spV K m_is_whole)) : Df P w K mg base 2 "is_spot" (spV K m_is_spot) := by
  obtain ⟨f, fd, F, hm⟩ := D
  refine ⟨f, fd, ["boxes", "program", "thing"], fn_v (N := ["boxes", "program", "thing", "rows", "row"]) (k := 1) (F := F_is_spot) F sc_is_spot (fun cdv A outer s H E hr => ?_), hm, F.kp, F.bindsN fun _ _ _ _ _ _ us hl => match us, hl with | [_, _, _], _ => rfl⟩
  exact (jss_cons (js_set 3 sc_is_spot.nd (je_ix (je_v 1) je_int))
    (jss_cons (js_if (jt_w (jw_or (jt_not (jt_val (je_call his_whole (hr.mono (by decide)) (ja_cons (je_v 2) ja_nil)))) (jw_or (jt_not (jt_chain c_le c_le je_int (je_v 2) (je_add (je_mul je_int (je_len T (je_v 3))) je_int))) (jw_or1 (jt_cmp (c_eq hr.units) (je_v 2) je_int))))) (jss_one (js_ret je_bl)) jss_nil)
    (jss_cons (js_if (jt_cmp (c_eq hr.units) (je_mod (je_v 2) je_int) je_int) (jss_one (js_ret je_bl)) jss_nil)
    (jss_cons (js_set 4 sc_is_spot.nd (je_ix (je_v 3) (je_sub (je_fdiv (je_v 2) je_int) je_int)))
    (jss_one (js_ret (je_and (je_cmp (c_eq hr.units) (je_ix (je_v 4) je_int) je_str) (je_one (je_cmp (c_ne hr.units) (je_ix (je_ix (je_v 0) (je_ix (je_v 4) je_int)) je_int) je_str)))))))))
end
end K45

set_option Elab.async false
set_option linter.all false
set_option maxRecDepth 100000
set_option maxHeartbeats 4000000
namespace K45
open PySem PySem.Spec PyProof.Rows L2 Md
section
variable {P : Program} {w : World} {K : PySem.W.Frag} {mg : Str → Option Value} {base : Heap}
theorem sc_is_standing : FnScope ["way", "thing", "boxes", "hands", "spots", "values", "box", "value", "part", "program", "spot"] ["way", "thing"] (defScope (topSt 49)) := ⟨rfl, rfl, rfl, by decide +kernel, rfl, by decide +kernel, by decide +kernel⟩
theorem df_is_standing (D : At K mg "is_standing" (topSt 49)) (T : Bi mg) (G : Gv K mg) (his_whole : Df P w K mg base 1 "is_whole" (spV K m_is_whole)) (hcheck_way : Df P w K mg base 7 "check_way" (spV K m_check_way)) (his_spot : Df P w K mg base 2 "is_spot" (spV K m_is_spot)) : Df P w K mg base 8 "is_standing" (spV K m_is_standing) := by
  obtain ⟨f, fd, F, hm⟩ := D
  refine ⟨f, fd, ["way", "thing"], fn_v (N := ["way", "thing", "boxes", "hands", "spots", "values", "box", "value", "part", "program", "spot"]) (k := 7) (F := F_is_standing) F sc_is_standing (fun cdv A outer s H E hr => ?_), hm, F.kp, F.bindsN fun _ _ _ _ _ _ us hl => match us, hl with | [_, _], _ => rfl⟩
  exact (jss_cons (js_expr (je_call hcheck_way (hr.mono (by decide)) (ja_cons (je_v 0) ja_nil)))
    (jss_cons (js_asg (je_v 0) (jg_tup rfl (jgs_cons (jg_name 2 sc_is_standing.nd) (jgs_cons (jg_name 3 sc_is_standing.nd) jgs_nil))))
    (jss_cons (js_if (jt_w (jw_or (jt_not (jt_val (je_isi (.inr (.inr (.inr rfl))) T T.tuple bv_tuple (je_v 1)))) (jw_or (jt_cmp (c_ne hr.units) (je_len T (je_v 1)) je_int) (jw_or1 (jt_not (jt_val (je_all rfl T (je_comp [("part", 8)] rfl sc_is_standing.nd (ji_tup (je_v 1)) (blkOk_by (by kernel_rfl)) (by decide) (fun _ _ _ _ _ => (jg_name 8 sc_is_standing.nd)) (fun _ _ _ _ _ => jts_nil) (fun _ _ _ _ _ => (je_isi (.inr (.inr (.inr rfl))) T T.tuple bv_tuple (je_v 8))))))))))) (jss_one (js_ret je_bl)) jss_nil)
    (jss_cons (js_asg (je_v 1) (jg_tup rfl (jgs_cons (jg_name 4 sc_is_standing.nd) (jgs_cons (jg_name 5 sc_is_standing.nd) jgs_nil))))
    (jss_cons (js_if (jt_w (jw_or (jt_cmp (c_ne hr.units) (je_len T (je_v 4)) (je_len T (je_v 3))) (jw_or1 (jt_cmp (c_ne hr.units) (je_len T (je_v 5)) (je_len T (je_v 2)))))) (jss_one (js_ret je_bl)) jss_nil)
    (jss_cons (js_if (jt_not (jt_val (je_all rfl T (je_comp [("program", 9), ("spot", 10)] rfl sc_is_standing.nd (ji_zip T (je_v 3) (je_v 4)) (blkOk_by (by kernel_rfl)) (by decide) (fun _ _ _ _ _ => (jg_tup rfl (jgs_cons (jg_name 9 sc_is_standing.nd) (jgs_cons (jg_name 10 sc_is_standing.nd) jgs_nil)))) (fun _ _ _ _ _ => jts_nil) (fun _ _ _ _ _ => (je_call his_spot (hr.mono (by decide)) (ja_cons (je_v 2) (ja_cons (je_v 9) (ja_cons (je_v 10) ja_nil))))))))) (jss_one (js_ret je_bl)) jss_nil)
    (jss_one (js_ret (je_all rfl T (je_comp [("box", 6), ("value", 7)] rfl sc_is_standing.nd (ji_zip T (je_v 2) (je_v 5)) (blkOk_by (by kernel_rfl)) (by decide) (fun _ _ _ _ _ => (jg_tup rfl (jgs_cons (jg_name 6 sc_is_standing.nd) (jgs_cons (jg_name 7 sc_is_standing.nd) jgs_nil)))) (fun _ _ _ _ _ => jts_nil) (fun _ _ _ _ _ => (je_and (je_call his_whole (hr.mono (by decide)) (ja_cons (je_v 7) ja_nil)) (je_one (je_chain c_le c_lt je_int (je_v 7) (je_ix (je_v 6) je_int)))))))))))))))

theorem sc_check_standing : FnScope ["way", "thing"] ["way", "thing"] (defScope (topSt 50)) := ⟨rfl, rfl, rfl, by decide +kernel, rfl, by decide +kernel, by decide +kernel⟩
theorem df_check_standing (D : At K mg "check_standing" (topSt 50)) (T : Bi mg) (G : Gv K mg) (his_standing : Df P w K mg base 8 "is_standing" (spV K m_is_standing)) : Df P w K mg base 9 "check_standing" (spV K m_check_standing) := by
  obtain ⟨f, fd, F, hm⟩ := D
  refine ⟨f, fd, ["way", "thing"], fn_v (N := ["way", "thing"]) (k := 8) (F := F_check_standing) F sc_check_standing (fun cdv A outer s H E hr => ?_), hm, F.kp, F.bindsN fun _ _ _ _ _ _ us hl => match us, hl with | [_, _], _ => rfl⟩
  exact (jss_one (js_if (jt_not (jt_val (je_call his_standing (hr.mono (by decide)) (ja_cons (je_v 0) (ja_cons (je_v 1) ja_nil))))) (jss_one js_never) jss_nil))

theorem sc_first_standing : FnScope ["way", "boxes", "hands", "box"] ["way"] (defScope (topSt 51)) := ⟨rfl, rfl, rfl, by decide +kernel, rfl, by decide +kernel, by decide +kernel⟩
theorem df_first_standing (D : At K mg "first_standing" (topSt 51)) (T : Bi mg) (G : Gv K mg) (hcheck_way : Df P w K mg base 7 "check_way" (spV K m_check_way)) : Df P w K mg base 8 "first_standing" (spV K m_first_standing) := by
  obtain ⟨f, fd, F, hm⟩ := D
  refine ⟨f, fd, ["way"], fn_v (N := ["way", "boxes", "hands", "box"]) (k := 7) (F := F_first_standing) F sc_first_standing (fun cdv A outer s H E hr => ?_), hm, F.kp, F.bindsN fun _ _ _ _ _ _ us hl => match us, hl with | [_], _ => rfl⟩
  exact (jss_cons (js_expr (je_call hcheck_way (hr.mono (by decide)) (ja_cons (je_v 0) ja_nil)))
    (jss_cons (js_asg (je_v 0) (jg_tup rfl (jgs_cons (jg_name 1 sc_first_standing.nd) (jgs_cons (jg_name 2 sc_first_standing.nd) jgs_nil))))
    (jss_one (js_ret (je_tup (ja_cons (je_mul (je_tup (ja_cons je_int ja_nil)) (je_len T (je_v 2))) (ja_cons (je_tuple T (je_comp [("box", 3)] rfl sc_first_standing.nd (ji_tup (je_v 1)) (blkOk_by (by kernel_rfl)) (by decide) (fun _ _ _ _ _ => (jg_name 3 sc_first_standing.nd)) (fun _ _ _ _ _ => jts_nil) (fun _ _ _ _ _ => (je_ix (je_v 3) je_int)))) ja_nil)))))))

theorem sc_put_in : FnScope ["some", "at", "thing"] ["some", "at", "thing"] (defScope (topSt 52)) := ⟨rfl, rfl, rfl, by decide +kernel, rfl, by decide +kernel, by decide +kernel⟩
theorem df_put_in (D : At K mg "put_in" (topSt 52)) (T : Bi mg) (G : Gv K mg) : Df P w K mg base 1 "put_in" (spV K m_put_in) := by
  obtain ⟨f, fd, F, hm⟩ := D
  refine ⟨f, fd, ["some", "at", "thing"], fn_v (N := ["some", "at", "thing"]) (k := 0) (F := F_put_in) F sc_put_in (fun cdv A outer s H E hr => ?_), hm, F.kp, F.bindsN fun _ _ _ _ _ _ us hl => match us, hl with | [_, _, _], _ => rfl⟩
  exact (jss_one (js_ret (je_add (je_add (je_sl (je_v 0) jo_none (jo_some (je_v 1))) (je_tup (ja_cons (je_v 2) ja_nil))) (je_sl (je_v 0) (jo_some (je_add (je_v 1) je_int)) jo_none))))

theorem sc_spot_on : FnScope ["program", "place"] ["program", "place"] (defScope (topSt 53)) := ⟨rfl, rfl, rfl, by decide +kernel, rfl, by decide +kernel, by decide +kernel⟩
theorem df_spot_on (D : At K mg "spot_on" (topSt 53)) (T : Bi mg) (G : Gv K mg) (hnext_place : Df P w K mg base 1 "next_place" (spV K m_next_place)) : Df P w K mg base 2 "spot_on" (spV K m_spot_on) := by
  obtain ⟨f, fd, F, hm⟩ := D
  refine ⟨f, fd, ["program", "place"], fn_v (N := ["program", "place"]) (k := 1) (F := F_spot_on) F sc_spot_on (fun cdv A outer s H E hr => ?_), hm, F.kp, F.bindsN fun _ _ _ _ _ _ us hl => match us, hl with | [_, _], _ => rfl⟩
  exact (jss_one (js_ret (je_mul je_int (je_call hnext_place (hr.mono (by decide)) (ja_cons (je_v 0) (ja_cons (je_v 1) ja_nil))))))

theorem sc_written_now : FnScope ["way", "spots", "box", "program", "spot", "row"] ["way", "spots", "box"] (defScope (topSt 54)) := ⟨rfl, rfl, rfl, by decide +kernel, rfl, by decide +kernel, by decide +kernel⟩
theorem df_written_now (D : At K mg "written_now" (topSt 54)) (T : Bi mg) (G : Gv K mg) : Df P w K mg base 1 "written_now" (spV K m_written_now) := by
  obtain ⟨f, fd, F, hm⟩ := D
  refine ⟨f, fd, ["way", "spots", "box"], fn_v (N := ["way", "spots", "box", "program", "spot", "row"]) (k := 0) (F := F_written_now) F sc_written_now (fun cdv A outer s H E hr => ?_), hm, F.kp, F.bindsN fun _ _ _ _ _ _ us hl => match us, hl with | [_, _, _], _ => rfl⟩
  exact (jss_cons (js_for PassesOwn.never rfl (ji_zip T (je_ix (je_v 0) je_int) (je_v 1)) (jg_tup rfl (jgs_cons (jg_name 3 sc_written_now.nd) (jgs_cons (jg_name 4 sc_written_now.nd) jgs_nil))) (jss_one (js_if (jt_cmp (c_eq hr.units) (je_mod (je_v 4) je_int) je_int) (jss_cons (js_set 5 sc_written_now.nd (je_ix (je_ix (je_v 3) je_int) (je_sub (je_fdiv (je_v 4) je_int) je_int)))
    (jss_one (js_if (jt_cmp (c_eq hr.units) (je_ix (je_v 5) je_int) (je_v 2)) (jss_one (js_ret (je_ix (je_v 5) je_int))) jss_nil))) jss_nil)))
    (jss_one (js_ret je_non)))

theorem sc_can_be_told : FnScope ["way", "standing", "box", "coming", "kind", "size", "start", "spots", "values"] ["way", "standing", "box"] (defScope (topSt 55)) := ⟨rfl, rfl, rfl, by decide +kernel, rfl, by decide +kernel, by decide +kernel⟩
theorem df_can_be_told (D : At K mg "can_be_told" (topSt 55)) (T : Bi mg) (G : Gv K mg) (hwritten_now : Df P w K mg base 1 "written_now" (spV K m_written_now)) : Df P w K mg base 2 "can_be_told" (spV K m_can_be_told) := by
  obtain ⟨f, fd, F, hm⟩ := D
  refine ⟨f, fd, ["way", "standing", "box"], fn_v (N := ["way", "standing", "box", "coming", "kind", "size", "start", "spots", "values"]) (k := 1) (F := F_can_be_told) F sc_can_be_told (fun cdv A outer s H E hr => ?_), hm, F.kp, F.bindsN fun _ _ _ _ _ _ us hl => match us, hl with | [_, _, _], _ => rfl⟩
  exact (jss_cons (js_asg (je_ix (je_ix (je_v 0) je_int) (je_v 2)) (jg_tup rfl (jgs_cons (jg_name 4 sc_can_be_told.nd) (jgs_cons (jg_name 5 sc_can_be_told.nd) (jgs_cons (jg_name 6 sc_can_be_told.nd) jgs_nil)))))
    (jss_cons (js_asg (je_v 1) (jg_tup rfl (jgs_cons (jg_name 7 sc_can_be_told.nd) (jgs_cons (jg_name 8 sc_can_be_told.nd) jgs_nil))))
    (jss_cons (js_set 3 sc_can_be_told.nd (je_call hwritten_now (hr.mono (by decide)) (ja_cons (je_v 0) (ja_cons (je_v 7) (ja_cons (je_v 2) ja_nil)))))
    (jss_cons (js_if (jt_cmp c_is (je_v 3) je_non) (jss_one (js_ret (je_lst (ja_cons (je_ix (je_v 8) (je_v 2)) ja_nil)))) jss_nil)
    (jss_cons (js_if (jt_cmp (c_eq hr.units) (je_v 4) je_str) (jss_one (js_ret (je_lr1 rfl T (je_v 5)))) jss_nil)
    (jss_one (js_ret (je_ss rfl T (je_lst (ja_cons (je_ix (je_v 8) (je_v 2)) (ja_cons (je_v 3) ja_nil)))))))))))
end
end K45

set_option Elab.async false
set_option linter.all false
set_option maxRecDepth 100000
set_option maxHeartbeats 4000000
namespace K45
open PySem PySem.Spec PyProof.Rows L2 Md
section
variable {P : Program} {w : World} {K : PySem.W.Frag} {mg : Str → Option Value} {base : Heap}
theorem sc_write_step : FnScope ["way", "standing", "hand", "spots", "values", "program", "spot", "word", "box", "number"] ["way", "standing", "hand"] (defScope (topSt 56)) := ⟨rfl, rfl, rfl, by decide +kernel, rfl, by decide +kernel, by decide +kernel⟩
theorem df_write_step (D : At K mg "write_step" (topSt 56)) (T : Bi mg) (G : Gv K mg) (hput_in : Df P w K mg base 1 "put_in" (spV K m_put_in)) (hspot_on : Df P w K mg base 2 "spot_on" (spV K m_spot_on)) : Df P w K mg base 3 "write_step" (spV K m_write_step) := by
  obtain ⟨f, fd, F, hm⟩ := D
  refine ⟨f, fd, ["way", "standing", "hand"], fn_v (N := ["way", "standing", "hand", "spots", "values", "program", "spot", "word", "box", "number"]) (k := 2) (F := F_write_step) F sc_write_step (fun cdv A outer s H E hr => ?_), hm, F.kp, F.bindsN fun _ _ _ _ _ _ us hl => match us, hl with | [_, _, _], _ => rfl⟩
  exact (jss_cons (js_asg (je_v 1) (jg_tup rfl (jgs_cons (jg_name 3 sc_write_step.nd) (jgs_cons (jg_name 4 sc_write_step.nd) jgs_nil))))
    (jss_cons (js_par 5 6 rfl sc_write_step.nd (ja_cons (je_ix (je_ix (je_v 0) je_int) (je_v 2)) (ja_cons (je_ix (je_v 3) (je_v 2)) ja_nil)))
    (jss_cons (js_asg (je_ix (je_ix (je_v 5) je_int) (je_sub (je_fdiv (je_v 6) je_int) je_int)) (jg_tup rfl (jgs_cons (jg_name 7 sc_write_step.nd) (jgs_cons (jg_name 8 sc_write_step.nd) (jgs_cons (jg_name 9 sc_write_step.nd) jgs_nil)))))
    (jss_cons (js_if (jt_w (jw_and (jt_cmp (c_ne hr.units) (je_ix (je_ix (je_ix (je_v 0) je_int) (je_v 8)) je_int) je_str) (jw_and1 (jt_cmp (c_eq hr.units) (je_mod (je_v 6) je_int) je_int)))) (jss_one (js_ret (je_tup (ja_cons (je_call hput_in (hr.mono (by decide)) (ja_cons (je_v 3) (ja_cons (je_v 2) (ja_cons (je_add (je_v 6) je_int) ja_nil)))) (ja_cons (je_v 4) ja_nil))))) jss_nil)
    (jss_one (js_ret (je_tup (ja_cons (je_call hput_in (hr.mono (by decide)) (ja_cons (je_v 3) (ja_cons (je_v 2) (ja_cons (je_call hspot_on (hr.mono (by decide)) (ja_cons (je_v 5) (ja_cons (je_fdiv (je_v 6) je_int) ja_nil))) ja_nil)))) (ja_cons (je_call hput_in (hr.mono (by decide)) (ja_cons (je_v 4) (ja_cons (je_v 8) (ja_cons (je_v 9) ja_nil)))) ja_nil)))))))))

theorem sc_look_steps : FnScope ["way", "standing", "hand", "found", "told", "spots", "values", "program", "spot", "word", "box", "numbers", "place", "there"] ["way", "standing", "hand"] (defScope (topSt 57)) := ⟨rfl, rfl, rfl, by decide +kernel, rfl, by decide +kernel, by decide +kernel⟩
theorem df_look_steps (D : At K mg "look_steps" (topSt 57)) (T : Bi mg) (G : Gv K mg) (hput_in : Df P w K mg base 1 "put_in" (spV K m_put_in)) (hspot_on : Df P w K mg base 2 "spot_on" (spV K m_spot_on)) (hcan_be_told : Df P w K mg base 2 "can_be_told" (spV K m_can_be_told)) : Df P w K mg base 3 "look_steps" (spV K m_look_steps) := by
  obtain ⟨f, fd, F, hm⟩ := D
  refine ⟨f, fd, ["way", "standing", "hand"], fn_v (N := ["way", "standing", "hand", "found", "told", "spots", "values", "program", "spot", "word", "box", "numbers", "place", "there"]) (k := 2) (F := F_look_steps) F sc_look_steps (fun cdv A outer s H E hr => ?_), hm, F.kp, F.bindsN fun _ _ _ _ _ _ us hl => match us, hl with | [_, _, _], _ => rfl⟩
  exact (jss_cons (js_asg (je_v 1) (jg_tup rfl (jgs_cons (jg_name 5 sc_look_steps.nd) (jgs_cons (jg_name 6 sc_look_steps.nd) jgs_nil))))
    (jss_cons (js_par 7 8 rfl sc_look_steps.nd (ja_cons (je_ix (je_ix (je_v 0) je_int) (je_v 2)) (ja_cons (je_ix (je_v 5) (je_v 2)) ja_nil)))
    (jss_cons (js_asg (je_ix (je_ix (je_v 7) je_int) (je_sub (je_fdiv (je_v 8) je_int) je_int)) (jg_tup rfl (jgs_cons (jg_name 9 sc_look_steps.nd) (jgs_cons (jg_name 10 sc_look_steps.nd) (jgs_cons (jg_name 11 sc_look_steps.nd) (jgs_cons (jg_name 12 sc_look_steps.nd) jgs_nil))))))
    (jss_cons (js_setN 3 sc_look_steps.nd (jn_lst ja_nil))
    (jss_cons (js_for PassesOwn.never rfl (ji_list (je_call hcan_be_told (hr.mono (by decide)) (ja_cons (je_v 0) (ja_cons (je_v 1) (ja_cons (je_v 10) ja_nil))))) (jg_name 4 sc_look_steps.nd) (jss_cons (js_set 13 sc_look_steps.nd (je_mul je_int (je_v 12)))
    (jss_cons (js_if (jt_cmp c_in (je_v 4) (je_v 11)) (jss_one (js_set 13 sc_look_steps.nd (je_call hspot_on (hr.mono (by decide)) (ja_cons (je_v 7) (ja_cons (je_fdiv (je_v 8) je_int) ja_nil))))) jss_nil)
    (jss_one (js_app 3 (je_tup (ja_cons (je_tup (ja_cons (je_v 2) (ja_cons (je_v 4) ja_nil))) (ja_cons (je_tup (ja_cons (je_call hput_in (hr.mono (by decide)) (ja_cons (je_v 5) (ja_cons (je_v 2) (ja_cons (je_v 13) ja_nil)))) (ja_cons (je_v 6) ja_nil))) ja_nil))))))))
    (jss_one (js_ret (je_z 3))))))))

theorem sc_hand_steps : FnScope ["way", "standing", "hand", "spot", "spots", "values"] ["way", "standing", "hand"] (defScope (topSt 58)) := ⟨rfl, rfl, rfl, by decide +kernel, rfl, by decide +kernel, by decide +kernel⟩
theorem df_hand_steps (D : At K mg "hand_steps" (topSt 58)) (T : Bi mg) (G : Gv K mg) (hput_in : Df P w K mg base 1 "put_in" (spV K m_put_in)) (hwrite_step : Df P w K mg base 3 "write_step" (spV K m_write_step)) (hlook_steps : Df P w K mg base 3 "look_steps" (spV K m_look_steps)) : Df P w K mg base 4 "hand_steps" (spV K m_hand_steps) := by
  obtain ⟨f, fd, F, hm⟩ := D
  refine ⟨f, fd, ["way", "standing", "hand"], fn_v (N := ["way", "standing", "hand", "spot", "spots", "values"]) (k := 3) (F := F_hand_steps) F sc_hand_steps (fun cdv A outer s H E hr => ?_), hm, F.kp, F.bindsN fun _ _ _ _ _ _ us hl => match us, hl with | [_, _, _], _ => rfl⟩
  exact (jss_cons (js_asg (je_v 1) (jg_tup rfl (jgs_cons (jg_name 4 sc_hand_steps.nd) (jgs_cons (jg_name 5 sc_hand_steps.nd) jgs_nil))))
    (jss_cons (js_set 3 sc_hand_steps.nd (je_ix (je_v 4) (je_v 2)))
    (jss_cons (js_if (jt_cmp (c_eq hr.units) (je_v 3) je_int) (jss_one (js_ret (je_lst (ja_cons (je_tup (ja_cons (je_tup (ja_cons (je_v 2) (ja_cons je_non ja_nil))) (ja_cons (je_tup (ja_cons (je_call hput_in (hr.mono (by decide)) (ja_cons (je_v 4) (ja_cons (je_v 2) (ja_cons je_int ja_nil)))) (ja_cons (je_v 5) ja_nil))) ja_nil))) ja_nil)))) jss_nil)
    (jss_cons (js_if (jt_cmp (c_eq hr.units) (je_ix (je_ix (je_ix (je_ix (je_ix (je_v 0) je_int) (je_v 2)) je_int) (je_sub (je_fdiv (je_v 3) je_int) je_int)) je_int) je_str) (jss_one (js_ret (je_lst (ja_cons (je_tup (ja_cons (je_tup (ja_cons (je_v 2) (ja_cons je_non ja_nil))) (ja_cons (je_call hwrite_step (hr.mono (by decide)) (ja_cons (je_v 0) (ja_cons (je_v 1) (ja_cons (je_v 2) ja_nil)))) ja_nil))) ja_nil)))) jss_nil)
    (jss_one (js_ret (je_call hlook_steps (hr.mono (by decide)) (ja_cons (je_v 0) (ja_cons (je_v 1) (ja_cons (je_v 2) ja_nil))))))))))

theorem sc_steps_of : FnScope ["way", "standing", "found", "hand"] ["way", "standing"] (defScope (topSt 59)) := ⟨rfl, rfl, rfl, by decide +kernel, rfl, by decide +kernel, by decide +kernel⟩
theorem df_steps_of (D : At K mg "steps_of" (topSt 59)) (T : Bi mg) (G : Gv K mg) (hhand_steps : Df P w K mg base 4 "hand_steps" (spV K m_hand_steps)) : Df P w K mg base 5 "steps_of" (spV K m_steps_of) := by
  obtain ⟨f, fd, F, hm⟩ := D
  refine ⟨f, fd, ["way", "standing"], fn_v (N := ["way", "standing", "found", "hand"]) (k := 4) (F := F_steps_of) F sc_steps_of (fun cdv A outer s H E hr => ?_), hm, F.kp, F.bindsN fun _ _ _ _ _ _ us hl => match us, hl with | [_, _], _ => rfl⟩
  exact (jss_cons (js_setN 2 sc_steps_of.nd (jn_lst ja_nil))
    (jss_cons (js_for PassesOwn.never rfl (ji_r1 T (je_len T (je_ix (je_v 0) je_int))) (jg_name 3 sc_steps_of.nd) (jss_one (js_ext 2 (je_call hhand_steps (hr.mono (by decide)) (ja_cons (je_v 0) (ja_cons (je_v 1) (ja_cons (je_v 3) ja_nil)))))))
    (jss_one (js_ret (je_tuple T (je_z 2))))))

theorem sc_steps_from : FnScope ["way", "standing"] ["way", "standing"] (defScope (topSt 60)) := ⟨rfl, rfl, rfl, by decide +kernel, rfl, by decide +kernel, by decide +kernel⟩
theorem df_steps_from (D : At K mg "steps_from" (topSt 60)) (T : Bi mg) (G : Gv K mg) (hcheck_standing : Df P w K mg base 9 "check_standing" (spV K m_check_standing)) (hsteps_of : Df P w K mg base 5 "steps_of" (spV K m_steps_of)) : Df P w K mg base 10 "steps_from" (spV K m_steps_from) := by
  obtain ⟨f, fd, F, hm⟩ := D
  refine ⟨f, fd, ["way", "standing"], fn_v (N := ["way", "standing"]) (k := 9) (F := F_steps_from) F sc_steps_from (fun cdv A outer s H E hr => ?_), hm, F.kp, F.bindsN fun _ _ _ _ _ _ us hl => match us, hl with | [_, _], _ => rfl⟩
  exact (jss_cons (js_expr (je_call hcheck_standing (hr.mono (by decide)) (ja_cons (je_v 0) (ja_cons (je_v 1) ja_nil))))
    (jss_one (js_ret (je_call hsteps_of (hr.mono (by decide)) (ja_cons (je_v 0) (ja_cons (je_v 1) ja_nil))))))

theorem sc__law_mixed : FnScope ["_law_cell"] ["_law_cell"] (defScope (topSt 62)) := ⟨rfl, rfl, rfl, by decide +kernel, rfl, by decide +kernel, by decide +kernel⟩
theorem df__law_mixed (D : At K mg "_law_mixed" (topSt 62)) (T : Bi mg) (G : Gv K mg) : Df P w K mg base 1 "_law_mixed" (spV K m__law_mixed) := by
  obtain ⟨f, fd, F, hm⟩ := D
  refine ⟨f, fd, ["_law_cell"], fn_v (N := ["_law_cell"]) (k := 0) (F := F__law_mixed) F sc__law_mixed (fun cdv A outer s H E hr => ?_), hm, F.kp, F.bindsN fun _ _ _ _ _ _ us hl => match us, hl with | [_], _ => rfl⟩
  exact (jss_one (js_ret (je_mod (je_mul (je_mod (je_v 0) (je_pow je_int je_int)) je_int) (je_pow je_int je_int))))

theorem sc__law_pack : FnScope ["_law_script", "_law_k", "_law_found", "_law_at", "_law_lack"] ["_law_script", "_law_k"] (defScope (topSt 63)) := ⟨rfl, rfl, rfl, by decide +kernel, rfl, by decide +kernel, by decide +kernel⟩
theorem df__law_pack (D : At K mg "_law_pack" (topSt 63)) (T : Bi mg) (G : Gv K mg) (h_law_mixed : Df P w K mg base 1 "_law_mixed" (spV K m__law_mixed)) : Df P w K mg base 2 "_law_pack" (spN K m__law_pack) := by
  obtain ⟨f, fd, F, hm⟩ := D
  refine ⟨f, fd, ["_law_script", "_law_k"], fn_n (N := ["_law_script", "_law_k", "_law_found", "_law_at", "_law_lack"]) (k := 1) (F := F__law_pack) F sc__law_pack (fun cdv A outer s H E hr => ?_), hm, F.kp, F.bindsN fun _ _ _ _ _ _ us hl => match us, hl with | [_, _], _ => rfl⟩
  exact (jss_cons (js_set 2 sc__law_pack.nd je_int)
    (jss_cons (js_for PassesOwn.never rfl (ji_list (je_lst (ja_cons (je_add (je_v 1) je_int) (ja_cons (je_v 1) ja_nil)))) (jg_name 3 sc__law_pack.nd) (jss_cons (js_set 4 sc__law_pack.nd (je_fdiv (je_call h_law_mixed (hr.mono (by decide)) (ja_cons (je_add (je_add (je_mul je_int (je_v 3)) je_int) (je_mul je_int (je_ix (je_add (je_v 0) (je_lst (ja_cons je_int ja_nil))) je_int))) ja_nil)) (je_pow je_int je_int)))
    (jss_one (js_set 2 sc__law_pack.nd (je_add (je_mul (je_v 2) (je_pow je_int je_int)) (je_call h_law_mixed (hr.mono (by decide)) (ja_cons (je_ix (je_add (je_sl (je_v 0) (jo_some (je_v 3)) (jo_some (je_add (je_v 3) je_int))) (je_lst (ja_cons (je_v 4) ja_nil))) je_int) ja_nil)))))))
    (jss_one (js_retN (jn_lst (ja_cons (je_v 2) ja_nil))))))
end
end K45

set_option Elab.async false
set_option linter.all false
set_option maxRecDepth 100000
set_option maxHeartbeats 4000000
namespace K45
open PySem PySem.Spec PyProof.Rows L2 Md
section
variable {P : Program} {w : World} {K : PySem.W.Frag} {mg : Str → Option Value} {base : Heap}
theorem sc__law_numbers : FnScope ["_law_pack_here", "_law_size", "_law_bits", "_law_number"] ["_law_pack_here", "_law_size"] (defScope (topSt 65)) := ⟨rfl, rfl, rfl, by decide +kernel, rfl, by decide +kernel, by decide +kernel⟩
theorem df__law_numbers (D : At K mg "_law_numbers" (topSt 65)) (T : Bi mg) (G : Gv K mg) (h_law_take : Df P w K mg base 1 "_law_take" (spO K m__law_take)) : Df P w K mg base 2 "_law_numbers" (spO K m__law_numbers) := by
  obtain ⟨f, fd, F, hm⟩ := D
  refine ⟨f, fd, ["_law_pack_here", "_law_size"], fn_o (N := ["_law_pack_here", "_law_size", "_law_bits", "_law_number"]) (k := 1) (F := F__law_numbers) F sc__law_numbers (fun cdv A outer s H E hr => ?_), hm, F.kp, F.bindsN fun _ _ _ _ _ _ us hl => match us, hl with | [_, _], _ => rfl⟩
  exact (jss_cons (js_set 2 sc__law_numbers.nd (je_callO 0 h_law_take (hr.mono (by decide)) (ja_cons (je_shl je_int (je_v 1)) ja_nil)))
    (jss_one (js_ret (je_tuple T (je_comp [("_law_number", 3)] rfl sc__law_numbers.nd (ji_r1 T (je_v 1)) (blkOk_by (by kernel_rfl)) (by decide) (fun _ _ _ _ _ => (jg_name 3 sc__law_numbers.nd)) (fun _ _ _ _ _ => (jts_one (jt_cmp (c_eq hr.units) (je_band (je_shr (je_v 2) (je_v 3)) je_int) je_int))) (fun _ _ _ _ _ => (je_v 3)))))))

theorem sc__law_template : FnScope ["_law_pack_here", "_law_kinds", "_law_turn", "_law_many", "_law_within", "_law_door", "_law_rows", "_law_left", "_law_place", "_law_size", "_law_looks", "_law_kind", "_law_whom_here"] ["_law_pack_here"] (defScope (topSt 66)) := ⟨rfl, rfl, rfl, by decide +kernel, rfl, by decide +kernel, by decide +kernel⟩
theorem df__law_template (D : At K mg "_law_template" (topSt 66)) (T : Bi mg) (G : Gv K mg) (h_law_take : Df P w K mg base 1 "_law_take" (spO K m__law_take)) (h_law_numbers : Df P w K mg base 2 "_law_numbers" (spO K m__law_numbers)) : Df P w K mg base 3 "_law_template" (spO K m__law_template) := by
  obtain ⟨f, fd, F, hm⟩ := D
  refine ⟨f, fd, ["_law_pack_here"], fn_o (N := ["_law_pack_here", "_law_kinds", "_law_turn", "_law_many", "_law_within", "_law_door", "_law_rows", "_law_left", "_law_place", "_law_size", "_law_looks", "_law_kind", "_law_whom_here"]) (k := 2) (F := F__law_template) F sc__law_template (fun cdv A outer s H E hr => ?_), hm, F.kp, F.bindsN fun _ _ _ _ _ _ us hl => match us, hl with | [_], _ => rfl⟩
  exact (jss_cons (js_setN 1 sc__law_template.nd (jn_lst ja_nil))
    (jss_cons (js_for PassesOwn.never rfl (ji_r1 T (je_add je_int (je_callO 0 h_law_take (hr.mono (by decide)) (ja_cons je_int ja_nil)))) (jg_name 2 sc__law_template.nd) (jss_cons (js_set 9 sc__law_template.nd (je_ix (je_lst (ja_cons je_int (ja_cons je_int (ja_cons je_int (ja_cons je_int ja_nil))))) (je_callO 0 h_law_take (hr.mono (by decide)) (ja_cons je_int ja_nil))))
    (jss_one (js_app 1 (je_tup (ja_cons (je_ix (je_lst (ja_cons je_str (ja_cons je_str (ja_cons je_str ja_nil)))) (je_callO 0 h_law_take (hr.mono (by decide)) (ja_cons je_int ja_nil))) (ja_cons (je_v 9) (ja_cons (je_callO 0 h_law_take (hr.mono (by decide)) (ja_cons (je_v 9) ja_nil)) ja_nil))))))))
    (jss_cons (js_set 3 sc__law_template.nd (je_add je_int (je_callO 0 h_law_take (hr.mono (by decide)) (ja_cons je_int ja_nil))))
    (jss_cons (js_set 4 sc__law_template.nd (je_add je_int (je_callO 0 h_law_take (hr.mono (by decide)) (ja_cons (je_v 3) ja_nil))))
    (jss_cons (js_set 5 sc__law_template.nd (je_callO 0 h_law_take (hr.mono (by decide)) (ja_cons (je_v 4) ja_nil)))
    (jss_cons (js_setN 6 sc__law_template.nd (jn_lst ja_nil))
    (jss_cons (js_set 7 sc__law_template.nd (je_sub je_int (je_v 3)))
    (jss_cons (js_for PassesOwn.never rfl (ji_r2 T je_int (je_add (je_v 3) je_int)) (jg_name 8 sc__law_template.nd) (jss_cons (js_set 10 sc__law_template.nd (je_cmp c_gt (je_callO 0 h_law_take (hr.mono (by decide)) (ja_cons je_int ja_nil)) je_int))
    (jss_cons (js_set 11 sc__law_template.nd (je_callO 0 h_law_take (hr.mono (by decide)) (ja_cons (je_lenO 1 T) ja_nil)))
    (jss_cons (js_set 9 sc__law_template.nd (je_ix (je_ixO 1 (je_v 11)) je_int))
    (jss_one (js_if (jt_w (jw_and (jt_val (je_v 10)) (jw_and (jt_cmp c_lt (je_v 8) (je_v 4)) (jw_and1 (jt_cmp c_gt (je_v 7) je_int))))) (jss_cons (js_set 7 sc__law_template.nd (je_sub (je_v 7) je_int))
    (jss_cons (js_set 12 sc__law_template.nd (je_ix (je_lst (ja_cons je_str (ja_cons je_str (ja_cons je_str ja_nil)))) (je_callO 0 h_law_take (hr.mono (by decide)) (ja_cons je_int ja_nil))))
    (jss_one (js_app 6 (je_tup (ja_cons je_str (ja_cons (je_v 12) (ja_cons (je_v 11) (ja_cons (je_callO 0 h_law_numbers (hr.mono (by decide)) (ja_cons (je_v 9) ja_nil)) (ja_cons (je_add je_int (je_callO 0 h_law_take (hr.mono (by decide)) (ja_cons (je_v 4) ja_nil))) ja_nil)))))))))) (jss_one (js_app 6 (je_tup (ja_cons je_str (ja_cons (je_v 11) (ja_cons (je_callO 0 h_law_take (hr.mono (by decide)) (ja_cons (je_v 9) ja_nil)) ja_nil))))))))))))
    (jss_one (js_ret (je_tup (ja_cons (je_tuple T (je_z 1)) (ja_cons (je_tup (ja_cons (je_v 5) (ja_cons (je_v 4) (ja_cons (je_tuple T (je_z 6)) ja_nil)))) ja_nil)))))))))))))

theorem sc__law_known_template : FnScope ["_law_pick", "_law_bit", "_law_first"] ["_law_pick"] (defScope (topSt 67)) := ⟨rfl, rfl, rfl, by decide +kernel, rfl, by decide +kernel, by decide +kernel⟩
theorem df__law_known_template (D : At K mg "_law_known_template" (topSt 67)) (T : Bi mg) (G : Gv K mg) : Df P w K mg base 1 "_law_known_template" (spV K m__law_known_template) := by
  obtain ⟨f, fd, F, hm⟩ := D
  refine ⟨f, fd, ["_law_pick"], fn_v (N := ["_law_pick", "_law_bit", "_law_first"]) (k := 0) (F := F__law_known_template) F sc__law_known_template (fun cdv A outer s H E hr => ?_), hm, F.kp, F.bindsN fun _ _ _ _ _ _ us hl => match us, hl with | [_], _ => rfl⟩
  exact (jss_cons (js_set 1 sc__law_known_template.nd (je_tup (ja_cons (je_tup (ja_cons je_str (ja_cons je_int (ja_cons je_int ja_nil)))) ja_nil)))
    (jss_cons (js_if (jt_cmp (c_eq hr.units) (je_v 0) je_int) (jss_one (js_ret (je_tup (ja_cons (je_v 1) (ja_cons (je_tup (ja_cons je_int (ja_cons je_int (ja_cons (je_tup (ja_cons (je_tup (ja_cons je_str (ja_cons je_int (ja_cons je_int ja_nil)))) (ja_cons (je_tup (ja_cons je_str (ja_cons je_str (ja_cons je_int (ja_cons (je_tup (ja_cons je_int ja_nil)) (ja_cons je_int ja_nil)))))) (ja_cons (je_tup (ja_cons je_str (ja_cons je_int (ja_cons je_int ja_nil)))) ja_nil)))) ja_nil)))) ja_nil))))) jss_nil)
    (jss_cons (js_set 2 sc__law_known_template.nd (je_tup (ja_cons (je_tup (ja_cons je_str (ja_cons je_int (ja_cons je_int ja_nil)))) (ja_cons (je_tup (ja_cons je_str (ja_cons je_str (ja_cons je_int (ja_cons (je_tup (ja_cons je_int ja_nil)) (ja_cons je_int ja_nil)))))) (ja_cons (je_tup (ja_cons je_str (ja_cons je_int (ja_cons je_int ja_nil)))) (ja_cons (je_tup (ja_cons je_str (ja_cons je_str (ja_cons je_int (ja_cons (je_tup (ja_cons je_int ja_nil)) (ja_cons je_int ja_nil)))))) ja_nil))))))
    (jss_one (js_ret (je_tup (ja_cons (je_v 1) (ja_cons (je_tup (ja_cons je_int (ja_cons je_int (ja_cons (je_add (je_v 2) (je_tup (ja_cons (je_tup (ja_cons je_str (ja_cons je_str (ja_cons je_int (ja_cons (je_tup (ja_cons je_int ja_nil)) (ja_cons je_int ja_nil)))))) (ja_cons (je_tup (ja_cons je_str (ja_cons je_int (ja_cons je_int ja_nil)))) ja_nil)))) ja_nil)))) ja_nil))))))))

theorem sc__law_some_template : FnScope ["_law_pack_here", "_law_pick"] ["_law_pack_here"] (defScope (topSt 68)) := ⟨rfl, rfl, rfl, by decide +kernel, rfl, by decide +kernel, by decide +kernel⟩
theorem df__law_some_template (D : At K mg "_law_some_template" (topSt 68)) (T : Bi mg) (G : Gv K mg) (h_law_take : Df P w K mg base 1 "_law_take" (spO K m__law_take)) (h_law_template : Df P w K mg base 3 "_law_template" (spO K m__law_template)) (h_law_known_template : Df P w K mg base 1 "_law_known_template" (spV K m__law_known_template)) : Df P w K mg base 4 "_law_some_template" (spO K m__law_some_template) := by
  obtain ⟨f, fd, F, hm⟩ := D
  refine ⟨f, fd, ["_law_pack_here"], fn_o (N := ["_law_pack_here", "_law_pick"]) (k := 3) (F := F__law_some_template) F sc__law_some_template (fun cdv A outer s H E hr => ?_), hm, F.kp, F.bindsN fun _ _ _ _ _ _ us hl => match us, hl with | [_], _ => rfl⟩
  exact (jss_cons (js_set 1 sc__law_some_template.nd (je_callO 0 h_law_take (hr.mono (by decide)) (ja_cons je_int ja_nil)))
    (jss_cons (js_if (jt_cmp c_lt (je_v 1) je_int) (jss_one (js_ret (je_call h_law_known_template (hr.mono (by decide)) (ja_cons (je_v 1) ja_nil)))) jss_nil)
    (jss_one (js_ret (je_callO 0 h_law_template (hr.mono (by decide)) ja_nil)))))

theorem sc__law_whom : FnScope ["_law_whom_here", "_law_hand", "_law_many", "_law_j"] ["_law_whom_here", "_law_hand", "_law_many"] (defScope (topSt 69)) := ⟨rfl, rfl, rfl, by decide +kernel, rfl, by decide +kernel, by decide +kernel⟩
theorem df__law_whom (D : At K mg "_law_whom" (topSt 69)) (T : Bi mg) (G : Gv K mg) : Df P w K mg base 1 "_law_whom" (spV K m__law_whom) := by
  obtain ⟨f, fd, F, hm⟩ := D
  refine ⟨f, fd, ["_law_whom_here", "_law_hand", "_law_many"], fn_v (N := ["_law_whom_here", "_law_hand", "_law_many", "_law_j"]) (k := 0) (F := F__law_whom) F sc__law_whom (fun cdv A outer s H E hr => ?_), hm, F.kp, F.bindsN fun _ _ _ _ _ _ us hl => match us, hl with | [_, _, _], _ => rfl⟩
  exact (jss_one (js_ret (je_comp [("_law_j", 3)] rfl sc__law_whom.nd (ji_r1 T (je_v 2)) (blkOk_by (by kernel_rfl)) (by decide) (fun _ _ _ _ _ => (jg_name 3 sc__law_whom.nd)) (fun _ _ _ _ _ => (jts_one (jt_w (jw_or (jt_w (jw_and (jt_cmp c_lt (je_v 3) (je_v 1)) (jw_and1 (jt_cmp (c_ne hr.units) (je_v 0) je_str)))) (jw_or1 (jt_w (jw_and (jt_cmp c_gt (je_v 3) (je_v 1)) (jw_and1 (jt_cmp (c_ne hr.units) (je_v 0) je_str))))))))) (fun _ _ _ _ _ => (je_v 3)))))

theorem sc__law_settled : FnScope ["_law_template_here", "_law_many", "_law_hand", "_law_state", "_law_rows", "_law_turn", "_law_at", "_law_looked", "_law_amid"] ["_law_template_here", "_law_many", "_law_hand", "_law_state"] (defScope (topSt 70)) := ⟨rfl, rfl, rfl, by decide +kernel, rfl, by decide +kernel, by decide +kernel⟩
theorem df__law_settled (D : At K mg "_law_settled" (topSt 70)) (T : Bi mg) (G : Gv K mg) (h_law_whom : Df P w K mg base 1 "_law_whom" (spV K m__law_whom)) : Df P w K mg base 2 "_law_settled" (spV K m__law_settled) := by
  obtain ⟨f, fd, F, hm⟩ := D
  refine ⟨f, fd, ["_law_template_here", "_law_many", "_law_hand", "_law_state"], fn_v (N := ["_law_template_here", "_law_many", "_law_hand", "_law_state", "_law_rows", "_law_turn", "_law_at", "_law_looked", "_law_amid"]) (k := 1) (F := F__law_settled) F sc__law_settled (fun cdv A outer s H E hr => ?_), hm, F.kp, F.bindsN fun _ _ _ _ _ _ us hl => match us, hl with | [_, _, _, _], _ => rfl⟩
  exact (jss_cons (js_set 4 sc__law_settled.nd (je_ix (je_ix (je_v 0) je_int) je_int))
    (jss_cons (js_asg (je_v 3) (jg_tup rfl (jgs_cons (jg_name 6 sc__law_settled.nd) (jgs_cons (jg_name 7 sc__law_settled.nd) (jgs_cons (jg_name 8 sc__law_settled.nd) jgs_nil)))))
    (jss_cons (js_for PassesOwn.never rfl (ji_r1 T (je_add (je_len T (je_v 4)) je_int)) (jg_name 5 sc__law_settled.nd) (jss_one (js_if (jt_w (jw_and (jt_cmp c_gt (je_v 6) je_int) (jw_and (jt_cmp c_le (je_v 6) (je_len T (je_v 4))) (jw_and1 (jt_cmp (c_eq hr.units) (je_ix (je_ix (je_v 4) (je_sub (je_v 6) je_int)) je_int) je_str))))) (jss_one (js_if (jt_cmp (c_eq hr.units) (je_v 7) (je_len T (je_call h_law_whom (hr.mono (by decide)) (ja_cons (je_ix (je_ix (je_v 4) (je_sub (je_v 6) je_int)) je_int) (ja_cons (je_v 2) (ja_cons (je_v 1) ja_nil)))))) (jss_one (js_par 6 7 rfl sc__law_settled.nd (ja_cons (je_add (je_v 6) je_int) (ja_cons je_int ja_nil)))) jss_nil)) jss_nil)))
    (jss_cons (js_if (jt_cmp c_gt (je_v 6) (je_len T (je_v 4))) (jss_one (js_set 6 sc__law_settled.nd je_int)) jss_nil)
    (jss_one (js_ret (je_tup (ja_cons (je_v 6) (ja_cons (je_v 7) (ja_cons (je_v 8) ja_nil))))))))))

theorem sc__law_stepped : FnScope ["_law_template_here", "_law_many", "_law_states", "_law_values", "_law_step", "_law_found", "_law_kinds", "_law_hand", "_law_told", "_law_at", "_law_looked", "_law_amid", "_law_state", "_law_door", "_law_within", "_law_rows", "_law_box"] ["_law_template_here", "_law_many", "_law_states", "_law_values", "_law_step"] (defScope (topSt 71)) := ⟨rfl, rfl, rfl, by decide +kernel, rfl, by decide +kernel, by decide +kernel⟩
theorem df__law_stepped (D : At K mg "_law_stepped" (topSt 71)) (T : Bi mg) (G : Gv K mg) (h_law_settled : Df P w K mg base 2 "_law_settled" (spV K m__law_settled)) : Df P w K mg base 3 "_law_stepped" (spV K m__law_stepped) := by
  obtain ⟨f, fd, F, hm⟩ := D
  refine ⟨f, fd, ["_law_template_here", "_law_many", "_law_states", "_law_values", "_law_step"], fn_v (N := ["_law_template_here", "_law_many", "_law_states", "_law_values", "_law_step", "_law_found", "_law_kinds", "_law_hand", "_law_told", "_law_at", "_law_looked", "_law_amid", "_law_state", "_law_door", "_law_within", "_law_rows", "_law_box"]) (k := 2) (F := F__law_stepped) F sc__law_stepped (fun cdv A outer s H E hr => ?_), hm, F.kp, F.bindsN fun _ _ _ _ _ _ us hl => match us, hl with | [_, _, _, _, _], _ => rfl⟩
  exact (jss_cons (js_asg (je_v 0) (jg_tup rfl (jgs_cons (jg_name 6 sc__law_stepped.nd) (jgs_cons (jg_tup rfl (jgs_cons (jg_name 13 sc__law_stepped.nd) (jgs_cons (jg_name 14 sc__law_stepped.nd) (jgs_cons (jg_name 15 sc__law_stepped.nd) jgs_nil)))) jgs_nil))))
    (jss_cons (js_asg (je_v 4) (jg_tup rfl (jgs_cons (jg_name 7 sc__law_stepped.nd) (jgs_cons (jg_name 8 sc__law_stepped.nd) jgs_nil))))
    (jss_cons (js_asg (je_ix (je_v 2) (je_v 7)) (jg_tup rfl (jgs_cons (jg_name 9 sc__law_stepped.nd) (jgs_cons (jg_name 10 sc__law_stepped.nd) (jgs_cons (jg_name 11 sc__law_stepped.nd) jgs_nil)))))
    (jss_cons (js_if (jt_cmp (c_eq hr.units) (je_v 9) je_int) (jss_one (js_set 12 sc__law_stepped.nd (je_tup (ja_cons je_int (ja_cons je_int (ja_cons je_bl ja_nil)))))) (jss_one (js_if (jt_cmp (c_eq hr.units) (je_ix (je_ix (je_v 15) (je_sub (je_v 9) je_int)) je_int) je_str) (jss_cons (js_set 12 sc__law_stepped.nd (je_tup (ja_cons (je_v 9) (ja_cons (je_add (je_v 10) je_int) (ja_cons je_bl ja_nil)))))
    (jss_one (js_if (jt_cmp c_nin (je_v 8) (je_ix (je_ix (je_v 15) (je_sub (je_v 9) je_int)) je_int)) (jss_one (js_set 12 sc__law_stepped.nd (je_tup (ja_cons (je_ix (je_ix (je_v 15) (je_sub (je_v 9) je_int)) je_int) (ja_cons je_int (ja_cons je_bl ja_nil)))))) jss_nil))) (jss_one (js_if (jt_w (jw_and (jt_cmp (c_ne hr.units) (je_ix (je_ix (je_v 6) (je_ix (je_ix (je_v 15) (je_sub (je_v 9) je_int)) je_int)) je_int) je_str) (jw_and1 (jt_not (jt_val (je_v 11)))))) (jss_one (js_set 12 sc__law_stepped.nd (je_tup (ja_cons (je_v 9) (ja_cons je_int (ja_cons je_bl ja_nil)))))) (jss_cons (js_set 16 sc__law_stepped.nd (je_add (je_mul (je_v 7) (je_len T (je_v 6))) (je_ix (je_ix (je_v 15) (je_sub (je_v 9) je_int)) je_int)))
    (jss_cons (js_set 3 sc__law_stepped.nd (je_add (je_add (je_sl (je_v 3) jo_none (jo_some (je_v 16))) (je_tup (ja_cons (je_ix (je_ix (je_v 15) (je_sub (je_v 9) je_int)) je_int) ja_nil))) (je_sl (je_v 3) (jo_some (je_add (je_v 16) je_int)) jo_none)))
    (jss_one (js_set 12 sc__law_stepped.nd (je_tup (ja_cons (je_add (je_v 9) je_int) (ja_cons je_int (ja_cons je_bl ja_nil)))))))))))))
    (jss_cons (js_setN 5 sc__law_stepped.nd (jn_list T (je_v 2)))
    (jss_cons (js_setIx 5 (je_call h_law_settled (hr.mono (by decide)) (ja_cons (je_v 0) (ja_cons (je_v 1) (ja_cons (je_v 7) (ja_cons (je_v 12) ja_nil))))) (je_v 7))
    (jss_one (js_ret (je_tup (ja_cons (je_z 5) (ja_cons (je_v 3) ja_nil)))))))))))
end
end K45

set_option Elab.async false
set_option linter.all false
set_option maxRecDepth 100000
set_option maxHeartbeats 4000000
namespace K45
open PySem PySem.Spec PyProof.Rows L2 Md
section
variable {P : Program} {w : World} {K : PySem.W.Frag} {mg : Str → Option Value} {base : Heap}
theorem sc__law_part : FnScope ["_law_template_here", "_law_at", "_law_door", "_law_within", "_law_rows"] ["_law_template_here", "_law_at"] (defScope (topSt 72)) := ⟨rfl, rfl, rfl, by decide +kernel, rfl, by decide +kernel, by decide +kernel⟩
theorem df__law_part (D : At K mg "_law_part" (topSt 72)) (T : Bi mg) (G : Gv K mg) : Df P w K mg base 1 "_law_part" (spV K m__law_part) := by
  obtain ⟨f, fd, F, hm⟩ := D
  refine ⟨f, fd, ["_law_template_here", "_law_at"], fn_v (N := ["_law_template_here", "_law_at", "_law_door", "_law_within", "_law_rows"]) (k := 0) (F := F__law_part) F sc__law_part (fun cdv A outer s H E hr => ?_), hm, F.kp, F.bindsN fun _ _ _ _ _ _ us hl => match us, hl with | [_, _], _ => rfl⟩
  exact (jss_cons (js_asg (je_ix (je_v 0) je_int) (jg_tup rfl (jgs_cons (jg_name 2 sc__law_part.nd) (jgs_cons (jg_name 3 sc__law_part.nd) (jgs_cons (jg_name 4 sc__law_part.nd) jgs_nil)))))
    (jss_cons (js_if (jt_cmp (c_eq hr.units) (je_v 1) je_int) (jss_one (js_ret je_str)) jss_nil)
    (jss_cons (js_if (jt_cmp c_ge (je_v 1) (je_v 3)) (jss_one (js_ret (je_ix (je_lst (ja_cons je_str (ja_cons je_str ja_nil))) (je_toint T (je_cmp c_gt (je_v 1) (je_v 3)))))) jss_nil)
    (jss_one (js_ret (je_ix (je_lst (ja_cons je_str (ja_cons je_str ja_nil))) (je_toint T (je_cmp c_gt (je_v 1) (je_v 2)))))))))

theorem sc__law_right : FnScope ["_law_pack_here", "_law_template_here", "_law_many", "_law_way", "_law_standing", "_law_states", "_law_values", "_law_turn", "_law_some", "_law_hand", "_law_step", "_law_kind"] ["_law_pack_here", "_law_template_here", "_law_many"] (defScope (topSt 73)) := ⟨rfl, rfl, rfl, by decide +kernel, rfl, by decide +kernel, by decide +kernel⟩
theorem df__law_right (D : At K mg "_law_right" (topSt 73)) (T : Bi mg) (G : Gv K mg) (hpart_at : Df P w K mg base 9 "part_at" (spV K m_part_at)) (hway_for : Df P w K mg base 8 "way_for" (spV K m_way_for)) (hfirst_standing : Df P w K mg base 8 "first_standing" (spV K m_first_standing)) (hsteps_from : Df P w K mg base 10 "steps_from" (spV K m_steps_from)) (h_law_take : Df P w K mg base 1 "_law_take" (spO K m__law_take)) (h_law_stepped : Df P w K mg base 3 "_law_stepped" (spV K m__law_stepped)) (h_law_part : Df P w K mg base 1 "_law_part" (spV K m__law_part)) : Df P w K mg base 11 "_law_right" (spO K m__law_right) := by
  obtain ⟨f, fd, F, hm⟩ := D
  refine ⟨f, fd, ["_law_pack_here", "_law_template_here", "_law_many"], fn_o (N := ["_law_pack_here", "_law_template_here", "_law_many", "_law_way", "_law_standing", "_law_states", "_law_values", "_law_turn", "_law_some", "_law_hand", "_law_step", "_law_kind"]) (k := 10) (F := F__law_right) F sc__law_right (fun cdv A outer s H E hr => ?_), hm, F.kp, F.bindsN fun _ _ _ _ _ _ us hl => match us, hl with | [_, _, _], _ => rfl⟩
  exact (jss_cons (js_set 3 sc__law_right.nd (je_call hway_for (hr.mono (by decide)) (ja_cons (je_v 1) (ja_cons (je_v 2) ja_nil))))
    (jss_cons (js_set 4 sc__law_right.nd (je_call hfirst_standing (hr.mono (by decide)) (ja_cons (je_v 3) ja_nil)))
    (jss_cons (js_set 5 sc__law_right.nd (je_repL (jn_lst (ja_cons (je_tup (ja_cons je_int (ja_cons je_int (ja_cons je_bl ja_nil)))) ja_nil)) (je_v 2)))
    (jss_cons (js_set 6 sc__law_right.nd (je_mul (je_tuple T (je_comp [("_law_kind", 11)] rfl sc__law_right.nd (ji_tup (je_ix (je_v 1) je_int)) (blkOk_by (by kernel_rfl)) (by decide) (fun _ _ _ _ _ => (jg_name 11 sc__law_right.nd)) (fun _ _ _ _ _ => jts_nil) (fun _ _ _ _ _ => (je_ix (je_v 11) je_int)))) (je_v 2)))
    (jss_cons (js_for PassesOwn.never rfl (ji_r1 T je_int) (jg_name 7 sc__law_right.nd) (jss_cons (js_set 8 sc__law_right.nd (je_call hsteps_from (hr.mono (by decide)) (ja_cons (je_v 3) (ja_cons (je_v 4) ja_nil))))
    (jss_cons (js_asg (je_ix (je_v 8) (je_callO 0 h_law_take (hr.mono (by decide)) (ja_cons (je_len T (je_v 8)) ja_nil))) (jg_tup rfl (jgs_cons (jg_name 10 sc__law_right.nd) (jgs_cons (jg_name 4 sc__law_right.nd) jgs_nil))))
    (jss_cons (js_asg (je_call h_law_stepped (hr.mono (by decide)) (ja_cons (je_v 1) (ja_cons (je_v 2) (ja_cons (je_v 5) (ja_cons (je_v 6) (ja_cons (je_v 10) ja_nil)))))) (jg_tup rfl (jgs_cons (jg_name 5 sc__law_right.nd) (jgs_cons (jg_name 6 sc__law_right.nd) jgs_nil))))
    (jss_cons (js_if (jt_cmp (c_ne hr.units) (je_ix (je_v 4) je_int) (je_v 6)) (jss_one (js_ret je_bl)) jss_nil)
    (jss_one (js_for PassesOwn.never rfl (ji_r1 T (je_v 2)) (jg_name 9 sc__law_right.nd) (jss_cons (js_if (jt_cmp (c_ne hr.units) (je_call hpart_at (hr.mono (by decide)) (ja_cons (je_v 3) (ja_cons (je_v 9) (ja_cons (je_fdiv (je_ix (je_ix (je_v 4) je_int) (je_v 9)) je_int) ja_nil)))) (je_call h_law_part (hr.mono (by decide)) (ja_cons (je_v 1) (ja_cons (je_ix (je_ix (je_v 5) (je_v 9)) je_int) ja_nil)))) (jss_one (js_ret je_bl)) jss_nil)
    (jss_one (js_if (jt_cmp (c_ne hr.units) (je_cmp (c_eq hr.units) (je_mod (je_ix (je_ix (je_v 4) je_int) (je_v 9)) je_int) je_int) (je_ix (je_ix (je_v 5) (je_v 9)) je_int)) (jss_one (js_ret je_bl)) jss_nil))))))))))
    (jss_one (js_ret je_bl)))))))

theorem sc_law : FnScope ["_law_script", "_law_k", "_law_template_here", "_law_pack_here"] ["_law_script"] (defScope (topSt 74)) := ⟨rfl, rfl, rfl, by decide +kernel, rfl, by decide +kernel, by decide +kernel⟩
theorem df_law (D : At K mg "law" (topSt 74)) (T : Bi mg) (G : Gv K mg) (h_law_pack : Df P w K mg base 2 "_law_pack" (spN K m__law_pack)) (h_law_take : Df P w K mg base 1 "_law_take" (spO K m__law_take)) (h_law_some_template : Df P w K mg base 4 "_law_some_template" (spO K m__law_some_template)) (h_law_right : Df P w K mg base 11 "_law_right" (spO K m__law_right)) : Df P w K mg base 12 "law" (spV K m_law) := by
  obtain ⟨f, fd, F, hm⟩ := D
  refine ⟨f, fd, ["_law_script"], fn_v (N := ["_law_script", "_law_k", "_law_template_here", "_law_pack_here"]) (k := 11) (F := F_law) F sc_law (fun cdv A outer s H E hr => ?_), hm, F.kp, F.bindsN fun _ _ _ _ _ _ us hl => match us, hl with | [_], _ => rfl⟩
  exact (jss_cons (js_for PassesOwn.never rfl (ji_ev T (je_max rfl T je_int (je_min rfl T (je_len T (je_v 0)) je_int))) (jg_name 1 sc_law.nd) (jss_cons (js_set 2 sc_law.nd (je_callT h_law_some_template (hr.mono (by decide)) (jn_call h_law_pack (hr.mono (by decide)) (ja_cons (je_v 0) (ja_cons (je_v 1) ja_nil)))))
    (jss_cons (js_setN 3 sc_law.nd (jn_call h_law_pack (hr.mono (by decide)) (ja_cons (je_v 0) (ja_cons (je_add (je_v 1) je_int) ja_nil))))
    (jss_one (js_if (jt_not (jt_val (je_callO 3 h_law_right (hr.mono (by decide)) (ja_cons (je_v 2) (ja_cons (je_add je_int (je_callO 3 h_law_take (hr.mono (by decide)) (ja_cons je_int ja_nil))) ja_nil))))) (jss_one (js_ret je_bl)) jss_nil)))))
    (jss_one (js_ret je_bl)))
end
end K45

set_option Elab.async false
set_option linter.all false
set_option maxRecDepth 100000
/-! Md: the combinators at an environment, for simp (printed by gen_ev.py). -/
namespace Md
open PySem PySem.Spec PyProof.Rows L2
@[simp] theorem ev_fC (d : PyData) (ρ : En) : fC d ρ = (some (d, ρ)) := rfl
@[simp] theorem ev_fV (i : Nat) (ρ : En) : fV i ρ = (match ρ[i]? with
  | some (some (.val d)) => some (d, ρ)
  | _ => none) := rfl
@[simp] theorem ev_fZ (i : Nat) (ρ : En) : fZ i ρ = (match ρ[i]? with
  | some (some (.own ds)) => some (.list ds, ρ.set i (some (.val (.list ds))))
  | _ => none) := rfl
@[simp] theorem ev_fBin (op : PyData → PyData → Option PyData) (f g : FE) (ρ : En) : fBin op f g ρ = ((f ρ).bind fun p => (g p.2).bind fun q => (op p.1 q.1).map fun z => (z, q.2)) := rfl
@[simp] theorem ev_fUn (op : PyData → Option PyData) (f : FE) (ρ : En) : fUn op f ρ = ((f ρ).bind fun p => (op p.1).map fun z => (z, p.2)) := rfl
@[simp] theorem ev_fTest (f : FE) (ρ : En) : fTest f ρ = ((f ρ).bind fun p => (asB p.1).map fun b => (b, p.2)) := rfl
@[simp] theorem ev_fAndT (a b : FT) (ρ : En) : fAndT a b ρ = ((a ρ).bind fun p => match p.1 with
  | true => b p.2
  | false => some (false, p.2)) := rfl
@[simp] theorem ev_fOrT (a b : FT) (ρ : En) : fOrT a b ρ = ((a ρ).bind fun p => match p.1 with
  | true => some (true, p.2)
  | false => b p.2) := rfl
@[simp] theorem ev_fNotT (a : FT) (ρ : En) : fNotT a ρ = ((a ρ).map fun p => (!p.1, p.2)) := rfl
@[simp] theorem ev_fAndV (a b : FE) (ρ : En) : fAndV a b ρ = ((a ρ).bind fun p => (asB p.1).bind fun c => match c with
  | true => b p.2
  | false => some (.bool false, p.2)) := rfl
@[simp] theorem ev_fOrV (a b : FE) (ρ : En) : fOrV a b ρ = ((a ρ).bind fun p => (asB p.1).bind fun c => match c with
  | true => some (.bool true, p.2)
  | false => b p.2) := rfl
@[simp] theorem ev_fNotV (a : FE) (ρ : En) : fNotV a ρ = ((a ρ).bind fun p => (asB p.1).map fun c => (.bool (!c), p.2)) := rfl
@[simp] theorem ev_fChain (op op' : PyData → PyData → Option PyData) (f g h : FE) (ρ : En) : fChain op op' f g h ρ = ((f ρ).bind fun p => (g p.2).bind fun q => (op p.1 q.1).bind fun z => (asB z).bind fun c => match c with
  | true => (h q.2).bind fun r => (op' q.1 r.1).map fun z' => (z', r.2)
  | false => some (.bool false, q.2)) := rfl
@[simp] theorem ev_aNil (ρ : En) : aNil  ρ = (some ([], ρ)) := rfl
@[simp] theorem ev_aCons (f : FE) (g : FA) (ρ : En) : aCons f g ρ = ((f ρ).bind fun p => (g p.2).map fun q => (p.1 :: q.1, q.2)) := rfl
@[simp] theorem ev_fTup (g : FA) (ρ : En) : fTup g ρ = ((g ρ).bind fun p => if p.1.length ≤ 1000 then some (.tuple p.1, p.2) else none) := rfl
@[simp] theorem ev_fLst (g : FA) (ρ : En) : fLst g ρ = ((g ρ).bind fun p => if p.1.length ≤ 1000 then some (.list p.1, p.2) else none) := rfl
@[simp] theorem ev_nLst (g : FA) (ρ : En) : nLst g ρ = ((g ρ).bind fun p => if p.1.length ≤ 1000 then some (p.1, p.2) else none) := rfl
@[simp] theorem ev_fCB (op : List PyData → Option PyData) (g : FA) (ρ : En) : fCB op g ρ = ((g ρ).bind fun p => (op p.1).map fun z => (z, p.2)) := rfl
@[simp] theorem ev_oNone (ρ : En) : oNone  ρ = (some (none, ρ)) := rfl
@[simp] theorem ev_oSome (f : FE) (ρ : En) : oSome f ρ = ((f ρ).bind fun p => match p.1 with
  | .int i => some (some i, p.2)
  | _ => none) := rfl
@[simp] theorem ev_fSl (f : FE) (lo hi : FO) (ρ : En) : fSl f lo hi ρ = ((f ρ).bind fun p => (lo p.2).bind fun q => (hi q.2).bind fun r => (dSl p.1 q.1 r.1).map fun z => (z, r.2)) := rfl
@[simp] theorem ev_fRepL (ga : FA) (g : FE) (ρ : En) : fRepL ga g ρ = ((ga ρ).bind fun p => (g p.2).bind fun q => match q.1 with
  | .int k => if 0 ≤ k ∧ k ≤ 1000 ∧ p.1.length ≤ 1000 then some (.list (List.replicate k.toNat p.1).flatten, q.2) else none
  | _ => none) := rfl
@[simp] theorem ev_iLst (f : FE) (ρ : En) : iLst f ρ = ((f ρ).bind fun p => match p.1 with
  | .list ds => some (ds, p.2)
  | _ => none) := rfl
@[simp] theorem ev_iTupl (f : FE) (ρ : En) : iTupl f ρ = ((f ρ).bind fun p => match p.1 with
  | .tuple ds => some (ds, p.2)
  | _ => none) := rfl
@[simp] theorem ev_iEnu (k : Int) (f : FE) (ρ : En) : iEnu k f ρ = ((iTupl f ρ).map fun p => (p.1.mapIdx fun i d => .tuple [.int (k + (i : Nat)), d], p.2)) := rfl
@[simp] theorem ev_iZp (f g : FE) (ρ : En) : iZp f g ρ = ((iTupl f ρ).bind fun p => (iTupl g p.2).map fun q => (List.zipWith (fun x y => .tuple [x, y]) p.1 q.1, q.2)) := rfl
@[simp] theorem ev_iR1 (f : FE) (ρ : En) : iR1 f ρ = ((f ρ).bind fun p => match p.1 with
  | .int n => if -100000 ≤ n ∧ n ≤ 100000 then some (rngD 0 n, p.2) else none
  | _ => none) := rfl
@[simp] theorem ev_iR2 (f g : FE) (ρ : En) : iR2 f g ρ = ((f ρ).bind fun p => (g p.2).bind fun q => match p.1, q.1 with
  | .int a, .int b => if 0 ≤ a ∧ a ≤ 100000 ∧ 0 ≤ b ∧ b ≤ 100000 then some (rngD a b, q.2) else none
  | _, _ => none) := rfl
@[simp] theorem ev_iEv (g : FE) (ρ : En) : iEv g ρ = ((g ρ).bind fun q => match q.1 with
  | .int b => if 0 ≤ b ∧ b ≤ 100000 then some (evD b, q.2) else none
  | _ => none) := rfl
@[simp] theorem ev_bName (i : Nat) (d : PyData) (ρ : En) : bName i d ρ = (some (ρ.set i (some (.val d)))) := rfl
@[simp] theorem ev_bNil (ds : List PyData) (ρ : En) : bNil  ds ρ = (match ds with
  | [] => some ρ
  | _ => none) := rfl
@[simp] theorem ev_bCons (b : FG) (bs : FGs) (ds : List PyData) (ρ : En) : bCons b bs ds ρ = (match ds with
  | d :: r => (b d ρ).bind fun ρ1 => bs r ρ1
  | [] => none) := rfl
theorem ev_bTup (n : Nat) (bs : FGs) (d : PyData) (ρ : En) : bTup n bs d ρ = (match d with
  | .tuple ds => if ds.length = n then bs ds ρ else none
  | _ => none) := rfl
@[simp] theorem ev_cYes (ρ : En) : cYes  ρ = (some (true, ρ)) := rfl
@[simp] theorem ev_fComp (it : FA) (b : FG) (c : FT) (f : FE) (vs : List Nat) (ρ : En) : fComp it b c f vs ρ = ((it ρ).bind fun p => if p.1.length ≤ 1000 then (compD b c f (wipeE (hide p.2) vs) p.1).map fun ys => (.list ys, p.2) else none) := rfl
@[simp] theorem ev_fLenO (i : Nat) (ρ : En) : fLenO i ρ = (match ρ[i]? with
  | some (some (.own ds)) => some (.int ds.length, ρ)
  | _ => none) := rfl
@[simp] theorem ev_fIxO (i : Nat) (g : FE) (ρ : En) : fIxO i g ρ = (match ρ[i]? with
  | some (some (.own _)) => (g ρ).bind fun q => match q.2[i]?, q.1 with
    | some (some (.own ds)), .int j => if 0 ≤ j then (ds[j.toNat]?).map fun z => (z, q.2) else none
    | _, _ => none
  | _ => none) := rfl
@[simp] theorem ev_sNext (ρ : En) : sNext  ρ = (some (.nx ρ)) := rfl
@[simp] theorem ev_sNever (ρ : En) : sNever  ρ = (none) := rfl
@[simp] theorem ev_sSeq (F G : FS) (ρ : En) : sSeq F G ρ = ((F ρ).bind fun o => match o with
  | .nx ρ' => G ρ'
  | .rt d ρ' => some (.rt d ρ')
  | .rn d ρ' => some (.rn d ρ')) := rfl
@[simp] theorem ev_sRetN (n : FA) (ρ : En) : sRetN n ρ = ((n ρ).map fun p => .rn p.1 p.2) := rfl
@[simp] theorem ev_sAsg (b : FG) (f : FE) (ρ : En) : sAsg b f ρ = ((f ρ).bind fun p => (b p.1 p.2).map Out.nx) := rfl
@[simp] theorem ev_sSetN (i : Nat) (n : FA) (ρ : En) : sSetN i n ρ = ((n ρ).map fun p => .nx (p.2.set i (some (.own p.1)))) := rfl
@[simp] theorem ev_sPar (i j : Nat) (a : FA) (ρ : En) : sPar i j a ρ = ((a ρ).bind fun p => match p.1 with
  | [x, y] => some (.nx ((p.2.set i (some (.val x))).set j (some (.val y))))
  | _ => none) := rfl
@[simp] theorem ev_sDrop (f : FE) (ρ : En) : sDrop f ρ = ((f ρ).map fun p => .nx p.2) := rfl
@[simp] theorem ev_sRet (f : FE) (ρ : En) : sRet f ρ = ((f ρ).map fun p => .rt p.1 p.2) := rfl
@[simp] theorem ev_sIf (c : FT) (F G : FS) (ρ : En) : sIf c F G ρ = ((c ρ).bind fun p => match p.1 with
  | true => F p.2
  | false => G p.2) := rfl
@[simp] theorem ev_sApp (i : Nat) (f : FE) (ρ : En) : sApp i f ρ = (match ρ[i]? with
  | some (some (.own _)) => (f ρ).bind fun p => match p.2[i]? with
    | some (some (.own ds)) => if ds.length < 1000 then some (.nx (p.2.set i (some (.own (ds ++ [p.1]))))) else none
    | _ => none
  | _ => none) := rfl
@[simp] theorem ev_sExt (i : Nat) (f : FE) (ρ : En) : sExt i f ρ = (match ρ[i]? with
  | some (some (.own _)) => (f ρ).bind fun p => match p.2[i]?, p.1 with
    | some (some (.own ds)), .list es => if ds.length + es.length ≤ 1000 then some (.nx (p.2.set i (some (.own (ds ++ es))))) else none
    | _, _ => none
  | _ => none) := rfl
@[simp] theorem ev_sSetIx (i : Nat) (g f : FE) (ρ : En) : sSetIx i g f ρ = ((f ρ).bind fun p => match p.2[i]? with
  | some (some (.own _)) => (g p.2).bind fun q => match q.2[i]?, q.1 with
    | some (some (.own ds)), .int j => if 0 ≤ j ∧ j.toNat < ds.length then some (.nx (q.2.set i (some (.own (ds.set j.toNat p.1))))) else none
    | _, _ => none
  | _ => none) := rfl
@[simp] theorem ev_sFor (it : FA) (b : FG) (F : FS) (ρ : En) : sFor it b F ρ = ((it ρ).bind fun p => loopF b F p.2 p.1) := rfl

@[simp] theorem bTup_l2 (bs : FGs) (a b : PyData) (ρ : En) : bTup 2 bs (.tuple [a, b]) ρ = bs [a, b] ρ := rfl
@[simp] theorem bTup_l3 (bs : FGs) (a b c : PyData) (ρ : En) : bTup 3 bs (.tuple [a, b, c]) ρ = bs [a, b, c] ρ := rfl
@[simp] theorem bTup_l4 (bs : FGs) (a b c d : PyData) (ρ : En) : bTup 4 bs (.tuple [a, b, c, d]) ρ = bs [a, b, c, d] ρ := rfl
@[simp] theorem ev_nCB (op : List PyData → Option (List PyData)) (g : FA) (ρ : En) : nCB op g ρ = ((g ρ).bind fun p => (op p.1).map fun z => (z, p.2)) := rfl
@[simp] theorem ev_fCallO (g : List PyData → List PyData → Option (PyData × List PyData)) (i : Nat) (ga : FA) (ρ : En) : fCallO g i ga ρ = (match ρ[i]? with
  | some (some (.own _)) => (ga ρ).bind fun p => match p.2[i]? with
    | some (some (.own es)) => (g es p.1).map fun r => (r.1, p.2.set i (some (.own r.2)))
    | _ => none
  | _ => none) := rfl
@[simp] theorem ev_fCallT (g : List PyData → List PyData → Option (PyData × List PyData)) (n0 : FA) (ρ : En) : fCallT g n0 ρ = ((n0 ρ).bind fun p => (g p.1 []).map fun r => (r.1, p.2)) := rfl
/-! operations at data -/
@[simp] theorem asB_bool (b : Bool) : asB (.bool b) = some b := rfl
@[simp] theorem fIsi_ev (T : String) (f : FE) (ρ : En) : fIsi T f ρ = (f ρ).map fun p => (.bool (isiD T p.1), p.2) := by
  show (f ρ).bind _ = _
  cases f ρ <;> rfl
@[simp] theorem isi_none (T : String) : isiD T .none = (T == "NoneType") := rfl
@[simp] theorem isi_bool (T : String) (b : Bool) : isiD T (.bool b) = (T == "bool" || T == "int") := rfl
@[simp] theorem isi_int (T : String) (i : Int) : isiD T (.int i) = (T == "int") := rfl
@[simp] theorem isi_str (T : String) (x : Str) : isiD T (.str x) = (T == "str") := rfl
@[simp] theorem isi_tup (T : String) (ds : List PyData) : isiD T (.tuple ds) = (T == "tuple") := rfl
@[simp] theorem isi_list (T : String) (ds : List PyData) : isiD T (.list ds) = (T == "list") := rfl
@[simp] theorem dAdd_int (i j : Int) : dAdd (.int i) (.int j) = some (.int (i + j)) := rfl
@[simp] theorem dAdd_tup (xs ys : List PyData) : dAdd (.tuple xs) (.tuple ys) = if xs.length + ys.length ≤ 1000 then some (.tuple (xs ++ ys)) else none := Eq.trans rfl rfl
@[simp] theorem dAdd_list (xs ys : List PyData) : dAdd (.list xs) (.list ys) = if xs.length + ys.length ≤ 1000 then some (.list (xs ++ ys)) else none := Eq.trans rfl rfl
@[simp] theorem dSub_int (i j : Int) : dSub (.int i) (.int j) = some (.int (i - j)) := rfl
@[simp] theorem dMulT_int (i j : Int) : dMulT (.int i) (.int j) = if mulOk i j then some (.int (i * j)) else none := Eq.trans rfl rfl
@[simp] theorem dMulT_tup (xs : List PyData) (k : Int) : dMulT (.tuple xs) (.int k) = if xs ≠ [] ∧ 2 ≤ k ∧ k ≤ 1000 ∧ xs.length ≤ 1000 then some (.tuple (List.replicate k.toNat xs).flatten) else none := Eq.trans rfl rfl
@[simp] theorem dMod_int (i j : Int) : dMod (.int i) (.int j) = if 0 < j then some (.int (i % j)) else none := Eq.trans rfl rfl
@[simp] theorem dFdiv_int (i j : Int) : dFdiv (.int i) (.int j) = if 0 < j ∧ j.natAbs.log2 < 9000 then some (.int (i / j)) else none := Eq.trans rfl rfl
@[simp] theorem dPow_int (i j : Int) : dPow (.int i) (.int j) = if 0 ≤ j ∧ j ≤ 1000000 ∧ i.natAbs < 2 ^ 64 then some (.int (i ^ j.toNat)) else none := Eq.trans rfl rfl
@[simp] theorem dShl_int (i j : Int) : dShl (.int i) (.int j) = if 0 ≤ j ∧ j ≤ 1000000 ∧ i.natAbs < 2 ^ 64 then some (.int (i * 2 ^ j.toNat)) else none := Eq.trans rfl rfl
@[simp] theorem dShr_int (i j : Int) : dShr (.int i) (.int j) = if 0 ≤ j then some (.int (i / 2 ^ j.toNat)) else none := Eq.trans rfl rfl
@[simp] theorem dAnd_int (i j : Int) : dAnd (.int i) (.int j) = some (.int (Builtin.bitAnd i j)) := rfl
@[simp] theorem dLt_int (i j : Int) : dLt (.int i) (.int j) = some (.bool (decide (i < j))) := rfl
@[simp] theorem dLe_int (i j : Int) : dLe (.int i) (.int j) = some (.bool (decide (i ≤ j))) := rfl
@[simp] theorem dGt_int (i j : Int) : dGt (.int i) (.int j) = some (.bool (decide (j < i))) := rfl
@[simp] theorem dGe_int (i j : Int) : dGe (.int i) (.int j) = some (.bool (decide (j ≤ i))) := rfl
@[simp] theorem dEq_int (i j : Int) : dEq (.int i) (.int j) = some (.bool (decide (i = j))) := rfl
@[simp] theorem dEq_str (i j : Str) : dEq (.str i) (.str j) = some (.bool (decide (i = j))) := rfl
@[simp] theorem dEq_bool (i j : Bool) : dEq (.bool i) (.bool j) = some (.bool (decide (i = j))) := rfl
@[simp] theorem dNe_int (i j : Int) : dNe (.int i) (.int j) = some (.bool (!decide (i = j))) := rfl
@[simp] theorem dNe_str (i j : Str) : dNe (.str i) (.str j) = some (.bool (!decide (i = j))) := rfl
@[simp] theorem dNe_bool (i j : Bool) : dNe (.bool i) (.bool j) = some (.bool (!decide (i = j))) := rfl
@[simp] theorem dIsN_ev (x : PyData) : dIsN x .none = some (.bool (isN x)) := rfl
@[simp] theorem isN_none : isN .none = true := rfl
@[simp] theorem isN_int (i : Int) : isN (.int i) = false := rfl
@[simp] theorem items_list (ds : List PyData) : items (.list ds) = some ds := rfl
@[simp] theorem items_tup (ds : List PyData) : items (.tuple ds) = some ds := rfl
@[simp] theorem dIx_tup (ds : List PyData) (i : Int) : dIx (.tuple ds) (.int i) = if 0 ≤ i then ds[i.toNat]? else none := rfl
@[simp] theorem dIx_list (ds : List PyData) (i : Int) : dIx (.list ds) (.int i) = if 0 ≤ i then ds[i.toNat]? else none := rfl
@[simp] theorem dLen_tup (ds : List PyData) : dLen [.tuple ds] = some (.int ds.length) := rfl
@[simp] theorem dLen_list (ds : List PyData) : dLen [.list ds] = some (.int ds.length) := rfl
@[simp] theorem dAll_bools (bs : List Bool) : dAll [.list (bs.map .bool)] = some (.bool (bs.all id)) := by
  show (boolsOf (bs.map .bool)).map _ = _
  rw [bools_map]; rfl
@[simp] theorem dAny_bools (bs : List Bool) : dAny [.list (bs.map .bool)] = some (.bool (bs.any id)) := by
  show (boolsOf (bs.map .bool)).map _ = _
  rw [bools_map]; rfl
@[simp] theorem dSum_ints (is : List Int) : dSum [.list (is.map .int)] = some (.int is.sum) := by
  show (intsOf (is.map .int)).map _ = _
  rw [ints_map]; rfl
@[simp] theorem dInt_bool (b : Bool) : dInt [.bool b] = some (.int (if b then 1 else 0)) := rfl
@[simp] theorem dTuple_list (ds : List PyData) : dTuple [.list ds] = some (.tuple ds) := rfl
@[simp] theorem dTuple_tup (ds : List PyData) : dTuple [.tuple ds] = some (.tuple ds) := rfl
@[simp] theorem dList_list (ds : List PyData) : dList [.list ds] = some ds := rfl
@[simp] theorem dMax_int (i j : Int) : dMax [.int i, .int j] = some (.int (if j > i then j else i)) := rfl
@[simp] theorem dMin_int (i j : Int) : dMin [.int i, .int j] = some (.int (if j < i then j else i)) := rfl
@[simp] theorem dSl_tup (ds : List PyData) (lo hi : Option Int) : dSl (.tuple ds) lo hi = some (.tuple (cutD ds lo hi)) := rfl
@[simp] theorem dSl_list (ds : List PyData) (lo hi : Option Int) : dSl (.list ds) lo hi = some (.list (cutD ds lo hi)) := rfl
@[simp] theorem fSS_ev (f : FE) (ρ : En) : fSS f ρ = (f ρ).bind fun p => match p.1 with
  | .list [.int a, .int b] => some (.list ((sort2 a b).map PyData.int), p.2)
  | _ => none := by
  unfold fSS fUn
  cases f ρ with
  | none => rfl
  | some p =>
    obtain ⟨d, ρ'⟩ := p
    simp only [Option.bind_some]
    split <;> simp_all
@[simp] theorem fLR1_ev (f : FE) (ρ : En) : fLR1 f ρ = (f ρ).bind fun p => match p.1 with
  | .int n => if 0 ≤ n ∧ n ≤ 1000 then some (.list (rngD 0 n), p.2) else none
  | _ => none := by
  unfold fLR1 fUn
  cases f ρ with
  | none => rfl
  | some p =>
    obtain ⟨d, ρ'⟩ := p
    simp only [Option.bind_some]
    cases d <;> try rfl
    rename_i n
    dsimp only
    split <;> rfl
@[simp] theorem fLR2_ev (f g : FE) (ρ : En) : fLR2 f g ρ = (f ρ).bind fun p => (g p.2).bind fun q => match p.1, q.1 with
  | .int a, .int b => if 0 ≤ a ∧ a ≤ 1000 ∧ 0 ≤ b ∧ b ≤ 1000 then some (.list (rngD a b), q.2) else none
  | _, _ => none := by
  unfold fLR2 fBin
  cases f ρ with
  | none => rfl
  | some p =>
    obtain ⟨d, ρ'⟩ := p
    simp only [Option.bind_some]
    cases g ρ' with
    | none => rfl
    | some q =>
      obtain ⟨d', ρ2⟩ := q
      simp only [Option.bind_some]
      cases d <;> cases d' <;> try rfl
      dsimp only
      split <;> rfl
end Md

set_option Elab.async false
set_option linter.all false
set_option maxRecDepth 100000
set_option maxHeartbeats 1000000
/-! K45: loops over data; the data, the mirrors' small checks. -/
namespace K45
open PySem PySem.Spec PyProof.Rows L2 Md

theorem loop_inv {b : FG} {F : FS} (I : Nat → En → Prop) : ∀ (ds : List PyData) (k : Nat) (ρ : En), I k ρ → (∀ i d ρ, ds[i]? = some d → I (k + i) ρ → ∃ ρ1 ρ2, b d ρ = some ρ1 ∧ F ρ1 = some (.nx ρ2) ∧ I (k + i + 1) ρ2) → ∃ ρ', loopF b F ρ ds = some (.nx ρ') ∧ I (k + ds.length) ρ'
  | [], k, ρ, h0, h => ⟨ρ, rfl, h0⟩
  | d :: ds, k, ρ, h0, h => by
    obtain ⟨ρ1, ρ2, h1, h2, h3⟩ := h 0 d ρ rfl h0
    obtain ⟨ρ', e1, e2⟩ := loop_inv I ds (k + 1) ρ2 h3 fun i d' ρ' hi hI => by
      have := h (i + 1) d' ρ' (by simpa using hi) (by rw [show k + (i + 1) = k + 1 + i by omega]; exact hI)
      rw [show k + (i + 1) = k + 1 + i by omega] at this
      exact this
    refine ⟨ρ', ?_, by rw [show k + (d :: ds).length = k + 1 + ds.length by simp; omega]; exact e2⟩
    show (b d ρ).bind _ = _
    rw [h1, Option.bind_some, h2, Option.bind_some]
    exact e1
theorem loop_inv0 {b : FG} {F : FS} (I : Nat → En → Prop) {ds : List PyData} {ρ : En} (h0 : I 0 ρ) (h : ∀ i d ρ, ds[i]? = some d → I i ρ → ∃ ρ1 ρ2, b d ρ = some ρ1 ∧ F ρ1 = some (.nx ρ2) ∧ I (i + 1) ρ2) : ∃ ρ', loopF b F ρ ds = some (.nx ρ') ∧ I ds.length ρ' := by
  obtain ⟨ρ', e1, e2⟩ := loop_inv I ds 0 ρ h0 fun i d ρ hi hI => by
    rw [Nat.zero_add] at hI ⊢
    exact h i d ρ hi hI
  rw [Nat.zero_add] at e2
  exact ⟨ρ', e1, e2⟩
theorem comp_const {b : FG} {f : FE} {ρ : En} (v : PyData) : ∀ (ds : List PyData), (∀ (i : Nat) (d : PyData), ds[i]? = some d → ((b d ρ).bind fun ρ1 => (f ρ1).map (·.1)) = some v) → compD b cYes f ρ ds = some (List.replicate ds.length v)
  | [], h => rfl
  | d :: ds, h => by
    have h0 := h 0 d rfl
    have hr := comp_const v ds fun i d' hi => h (i + 1) d' (by simpa using hi)
    obtain ⟨ρ1, e1, e2⟩ := bind2 h0
    obtain ⟨⟨z, ρ2⟩, e3, e4⟩ := map2 e2
    cases e4
    show (b d ρ).bind _ = _
    rw [e1]
    show (f ρ1).bind _ = _
    rw [e3]
    show (compD b cYes f ρ ds).map _ = _
    rw [hr]; rfl
theorem comp_map {α : Type} {b : FG} {c : FT} {f : FE} {ρ : En} (e : α → PyData) (p : α → Bool) (v : α → PyData) : ∀ (xs : List α), (∀ x ∈ xs, ((b (e x) ρ).bind fun ρ1 => (c ρ1).bind fun q => match q.1 with
    | true => (f q.2).map fun r => some r.1
    | false => some none) = some (if p x then some (v x) else none)) → compD b c f ρ (xs.map e) = some ((xs.filter p).map v)
  | [], h => rfl
  | x :: xs, h => by
    have h0 := h x (by simp)
    have hr := comp_map e p v xs fun y hy => h y (by simp [hy])
    obtain ⟨ρ1, e1, e2⟩ := bind2 h0
    obtain ⟨⟨t, ρ2⟩, e3, e4⟩ := bind2 e2
    show (b (e x) ρ).bind _ = _
    rw [e1]
    show (c ρ1).bind _ = _
    rw [e3]
    cases t with
    | false =>
      show compD b c f ρ (xs.map e) = _
      have : p x = false := by
        cases hp : p x with
        | false => rfl
        | true => rw [hp] at e4; cases e4
      rw [hr, List.filter_cons, this]; rfl
    | true =>
      obtain ⟨⟨z, ρ3⟩, e5, e6⟩ := map2 e4
      have : p x = true := by
        cases hp : p x with
        | true => rfl
        | false => rw [hp] at e6; cases e6
      rw [this] at e6
      cases e6
      show (f ρ2).bind _ = _
      rw [e5]
      show (compD b c f ρ (xs.map e)).map _ = _
      rw [hr, List.filter_cons, this]; rfl
theorem comp_all {α : Type} {b : FG} {f : FE} {ρ : En} (e : α → PyData) (v : α → PyData) (xs : List α) (h : ∀ x ∈ xs, ((b (e x) ρ).bind fun ρ1 => (f ρ1).map (·.1)) = some (v x)) : compD b cYes f ρ (xs.map e) = some (xs.map v) := by
  rw [comp_map e (fun _ => true) v xs fun x hx => by
    obtain ⟨ρ1, e1, e2⟩ := bind2 (h x hx)
    obtain ⟨q, e3, e4⟩ := map2 e2
    show (b (e x) ρ).bind _ = _
    rw [e1]
    show (f ρ1).map _ = _
    rw [e3]
    exact congrArg (fun z => some (some z)) e4]
  rw [List.filter_eq_self.mpr fun _ _ => rfl]
@[simp] theorem dAll_rep (n : Nat) : dAll [.list (List.replicate n (.bool true))] = some (.bool true) := by
  rw [show List.replicate n (PyData.bool true) = (List.replicate n true).map PyData.bool by simp, dAll_bools]
  simp
theorem rng_map (n : Nat) : rngD 0 (n : Int) = (List.range n).map fun i : Nat => PyData.int (i : Int) := by
  unfold rngD
  simp
theorem rng_map2 (a b : Nat) : rngD (a : Int) (b : Int) = (List.range' a (b - a)).map fun i : Nat => PyData.int (i : Int) := by
  unfold rngD
  rw [show ((b : Int) - (a : Int)).toNat = b - a by omega, List.range'_eq_map_range, List.map_map]
  simp [Function.comp_def]

inductive Kd where
  | whole | either | torn
  deriving DecidableEq
def Kd.s : Kd → Str
  | .whole => "whole"
  | .either => "either"
  | .torn => "torn"
@[simp] theorem kd_whole (k : Kd) : (k.s = "whole") ↔ k = .whole := by cases k <;> decide +kernel
@[simp] theorem kd_torn (k : Kd) : (k.s = "torn") ↔ k = .torn := by cases k <;> decide +kernel
abbrev nI (n : Nat) : PyData := .int (n : Int)
abbrev nL (ns : List Nat) : PyData := .tuple (ns.map nI)
structure Bx where
  kind : Kd
  size : Nat
  start : Nat
def Bx.d (b : Bx) : PyData := .tuple [.str b.kind.s, nI b.size, nI b.start]
structure Bx.Ok (b : Bx) : Prop where
  lo : 2 ≤ b.size
  hi : b.size ≤ 5
  st : b.start < b.size

@[simp] theorem is_whole_int (i : Int) : m_is_whole [.int i] = some (.bool true) := by
  simp [m_is_whole, runV, F_is_whole, slots]
theorem is_between_int (x a b : Int) : m_is_between [.int x, .int a, .int b] = some (.bool (decide (a ≤ x) && decide (x ≤ b))) := by
  by_cases h : a ≤ x <;> simp [m_is_between, runV, F_is_between, slots, h]
theorem between_yes {x a b : Int} (h1 : a ≤ x) (h2 : x ≤ b) : m_is_between [.int x, .int a, .int b] = some (.bool true) := by
  rw [is_between_int, decide_eq_true h1, decide_eq_true h2]; rfl
theorem is_kind_ok (k : Kd) : m_is_kind [.str k.s] = some (.bool true) := by
  cases k <;> simp [m_is_kind, runV, F_is_kind, slots, strsD, inD, flatD, eqF, Kd.s]
theorem is_box_ok (b : Bx) (h : b.Ok) : m_is_box [b.d] = some (.bool true) := by
  have h1 := h.lo
  have h2 := h.hi
  have h3 := h.st
  have b1 : m_is_between [nI b.size, .int 2, .int 5] = some (.bool true) := between_yes (by omega) (by omega)
  have b2 : m_is_between [nI b.start, .int 0, .int ((b.size : Int) - 1)] = some (.bool true) := between_yes (by omega) (by omega)
  simp [m_is_box, runV, F_is_box, slots, Bx.d, is_kind_ok, b1, b2]
abbrev bxD (bs : List Bx) : PyData := .tuple (bs.map Bx.d)
theorem are_boxes_ok (bs : List Bx) (m : Nat) (h : ∀ b ∈ bs, b.Ok) (h1 : 1 ≤ bs.length) (h2 : bs.length ≤ m) (h3 : m ≤ 100) : m_are_boxes [bxD bs, nI m] = some (.bool true) := by
  simp [m_are_boxes, runV, F_are_boxes, slots, wipeE, hide, h2, show bs.length ≤ 1000 by omega, show (1 : Int) ≤ (bs.length : Int) by omega]
  rw [comp_const (.bool true)]
  · simp
  · intro i d hd
    rw [List.getElem?_map] at hd
    obtain ⟨x, hx, rfl⟩ := map2 hd
    simp [is_box_ok x (h x (List.mem_of_getElem? hx))]
structure Nums (ns : List Nat) (size : Nat) : Prop where
  up : ns.Pairwise (· < ·)
  lt : ∀ n ∈ ns, n < size
  len : ns.length ≤ size
theorem are_numbers_ok (ns : List Nat) (size : Nat) (h : Nums ns size) (hs : size ≤ 5) : m_are_numbers [nL ns, nI size] = some (.bool true) := by
  have hl := h.len
  have f1 : ns.length ≤ 1000 := by omega
  have f2 : -100000 ≤ (ns.length : Int) - 1 ∧ (ns.length : Int) - 1 ≤ 100000 := by omega
  have f3 : rngD 0 ((ns.length : Int) - 1) = (List.range (ns.length - 1)).map fun i : Nat => PyData.int (i : Int) := by
    unfold rngD
    simp [show ((ns.length : Int) - 1).toNat = ns.length - 1 by omega]
  simp [m_are_numbers, runV, F_are_numbers, slots, wipeE, hide, f1]
  rw [comp_const (.bool true)]
  · simp [f2, f3, show ns.length ≤ 1001 by omega]
    rw [comp_const (.bool true)]
    · simp
    · intro i d hd
      rw [List.getElem?_map] at hd
      obtain ⟨x, hx, rfl⟩ := map2 hd
      have hi := List.mem_range.mp (List.mem_of_getElem? hx)
      have := List.pairwise_iff_getElem.mp h.up x (x + 1) (by omega) (by omega) (by omega)
      have e1 : ns[x]? = some ns[x] := List.getElem?_eq_getElem (by omega)
      have e2 : ns[x + 1]? = some (ns[x + 1]'(by omega)) := List.getElem?_eq_getElem (by omega)
      simp [e1, e2, show (0 : Int) ≤ (x : Int) + 1 by omega, show ((x : Int) + 1).toNat = x + 1 by omega, this]
  · intro i d hd
    rw [List.getElem?_map] at hd
    obtain ⟨x, hx, rfl⟩ := map2 hd
    have := h.lt x (List.mem_of_getElem? hx)
    simp [between_yes (show (0 : Int) ≤ (x : Int) by omega) (show (x : Int) ≤ (size : Int) - 1 by omega)]
end K45

set_option Elab.async false
set_option linter.all false
set_option maxRecDepth 100000
set_option maxHeartbeats 1000000
/-! K45: rows, programs, ways. -/
namespace K45
open PySem PySem.Spec PyProof.Rows L2 Md
@[simp] theorem ne_write_look : (("write" : Str) = "look") = False := by simp; decide +kernel
@[simp] theorem ne_look_write : (("look" : Str) = "write") = False := by simp; decide +kernel
@[simp] theorem ne_others_lower : (("others" : Str) = "lower") = False := by simp; decide +kernel
@[simp] theorem ne_others_higher : (("others" : Str) = "higher") = False := by simp; decide +kernel
@[simp] theorem ne_lower_others : (("lower" : Str) = "others") = False := by simp; decide +kernel
@[simp] theorem ne_lower_higher : (("lower" : Str) = "higher") = False := by simp; decide +kernel
@[simp] theorem ne_higher_others : (("higher" : Str) = "others") = False := by simp; decide +kernel
@[simp] theorem ne_higher_lower : (("higher" : Str) = "lower") = False := by simp; decide +kernel
theorem loop_use {b : FG} {F : FS} {ds : List PyData} {ρ : En} {L : Option Out} (hL : loopF b F ρ ds = L) (I : Nat → En → Prop) (h0 : I 0 ρ) (h : ∀ (i : Nat) (d : PyData) (ρ : En), ds[i]? = some d → I i ρ → ∃ ρ1 ρ2, b d ρ = some ρ1 ∧ F ρ1 = some (.nx ρ2) ∧ I (i + 1) ρ2) : ∃ ρ', L = some (.nx ρ') ∧ I ds.length ρ' := by
  obtain ⟨ρ', e1, e2⟩ := loop_inv0 I h0 h
  exact ⟨ρ', by rw [← hL, e1], e2⟩
inductive Rw where
  | wr (box val : Nat)
  | lk (box : Nat) (nums : List Nat) (place : Nat)
def Rw.d : Rw → PyData
  | .wr b v => .tuple [.str "write", nI b, nI v]
  | .lk b ns p => .tuple [.str "look", nI b, nL ns, nI p]
def Rw.Ok (bs : List Bx) : Rw → Prop
  | .wr b v => ∃ x, bs[b]? = some x ∧ v < x.size
  | .lk b ns p => ∃ x, bs[b]? = some x ∧ Nums ns x.size
structure Pg where
  door : Nat
  within : Nat
  rows : List Rw
abbrev rwD (rs : List Rw) : PyData := .tuple (rs.map Rw.d)
def Pg.d (p : Pg) : PyData := .tuple [nI p.door, nI p.within, rwD p.rows]
@[simp] theorem bTup_pg (p : Pg) (bs : FGs) (ρ : En) : bTup 3 bs p.d ρ = bs [nI p.door, nI p.within, rwD p.rows] ρ := rfl
@[simp] theorem dIx_pg0 (p : Pg) : dIx p.d (.int 0) = some (nI p.door) := rfl
@[simp] theorem dIx_pg1 (p : Pg) : dIx p.d (.int 1) = some (nI p.within) := rfl
@[simp] theorem dIx_pg2 (p : Pg) : dIx p.d (.int 2) = some (rwD p.rows) := rfl
@[simp] theorem bTup_bx (b : Bx) (bs : FGs) (ρ : En) : bTup 3 bs b.d ρ = bs [.str b.kind.s, nI b.size, nI b.start] ρ := rfl
@[simp] theorem dIx_bx0 (b : Bx) : dIx b.d (.int 0) = some (.str b.kind.s) := rfl
@[simp] theorem dIx_bx1 (b : Bx) : dIx b.d (.int 1) = some (nI b.size) := rfl
@[simp] theorem dIx_bx2 (b : Bx) : dIx b.d (.int 2) = some (nI b.start) := rfl
structure Pg.Ok (bs : List Bx) (p : Pg) : Prop where
  n1 : 1 ≤ p.rows.length
  n16 : p.rows.length ≤ 16
  w1 : 1 ≤ p.within
  wn : p.within ≤ p.rows.length
  dw : p.door < p.within
  row : ∀ r ∈ p.rows, r.Ok bs
  look : ∀ (i b : Nat) (ns : List Nat) (q : Nat), p.rows[i]? = some (.lk b ns q) → i + 1 < p.within ∧ 1 ≤ q ∧ q ≤ p.within
theorem lt_of_get {α : Type} {xs : List α} {i : Nat} {x : α} (h : xs[i]? = some x) : i < xs.length := (List.getElem?_eq_some_iff.mp h).1
theorem is_write_wr {bs : List Bx} {b v : Nat} (h : Rw.Ok bs (.wr b v)) : m_is_write [bxD bs, .tuple [.str "write", nI b, nI v]] = some (.bool true) := by
  obtain ⟨x, hx, hv⟩ := h
  have hb := lt_of_get hx
  have b1 : m_is_between [nI b, .int 0, .int ((bs.length : Int) - 1)] = some (.bool true) := between_yes (by omega) (by omega)
  have b2 : m_is_between [nI v, .int 0, .int ((x.size : Int) - 1)] = some (.bool true) := between_yes (by omega) (by omega)
  simp [m_is_write, runV, F_is_write, slots, hx, b1, b2]
theorem is_write_other {bs : List Bx} {ds : List PyData} (h : ds.length ≠ 3) : m_is_write [bxD bs, .tuple ds] = some (.bool false) := by
  simp [m_is_write, runV, F_is_write, slots, show ¬ ((ds.length : Int) = 3) by omega]
theorem is_look_lk {bs : List Bx} {b p : Nat} {ns : List Nat} (hb : ∀ b ∈ bs, b.Ok) (h : ∃ x, bs[b]? = some x ∧ Nums ns x.size) : m_is_look [bxD bs, .tuple [.str "look", nI b, nL ns, nI p]] = some (.bool true) := by
  obtain ⟨x, hx, hn⟩ := h
  have hl := lt_of_get hx
  have b1 : m_is_between [nI b, .int 0, .int ((bs.length : Int) - 1)] = some (.bool true) := between_yes (by omega) (by omega)
  have b2 := are_numbers_ok ns x.size hn (hb x (List.mem_of_getElem? hx)).hi
  simp [m_is_look, runV, F_is_look, slots, hx, b1, b2]
theorem is_place_ok {p at' w n : Nat} (h : at' < w) (h1 : 1 ≤ p) (h2 : p ≤ w) : m_is_place_for [nI p, nI at', nI w, nI n] = some (.bool true) := by
  have b1 : m_is_between [nI p, .int 1, nI w] = some (.bool true) := between_yes (by omega) (by omega)
  simp [m_is_place_for, runV, F_is_place_for, slots, h, b1]
theorem has_ends_ok {d w m : Nat} {ds : List PyData} (h1 : 1 ≤ ds.length) (h2 : ds.length ≤ m) (h3 : 1 ≤ w) (h4 : w ≤ ds.length) (h5 : d < w) : m_has_ends [.tuple [nI d, nI w, .tuple ds], nI m] = some (.bool true) := by
  have b1 : m_is_between [nI w, .int 1, nI ds.length] = some (.bool true) := between_yes (by omega) (by omega)
  have b2 : m_is_between [nI d, .int 0, .int ((w : Int) - 1)] = some (.bool true) := between_yes (by omega) (by omega)
  simp [m_has_ends, runV, F_has_ends, slots, b1, b2, show (1 : Int) ≤ (ds.length : Int) by omega, h2]
theorem is_program_ok {bs : List Bx} (hb : ∀ b ∈ bs, b.Ok) {p : Pg} (h : p.Ok bs) : m_is_program [bxD bs, p.d] = some (.bool true) := by
  have he : m_has_ends [p.d, .int 16] = some (.bool true) := has_ends_ok (m := 16) (by simpa using h.n1) (by simpa using h.n16) h.w1 (by simpa using h.wn) h.dw
  simp [m_is_program, runV, F_is_program, slots, he]
  generalize hL : loopF _ _ _ _ = L
  obtain ⟨ρ', rfl, o5, o6, rfl⟩ := loop_use hL (fun i ρ => ∃ o5 o6 : Option Sl, ρ = [some (.val (bxD bs)), some (.val p.d), some (.val (nI p.door)), some (.val (nI p.within)), some (.val (rwD p.rows)), o5, o6]) ⟨none, none, rfl⟩ (by
    rintro i d ρ hi ⟨o5, o6, rfl⟩
    simp at hi
    obtain ⟨r, hr, rfl⟩ := hi
    have hok := h.row r (List.mem_of_getElem? hr)
    cases r with
    | wr b v =>
      have e := is_write_wr hok
      simp [Rw.d, e]
    | lk b ns q =>
      have e := is_write_other (bs := bs) (ds := [.str "look", nI b, nL ns, nI q]) (by simp)
      have e2 := is_look_lk (p := q) hb hok
      obtain ⟨h1, h2, h3⟩ := h.look i b ns q hr
      have e3 := is_place_ok (n := p.rows.length) h1 h2 h3
      simp [nI] at e3
      simp [Rw.d, e, e2, Int.add_comm, e3]
    )
  simp

abbrev pgD (ps : List Pg) : PyData := .tuple (ps.map Pg.d)
structure Wy where
  boxes : List Bx
  hands : List Pg
def Wy.d (w : Wy) : PyData := .tuple [bxD w.boxes, pgD w.hands]
@[simp] theorem bTup_wy (w : Wy) (bs : FGs) (ρ : En) : bTup 2 bs w.d ρ = bs [bxD w.boxes, pgD w.hands] ρ := rfl
@[simp] theorem dIx_wy0 (w : Wy) : dIx w.d (.int 0) = some (bxD w.boxes) := rfl
@[simp] theorem dIx_wy1 (w : Wy) : dIx w.d (.int 1) = some (pgD w.hands) := rfl
def Rw.writes (k : Nat) : Rw → Bool
  | .wr b _ => decide (b = k)
  | .lk _ _ _ => false
def wrN (ps : List Pg) (k : Nat) : Nat := (ps.filter fun p => p.rows.any (Rw.writes k)).length
structure Wy.Ok (w : Wy) : Prop where
  b1 : 1 ≤ w.boxes.length
  b12 : w.boxes.length ≤ 12
  box : ∀ b ∈ w.boxes, b.Ok
  h1 : 1 ≤ w.hands.length
  h4 : w.hands.length ≤ 4
  hand : ∀ p ∈ w.hands, p.Ok w.boxes
  one : ∀ (k : Nat) (b : Bx), w.boxes[k]? = some b → b.kind = .whole ∨ wrN w.hands k ≤ 1
theorem eq_head (s t : Str) (a b : Nat) (hs : PyData.strOk s = true) (ht : PyData.strOk t = true) : dEq (.tuple [.str s, nI a]) (.tuple [.str t, nI b]) = some (.bool (decide (s = t) && decide (a = b))) := by
  have h1 : SeqAt.shaped (.tuple [.str s, nI a]) = true := by simp [SeqAt.shaped, PyData.canLay0, PyData.canLayAll0, PyData.depth, PyData.depthAll, hs]
  have h2 : SeqAt.shaped (.tuple [.str t, nI b]) = true := by simp [SeqAt.shaped, PyData.canLay0, PyData.canLayAll0, PyData.depth, PyData.depthAll, ht]
  have h3 : PyData.eqv (.tuple [.str s, nI a]) (.tuple [.str t, nI b]) = (decide (s = t) && decide (a = b)) := by
    simp [PyData.eqv, PyData.eqvAll]
    rw [Bool.eq_iff_iff]
    simp
    omega
  unfold dEq eqD
  dsimp only
  rw [if_pos ⟨h1, h2⟩, h3]
  rfl
theorem dAny_map {α : Type} (xs : List α) (g : α → Bool) : dAny [.list (xs.map fun r => .bool (g r))] = some (.bool (xs.any g)) := by
  rw [show (xs.map fun r => PyData.bool (g r)) = (xs.map g).map PyData.bool by simp, dAny_bools]
  simp
theorem writers_ok (ps : List Pg) (k : Nat) (hl : ps.length ≤ 1000) (h : ∀ p ∈ ps, p.rows.length ≤ 1000) : m_writers [pgD ps, nI k] = some (nI (wrN ps k)) := by
  simp [m_writers, runV, F_writers, slots, wipeE, hide, hl]
  rw [comp_map Pg.d (fun p => p.rows.any (Rw.writes k)) (fun p => nI p.door)]
  · simp [wrN]
  · intro p hp
    simp [h p hp, wipeE, hide, -List.any_eq_true]
    rw [comp_all Rw.d (fun r => .bool (r.writes k))]
    · simp [dAny_map, -List.any_eq_true]
      cases hh : p.rows.any (Rw.writes k) <;> simp
    · intro r hr
      cases r with
      | wr b v =>
        rw [show (Rw.wr b v).d = .tuple [.str "write", nI b, nI v] from rfl]
        simp [show Md.cutD [PyData.str "write", nI b, nI v] none (some 2) = [PyData.str "write", nI b] from rfl, eq_head "write" "write" b k (by decide +kernel) (by decide +kernel), Rw.writes]
      | lk b ns q => 
        rw [show (Rw.lk b ns q).d = .tuple [.str "look", nI b, nL ns, nI q] from rfl]
        simp [show Md.cutD [PyData.str "look", nI b, nL ns, nI q] none (some 2) = [PyData.str "look", nI b] from rfl, eq_head "look" "write" b k (by decide +kernel) (by decide +kernel), Rw.writes]
theorem is_way_ok {w : Wy} (h : w.Ok) : m_is_way [w.d] = some (.bool true) := by
  have e1 : m_are_boxes [bxD w.boxes, .int 12] = some (.bool true) := are_boxes_ok w.boxes 12 h.box h.b1 h.b12 (by omega)
  have f1 := h.h1
  have f2 := h.h4
  have f3 := h.b12
  have e2 := dLen_tup [bxD w.boxes, pgD w.hands]
  simp [m_is_way, runV, F_is_way, slots, wipeE, hide, e1, show dLen [w.d] = some (.int 2) from rfl, show isiD "tuple" w.d = true from rfl, show (1 : Int) ≤ (w.hands.length : Int) by omega, show (w.hands.length : Int) ≤ 4 by omega, show w.hands.length ≤ 1000 by omega]
  rw [comp_const (.bool true)]
  · simp [show w.boxes.length ≤ 1000 by omega]
    rw [comp_const (.bool true)]
    · simp
    · intro i d hd
      simp at hd
      obtain ⟨b, hb, rfl⟩ := hd
      have e := writers_ok w.hands i (by omega) fun p hp => by have := (h.hand p hp).n16; omega
      simp [e]
      rcases h.one i b hb with h | h
      · simp [h]
      · cases hk : decide (b.kind = Kd.whole) <;> simp [show (wrN w.hands i : Int) ≤ 1 by omega]
  · intro i d hd
    simp at hd
    obtain ⟨p, hp, rfl⟩ := hd
    simp [is_program_ok h.box (h.hand p (List.mem_of_getElem? hp))]
theorem check_way_ok {w : Wy} (h : w.Ok) : m_check_way [w.d] = some .none := by
  simp [m_check_way, runV, F_check_way, slots, is_way_ok h]
theorem check_hand_ok {w : Wy} (h : w.Ok) {k : Nat} (hk : k < w.hands.length) : m_check_hand [w.d, nI k] = some .none := by
  have b1 : m_is_between [nI k, .int 0, .int ((w.hands.length : Int) - 1)] = some (.bool true) := between_yes (by omega) (by omega)
  simp [m_check_hand, runV, F_check_hand, slots, check_way_ok h, b1]
end K45

set_option Elab.async false
set_option linter.all false
set_option maxRecDepth 100000
set_option maxHeartbeats 1000000
/-! K45: parts, standings, steps. -/
namespace K45
open PySem PySem.Spec PyProof.Rows L2 Md
@[simp] theorem cast_inj2 (a b : Nat) : ((a : Int) = (b : Int)) = (a = b) := propext Int.ofNat_inj
@[simp] theorem log2_2 : Nat.log2 2 = 1 := by decide +kernel
@[simp] theorem dAll_2 : dAll [.list [.bool true, .bool true]] = some (.bool true) := rfl
def partS (door within place : Nat) : Str := if place = 0 then "outside" else if place ≤ door then "doorway" else if place < within then "waiting" else if place = within then "within" else "leaving"
theorem part_of_ok (p : Pg) (n : Nat) : m_part_of [p.d, nI n] = some (.str (partS p.door p.within n)) := by
  unfold partS
  by_cases h0 : n = 0
  · simp [m_part_of, runV, F_part_of, slots, h0]
  · by_cases h1 : n ≤ p.door
    · simp [m_part_of, runV, F_part_of, slots, h0, h1]
    · by_cases h2 : n < p.within
      · simp [m_part_of, runV, F_part_of, slots, h0, h1, h2]
      · by_cases h3 : n = p.within
        · subst h3
          simp [m_part_of, runV, F_part_of, slots, h0, h1, h2]
        · simp [m_part_of, runV, F_part_of, slots, h0, h1, h2, h3]
theorem part_at_ok {w : Wy} (h : w.Ok) {k n : Nat} {p : Pg} (hp : w.hands[k]? = some p) (hn : n ≤ p.rows.length) : m_part_at [w.d, nI k, nI n] = some (.str (partS p.door p.within n)) := by
  have b1 : m_is_between [nI n, .int 0, nI p.rows.length] = some (.bool true) := between_yes (by omega) (by omega)
  simp [m_part_at, runV, F_part_at, slots, check_hand_ok h (lt_of_get hp), hp, b1, part_of_ok]
def nextP (p : Pg) (n : Nat) : Nat := if n = p.rows.length then 0 else n + 1
theorem next_place_ok (p : Pg) (n : Nat) : m_next_place [p.d, nI n] = some (nI (nextP p n)) := by
  unfold nextP
  by_cases h : n = p.rows.length <;> simp [m_next_place, runV, F_next_place, slots, h]
@[simp] theorem mulOk_2 (j : Int) : mulOk 2 j := Or.inl (Or.inl (by decide))
theorem spot_on_ok (p : Pg) (n : Nat) : m_spot_on [p.d, nI n] = some (nI (2 * nextP p n)) := by
  simp [m_spot_on, runV, F_spot_on, slots, next_place_ok]
abbrev sdD (sp vs : List Nat) : PyData := .tuple [nL sp, nL vs]
structure SpotOk (bs : List Bx) (p : Pg) (s : Nat) : Prop where
  hi : s ≤ 2 * p.rows.length + 1
  n1 : s ≠ 1
  odd : s % 2 = 1 → ∃ b v x, p.rows[s / 2 - 1]? = some (.wr b v) ∧ bs[b]? = some x ∧ x.kind ≠ .whole
structure SdOk (w : Wy) (sp vs : List Nat) : Prop where
  ls : sp.length = w.hands.length
  lv : vs.length = w.boxes.length
  spot : ∀ (i : Nat) (p : Pg) (t : Nat), w.hands[i]? = some p → sp[i]? = some t → SpotOk w.boxes p t
  val : ∀ (i : Nat) (b : Bx) (v : Nat), w.boxes[i]? = some b → vs[i]? = some v → v < b.size
@[simp] theorem dIx_wr0 (b v : Nat) : dIx (Rw.d (.wr b v)) (.int 0) = some (.str "write") := rfl
@[simp] theorem dIx_wr1 (b v : Nat) : dIx (Rw.d (.wr b v)) (.int 1) = some (nI b) := rfl
@[simp] theorem dIx_wr2 (b v : Nat) : dIx (Rw.d (.wr b v)) (.int 2) = some (nI v) := rfl
@[simp] theorem bTup_wr (b v : Nat) (bs : FGs) (ρ : En) : bTup 3 bs (Rw.d (.wr b v)) ρ = bs [.str "write", nI b, nI v] ρ := rfl
@[simp] theorem dIx_lk0 (b : Nat) (ns : List Nat) (q : Nat) : dIx (Rw.d (.lk b ns q)) (.int 0) = some (.str "look") := rfl
@[simp] theorem bTup_lk (b : Nat) (ns : List Nat) (q : Nat) (bs : FGs) (ρ : En) : bTup 4 bs (Rw.d (.lk b ns q)) ρ = bs [.str "look", nI b, nL ns, nI q] ρ := rfl
theorem is_spot_ok {bs : List Bx} {p : Pg} {s : Nat} (h : SpotOk bs p s) : m_is_spot [bxD bs, p.d, nI s] = some (.bool true) := by
  have h1 := h.hi
  have h2 := h.n1
  have f1 : (s : Int) ≤ 2 * (p.rows.length : Int) + 1 := by omega
  by_cases h3 : s % 2 = 1
  · obtain ⟨b, v, x, hr, hx, hk⟩ := h.odd h3
    have f2 : ¬ ((s : Int) = 1) := by omega
    have f3 : ¬ ((s : Int) % 2 = 0) := by omega
    have f4 : (1 : Int) ≤ (s : Int) / 2 := by omega
    have f5 : ((s : Int) / 2 - 1).toNat = s / 2 - 1 := by omega
    simp [m_is_spot, runV, F_is_spot, slots, f1, f2, f3, f4, f5, hr, hx, hk]
  · have f2 : ¬ ((s : Int) = 1) := by omega
    have f3 : ((s : Int) % 2 = 0) := by omega
    simp [m_is_spot, runV, F_is_spot, slots, f1, f2, f3]
theorem is_standing_ok {w : Wy} (hw : w.Ok) {sp vs : List Nat} (h : SdOk w sp vs) : m_is_standing [w.d, sdD sp vs] = some (.bool true) := by
  have h4 := hw.h4
  have h12 := hw.b12
  have hs := h.ls
  have hv := h.lv
  simp [m_is_standing, runV, F_is_standing, slots, wipeE, hide, check_way_ok hw, compD, hs, hv, show w.hands.length ≤ 1000 by omega]
  rw [comp_const (.bool true)]
  · simp [show w.boxes.length ≤ 1000 by omega, show w.hands.length ≤ 1000 by omega, hv, hs]
    rw [comp_const (.bool true)]
    · simp
    · intro i d hd
      obtain ⟨x, y, h1, h2, rfl⟩ := List.getElem?_zipWith_eq_some.mp hd
      have := h.val i x y h1 h2
      simp [this]
  · intro i d hd
    obtain ⟨x, y, h1, h2, rfl⟩ := List.getElem?_zipWith_eq_some.mp hd
    simp [is_spot_ok (h.spot i x y h1 h2)]
theorem check_standing_ok {w : Wy} (hw : w.Ok) {sp vs : List Nat} (h : SdOk w sp vs) : m_check_standing [w.d, sdD sp vs] = some .none := by
  simp [m_check_standing, runV, F_check_standing, slots, is_standing_ok hw h]
theorem first_standing_ok {w : Wy} (hw : w.Ok) (h2 : 2 ≤ w.hands.length) : m_first_standing [w.d] = some (sdD (List.replicate w.hands.length 0) (w.boxes.map Bx.start)) := by
  have h4 := hw.h4
  have h12 := hw.b12
  simp [m_first_standing, runV, F_first_standing, slots, wipeE, hide, check_way_ok hw, show (2 : Int) ≤ w.hands.length by omega, show (w.hands.length : Int) ≤ 1000 by omega, show w.boxes.length ≤ 1000 by omega]
  rw [comp_all Bx.d (fun b => nI b.start)]
  · simp
  · intro b hb
    simp
theorem put_in_ok (ds : List PyData) (k : Nat) (x : PyData) (hk : k < ds.length) (hl : ds.length ≤ 900) : m_put_in [.tuple ds, nI k, x] = some (.tuple (ds.set k x)) := by
  have e1 : Md.cutD ds none (some (k : Int)) = ds.take k := by
    unfold Md.cutD
    rw [HT.sIx_none, HT.sIx_nat, List.drop_zero]
    congr 1
    omega
  have e2 : Md.cutD ds (some ((k : Int) + 1)) none = ds.drop (k + 1) := by
    unfold Md.cutD
    rw [HT.sIx_none, show (k : Int) + 1 = ((k + 1 : Nat) : Int) by omega, HT.sIx_nat, Nat.min_eq_left (by omega)]
    exact List.take_of_length_le (by simp)
  have f2 : min k ds.length ≤ 999 := by omega
  have f3 : min k ds.length + 1 + (ds.length - (k + 1)) ≤ 1000 := by omega
  simp [m_put_in, runV, F_put_in, slots, e1, e2, f2, f3, List.set_eq_take_append_cons_drop, hk]
theorem put_in_nat (ns : List Nat) (k x : Nat) (hk : k < ns.length) (hl : ns.length ≤ 900) : m_put_in [nL ns, nI k, nI x] = some (nL (ns.set k x)) := by
  rw [put_in_ok _ k _ (by simpa using hk) (by simpa using hl), ← List.map_set]
theorem loop_ret {b : FG} {F : FS} {ds : List PyData} {ρ : En} (I : En → Prop) (P : PyData → Prop) (h0 : I ρ) (h : ∀ (d : PyData) (ρ : En), d ∈ ds → I ρ → ∃ ρ1, b d ρ = some ρ1 ∧ ((∃ ρ2, F ρ1 = some (.nx ρ2) ∧ I ρ2) ∨ ∃ r ρ2, F ρ1 = some (.rt r ρ2) ∧ P r)) : (∃ ρ', loopF b F ρ ds = some (.nx ρ') ∧ I ρ') ∨ (∃ r ρ', loopF b F ρ ds = some (.rt r ρ') ∧ P r) := by
  induction ds generalizing ρ with
  | nil => exact .inl ⟨ρ, rfl, h0⟩
  | cons d ds ih =>
    obtain ⟨ρ1, e1, e2⟩ := h d ρ (by simp) h0
    rcases e2 with ⟨ρ2, e2, e3⟩ | ⟨r, ρ2, e2, e3⟩
    · have := ih e3 fun d' ρ' hd => h d' ρ' (by simp [hd])
      rw [show loopF b F ρ (d :: ds) = loopF b F ρ2 ds by
        show (b d ρ).bind _ = _
        rw [e1, Option.bind_some, e2]; rfl]
      exact this
    · refine .inr ⟨r, ρ2, ?_, e3⟩
      show (b d ρ).bind _ = _
      rw [e1, Option.bind_some, e2]; rfl
theorem loop_ret_use {b : FG} {F : FS} {ds : List PyData} {ρ : En} {L : Option Out} (hL : loopF b F ρ ds = L) (I : En → Prop) (P : PyData → Prop) (h0 : I ρ) (h : ∀ (d : PyData) (ρ : En), d ∈ ds → I ρ → ∃ ρ1, b d ρ = some ρ1 ∧ ((∃ ρ2, F ρ1 = some (.nx ρ2) ∧ I ρ2) ∨ ∃ r ρ2, F ρ1 = some (.rt r ρ2) ∧ P r)) : (∃ ρ', L = some (.nx ρ') ∧ I ρ') ∨ (∃ r ρ', L = some (.rt r ρ') ∧ P r) := by
  rw [← hL]
  exact loop_ret I P h0 h
theorem written_now_ok {w : Wy} {sp vs : List Nat} (h : SdOk w sp vs) (k : Nat) : m_written_now [w.d, nL sp, nI k] = some .none ∨ ∃ v : Nat, m_written_now [w.d, nL sp, nI k] = some (nI v) := by
  simp [m_written_now, runV, F_written_now, slots]
  generalize hL : loopF _ _ _ _ = L
  have := loop_ret_use hL (fun ρ => ∃ o3 o4 o5 : Option Sl, ρ = [some (.val w.d), some (.val (nL sp)), some (.val (nI k)), o3, o4, o5]) (fun r => ∃ v : Nat, r = nI v) ⟨none, none, none, rfl⟩ (by
    rintro d ρ hd ⟨o3, o4, o5, rfl⟩
    obtain ⟨i, hi⟩ := List.getElem?_of_mem hd
    obtain ⟨p, t, h1, h2, rfl⟩ := List.getElem?_zipWith_eq_some.mp hi
    have hs := h.spot i p t h1 h2
    have hs1 := hs.hi
    have hs2 := hs.n1
    by_cases h3 : t % 2 = 1
    · obtain ⟨b, v, x, hr, hx, hk⟩ := hs.odd h3
      have f3 : ((t : Int) % 2 = 1) := by omega
      have f4 : (1 : Int) ≤ (t : Int) / 2 := by omega
      have f5 : ((t : Int) / 2 - 1).toNat = t / 2 - 1 := by omega
      by_cases h4 : b = k
      · subst h4
        simp [f3, f4, f5, hr]
      · simp [f3, f4, f5, hr, h4]
    · have f3 : ¬ ((t : Int) % 2 = 1) := by omega
      simp [f3])
  rcases this with ⟨ρ', rfl, _⟩ | ⟨r, ρ', rfl, v, rfl⟩
  · simp
  · right; exact ⟨v, by simp⟩
end K45

set_option Elab.async false
set_option linter.all false
set_option maxRecDepth 100000
set_option maxHeartbeats 1000000
/-! K45: steps. -/
namespace K45
open PySem PySem.Spec PyProof.Rows L2 Md
abbrev nLi (ns : List Nat) : PyData := .list (ns.map nI)
theorem sort2_nat (a b : Nat) : ∃ ts : List Nat, ts ≠ [] ∧ ts.length ≤ 5 ∧ (sort2 (a : Int) (b : Int)).map PyData.int = ts.map nI := by
  unfold sort2
  by_cases h : a = b
  · exact ⟨[a], by simp, by simp, by simp [h]⟩
  · by_cases h2 : a < b
    · exact ⟨[a, b], by simp, by simp, by simp [h, h2]⟩
    · exact ⟨[b, a], by simp, by simp, by simp [h, h2]⟩
theorem can_be_told_ok {w : Wy} (hw : w.Ok) {sp vs : List Nat} (h : SdOk w sp vs) {k : Nat} {x : Bx} (hx : w.boxes[k]? = some x) : ∃ ts : List Nat, ts ≠ [] ∧ ts.length ≤ 5 ∧ m_can_be_told [w.d, sdD sp vs, nI k] = some (nLi ts) := by
  have hk := lt_of_get hx
  have hlv := h.lv
  have hxo := hw.box x (List.mem_of_getElem? hx)
  have h2 := hxo.lo
  have h5 := hxo.hi
  obtain ⟨v, hv⟩ : ∃ v, vs[k]? = some v := ⟨vs[k]'(by omega), List.getElem?_eq_getElem _⟩
  rcases written_now_ok h k with e | ⟨u, e⟩
  · exact ⟨[v], by simp, by simp, by simp [m_can_be_told, runV, F_can_be_told, slots, hx, e, hv]⟩
  · by_cases ht : x.kind = .torn
    · refine ⟨List.range x.size, ?_, by simpa using h5, ?_⟩
      · intro h0
        have := congrArg List.length h0
        simp at this
        omega
      · simp [m_can_be_told, runV, F_can_be_told, slots, hx, e, hv, ht, show (x.size : Int) ≤ 1000 by omega, rng_map]
    · obtain ⟨ts, t1, t2, t3⟩ := sort2_nat v u
      refine ⟨ts, t1, t2, ?_⟩
      simp [m_can_be_told, runV, F_can_be_told, slots, hx, e, hv, ht]
      rw [t3]
theorem write_step_ok {w : Wy} (hw : w.Ok) {sp vs : List Nat} (h : SdOk w sp vs) {k t b v : Nat} {p : Pg} {x : Bx} (hp : w.hands[k]? = some p) (ht : sp[k]? = some t) (h2 : 2 ≤ t) (hr : p.rows[t / 2 - 1]? = some (.wr b v)) (hx : w.boxes[b]? = some x) : m_write_step [w.d, sdD sp vs, nI k] = some (if x.kind ≠ .whole ∧ t % 2 = 0 then sdD (sp.set k (t + 1)) vs else sdD (sp.set k (2 * nextP p (t / 2))) (vs.set b v)) := by
  have hk := lt_of_get hp
  have hb := lt_of_get hx
  have hlv := h.lv
  have hls := h.ls
  have h4 := hw.h4
  have h12 := hw.b12
  have f4 : (1 : Int) ≤ (t : Int) / 2 := by omega
  have f5 : ((t : Int) / 2 - 1).toNat = t / 2 - 1 := by omega
  have f6 : PyData.int ((t : Int) / 2) = nI (t / 2) := by simp
  have f7 : PyData.int ((t : Int) + 1) = nI (t + 1) := by simp
  have p1 : m_put_in [nL sp, nI k, nI (t + 1)] = _ := put_in_nat sp k (t + 1) (by omega) (by omega)
  have p2 : m_put_in [nL sp, nI k, nI (2 * nextP p (t / 2))] = _ := put_in_nat sp k _ (by omega) (by omega)
  have p3 : m_put_in [nL vs, nI b, nI v] = _ := put_in_nat vs b v (by omega) (by omega)
  have s1 := spot_on_ok p (t / 2)
  by_cases hk : x.kind = .whole
  · simp [m_write_step, runV, F_write_step, slots, hp, ht, f4, f5, hr, hx, hk, f6, s1, p2, p3]
  · by_cases hm : t % 2 = 0
    · have f3 : ((t : Int) % 2 = 0) := by omega
      simp [m_write_step, runV, F_write_step, slots, hp, ht, f4, f5, hr, hx, hk, f7, hm, p1, f3]
    · have f3 : ¬ ((t : Int) % 2 = 0) := by omega
      simp [m_write_step, runV, F_write_step, slots, hp, ht, f4, f5, hr, hx, hk, f6, s1, p2, p3, f3, hm]
theorem inD_nums (neg : Bool) (t : Nat) (ns : List Nat) : inD neg (nI t) (nL ns) = some (.bool (if neg then !decide (t ∈ ns) else decide (t ∈ ns))) := by
  have e1 : (ns.map nI).all flatD = true := by simp [flatD]
  have e2 : ((ns.map nI).any fun e => eqF e (nI t)) = decide (t ∈ ns) := by
    rw [Bool.eq_iff_iff]
    simp [eqF]
  unfold inD
  show (if _ then _ else _) = _
  rw [if_pos ⟨rfl, e1⟩, e2]
theorem look_steps_ok {w : Wy} (hw : w.Ok) {sp vs : List Nat} (h : SdOk w sp vs) {k t b q : Nat} {ns : List Nat} {p : Pg} {x : Bx} (hp : w.hands[k]? = some p) (ht : sp[k]? = some t) (h2 : 2 ≤ t) (hr : p.rows[t / 2 - 1]? = some (.lk b ns q)) (hx : w.boxes[b]? = some x) : ∃ ts : List Nat, ts ≠ [] ∧ ts.length ≤ 5 ∧ m_look_steps [w.d, sdD sp vs, nI k] = some (.list (ts.map fun td => .tuple [.tuple [nI k, nI td], sdD (sp.set k (if td ∈ ns then 2 * nextP p (t / 2) else 2 * q)) vs])) := by
  have hk := lt_of_get hp
  have hls := h.ls
  have h4 := hw.h4
  have f4 : (1 : Int) ≤ (t : Int) / 2 := by omega
  have f5 : ((t : Int) / 2 - 1).toNat = t / 2 - 1 := by omega
  have f6 : PyData.int ((t : Int) / 2) = nI (t / 2) := by simp
  have f8 : PyData.int (2 * (q : Int)) = nI (2 * q) := by simp
  have p1 : m_put_in [nL sp, nI k, nI (2 * q)] = _ := put_in_nat sp k _ (by omega) (by omega)
  have p2 : m_put_in [nL sp, nI k, nI (2 * nextP p (t / 2))] = _ := put_in_nat sp k _ (by omega) (by omega)
  have s1 := spot_on_ok p (t / 2)
  obtain ⟨ts, t1, t2, t3⟩ := can_be_told_ok hw h hx
  refine ⟨ts, t1, t2, ?_⟩
  simp [m_look_steps, runV, F_look_steps, slots, hp, ht, f4, f5, hr, hx, t3]
  generalize hL : loopF _ _ _ _ = L
  obtain ⟨ρ', rfl, o4, o13, rfl⟩ := loop_use hL (fun i ρ => ∃ o4 o13 : Option Sl, ρ = [some (.val w.d), some (.val (sdD sp vs)), some (.val (nI k)), some (.own ((ts.take i).map fun td => .tuple [.tuple [nI k, nI td], sdD (sp.set k (if td ∈ ns then 2 * nextP p (t / 2) else 2 * q)) vs])), o4, some (.val (nL sp)), some (.val (nL vs)), some (.val p.d), some (.val (nI t)), some (.val (.str "look")), some (.val (nI b)), some (.val (nL ns)), some (.val (nI q)), o13]) ⟨none, none, by simp⟩ (by
    rintro i d ρ hi ⟨o4, o13, rfl⟩
    simp at hi
    obtain ⟨td, hi, rfl⟩ := hi
    have hl := lt_of_get hi
    have e := List.take_add_one (l := ts) (i := i)
    rw [hi] at e
    by_cases hin : td ∈ ns
    · simp [f6, f8, inD_nums, hin, s1, p2, e, show min i ts.length < 1000 by omega]
    · simp [f6, f8, inD_nums, hin, s1, p1, e, show min i ts.length < 1000 by omega])
  simp

inductive StepR (w : Wy) (sp vs : List Nat) (k : Nat) : PyData → List Nat → List Nat → Prop
  | start : sp[k]? = some 0 → k < w.hands.length → StepR w sp vs k .none (sp.set k 2) vs
  | hold {p : Pg} {t b v : Nat} {x : Bx} : w.hands[k]? = some p → sp[k]? = some t → 2 ≤ t → p.rows[t / 2 - 1]? = some (.wr b v) → w.boxes[b]? = some x → x.kind ≠ .whole → t % 2 = 0 → StepR w sp vs k .none (sp.set k (t + 1)) vs
  | put {p : Pg} {t b v : Nat} {x : Bx} : w.hands[k]? = some p → sp[k]? = some t → 2 ≤ t → p.rows[t / 2 - 1]? = some (.wr b v) → w.boxes[b]? = some x → ¬ (x.kind ≠ .whole ∧ t % 2 = 0) → StepR w sp vs k .none (sp.set k (2 * nextP p (t / 2))) (vs.set b v)
  | look {p : Pg} {t b q : Nat} {ns : List Nat} (td : Nat) : w.hands[k]? = some p → sp[k]? = some t → 2 ≤ t → p.rows[t / 2 - 1]? = some (.lk b ns q) → StepR w sp vs k (nI td) (sp.set k (if td ∈ ns then 2 * nextP p (t / 2) else 2 * q)) vs
def StepD (w : Wy) (sp vs : List Nat) (k : Nat) (d : PyData) : Prop := ∃ told sp' vs', d = .tuple [.tuple [nI k, told], sdD sp' vs'] ∧ StepR w sp vs k told sp' vs'
theorem hand_steps_ok {w : Wy} (hw : w.Ok) {sp vs : List Nat} (h : SdOk w sp vs) {k : Nat} (hk : k < w.hands.length) : ∃ ds : List PyData, ds ≠ [] ∧ ds.length ≤ 5 ∧ m_hand_steps [w.d, sdD sp vs, nI k] = some (.list ds) ∧ ∀ d ∈ ds, StepD w sp vs k d := by
  have hls := h.ls
  have h4 := hw.h4
  obtain ⟨p, hp⟩ : ∃ p, w.hands[k]? = some p := ⟨_, List.getElem?_eq_getElem hk⟩
  obtain ⟨t, ht⟩ : ∃ t, sp[k]? = some t := ⟨sp[k]'(by omega), List.getElem?_eq_getElem _⟩
  have hs := h.spot k p t hp ht
  have hs1 := hs.hi
  have hs2 := hs.n1
  by_cases h0 : t = 0
  · subst h0
    have p1 : m_put_in [nL sp, nI k, .int 2] = _ := put_in_nat sp k 2 (by omega) (by omega)
    refine ⟨[.tuple [.tuple [nI k, .none], sdD (sp.set k 2) vs]], by simp, by simp, ?_, ?_⟩
    · simp [m_hand_steps, runV, F_hand_steps, slots, ht, p1]
    · intro d hd
      simp at hd
      exact ⟨_, _, _, hd, .start ht hk⟩
  · have f4 : (1 : Int) ≤ (t : Int) / 2 := by omega
    have f5 : ((t : Int) / 2 - 1).toNat = t / 2 - 1 := by omega
    have h2 : 2 ≤ t := by omega
    obtain ⟨r, hr⟩ : ∃ r, p.rows[t / 2 - 1]? = some r := ⟨p.rows[t / 2 - 1]'(by omega), List.getElem?_eq_getElem _⟩
    have hro := (hw.hand p (List.mem_of_getElem? hp)).row r (List.mem_of_getElem? hr)
    cases r with
    | wr b v =>
      obtain ⟨x, hx, hv⟩ := hro
      have e := write_step_ok hw h hp ht h2 hr hx
      refine ⟨_, ?_, ?_, by simp [m_hand_steps, runV, F_hand_steps, slots, ht, h0, hp, f4, f5, hr, e]; rfl, ?_⟩
      · simp
      · simp
      · intro d hd
        simp at hd
        by_cases hc : x.kind ≠ .whole ∧ t % 2 = 0
        · rw [if_pos hc] at hd
          exact ⟨_, _, _, hd, .hold hp ht h2 hr hx hc.1 hc.2⟩
        · rw [if_neg hc] at hd
          exact ⟨_, _, _, hd, .put hp ht h2 hr hx hc⟩
    | lk b ns q =>
      obtain ⟨x, hx, hv⟩ := hro
      obtain ⟨ts, t1, t2, e⟩ := look_steps_ok hw h hp ht h2 hr hx
      refine ⟨_, ?_, ?_, by simp [m_hand_steps, runV, F_hand_steps, slots, ht, h0, hp, f4, f5, hr, e]; rfl, ?_⟩
      · simpa using t1
      · simpa using t2
      · intro d hd
        obtain ⟨td, _, rfl⟩ := List.mem_map.mp hd
        exact ⟨_, _, _, rfl, .look td hp ht h2 hr⟩
theorem range_get {n i j : Nat} (h : (List.range n)[i]? = some j) : i < n ∧ j = i := by
  have hl := lt_of_get h
  rw [List.length_range] at hl
  rw [List.getElem?_range hl] at h
  exact ⟨hl, (Option.some.inj h).symm⟩
theorem steps_of_ok {w : Wy} (hw : w.Ok) {sp vs : List Nat} (h : SdOk w sp vs) : ∃ ds : List PyData, ds ≠ [] ∧ ds.length ≤ 1000 ∧ m_steps_of [w.d, sdD sp vs] = some (.tuple ds) ∧ ∀ d ∈ ds, ∃ k, k < w.hands.length ∧ StepD w sp vs k d := by
  have h4 := hw.h4
  have h1 := hw.h1
  generalize hM : m_steps_of [w.d, sdD sp vs] = M
  simp [m_steps_of, runV, F_steps_of, slots, show (w.hands.length : Int) ≤ 100000 by omega, show (-100000 : Int) ≤ w.hands.length by omega, rng_map] at hM
  generalize hL : loopF _ _ _ _ = L at hM
  obtain ⟨ρ', rfl, ds, o3, rfl, e1, e2, e3⟩ := loop_use hL (fun i ρ => ∃ (ds : List PyData) (o3 : Option Sl), ρ = [some (.val w.d), some (.val (sdD sp vs)), some (.own ds), o3] ∧ (0 < i → ds ≠ []) ∧ ds.length ≤ 5 * i ∧ ∀ d ∈ ds, ∃ k, k < w.hands.length ∧ StepD w sp vs k d) ⟨[], none, rfl, by simp, by simp, by simp⟩ (by
    rintro i d ρ hi ⟨ds, o3, rfl, e1, e2, e3⟩
    simp at hi
    obtain ⟨j, hj, rfl⟩ := hi
    obtain ⟨hi, rfl⟩ := range_get hj
    obtain ⟨es, x1, x2, x3, x4⟩ := hand_steps_ok hw h hi
    refine ⟨_, _, rfl, ?_, ds ++ es, some (.val (nI j)), rfl, ?_, ?_, ?_⟩
    · simp [x3, show ds.length + es.length ≤ 1000 by omega]
    · intro _ h0
      simp at h0
      exact x1 h0.2
    · simp; omega
    · intro d hd
      rcases List.mem_append.mp hd with hd | hd
      · exact e3 d hd
      · exact ⟨_, hi, x4 d hd⟩)
  simp at hM e1 e2
  refine ⟨ds, e1 (by omega), by omega, by rw [← hM], e3⟩
theorem steps_from_ok {w : Wy} (hw : w.Ok) {sp vs : List Nat} (h : SdOk w sp vs) : ∃ ds : List PyData, ds ≠ [] ∧ ds.length ≤ 1000 ∧ m_steps_from [w.d, sdD sp vs] = some (.tuple ds) ∧ ∀ d ∈ ds, ∃ k, k < w.hands.length ∧ StepD w sp vs k d := by
  obtain ⟨ds, x1, x2, x3, x4⟩ := steps_of_ok hw h
  refine ⟨ds, x1, x2, ?_, x4⟩
  simp [m_steps_from, runV, F_steps_from, slots, check_standing_ok hw h, x3]
end K45

set_option Elab.async false
set_option linter.all false
set_option maxRecDepth 100000
set_option maxHeartbeats 1000000
/-! K45: templates; the way of a template. -/
namespace K45
open PySem PySem.Spec PyProof.Rows L2 Md
inductive Wm where
  | others | lower | higher
  deriving DecidableEq
def Wm.s : Wm → Str
  | .others => "others"
  | .lower => "lower"
  | .higher => "higher"
@[simp] theorem wm_lower (k : Wm) : (k.s = "lower") ↔ k = .lower := by cases k <;> decide +kernel
@[simp] theorem wm_higher (k : Wm) : (k.s = "higher") ↔ k = .higher := by cases k <;> decide +kernel
inductive TRw where
  | wr (kind val : Nat)
  | lk (whom : Wm) (kind : Nat) (nums : List Nat) (place : Nat)
def TRw.d : TRw → PyData
  | .wr k v => .tuple [.str "write", nI k, nI v]
  | .lk m k ns q => .tuple [.str "look", .str m.s, nI k, nL ns, nI q]
@[simp] theorem dIx_twr0 (b v : Nat) : dIx (TRw.d (.wr b v)) (.int 0) = some (.str "write") := rfl
@[simp] theorem dIx_twr1 (b v : Nat) : dIx (TRw.d (.wr b v)) (.int 1) = some (nI b) := rfl
@[simp] theorem dIx_twr2 (b v : Nat) : dIx (TRw.d (.wr b v)) (.int 2) = some (nI v) := rfl
@[simp] theorem dIx_tlk0 (m : Wm) (b : Nat) (ns : List Nat) (q : Nat) : dIx (TRw.d (.lk m b ns q)) (.int 0) = some (.str "look") := rfl
@[simp] theorem dIx_tlk1 (m : Wm) (b : Nat) (ns : List Nat) (q : Nat) : dIx (TRw.d (.lk m b ns q)) (.int 1) = some (.str m.s) := rfl
@[simp] theorem dIx_tlk2 (m : Wm) (b : Nat) (ns : List Nat) (q : Nat) : dIx (TRw.d (.lk m b ns q)) (.int 2) = some (nI b) := rfl
@[simp] theorem dIx_tlk3 (m : Wm) (b : Nat) (ns : List Nat) (q : Nat) : dIx (TRw.d (.lk m b ns q)) (.int 3) = some (nL ns) := rfl
@[simp] theorem dIx_tlk4 (m : Wm) (b : Nat) (ns : List Nat) (q : Nat) : dIx (TRw.d (.lk m b ns q)) (.int 4) = some (nI q) := rfl
structure Tm where
  kinds : List Bx
  door : Nat
  within : Nat
  rows : List TRw
abbrev trD (rs : List TRw) : PyData := .tuple (rs.map TRw.d)
def Tm.pd (t : Tm) : PyData := .tuple [nI t.door, nI t.within, trD t.rows]
def Tm.d (t : Tm) : PyData := .tuple [bxD t.kinds, t.pd]
@[simp] theorem bTup_tm (t : Tm) (bs : FGs) (ρ : En) : bTup 2 bs t.d ρ = bs [bxD t.kinds, t.pd] ρ := rfl
@[simp] theorem bTup_tp (t : Tm) (bs : FGs) (ρ : En) : bTup 3 bs t.pd ρ = bs [nI t.door, nI t.within, trD t.rows] ρ := rfl
@[simp] theorem dIx_tm0 (t : Tm) : dIx t.d (.int 0) = some (bxD t.kinds) := rfl
@[simp] theorem dIx_tm1 (t : Tm) : dIx t.d (.int 1) = some t.pd := rfl
@[simp] theorem dIx_tp2 (t : Tm) : dIx t.pd (.int 2) = some (trD t.rows) := rfl
def TRw.Ok (bs : List Bx) (w i : Nat) : TRw → Prop
  | .wr k v => ∃ x, bs[k]? = some x ∧ v < x.size
  | .lk m k ns q => i + 1 < w ∧ 1 ≤ q ∧ q ≤ w ∧ ∃ x, bs[k]? = some x ∧ Nums ns x.size
def TRw.cost : TRw → Nat
  | .wr _ _ => 1
  | .lk _ _ _ _ => 3
structure Tm.Ok (t : Tm) : Prop where
  k1 : 1 ≤ t.kinds.length
  k2 : t.kinds.length ≤ 2
  box : ∀ b ∈ t.kinds, b.Ok
  n1 : 1 ≤ t.rows.length
  n8 : t.rows.length ≤ 8
  w1 : 1 ≤ t.within
  wn : t.within ≤ t.rows.length
  dw : t.door < t.within
  row : ∀ (i : Nat) (r : TRw), t.rows[i]? = some r → r.Ok t.kinds t.within i
  tog : (t.rows.map TRw.cost).sum ≤ 16
theorem is_template_look_ok {bs : List Bx} (hb : ∀ b ∈ bs, b.Ok) {m : Wm} {k q w i : Nat} {ns : List Nat} (h : TRw.Ok bs w i (.lk m k ns q)) : m_is_template_look [bxD bs, TRw.d (.lk m k ns q), .int ((i : Int) + 1), nI w] = some (.bool true) := by
  obtain ⟨h1, h2, h3, hx⟩ := h
  have e := is_look_lk (p := q) hb hx
  have b1 : m_is_between [nI q, .int 1, nI w] = some (.bool true) := between_yes (by omega) (by omega)
  have hm : inD true (.str m.s) (strsD ["others", "lower", "higher"]) = some (.bool false) := by cases m <;> rfl
  have e1 : dSl (TRw.d (.lk m k ns q)) none (some 1) = some (.tuple [.str "look"]) := rfl
  have e2 : dSl (TRw.d (.lk m k ns q)) (some 2) none = some (.tuple [nI k, nL ns, nI q]) := rfl
  have e3 : dLen [TRw.d (.lk m k ns q)] = some (.int 5) := rfl
  have e4 : isiD "tuple" (TRw.d (.lk m k ns q)) = true := rfl
  simp [m_is_template_look, runV, F_is_template_look, slots, hm, e1, e2, e3, e4, e, b1, show (i : Int) + 1 < w by omega]
theorem dSum_nat {α : Type} (xs : List α) (g : α → Nat) : dSum [.list (xs.map fun r => nI (g r))] = some (nI (xs.map g).sum) := by
  rw [show (xs.map fun r => nI (g r)) = (xs.map fun r => (g r : Int)).map PyData.int by simp, dSum_ints]
  congr 2
  induction xs with
  | nil => rfl
  | cons x xs ih => simp [ih]
theorem together_ok (rs : List TRw) (hl : rs.length ≤ 8) : m_together [trD rs] = some (nI (rs.map TRw.cost).sum) := by
  simp [m_together, runV, F_together, slots, wipeE, hide, show rs.length ≤ 1000 by omega]
  rw [comp_all TRw.d (fun r => nI r.cost)]
  · simp
    rw [dSum_nat]
    rfl
  · intro r hr
    cases r <;> simp [TRw.cost]
theorem is_template_ok {t : Tm} (h : t.Ok) : m_is_template [t.d] = some (.bool true) := by
  have e1 : m_are_boxes [bxD t.kinds, .int 2] = some (.bool true) := are_boxes_ok t.kinds 2 h.box h.k1 h.k2 (by omega)
  have e2 : m_has_ends [t.pd, .int 8] = some (.bool true) := has_ends_ok (m := 8) (by simpa using h.n1) (by simpa using h.n8) h.w1 (by simpa using h.wn) h.dw
  have e3 := together_ok t.rows h.n8
  have h16 := h.tog
  simp [m_is_template, runV, F_is_template, slots, e1, e2, show dLen [t.d] = some (.int 2) from rfl, show isiD "tuple" t.d = true from rfl]
  generalize hL : loopF _ _ _ _ = L
  obtain ⟨ρ', rfl, o5, o6, rfl⟩ := loop_use hL (fun i ρ => ∃ o5 o6 : Option Sl, ρ = [some (.val t.d), some (.val (bxD t.kinds)), some (.val t.pd), some (.val (nI t.door)), some (.val (nI t.within)), some (.val (trD t.rows)), o5, o6]) ⟨none, none, rfl⟩ (by
    rintro i d ρ hi ⟨o5, o6, rfl⟩
    simp at hi
    obtain ⟨r, hr, rfl⟩ := hi
    have hok := h.row i r hr
    cases r with
    | wr k v =>
      have e := is_write_wr (bs := t.kinds) (b := k) (v := v) hok
      rw [show (TRw.wr k v).d = .tuple [.str "write", nI k, nI v] from rfl]
      simp [e]
    | lk m k ns q =>
      have e : m_is_write [bxD t.kinds, TRw.d (.lk m k ns q)] = _ := is_write_other (bs := t.kinds) (ds := [.str "look", .str m.s, nI k, nL ns, nI q]) (by simp)
      have e2 := is_template_look_ok h.box hok
      simp [e, e2, Int.add_comm])
  simp [e3, show ((t.rows.map TRw.cost).sum : Int) ≤ 16 by omega]
theorem check_template_ok {t : Tm} (h : t.Ok) : m_check_template [t.d] = some .none := by
  simp [m_check_template, runV, F_check_template, slots, is_template_ok h]
def looked : Wm → Nat → Nat → List Nat
  | .lower, h, _ => List.range h
  | .higher, h, n => List.range' (h + 1) (n - (h + 1))
  | .others, h, n => (List.range n).filter fun j => decide (j ≠ h)
theorem looked_at_ok (m : Wm) {h n : Nat} (h1 : h < n) (h2 : n ≤ 4) : m_looked_at [.str m.s, nI h, nI n] = some (nLi (looked m h n)) := by
  cases m with
  | lower => simp [m_looked_at, runV, F_looked_at, slots, show (h : Int) ≤ 1000 by omega, looked, rng_map]
  | higher =>
    simp [m_looked_at, runV, F_looked_at, slots, show (h : Int) + 1 ≤ 1000 by omega, show (n : Int) ≤ 1000 by omega, show (0 : Int) ≤ (h : Int) + 1 by omega, looked]
    exact rng_map2 (h + 1) n
  | others =>
    simp [m_looked_at, runV, F_looked_at, slots, show (n : Int) ≤ 100000 by omega, show (-100000 : Int) ≤ (n : Int) by omega, looked, rng_map, show n ≤ 1000 by omega, wipeE, hide]
    rw [comp_map (fun i : Nat => PyData.int (i : Int)) (fun j => decide (j ≠ h)) (fun i : Nat => PyData.int (i : Int))]
    · simp
    · intro j hj
      by_cases hh : j = h <;> simp [hh]
def cnt (h n : Nat) : TRw → Nat
  | .wr _ _ => 1
  | .lk m _ _ _ => (looked m h n).length
theorem rows_of_ok (r : TRw) {h n : Nat} (h1 : h < n) (h2 : n ≤ 4) : m_rows_of [r.d, nI h, nI n] = some (nI (cnt h n r)) := by
  cases r with
  | wr k v => simp [m_rows_of, runV, F_rows_of, slots, cnt]
  | lk m k ns q => simp [m_rows_of, runV, F_rows_of, slots, cnt, looked_at_ok m h1 h2]
def pre (rs : List TRw) (h n i : Nat) : Nat := ((rs.take i).map (cnt h n)).sum
theorem pre_succ {rs : List TRw} {h n i : Nat} {r : TRw} (hr : rs[i]? = some r) : pre rs h n (i + 1) = pre rs h n i + cnt h n r := by
  unfold pre
  rw [List.take_add_one, hr]
  simp
theorem begins_ok (rs : List TRw) {h n : Nat} (h1 : h < n) (h2 : n ≤ 4) (hl : rs.length ≤ 8) : m_begins [trD rs, nI h, nI n] = some (.list ((List.range rs.length).map fun i => nI (1 + pre rs h n i))) := by
  simp [m_begins, runV, F_begins, slots]
  generalize hL : loopF _ _ _ _ = L
  obtain ⟨ρ', rfl, o5, rfl⟩ := loop_use hL (fun i ρ => ∃ o5 : Option Sl, ρ = [some (.val (trD rs)), some (.val (nI h)), some (.val (nI n)), some (.own ((List.range i).map fun i => nI (1 + pre rs h n i))), some (.val (nI (1 + pre rs h n i))), o5]) ⟨none, rfl⟩ (by
    rintro i d ρ hi ⟨o5, rfl⟩
    simp at hi
    obtain ⟨r, hr, rfl⟩ := hi
    have hi := lt_of_get hr
    simp [rows_of_ok r h1 h2, List.range_succ, pre_succ hr, show i < 1000 by omega, Int.add_assoc])
  simp

def expand (nk h n : Nat) (rs : List TRw) : TRw → List Rw
  | .wr k v => [.wr (h * nk + k) v]
  | .lk m k ns q => (looked m h n).map fun o => .lk (o * nk + k) ns (1 + pre rs h n (q - 1))
def rowsFor (nk h n : Nat) (rs : List TRw) : List Rw := rs.flatMap (expand nk h n rs)
def progFor (t : Tm) (h n : Nat) : Pg := ⟨pre t.rows h n t.door, 1 + pre t.rows h n (t.within - 1), rowsFor t.kinds.length h n t.rows⟩
def wayFor (t : Tm) (n : Nat) : Wy := ⟨(List.replicate n t.kinds).flatten, (List.range n).map fun h => progFor t h n⟩
theorem looked_len (m : Wm) {h n : Nat} (h1 : h < n) : (looked m h n).length + 1 ≤ n := by
  cases m with
  | lower => simp [looked] <;> omega
  | higher => simp [looked] <;> omega
  | others =>
    unfold looked
    rw [← List.countP_eq_length_filter]
    have e := List.length_eq_countP_add_countP (l := List.range n) (p := fun j => decide (j ≠ h))
    have : 0 < (List.range n).countP fun j => decide ¬(decide (j ≠ h) = true) := List.countP_pos_iff.mpr ⟨h, by simpa using h1, by simp⟩
    rw [List.length_range] at e
    omega
theorem cnt_cost (r : TRw) {h n : Nat} (h1 : h < n) (h2 : n ≤ 4) : cnt h n r ≤ r.cost := by
  cases r with
  | wr k v => simp [cnt, TRw.cost]
  | lk m k ns q =>
    have := looked_len m h1
    simp [cnt, TRw.cost]
    omega
theorem expand_len (nk h n : Nat) (rs : List TRw) (r : TRw) : (expand nk h n rs r).length = cnt h n r := by
  cases r <;> simp [expand, cnt]
theorem flat_len (nk h n : Nat) (rs xs : List TRw) : (xs.flatMap (expand nk h n rs)).length = (xs.map (cnt h n)).sum := by
  induction xs with
  | nil => rfl
  | cons x xs ih => simp [List.flatMap_cons, expand_len] at ih ⊢ <;> omega
theorem sum_le (xs : List TRw) {h n : Nat} (h1 : h < n) (h2 : n ≤ 4) : (xs.map (cnt h n)).sum ≤ (xs.map TRw.cost).sum := by
  induction xs with
  | nil => simp
  | cons x xs ih => 
    have := cnt_cost x h1 h2
    simp; omega
theorem sum_take_le (xs : List TRw) (i : Nat) : ((xs.take i).map TRw.cost).sum ≤ (xs.map TRw.cost).sum := by
  induction xs generalizing i with
  | nil => simp
  | cons x xs ih =>
    cases i with
    | zero => simp
    | succ i => have := ih i; simp at this ⊢; omega
@[simp] theorem mulOk_nat {a : Nat} {j : Int} (h : a ≤ 100) : mulOk (a : Int) j := Or.inl (Or.inl (by omega))
theorem program_for_ok {t : Tm} (ht : t.Ok) {h n : Nat} (h1 : h < n) (h2 : n ≤ 4) : m_program_for [t.d, nI h, nI n] = some (progFor t h n).d := by
  have hb := begins_ok t.rows h1 h2 ht.n8
  have hn8 := ht.n8
  have hk2 := ht.k2
  have hwn := ht.wn
  have hw1 := ht.w1
  have hdw := ht.dw
  have h16 := ht.tog
  have hbig : ∀ i, ((t.rows.take i).flatMap (expand t.kinds.length h n t.rows)).length ≤ 16 := fun i => by
    rw [flat_len]
    have a := sum_le (t.rows.take i) h1 h2
    have b := sum_take_le t.rows i
    omega
  have c1 : Md.cutD (t.rows.map TRw.d) none (some (t.door : Int)) = (t.rows.take t.door).map TRw.d := by
    unfold Md.cutD
    rw [HT.sIx_none, HT.sIx_nat, List.drop_zero, List.length_map, Nat.min_eq_left (by omega)]
    rw [List.map_take]
    rfl
  simp [m_program_for, runV, F_program_for, slots, hb]
  generalize hL : loopF _ _ _ _ = L
  obtain ⟨ρ', rfl, o5, o11, rfl⟩ := loop_use hL (fun i ρ => ∃ o5 o11 : Option Sl, ρ = [some (.val t.d), some (.val (nI h)), some (.val (nI n)), some (.val (.list ((List.range t.rows.length).map fun i => nI (1 + pre t.rows h n i)))), some (.own (((t.rows.take i).flatMap (expand t.kinds.length h n t.rows)).map Rw.d)), o5, none, some (.val (bxD t.kinds)), some (.val (nI t.door)), some (.val (nI t.within)), some (.val (trD t.rows)), o11]) ⟨none, none, by simp only [List.take_zero, List.flatMap_nil, List.map_nil]⟩ (by
    rintro i d ρ hi ⟨o5, o11, rfl⟩
    simp at hi
    obtain ⟨r, hr, rfl⟩ := hi
    have hi := lt_of_get hr
    have hrow := ht.row i r hr
    have hb1 := hbig i
    have hb2 := hbig (i + 1)
    have et : t.rows.take (i + 1) = t.rows.take i ++ [r] := by rw [List.take_add_one, hr]; rfl
    rw [et, List.flatMap_append, List.length_append] at hb2
    rw [et, List.flatMap_append, List.map_append]
    have es : ([r] : List TRw).flatMap (expand t.kinds.length h n t.rows) = expand t.kinds.length h n t.rows r := List.flatMap_singleton _ _
    rw [es] at hb2 ⊢
    generalize (t.rows.take i).flatMap (expand t.kinds.length h n t.rows) = acc at *
    cases r with
    | wr k v =>
      simp [show h ≤ 100 by omega, show acc.length < 1000 by omega, expand, Rw.d]
    | lk m k ns q =>
      obtain ⟨g1, g2, g3, _⟩ := hrow
      simp [looked_at_ok m h1 h2]
      generalize hL2 : loopF _ _ _ _ = L2
      obtain ⟨ρ2, rfl, o11, rfl⟩ := loop_use hL2 (fun j ρ => ∃ o11 : Option Sl, ρ = [some (.val t.d), some (.val (nI h)), some (.val (nI n)), some (.val (.list ((List.range t.rows.length).map fun i => nI (1 + pre t.rows h n i)))), some (.own ((acc ++ ((looked m h n).take j).map fun o => Rw.lk (o * t.kinds.length + k) ns (1 + pre t.rows h n (q - 1))).map Rw.d)), some (.val (TRw.d (.lk m k ns q))), none, some (.val (bxD t.kinds)), some (.val (nI t.door)), some (.val (nI t.within)), some (.val (trD t.rows)), o11]) ⟨o11, by simp⟩ (by
        rintro j d ρ hj ⟨o11, rfl⟩
        simp at hj
        obtain ⟨o, ho, rfl⟩ := hj
        have hj := lt_of_get ho
        have hll := looked_len m h1
        have hob : o ≤ 100 := by
          have := List.mem_of_getElem? ho
          cases m <;> simp [looked] at this <;> omega
        have et : (looked m h n).take (j + 1) = (looked m h n).take j ++ [o] := by rw [List.take_add_one, ho]; rfl
        have g4 : (1 : Int) ≤ q := by omega
        have g5 : ((q : Int) - 1).toNat = q - 1 := by omega
        have g6 : (List.range t.rows.length)[q - 1]? = some (q - 1) := List.getElem?_range (by omega)
        rw [et]
        simp [hob, g4, g5, g6, Rw.d, show acc.length + min j (looked m h n).length < 1000 by omega])
      simp [expand]
      )
  have g4 : (1 : Int) ≤ t.within := by omega
  have g5 : ((t.within : Int) - 1).toNat = t.within - 1 := by omega
  have g6 : (List.range t.rows.length)[t.within - 1]? = some (t.within - 1) := List.getElem?_range (by omega)
  simp [c1, show min t.door t.rows.length ≤ 1000 by omega, wipeE, hide, -List.map_take]
  rw [comp_all TRw.d (fun r => nI (cnt h n r))]
  · simp [dSum_nat, g4, g5, g6, -List.map_take]
    simp [progFor, Pg.d, pre, rowsFor]
  · intro r hr
    simp [rows_of_ok r h1 h2]
theorem way_for_ok {t : Tm} (ht : t.Ok) {n : Nat} (h1 : 2 ≤ n) (h2 : n ≤ 4) : m_way_for [t.d, nI n] = some (wayFor t n).d := by
  have b1 : m_is_between [nI n, .int 1, .int 4] = some (.bool true) := between_yes (by omega) (by omega)
  have hk := ht.k1
  have hk2 := ht.k2
  have f1 : ¬ (t.kinds = []) := by intro h0; rw [h0] at hk; simp at hk
  simp [m_way_for, runV, F_way_for, slots, check_template_ok ht, b1, f1, h1, show t.kinds.length ≤ 1000 by omega, show (n : Int) ≤ 1000 by omega, show (2 : Int) ≤ n by omega, show (n : Int) ≤ 100000 by omega, show (-100000 : Int) ≤ n by omega, rng_map, wipeE, hide, show n ≤ 1000 by omega]
  rw [comp_all (fun i : Nat => PyData.int (i : Int)) (fun i => (progFor t i n).d)]
  · simp [Wy.d, wayFor]
  · intro i hi
    simp [program_for_ok ht (List.mem_range.mp hi) h2]
end K45

set_option Elab.async false
set_option linter.all false
set_option maxRecDepth 100000
set_option maxHeartbeats 1000000
/-! K45: the way of a good template is good. -/
namespace K45
open PySem PySem.Spec PyProof.Rows L2 Md
theorem pre_zero (rs : List TRw) (h n : Nat) : pre rs h n 0 = 0 := by simp [pre]
theorem pre_mono1 (rs : List TRw) (h n i : Nat) : pre rs h n i ≤ pre rs h n (i + 1) := by
  cases hr : rs[i]? with
  | none =>
    have : rs.length ≤ i := List.getElem?_eq_none_iff.mp hr
    unfold pre
    rw [List.take_of_length_le this, List.take_of_length_le (by omega)]
    exact Nat.le_refl _
  | some r => rw [pre_succ hr]; omega
theorem pre_mono (rs : List TRw) (h n : Nat) {i j : Nat} (hij : i ≤ j) : pre rs h n i ≤ pre rs h n j := by
  induction hij with
  | refl => exact Nat.le_refl _
  | step _ ih => exact Nat.le_trans ih (pre_mono1 rs h n _)
theorem rows_len (nk h n : Nat) (rs : List TRw) : (rowsFor nk h n rs).length = pre rs h n rs.length := by
  unfold rowsFor pre
  rw [flat_len, List.take_length]
/-- a place of the program: its row of the template -/
theorem flat_get {nk h n : Nat} {rs : List TRw} : ∀ {xs : List TRw} {i j : Nat} {r : TRw}, xs[i]? = some r → j < cnt h n r → (xs.flatMap (expand nk h n rs))[((xs.take i).map (cnt h n)).sum + j]? = (expand nk h n rs r)[j]?
  | [], _, _, _, hr, _ => by simp at hr
  | x :: xs, 0, j, r, hr, hj => by
    simp at hr
    subst hr
    simp [List.flatMap_cons]
    rw [List.getElem?_append_left (by rw [expand_len]; exact hj)]
  | x :: xs, i + 1, j, r, hr, hj => by
    simp at hr
    have ih := flat_get (nk := nk) (rs := rs) hr hj
    simp only [List.flatMap_cons, List.take_succ_cons, List.map_cons, List.sum_cons]
    rw [List.getElem?_append_right (by rw [expand_len]; omega), expand_len, ← ih]
    congr 1
    omega
theorem rows_get {nk h n : Nat} {rs : List TRw} {i j : Nat} {r : TRw} (hr : rs[i]? = some r) (hj : j < cnt h n r) : (rowsFor nk h n rs)[pre rs h n i + j]? = (expand nk h n rs r)[j]? := flat_get hr hj
theorem flat_find {nk h n : Nat} {rs : List TRw} : ∀ {xs : List TRw} {p : Nat} {w : Rw}, (xs.flatMap (expand nk h n rs))[p]? = some w → ∃ i j r, xs[i]? = some r ∧ j < cnt h n r ∧ p = ((xs.take i).map (cnt h n)).sum + j ∧ (expand nk h n rs r)[j]? = some w
  | [], _, _, hp => by simp at hp
  | x :: xs, p, w, hp => by
    rw [List.flatMap_cons] at hp
    by_cases hlt : p < cnt h n x
    · rw [List.getElem?_append_left (by rw [expand_len]; exact hlt)] at hp
      exact ⟨0, p, x, rfl, hlt, by simp, hp⟩
    · rw [List.getElem?_append_right (by rw [expand_len]; omega), expand_len] at hp
      obtain ⟨i, j, r, h1, h2, h3, h4⟩ := flat_find hp
      refine ⟨i + 1, j, r, by simpa using h1, h2, ?_, h4⟩
      simp only [List.take_succ_cons, List.map_cons, List.sum_cons]
      omega
theorem rows_find {nk h n : Nat} {rs : List TRw} {p : Nat} {w : Rw} (hp : (rowsFor nk h n rs)[p]? = some w) : ∃ i j r, rs[i]? = some r ∧ j < cnt h n r ∧ p = pre rs h n i + j ∧ (expand nk h n rs r)[j]? = some w := flat_find hp
theorem boxes_len (n : Nat) (ks : List Bx) : (List.replicate n ks).flatten.length = n * ks.length := by simp
theorem boxes_get : ∀ {n : Nat} {ks : List Bx} {o k : Nat}, o < n → k < ks.length → (List.replicate n ks).flatten[o * ks.length + k]? = ks[k]?
  | 0, _, _, _, h, _ => by omega
  | n + 1, ks, 0, k, h, hk => by
    rw [List.replicate_succ, List.flatten_cons, List.getElem?_append_left (by omega)]
    simp
  | n + 1, ks, o + 1, k, h, hk => by
    rw [List.replicate_succ, List.flatten_cons, List.getElem?_append_right (by rw [Nat.succ_mul]; omega), ← boxes_get (n := n) (o := o) (by omega) hk]
    congr 1
    rw [Nat.succ_mul]; omega
theorem looked_lt {m : Wm} {h n o : Nat} (h1 : h < n) (ho : o ∈ looked m h n) : o < n := by
  cases m <;> simp [looked] at ho <;> omega
/-- the row at which one stands within is a write -/
theorem within_wr {t : Tm} (ht : t.Ok) : ∃ k v, t.rows[t.within - 1]? = some (.wr k v) := by
  have h1 := ht.w1
  have h2 := ht.wn
  obtain ⟨r, hr⟩ : ∃ r, t.rows[t.within - 1]? = some r := ⟨t.rows[t.within - 1]'(by omega), List.getElem?_eq_getElem _⟩
  cases r with
  | wr k v => exact ⟨k, v, hr⟩
  | lk m k ns q =>
    have := (ht.row _ _ hr).1
    omega
theorem expand_get {nk h n j : Nat} {rs : List TRw} {m : Wm} {k q : Nat} {ns : List Nat} (hj : j < cnt h n (.lk m k ns q)) : ∃ o, o ∈ looked m h n ∧ (expand nk h n rs (.lk m k ns q))[j]? = some (.lk (o * nk + k) ns (1 + pre rs h n (q - 1))) := by
  simp only [cnt] at hj
  refine ⟨(looked m h n)[j], List.getElem_mem hj, ?_⟩
  simp only [expand]
  rw [List.getElem?_map, List.getElem?_eq_getElem hj]
  rfl
theorem within_le {t : Tm} (ht : t.Ok) (h n : Nat) : 1 + pre t.rows h n (t.within - 1) ≤ pre t.rows h n t.rows.length := by
  obtain ⟨k, v, hr⟩ := within_wr ht
  have e := pre_succ (h := h) (n := n) hr
  have m := pre_mono t.rows h n (i := t.within - 1 + 1) (j := t.rows.length) (by have := ht.wn; have := ht.w1; omega)
  simp only [cnt] at e
  omega
theorem prog_ok {t : Tm} (ht : t.Ok) {h n : Nat} (h1 : h < n) (h2 : n ≤ 4) : (progFor t h n).Ok (wayFor t n).boxes := by
  have hw1 := ht.w1
  have hwn := ht.wn
  have hdw := ht.dw
  have hwl := within_le ht h n
  refine ⟨?_, ?_, ?_, ?_, ?_, ?_, ?_⟩
  · show 1 ≤ (rowsFor _ _ _ _).length
    rw [rows_len]; omega
  · show (rowsFor _ _ _ _).length ≤ 16
    rw [rows_len]
    have a := sum_le t.rows h1 h2
    have b := ht.tog
    unfold pre
    rw [List.take_length]
    omega
  · show 1 ≤ 1 + _
    omega
  · show _ ≤ (rowsFor _ _ _ _).length
    rw [rows_len]; exact hwl
  · show pre _ _ _ _ < 1 + pre _ _ _ _
    have := pre_mono t.rows h n (i := t.door) (j := t.within - 1) (by omega)
    omega
  · intro r hr
    obtain ⟨p, hp⟩ := List.getElem?_of_mem hr
    obtain ⟨i, j, r0, e1, e2, e3, e4⟩ := rows_find hp
    have hrow := ht.row i r0 e1
    cases r0 with
    | wr k v =>
      obtain ⟨x, hx, hv⟩ := hrow
      simp only [expand] at e4
      have := List.mem_of_getElem? e4
      simp only [List.mem_singleton] at this
      subst this
      exact ⟨x, by rw [← hx]; exact boxes_get h1 (lt_of_get hx), hv⟩
    | lk m k ns q =>
      obtain ⟨_, _, _, x, hx, hv⟩ := hrow
      obtain ⟨o, ho, e5⟩ := expand_get (nk := t.kinds.length) (rs := t.rows) e2
      rw [e5] at e4
      cases e4
      exact ⟨x, by rw [← hx]; exact boxes_get (looked_lt h1 ho) (lt_of_get hx), hv⟩
  · intro p b ns q hp
    obtain ⟨i, j, r0, e1, e2, e3, e4⟩ := rows_find hp
    have hrow := ht.row i r0 e1
    cases r0 with
    | wr k v =>
      simp only [expand] at e4
      have := List.mem_of_getElem? e4
      simp only [List.mem_singleton] at this
      cases this
    | lk m k ns' q' =>
      obtain ⟨g1, g2, g3, x, hx, hv⟩ := hrow
      obtain ⟨o, ho, e5⟩ := expand_get (nk := t.kinds.length) (rs := t.rows) e2
      rw [e5] at e4
      cases e4
      have a := pre_succ (h := h) (n := n) e1
      have b := pre_mono t.rows h n (i := i + 1) (j := t.within - 1) (by omega)
      have c := pre_mono t.rows h n (i := q' - 1) (j := t.within - 1) (by omega)
      refine ⟨?_, by omega, ?_⟩
      · show p + 1 < 1 + pre t.rows h n (t.within - 1)
        omega
      · show _ ≤ 1 + pre t.rows h n (t.within - 1)
        omega
theorem filter_range_le (n a : Nat) (f : Nat → Bool) (hf : ∀ h, f h = true → h = a) : ((List.range n).filter f).length ≤ 1 := by
  induction n with
  | zero => simp
  | succ n ih =>
    rw [List.range_succ, List.filter_append]
    by_cases hn : f n = true
    · have : (List.range n).filter f = [] := by
        apply List.filter_eq_nil_iff.mpr
        intro h hh hfh
        have e1 := hf h hfh
        have e2 := hf n hn
        have := List.mem_range.mp hh
        omega
      simp [this, hn]
    · simp [hn]
      simpa using ih
theorem way_ok {t : Tm} (ht : t.Ok) {n : Nat} (h1 : 2 ≤ n) (h2 : n ≤ 4) : (wayFor t n).Ok := by
  have hk1 := ht.k1
  have hk2 := ht.k2
  have hbl : (wayFor t n).boxes.length = n * t.kinds.length := boxes_len n t.kinds
  have hhl : (wayFor t n).hands.length = n := by simp [wayFor]
  refine ⟨?_, ?_, ?_, ?_, ?_, ?_, ?_⟩
  · rw [hbl]
    exact Nat.le_trans (show 1 ≤ 2 * 1 by omega) (Nat.mul_le_mul h1 hk1)
  · rw [hbl]
    exact Nat.le_trans (Nat.mul_le_mul h2 hk2) (by omega)
  · intro b hb
    simp [wayFor] at hb
    obtain ⟨l, ⟨_, rfl⟩, hb⟩ := hb
    exact ht.box b hb
  · rw [hhl]; omega
  · rw [hhl]; exact h2
  · intro p hp
    simp only [wayFor] at hp
    obtain ⟨h, hh, rfl⟩ := List.mem_map.mp hp
    exact prog_ok ht (List.mem_range.mp hh) h2
  · intro b x hx
    right
    unfold wrN
    simp only [wayFor]
    rw [List.filter_map, List.length_map]
    refine filter_range_le n (b / t.kinds.length) _ fun h hf => ?_
    simp only [Function.comp_def] at hf
    obtain ⟨r, hr, hw⟩ := List.any_eq_true.mp hf
    obtain ⟨p, hp⟩ := List.getElem?_of_mem hr
    obtain ⟨i, j, r0, e1, e2, e3, e4⟩ := rows_find hp
    have hrow := ht.row i r0 e1
    cases r0 with
    | wr k v =>
      obtain ⟨x, hx, hv⟩ := hrow
      have hk := lt_of_get hx
      simp only [expand] at e4
      have := List.mem_of_getElem? e4
      simp only [List.mem_singleton] at this
      subst this
      simp [Rw.writes] at hw
      rw [← hw, Nat.mul_comm, Nat.mul_add_div (by omega), Nat.div_eq_of_lt hk]
      omega
    | lk m k ns' q' =>
      obtain ⟨o, ho, e5⟩ := expand_get (nk := t.kinds.length) (rs := t.rows) e2
      rw [e5] at e4
      cases e4
      simp [Rw.writes] at hw
end K45

set_option Elab.async false
set_option linter.all false
set_option maxRecDepth 100000
set_option maxHeartbeats 1000000
/-! K45: the law's own state, settled. -/
namespace K45
open PySem PySem.Spec PyProof.Rows L2 Md
def whomL (m : Wm) (h n : Nat) : List Nat := (List.range n).filter fun j => (decide (j < h) && decide (m ≠ .higher)) || (decide (h < j) && decide (m ≠ .lower))
theorem whom_len (m : Wm) {h n : Nat} (h1 : h < n) (h2 : n ≤ 4) : (whomL m h n).length = (looked m h n).length := by
  have : ∀ n, n < 5 → ∀ h, h < n → (whomL m h n).length = (looked m h n).length := by
    cases m <;> decide +kernel
  exact this n (by omega) h h1
theorem whom_ok (m : Wm) {h n : Nat} (h1 : h < n) (h2 : n ≤ 4) : m__law_whom [.str m.s, nI h, nI n] = some (nLi (whomL m h n)) := by
  simp [m__law_whom, runV, F__law_whom, slots, wipeE, hide, show (n : Int) ≤ 100000 by omega, show (-100000 : Int) ≤ (n : Int) by omega, rng_map, show n ≤ 1000 by omega]
  rw [comp_map (fun i : Nat => PyData.int (i : Int)) (fun j => (decide (j < h) && decide (m ≠ .higher)) || (decide (h < j) && decide (m ≠ .lower))) (fun i : Nat => PyData.int (i : Int))]
  · simp [whomL]
  · intro j hj
    by_cases a : j < h
    · have a' : ¬ h < j := by omega
      cases m <;> simp [a, a', Wm.s]
    · by_cases b : h < j
      · cases m <;> simp [a, b, Wm.s]
      · cases m <;> simp [a, b, Wm.s]
def TRw.isLk : TRw → Bool
  | .wr _ _ => false
  | .lk _ _ _ _ => true
def adv (rs : List TRw) (h n : Nat) (x : Nat × Nat) : Bool := decide (0 < x.1) && match rs[x.1 - 1]? with
  | some r => r.isLk && decide (x.2 = cnt h n r)
  | none => false
def turn (rs : List TRw) (h n : Nat) (x : Nat × Nat) : Nat × Nat := if adv rs h n x then (x.1 + 1, 0) else x
def turns (rs : List TRw) (h n : Nat) : Nat → Nat × Nat → Nat × Nat
  | 0, x => x
  | k + 1, x => turn rs h n (turns rs h n k x)
def endAt (rs : List TRw) (x : Nat × Nat) : Nat := if rs.length < x.1 then 0 else x.1
abbrev stD (a l : Nat) (m : Bool) : PyData := .tuple [nI a, nI l, .bool m]
theorem settled_ok {t : Tm} (ht : t.Ok) {h n : Nat} (h1 : h < n) (h2 : n ≤ 4) (a l : Nat) (am : Bool) : m__law_settled [t.d, nI n, nI h, stD a l am] = some (stD (endAt t.rows (turns t.rows h n (t.rows.length + 1) (a, l))) (turns t.rows h n (t.rows.length + 1) (a, l)).2 am) := by
  have hn8 := ht.n8
  have e0 : rngD 0 ((t.rows.length : Int) + 1) = (List.range (t.rows.length + 1)).map fun i : Nat => PyData.int (i : Int) := rng_map (t.rows.length + 1)
  simp [m__law_settled, runV, F__law_settled, slots, show (t.rows.length : Int) + 1 ≤ 100000 by omega, show (-100000 : Int) ≤ (t.rows.length : Int) + 1 by omega, e0]
  generalize hL : loopF _ _ _ _ = L
  obtain ⟨ρ', rfl, o5, rfl⟩ := loop_use hL (fun i ρ => ∃ o5 : Option Sl, ρ = [some (.val t.d), some (.val (nI n)), some (.val (nI h)), some (.val (stD a l am)), some (.val (trD t.rows)), o5, some (.val (nI (turns t.rows h n i (a, l)).1)), some (.val (nI (turns t.rows h n i (a, l)).2)), some (.val (.bool am))]) ⟨none, rfl⟩ (by
    rintro i d ρ hi ⟨o5, rfl⟩
    show ∃ ρ1 ρ2, _ ∧ _ ∧ ∃ o5 : Option Sl, ρ2 = [some (.val t.d), some (.val (nI n)), some (.val (nI h)), some (.val (stD a l am)), some (.val (trD t.rows)), o5, some (.val (nI (turn t.rows h n (turns t.rows h n i (a, l))).1)), some (.val (nI (turn t.rows h n (turns t.rows h n i (a, l))).2)), some (.val (.bool am))]
    generalize turns t.rows h n i (a, l) = x
    obtain ⟨a', l'⟩ := x
    by_cases c1 : 0 < a'
    · cases hr : t.rows[a' - 1]? with
      | none =>
        have hl := List.getElem?_eq_none_iff.mp hr
        simp [turn, adv, c1, hr, show ¬ (a' ≤ t.rows.length) by omega]
      | some r =>
        have hl := lt_of_get hr
        have c2 : a' ≤ t.rows.length := by omega
        have c3 : (1 : Int) ≤ a' := by omega
        have c4 : ((a' : Int) - 1).toNat = a' - 1 := by omega
        cases r with
        | wr k v => simp [turn, adv, c1, c2, c3, c4, hr, TRw.isLk]
        | lk m k ns q =>
          by_cases c5 : l' = cnt h n (.lk m k ns q)
          · have c6 : l' = (whomL m h n).length := by rw [c5, whom_len m h1 h2]; rfl
            simp [turn, adv, c1, c2, c3, c4, hr, TRw.isLk, whom_ok m h1 h2, c5]
            simp [← c5, c6]
          · have c6 : ¬ l' = (whomL m h n).length := by rw [whom_len m h1 h2]; exact c5
            simp [turn, adv, c1, c2, c3, c4, hr, TRw.isLk, whom_ok m h1 h2, c5, c6]
    · have : a' = 0 := by omega
      subst this
      simp [turn, adv])
  simp [endAt]
  generalize turns t.rows h n (t.rows.length + 1) (a, l) = x
  by_cases c : t.rows.length < x.1 <;> simp [c]
/-- where a state may stand before it is settled -/
structure Pre (rs : List TRw) (h n a l : Nat) : Prop where
  a1 : 1 ≤ a
  an : a ≤ rs.length + 1
  last : a = rs.length + 1 → l = 0
  le : ∀ r, rs[a - 1]? = some r → l ≤ cnt h n r
  wr : ∀ r, rs[a - 1]? = some r → r.isLk = false → l < cnt h n r
def plc (rs : List TRw) (h n : Nat) (x : Nat × Nat) : Nat := pre rs h n (x.1 - 1) + 1 + x.2
theorem turn_pre {rs : List TRw} {h n : Nat} {x : Nat × Nat} (p : Pre rs h n x.1 x.2) : Pre rs h n (turn rs h n x).1 (turn rs h n x).2 ∧ plc rs h n (turn rs h n x) = plc rs h n x ∧ (adv rs h n x = true → (turn rs h n x).1 = x.1 + 1) ∧ (adv rs h n x = false → turn rs h n x = x) := by
  unfold turn
  cases ha : adv rs h n x with
  | false => simp [p]
  | true =>
    simp only [if_pos, true_implies]
    unfold adv at ha
    cases hr : rs[x.1 - 1]? with
    | none => simp [hr] at ha
    | some r =>
      simp [hr] at ha
      have hl := lt_of_get hr
      have p1 := p.a1
      have e := pre_succ (h := h) (n := n) hr
      rw [show x.1 - 1 + 1 = x.1 by omega] at e
      refine ⟨⟨by simp, by simp; omega, by simp, by simp, ?_⟩, ?_, by simp, by simp⟩
      · intro r' hr' hw
        cases r' with
        | wr k v => simp [cnt]
        | lk m k ns q => simp [TRw.isLk] at hw
      · simp [plc]
        omega
theorem turns_pre {rs : List TRw} {h n : Nat} {x : Nat × Nat} (p : Pre rs h n x.1 x.2) : ∀ k, Pre rs h n (turns rs h n k x).1 (turns rs h n k x).2 ∧ plc rs h n (turns rs h n k x) = plc rs h n x ∧ (adv rs h n (turns rs h n k x) = true → (turns rs h n k x).1 = x.1 + k)
  | 0 => ⟨p, rfl, fun _ => rfl⟩
  | k + 1 => by
    obtain ⟨p1, p2, p3⟩ := turns_pre p k
    obtain ⟨q1, q2, q3, q4⟩ := turn_pre p1
    refine ⟨q1, q2.trans p2, fun ha => ?_⟩
    show (turn rs h n (turns rs h n k x)).1 = _
    cases hb : adv rs h n (turns rs h n k x) with
    | true => rw [q3 hb, p3 hb]; omega
    | false =>
      have : adv rs h n (turn rs h n (turns rs h n k x)) = true := ha
      rw [q4 hb, hb] at this
      cases this
theorem settle_spec {rs : List TRw} {h n a l : Nat} (p : Pre rs h n a l) : let z := turns rs h n (rs.length + 1) (a, l); (endAt rs z = 0 ∧ pre rs h n (a - 1) + 1 + l = pre rs h n rs.length + 1) ∨ (∃ r, 1 ≤ endAt rs z ∧ rs[endAt rs z - 1]? = some r ∧ z.2 < cnt h n r ∧ pre rs h n (endAt rs z - 1) + 1 + z.2 = pre rs h n (a - 1) + 1 + l) := by
  intro z
  obtain ⟨p1, p2, p3⟩ := turns_pre (x := (a, l)) p (rs.length + 1)
  have hz : turns rs h n (rs.length + 1) (a, l) = z := rfl
  rw [hz] at p1 p2 p3
  have q1 := p1.a1
  have q2 := p1.an
  have q3 := p.a1
  have hna : adv rs h n z = false := by
    cases hb : adv rs h n z with
    | false => rfl
    | true => have : z.1 = a + (rs.length + 1) := p3 hb; omega
  unfold plc at p2
  dsimp only at p2
  by_cases c : rs.length < z.1
  · left
    have : z.1 = rs.length + 1 := by omega
    have e := p1.last this
    refine ⟨by simp [endAt, c], ?_⟩
    rw [this, e] at p2
    simp at p2
    omega
  · right
    have he : endAt rs z = z.1 := by simp [endAt, c]
    rw [he]
    obtain ⟨r, hr⟩ : ∃ r, rs[z.1 - 1]? = some r := ⟨rs[z.1 - 1]'(by omega), List.getElem?_eq_getElem _⟩
    refine ⟨r, q1, hr, ?_, p2⟩
    have hle := p1.le r hr
    have hwr := p1.wr r hr
    unfold adv at hna
    simp [hr] at hna
    cases hk : r.isLk with
    | false => exact hwr hk
    | true => 
      have := hna (by omega) hk
      omega
end K45

set_option Elab.async false
set_option linter.all false
set_option maxRecDepth 100000
set_option maxHeartbeats 1000000
/-! K45: one step on both sides. -/
namespace K45
open PySem PySem.Spec PyProof.Rows L2 Md
structure Sta where
  at_ : Nat
  looked : Nat
  amid : Bool
def Sta.d (s : Sta) : PyData := stD s.at_ s.looked s.amid
@[simp] theorem bTup_sta (s : Sta) (bs : FGs) (ρ : En) : bTup 3 bs s.d ρ = bs [nI s.at_, nI s.looked, .bool s.amid] ρ := rfl
@[simp] theorem dIx_sta0 (s : Sta) : dIx s.d (.int 0) = some (nI s.at_) := rfl
@[simp] theorem dIx_sta2 (s : Sta) : dIx s.d (.int 2) = some (.bool s.amid) := rfl
structure Mid (t : Tm) (h n s : Nat) (z : Sta) (r : TRw) : Prop where
  a1 : 1 ≤ z.at_
  row : t.rows[z.at_ - 1]? = some r
  lt : z.looked < cnt h n r
  eq : s = 2 * (pre t.rows h n (z.at_ - 1) + 1 + z.looked) + if z.amid then 1 else 0
  am : z.amid = true → ∃ k v x, r = .wr k v ∧ t.kinds[k]? = some x ∧ x.kind ≠ .whole
def Sim (t : Tm) (h n s : Nat) (z : Sta) : Prop := (z.at_ = 0 ∧ s = 0 ∧ z.amid = false) ∨ ∃ r, Mid t h n s z r
def Sta.settle (rs : List TRw) (h n : Nat) (z : Sta) : Sta := ⟨endAt rs (turns rs h n (rs.length + 1) (z.at_, z.looked)), (turns rs h n (rs.length + 1) (z.at_, z.looked)).2, z.amid⟩
theorem settle_sim {t : Tm} {h n a l c s : Nat} (p : Pre t.rows h n a l) (hc : pre t.rows h n (a - 1) + 1 + l = c) (hs : s = 2 * if c = pre t.rows h n t.rows.length + 1 then 0 else c) : Sim t h n s (Sta.settle t.rows h n ⟨a, l, false⟩) := by
  have q := settle_spec p
  dsimp only at q
  rcases q with ⟨q1, q2⟩ | ⟨r, q1, q2, q3, q4⟩
  · left
    rw [if_pos (by omega)] at hs
    exact ⟨q1, hs, rfl⟩
  · right
    refine ⟨r, q1, q2, q3, ?_, fun h => by cases h⟩
    have e := pre_succ (h := h) (n := n) q2
    have hl := lt_of_get q2
    have m := pre_mono t.rows h n (i := endAt t.rows (turns t.rows h n (t.rows.length + 1) (a, l)) - 1 + 1) (j := t.rows.length) (by omega)
    rw [if_neg (by omega)] at hs
    simp only [Sta.settle]
    rw [q4, hs, hc]
    rfl
theorem rows_at {t : Tm} {h n s : Nat} {z : Sta} {r : TRw} (m : Mid t h n s z r) : (progFor t h n).rows[s / 2 - 1]? = (expand t.kinds.length h n t.rows r)[z.looked]? := by
  have e := m.eq
  rw [show s / 2 - 1 = pre t.rows h n (z.at_ - 1) + z.looked by split at e <;> omega]
  exact rows_get m.row m.lt
theorem hands_get {t : Tm} {h n : Nat} (h1 : h < n) : (wayFor t n).hands[h]? = some (progFor t h n) := by
  simp [wayFor, h1]
theorem prog_len (t : Tm) (h n : Nat) : (progFor t h n).rows.length = pre t.rows h n t.rows.length := rows_len _ _ _ _
/-- what the law does to its own state -/
structure LawStep (t : Tm) (n : Nat) (zs : List Sta) (vs : List Nat) (h : Nat) (told : PyData) (z' : Sta) (vs' : List Nat) : Prop where
  eq : m__law_stepped [t.d, nI n, .list (zs.map Sta.d), nL vs, .tuple [nI h, told]] = some (.tuple [.list ((zs.set h z').map Sta.d), nL vs'])
theorem stepped_ok {t : Tm} (ht : t.Ok) {n : Nat} (hn : 2 ≤ n) (h2 : n ≤ 4) {sp vs : List Nat} {zs : List Sta} (hz : zs.length = n) (hv : vs.length = n * t.kinds.length) {h : Nat} (h1 : h < n) {z : Sta} (hzh : zs[h]? = some z) {s : Nat} (hsp : sp[h]? = some s) (sim : Sim t h n s z) {told : PyData} {sp' vs' : List Nat} (st : StepR (wayFor t n) sp vs h told sp' vs') : ∃ s' z', sp' = sp.set h s' ∧ Sim t h n s' z' ∧ vs'.length = vs.length ∧ m__law_stepped [t.d, nI n, .list (zs.map Sta.d), nL vs, .tuple [nI h, told]] = some (.tuple [.list ((zs.set h z').map Sta.d), nL vs']) := by
  have hn8 := ht.n8
  have hk2 := ht.k2
  have hwn := ht.wn
  have hw1 := ht.w1
  have se := fun a l am => settled_ok ht h1 h2 a l am
  have hwl := within_le ht h n
  have hnk : n * t.kinds.length ≤ 8 := Nat.mul_le_mul h2 hk2
  have hzg : zs[h]'(by omega) = z := (List.getElem?_eq_some_iff.mp hzh).2
  cases st with
  | start h0 _ =>
    rw [h0] at hsp
    cases hsp
    have ha : z.at_ = 0 := by
      rcases sim with ⟨q, _, _⟩ | ⟨r, m⟩
      · exact q
      · have := m.eq; split at this <;> omega
    obtain ⟨r0, hr0⟩ : ∃ r, t.rows[0]? = some r := ⟨t.rows[0]'(by omega), List.getElem?_eq_getElem _⟩
    refine ⟨2, Sta.settle t.rows h n ⟨1, 0, false⟩, rfl, settle_sim (c := 1) ⟨by omega, by omega, fun _ => rfl, fun _ _ => by omega, fun r hr hw => ?_⟩ (by simp [pre_zero]) (by rw [if_neg (by omega)]), rfl, ?_⟩
    · cases r with
      | wr k v => simp [cnt]
      | lk m k ns q => simp [TRw.isLk] at hw
    · have se1 : m__law_settled [t.d, nI n, nI h, .tuple [.int 1, .int 0, .bool false]] = some _ := se 1 0 false
      simp [m__law_stepped, runV, F__law_stepped, slots, hzh, hzg, ha, hz, h1, se1]
      simp [Sta.settle, Sta.d]
  | @hold p _ b v x hp ht' h3 hr hx hk ho =>
    rw [hsp] at ht'
    cases ht'
    rw [hands_get h1] at hp
    cases hp
    rcases sim with ⟨_, q, _⟩ | ⟨r, m⟩
    · omega
    · rw [rows_at m] at hr
      have meq := m.eq
      have ma1 := m.a1
      have mrow := m.row
      have mlt := lt_of_get mrow
      have hrow := ht.row _ _ mrow
      cases r with
      | lk m' k ns q =>
        obtain ⟨o, _, e⟩ := expand_get (nk := t.kinds.length) (rs := t.rows) m.lt
        rw [e] at hr
        cases hr
      | wr k v0 =>
        have ml := m.lt
        simp only [cnt] at ml
        have hl : z.looked = 0 := by omega
        rw [hl] at hr
        simp [expand] at hr
        obtain ⟨rfl, rfl⟩ := hr
        obtain ⟨x', hx', _⟩ := hrow
        have hx2 : (wayFor t n).boxes[h * t.kinds.length + k]? = t.kinds[k]? := boxes_get h1 (lt_of_get hx')
        rw [hx2, hx'] at hx
        cases hx
        have ham : z.amid = false := by
          cases e : z.amid with
          | false => rfl
          | true => rw [e] at meq; simp at meq; omega
        have c3 : (1 : Int) ≤ z.at_ := by omega
        have c4 : ((z.at_ : Int) - 1).toNat = z.at_ - 1 := by omega
        have c5 : ¬ z.at_ = 0 := by omega
        have pr : Pre t.rows h n z.at_ 0 := ⟨ma1, by omega, fun _ => rfl, fun _ _ => by omega, fun r hr hw => by rw [mrow] at hr; cases hr; simp [cnt]⟩
        refine ⟨s + 1, Sta.settle t.rows h n ⟨z.at_, 0, true⟩, rfl, ?_, rfl, ?_⟩
        · have q := settle_spec pr
          dsimp only at q
          have e := pre_succ (h := h) (n := n) mrow
          have mm := pre_mono t.rows h n (i := z.at_ - 1 + 1) (j := t.rows.length) (by omega)
          have ad : adv t.rows h n (z.at_, 0) = false := by simp [adv, mrow, TRw.isLk]
          have tz : ∀ j, turns t.rows h n j (z.at_, 0) = (z.at_, 0) := by
            intro j
            induction j with
            | zero => rfl
            | succ j ih => show turn _ _ _ (turns _ _ _ _ _) = _; rw [ih]; simp [turn, ad]
          right
          refine ⟨.wr k v0, ?_, ?_, ?_, ?_, ?_⟩
          · simp only [Sta.settle, tz, endAt]; rw [if_neg (by omega)]; exact ma1
          · simp only [Sta.settle, tz, endAt]; rw [if_neg (by omega)]; exact mrow
          · simp only [Sta.settle, tz, cnt]; omega
          · simp only [Sta.settle, tz, endAt]
            rw [if_neg (by omega)]
            rw [ham, hl] at meq
            simp at meq ⊢
            omega
          · intro _
            exact ⟨k, v0, x, rfl, hx', hk⟩
        · have se1 : m__law_settled [t.d, nI n, nI h, .tuple [nI z.at_, .int 0, .bool true]] = some _ := se z.at_ 0 true
          simp [m__law_stepped, runV, F__law_stepped, slots, hzh, hzg, c3, c4, c5, mrow, hx', hk, ham, hz, h1, se1]
          simp [Sta.settle, Sta.d]
  | @put p _ b v x hp ht' h3 hr hx hc =>
    rw [hsp] at ht'
    cases ht'
    rw [hands_get h1] at hp
    cases hp
    rcases sim with ⟨_, q, _⟩ | ⟨r, m⟩
    · omega
    · rw [rows_at m] at hr
      have meq := m.eq
      have ma1 := m.a1
      have mrow := m.row
      have mlt := lt_of_get mrow
      have hrow := ht.row _ _ mrow
      cases r with
      | lk m' k ns q =>
        obtain ⟨o, _, e⟩ := expand_get (nk := t.kinds.length) (rs := t.rows) m.lt
        rw [e] at hr
        cases hr
      | wr k v0 =>
        have ml := m.lt
        simp only [cnt] at ml
        have hl : z.looked = 0 := by omega
        rw [hl] at hr
        simp [expand] at hr
        obtain ⟨rfl, rfl⟩ := hr
        obtain ⟨x', hx', hvx⟩ := hrow
        have hkl := lt_of_get hx'
        have hx2 : (wayFor t n).boxes[h * t.kinds.length + k]? = t.kinds[k]? := boxes_get h1 hkl
        rw [hx2, hx'] at hx
        cases hx
        have c3 : (1 : Int) ≤ z.at_ := by omega
        have c4 : ((z.at_ : Int) - 1).toNat = z.at_ - 1 := by omega
        have c5 : ¬ z.at_ = 0 := by omega
        have hbl : h * t.kinds.length + k < n * t.kinds.length := by
          have := Nat.mul_le_mul_right t.kinds.length (show h + 1 ≤ n by omega)
          rw [Nat.succ_mul] at this
          omega
        have e := pre_succ (h := h) (n := n) mrow
        rw [show z.at_ - 1 + 1 = z.at_ by omega] at e
        simp only [cnt] at e
        have pr : Pre t.rows h n (z.at_ + 1) 0 := ⟨by omega, by omega, fun _ => rfl, fun _ _ => by omega, fun r hr hw => by
          cases r with
          | wr k v => simp [cnt]
          | lk m k ns q => simp [TRw.isLk] at hw⟩
        have hs2 : s / 2 = pre t.rows h n z.at_ := by rw [hl] at meq; split at meq <;> omega
        refine ⟨_, Sta.settle t.rows h n ⟨z.at_ + 1, 0, false⟩, rfl, settle_sim pr (by simp; rfl) ?_, by simp, ?_⟩
        · rw [hs2, nextP, prog_len]
          congr 1
          by_cases hh : pre t.rows h n z.at_ = pre t.rows h n t.rows.length
          · rw [if_pos hh, if_pos (by omega)]
          · rw [if_neg hh, if_neg (by omega)]
        · have se1 : m__law_settled [t.d, nI n, nI h, .tuple [.int ((z.at_ : Int) + 1), .int 0, .bool false]] = some _ := se (z.at_ + 1) 0 false
          have hcc : (x.kind ≠ .whole → z.amid = true) := by
            intro hk
            cases ea : z.amid with
            | true => rfl
            | false =>
              rw [ea] at meq
              simp at meq
              exact absurd ⟨hk, by omega⟩ hc
          have w1 : Md.cutD (vs.map nI) none (some ((h : Int) * (t.kinds.length : Int) + (k : Int))) = (vs.map nI).take (h * t.kinds.length + k) := by
            unfold Md.cutD
            rw [HT.sIx_none, show (h : Int) * (t.kinds.length : Int) + (k : Int) = ((h * t.kinds.length + k : Nat) : Int) by simp, HT.sIx_nat, List.drop_zero]
            rw [List.length_map, Nat.min_eq_left (by omega)]
            rfl
          have w2 : Md.cutD (vs.map nI) (some ((h : Int) * (t.kinds.length : Int) + (k : Int) + 1)) none = (vs.map nI).drop (h * t.kinds.length + k + 1) := by
            unfold Md.cutD
            rw [HT.sIx_none, show (h : Int) * (t.kinds.length : Int) + (k : Int) + 1 = ((h * t.kinds.length + k + 1 : Nat) : Int) by simp, HT.sIx_nat, Nat.min_eq_left (by simp; omega)]
            exact List.take_of_length_le (by simp)
          have w3 : (vs.map nI).set (h * t.kinds.length + k) (nI v0) = (vs.map nI).take (h * t.kinds.length + k) ++ nI v0 :: (vs.map nI).drop (h * t.kinds.length + k + 1) := by
            rw [List.set_eq_take_append_cons_drop, if_pos (by rw [List.length_map]; omega)]
          generalize h * t.kinds.length + k = B at *
          have w4 : min B vs.length ≤ 999 := by omega
          have w5 : min B vs.length + 1 + (vs.length - (B + 1)) ≤ 1000 := by omega
          by_cases hk : x.kind = .whole
          · simp [m__law_stepped, runV, F__law_stepped, slots, hzh, hzg, c3, c4, c5, mrow, hx', hk, hz, h1, se1, show h ≤ 100 by omega, w1, w2, w4, w5]
            simp [Sta.settle, Sta.d, w3]
          · simp [m__law_stepped, runV, F__law_stepped, slots, hzh, hzg, c3, c4, c5, mrow, hx', hk, hcc hk, hz, h1, se1, show h ≤ 100 by omega, w1, w2, w4, w5]
            simp [Sta.settle, Sta.d, w3]
  | @look p _ b q ns td hp ht' h3 hr =>
    rw [hsp] at ht'
    cases ht'
    rw [hands_get h1] at hp
    cases hp
    rcases sim with ⟨_, q', _⟩ | ⟨r, m⟩
    · omega
    · rw [rows_at m] at hr
      have meq := m.eq
      have ma1 := m.a1
      have mrow := m.row
      have mlt := lt_of_get mrow
      have hrow := ht.row _ _ mrow
      cases r with
      | wr k v0 =>
        have := List.mem_of_getElem? hr
        simp [expand] at this
      | lk m' k ns' q' =>
        obtain ⟨o, _, e⟩ := expand_get (nk := t.kinds.length) (rs := t.rows) m.lt
        rw [e] at hr
        cases hr
        obtain ⟨g1, g2, g3, _⟩ := hrow
        have ml := m.lt
        have ham : z.amid = false := by
          cases e : z.amid with
          | false => rfl
          | true =>
            obtain ⟨_, _, _, h, _⟩ := m.am e
            cases h
        rw [ham] at meq
        simp at meq
        have c3 : (1 : Int) ≤ z.at_ := by omega
        have c4 : ((z.at_ : Int) - 1).toNat = z.at_ - 1 := by omega
        have c5 : ¬ z.at_ = 0 := by omega
        have e := pre_succ (h := h) (n := n) mrow
        rw [show z.at_ - 1 + 1 = z.at_ by omega] at e
        have mm := pre_mono t.rows h n (i := z.at_) (j := t.rows.length) (by omega)
        have mq := pre_mono t.rows h n (i := q' - 1) (j := t.within - 1) (by omega)
        by_cases hin : td ∈ ns
        · have pr : Pre t.rows h n z.at_ (z.looked + 1) := ⟨ma1, by omega, by omega, fun r hr => by rw [mrow] at hr; cases hr; omega, fun r hr hw => by rw [mrow] at hr; cases hr; cases hw⟩
          refine ⟨_, Sta.settle t.rows h n ⟨z.at_, z.looked + 1, false⟩, rfl, settle_sim pr rfl ?_, rfl, ?_⟩
          · rw [if_pos hin, nextP, prog_len]
            congr 1
            have hs2 : s / 2 = pre t.rows h n (z.at_ - 1) + 1 + z.looked := by omega
            by_cases hh : s / 2 = pre t.rows h n t.rows.length
            · rw [if_pos hh, if_pos (by omega)]
            · rw [if_neg hh, if_neg (by omega)]
              omega
          · have se1 : m__law_settled [t.d, nI n, nI h, .tuple [nI z.at_, .int ((z.looked : Int) + 1), .bool false]] = some _ := se z.at_ (z.looked + 1) false
            simp [m__law_stepped, runV, F__law_stepped, slots, hzh, hzg, c3, c4, c5, mrow, ham, hz, h1, se1, inD_nums, hin]
            simp [Sta.settle, Sta.d]
        · have pr : Pre t.rows h n q' 0 := ⟨g2, by omega, fun _ => rfl, fun _ _ => by omega, fun r hr hw => by
            cases r with
            | wr k v => simp [cnt]
            | lk m k ns q => simp [TRw.isLk] at hw⟩
          refine ⟨_, Sta.settle t.rows h n ⟨q', 0, false⟩, rfl, settle_sim pr rfl ?_, rfl, ?_⟩
          · rw [if_neg hin, if_neg (by omega)]
            omega
          · have se1 : m__law_settled [t.d, nI n, nI h, .tuple [nI q', .int 0, .bool false]] = some _ := se q' 0 false
            simp [m__law_stepped, runV, F__law_stepped, slots, hzh, hzg, c3, c4, c5, mrow, ham, hz, h1, se1, inD_nums, hin]
            simp [Sta.settle, Sta.d]
end K45

set_option Elab.async false
set_option linter.all false
set_option maxRecDepth 100000
set_option maxHeartbeats 1000000
/-! K45: the forty steps. -/
namespace K45
open PySem PySem.Spec PyProof.Rows L2 Md
theorem part_same {t : Tm} (ht : t.Ok) {h n s : Nat} {z : Sta} (sim : Sim t h n s z) : m__law_part [t.d, nI z.at_] = some (.str (partS (progFor t h n).door (progFor t h n).within (s / 2))) := by
  rcases sim with ⟨ha, hs, _⟩ | ⟨r, m⟩
  · subst hs
    simp [m__law_part, runV, F__law_part, slots, ha, partS]
  · have meq := m.eq
    have ma1 := m.a1
    have ml := m.lt
    have hw1 := ht.w1
    have hdw := ht.dw
    have e := pre_succ (h := h) (n := n) m.row
    rw [show z.at_ - 1 + 1 = z.at_ by omega] at e
    have hs2 : s / 2 = pre t.rows h n (z.at_ - 1) + 1 + z.looked := by split at meq <;> omega
    show _ = some (PyData.str (partS (pre t.rows h n t.door) (1 + pre t.rows h n (t.within - 1)) (s / 2)))
    rw [hs2]
    unfold partS
    rw [if_neg (by omega)]
    have c0 : ¬ z.at_ = 0 := by omega
    by_cases c1 : t.within ≤ z.at_
    · have m1 := pre_mono t.rows h n (i := t.door) (j := z.at_ - 1) (by omega)
      have m2 := pre_mono t.rows h n (i := t.within - 1) (j := z.at_ - 1) (by omega)
      rw [if_neg (by omega), if_neg (by omega)]
      by_cases c2 : t.within < z.at_
      · have m3 := pre_mono t.rows h n (i := t.within) (j := z.at_ - 1) (by omega)
        obtain ⟨k, v, hr⟩ := within_wr ht
        have e2 := pre_succ (h := h) (n := n) hr
        rw [show t.within - 1 + 1 = t.within by omega] at e2
        simp only [cnt] at e2
        rw [if_neg (by omega)]
        simp [m__law_part, runV, F__law_part, slots, c0, c1, c2]
      · have c3 : z.at_ = t.within := by omega
        obtain ⟨k, v, hr⟩ := within_wr ht
        rw [← c3, m.row] at hr
        cases hr
        simp only [cnt] at ml
        rw [if_pos (by rw [c3]; omega)]
        simp [m__law_part, runV, F__law_part, slots, c0, c1, c2]
    · have m1 := pre_mono t.rows h n (i := z.at_) (j := t.within - 1) (by omega)
      by_cases c2 : z.at_ ≤ t.door
      · have m2 := pre_mono t.rows h n (i := z.at_) (j := t.door) (by omega)
        rw [if_pos (by omega)]
        simp [m__law_part, runV, F__law_part, slots, c0, c1, show ¬ (t.door < z.at_) by omega]
      · have m2 := pre_mono t.rows h n (i := t.door) (j := z.at_ - 1) (by omega)
        rw [if_neg (by omega), if_pos (by omega)]
        simp [m__law_part, runV, F__law_part, slots, c0, c1, show t.door < z.at_ by omega]
theorem sim_spot {t : Tm} (ht : t.Ok) {h n s : Nat} (h1 : h < n) {z : Sta} (sim : Sim t h n s z) : SpotOk (wayFor t n).boxes (progFor t h n) s := by
  rcases sim with ⟨ha, hs, _⟩ | ⟨r, m⟩
  · subst hs
    exact ⟨by omega, by omega, by omega⟩
  · have meq := m.eq
    have ma1 := m.a1
    have ml := m.lt
    have e := pre_succ (h := h) (n := n) m.row
    have hl := lt_of_get m.row
    have m1 := pre_mono t.rows h n (i := z.at_ - 1 + 1) (j := t.rows.length) (by omega)
    refine ⟨?_, ?_, ?_⟩
    · rw [prog_len]
      split at meq <;> omega
    · split at meq <;> omega
    · intro ho
      cases ea : z.amid with
      | false => rw [ea] at meq; simp at meq; omega
      | true =>
        obtain ⟨k, v, x, rfl, hx, hk⟩ := m.am ea
        refine ⟨h * t.kinds.length + k, v, x, ?_, ?_, hk⟩
        · rw [rows_at m]
          simp only [cnt] at ml
          rw [show z.looked = 0 by omega]
          rfl
        · rw [← hx]
          exact boxes_get h1 (lt_of_get hx)
theorem sim_odd {t : Tm} {h n s : Nat} {z : Sta} (sim : Sim t h n s z) : decide ((s : Int) % 2 = 1) = z.amid := by
  rcases sim with ⟨ha, hs, e⟩ | ⟨r, m⟩
  · subst hs
    rw [e]; rfl
  · have meq := m.eq
    cases ea : z.amid with
    | false => rw [ea] at meq; simp at meq; simp; omega
    | true => rw [ea] at meq; simp at meq; simp; omega
theorem ne_self (vs : List Nat) : dNe (nL vs) (nL vs) = some (.bool false) := by
  have a1 : ∀ vs : List Nat, PyData.canLayAll0 (vs.map nI) = true := fun vs => by
    induction vs with
    | nil => simp [PyData.canLayAll0]
    | cons v vs ih => simp [PyData.canLayAll0, PyData.canLay0, ih]
  have a2 : ∀ vs : List Nat, PyData.depthAll (vs.map nI) ≤ 63 := fun vs => by
    induction vs with
    | nil => simp [PyData.depthAll]
    | cons v vs ih => simp [PyData.depthAll, PyData.depth, ih]
  have a3 : ∀ vs : List Nat, PyData.eqvAll (vs.map nI) (vs.map nI) = true := fun vs => by
    induction vs with
    | nil => simp [PyData.eqvAll]
    | cons v vs ih => simp [PyData.eqvAll, PyData.eqv, ih]
  have h1 : SeqAt.shaped (nL vs) = true := by
    have := a2 vs
    simp [SeqAt.shaped, PyData.canLay0, PyData.depth, a1 vs, this]
  have h3 : PyData.eqv (nL vs) (nL vs) = true := by simp [PyData.eqv, a3 vs]
  unfold dNe eqD
  dsimp only
  rw [if_pos ⟨h1, h1⟩, h3]
  rfl
structure Inv (t : Tm) (n : Nat) (sp vs : List Nat) (zs : List Sta) : Prop where
  ls : sp.length = n
  lv : vs.length = n * t.kinds.length
  lz : zs.length = n
  sim : ∀ (h s : Nat) (z : Sta), sp[h]? = some s → zs[h]? = some z → Sim t h n s z
  val : ∀ (i : Nat) (b : Bx) (v : Nat), (wayFor t n).boxes[i]? = some b → vs[i]? = some v → v < b.size
theorem Inv.sd {t : Tm} (ht : t.Ok) {n : Nat} {sp vs : List Nat} {zs : List Sta} (q : Inv t n sp vs zs) : SdOk (wayFor t n) sp vs := by
  have hh : (wayFor t n).hands.length = n := by simp [wayFor]
  refine ⟨by rw [hh]; exact q.ls, by rw [q.lv]; exact (boxes_len n t.kinds).symm, fun i p s hp hs => ?_, q.val⟩
  have hi := lt_of_get hp
  rw [hh] at hi
  rw [hands_get hi] at hp
  cases hp
  have hz := q.lz
  exact sim_spot ht hi (q.sim i s (zs[i]'(by omega)) hs (List.getElem?_eq_getElem _))
theorem law_take_ok {x k : Int} (h1 : 0 < k) (h2 : k < 1073741824) : m__law_take [.int x] [.int k] = some (.int (x % k), [.int (x / k)]) := by
  show (if 0 < k ∧ k < 1073741824 then some (PyData.int (x % k), [PyData.int (x / k)]) else none) = _
  rw [if_pos ⟨h1, h2⟩]
theorem Inv.step {t : Tm} (ht : t.Ok) {n : Nat} (hn : 2 ≤ n) (h2 : n ≤ 4) {sp vs : List Nat} {zs : List Sta} (q : Inv t n sp vs zs) {h : Nat} (h1 : h < n) {told : PyData} {sp' vs' : List Nat} (st : StepR (wayFor t n) sp vs h told sp' vs') : ∃ zs', Inv t n sp' vs' zs' ∧ m__law_stepped [t.d, nI n, .list (zs.map Sta.d), nL vs, .tuple [nI h, told]] = some (.tuple [.list (zs'.map Sta.d), nL vs']) := by
  have hls := q.ls
  have hlz := q.lz
  have hs : sp[h]? = some (sp[h]'(by omega)) := List.getElem?_eq_getElem _
  have hz : zs[h]? = some (zs[h]'(by omega)) := List.getElem?_eq_getElem _
  obtain ⟨s', z', e1, e2, e3, e4⟩ := stepped_ok ht hn h2 q.lz q.lv h1 hz hs (q.sim h _ _ hs hz) st
  refine ⟨_, ⟨?_, ?_, ?_, ?_, ?_⟩, e4⟩
  · rw [e1, List.length_set]; exact hls
  · rw [e3]; exact q.lv
  · rw [List.length_set]; exact hlz
  · intro i s z a b
    rw [e1] at a
    rw [List.getElem?_set] at a b
    by_cases hi : h = i
    · subst hi
      rw [if_pos rfl, if_pos (by omega)] at a b
      cases a
      cases b
      exact e2
    · rw [if_neg hi] at a b
      exact q.sim i s z a b
  · cases st with
    | start _ _ => exact q.val
    | hold _ _ _ _ _ _ _ => exact q.val
    | look _ _ _ _ _ => exact q.val
    | @put p t' b v x hp ht' h3 hr hx hc =>
      intro i bx u hb hu
      have hok := ((way_ok ht hn h2).hand p (List.mem_of_getElem? hp)).row _ (List.mem_of_getElem? hr)
      obtain ⟨x', hx', hv⟩ := hok
      rw [List.getElem?_set] at hu
      by_cases hi : b = i
      · subst hi
        rw [hx'] at hb
        cases hb
        have hl := lt_of_get hx'
        rw [if_pos rfl] at hu
        split at hu
        · cases hu
          exact hv
        · cases hu
      · rw [if_neg hi] at hu
        exact q.val i bx u hb hu
theorem law_right_ok {t : Tm} (ht : t.Ok) {n : Nat} (hn : 2 ≤ n) (h2 : n ≤ 4) (x : Int) : ∃ x' : Int, m__law_right [.int x] [t.d, nI n] = some (.bool true, [.int x']) := by
  have hw := way_ok ht hn h2
  have hk1 := ht.k1
  have hk2 := ht.k2
  have hh : (wayFor t n).hands.length = n := by simp [wayFor]
  have f1 := way_for_ok ht hn h2
  have f2 := first_standing_ok hw (by rw [hh]; exact hn)
  rw [hh] at f2
  have g1 : (n : Int) ≤ 1000 := by omega
  have g2 : t.kinds.length ≤ 1000 := by omega
  have g3 : (2 : Int) ≤ n := by omega
  have g4 : ¬ t.kinds = [] := by intro h0; rw [h0] at hk1; simp at hk1
  have g5 : (n : Int) ≤ 100000 := by omega
  have g6 : (-100000 : Int) ≤ n := by omega
  generalize hM : m__law_right [.int x] [t.d, nI n] = M
  simp [m__law_right, runO, F__law_right, slots, f1, f2, g1, g2, g3, g4, wipeE, hide] at hM
  rw [comp_all Bx.d (fun b => nI b.start)] at hM
  rotate_left
  · intro b hb
    simp
  simp [g1, g2, g3, g4] at hM
  generalize hL : loopF _ _ _ _ = L at hM
  have e1 : (List.replicate n (PyData.tuple [PyData.int 0, PyData.int 0, PyData.bool false])) = (List.replicate n (Sta.mk 0 0 false)).map Sta.d := by
    rw [List.map_replicate]; rfl
  have e2 : (List.replicate n (t.kinds.map fun b => nI b.start)).flatten = ((wayFor t n).boxes.map Bx.start).map nI := by
    simp [wayFor, List.map_flatten]
    rfl
  rw [e1, e2] at hL
  have inv0 : Inv t n (List.replicate n 0) ((wayFor t n).boxes.map Bx.start) (List.replicate n (Sta.mk 0 0 false)) := by
    refine ⟨by simp, by rw [List.length_map]; exact boxes_len n t.kinds, by simp, ?_, ?_⟩
    · intro h s z hs hz
      have a := List.mem_of_getElem? hs
      have b := List.mem_of_getElem? hz
      simp at a b
      rw [a.2, b.2]
      exact .inl ⟨rfl, rfl, rfl⟩
    · intro i b v hb hv
      rw [List.getElem?_map, hb] at hv
      cases hv
      exact (hw.box b (List.mem_of_getElem? hb)).st
  obtain ⟨ρ', rfl, x', sp, vs, zs, o7, o8, o9, o10, rfl, q⟩ := loop_use hL (fun i ρ => ∃ (x : Int) (sp vs : List Nat) (zs : List Sta) (o7 o8 o9 o10 : Option Sl), ρ = [some (.own [.int x]), some (.val t.d), some (.val (nI n)), some (.val (wayFor t n).d), some (.val (sdD sp vs)), some (.val (.list (zs.map Sta.d))), some (.val (nL vs)), o7, o8, o9, o10, none] ∧ Inv t n sp vs zs) ⟨x, _, _, _, _, _, _, _, rfl, inv0⟩ (by
    rintro i d ρ hi ⟨x, sp, vs, zs, o7, o8, o9, o10, rfl, q⟩
    obtain ⟨ds, s1, s2, s3, s4⟩ := steps_from_ok hw (q.sd ht)
    have hpos : 0 < ds.length := List.length_pos_iff.mpr s1
    have p1 : (0 : Int) < ds.length := by omega
    have p2 : (ds.length : Int) < 1073741824 := by omega
    have p3 : 0 ≤ x % (ds.length : Int) := Int.emod_nonneg _ (by omega)
    have p4 : x % (ds.length : Int) < ds.length := Int.emod_lt_of_pos _ p1
    have p5 : (x % (ds.length : Int)).toNat < ds.length := by omega
    obtain ⟨k, hk, told, sp', vs', hd, st⟩ := s4 (ds[(x % (ds.length : Int)).toNat]) (List.getElem_mem p5)
    rw [hh] at hk
    have p6 : ds[(x % (ds.length : Int)).toNat]? = some (.tuple [.tuple [nI k, told], sdD sp' vs']) := by
      rw [List.getElem?_eq_getElem p5, hd]
    obtain ⟨zs', q', e⟩ := q.step ht hn h2 hk st
    refine ⟨_, [some (.own [.int (x / ds.length)]), some (.val t.d), some (.val (nI n)), some (.val (wayFor t n).d), some (.val (sdD sp' vs')), some (.val (.list (zs'.map Sta.d))), some (.val (nL vs')), some (.val d), some (.val (.tuple ds)), some (.val (nI (n - 1))), some (.val (.tuple [nI k, told])), none], rfl, ?_, _, sp', vs', zs', _, _, _, _, rfl, q'⟩
    have p7 : (ds[(x % (ds.length : Int)).toNat]'p5) = .tuple [.tuple [nI k, told], sdD sp' vs'] := hd
    have tk : m__law_take [.int x] [.int (ds.length : Int)] = some (.int (x % ds.length), [.int (x / ds.length)]) := law_take_ok p1 p2
    simp [s3, tk, p3, p6, p7, e, ne_self, g5, g6, rng_map]
    generalize hL2 : loopF _ _ _ _ = L2
    obtain ⟨ρ2, rfl, o9', rfl, h9⟩ := loop_use hL2 (fun j ρ => ∃ (o9 : Option Sl), ρ = [some (.own [.int (x / ds.length)]), some (.val t.d), some (.val (nI n)), some (.val (wayFor t n).d), some (.val (sdD sp' vs')), some (.val (.list (zs'.map Sta.d))), some (.val (nL vs')), some (.val d), some (.val (.tuple ds)), o9, some (.val (.tuple [nI k, told])), none] ∧ (0 < j → o9 = some (.val (nI (j - 1))))) ⟨o9, rfl, by simp⟩ (by
      rintro i d ρ hi ⟨o9, rfl, _⟩
      simp at hi
      obtain ⟨j, hj, rfl⟩ := hi
      obtain ⟨hj, rfl⟩ := range_get hj
      have lz := q'.lz
      have ls := q'.ls
      have hz : zs'[j]? = some (zs'[j]'(by omega)) := List.getElem?_eq_getElem _
      have hs : sp'[j]? = some (sp'[j]'(by omega)) := List.getElem?_eq_getElem _
      have sim := q'.sim j _ _ hs hz
      generalize zs'[j]'(by omega) = z at *
      generalize sp'[j]'(by omega) = s at *
      have a1 := part_at_ok hw (k := j) (n := s / 2) (hands_get hj) (by have := (sim_spot ht hj sim).hi; omega)
      have a2 := part_same ht sim
      have a3 := sim_odd sim
      have a4 : PyData.int ((s : Int) / 2) = nI (s / 2) := by simp
      refine ⟨_, _, rfl, ?_, some (.val (nI j)), rfl, fun _ => rfl⟩
      simp [hz, hs, a4, a1, a2, a3])
    simp at h9
    simp [h9 (by omega)])
  simp at hM
  exact ⟨x', by rw [← hM]; rfl⟩
end K45

set_option Elab.async false
set_option linter.all false
set_option maxRecDepth 100000
set_option maxHeartbeats 1000000
/-! K45: the drawn template, the packs, the law. -/
namespace K45
open PySem PySem.Spec PyProof.Rows L2 Md
def dig (x : Int) (m : Nat) : Nat := (x % (m : Int)).toNat
theorem dig_lt (x : Int) {m : Nat} (h : 1 ≤ m) : dig x m < m := by
  unfold dig
  have a := Int.emod_nonneg x (b := (m : Int)) (by omega)
  have b := Int.emod_lt_of_pos x (b := (m : Int)) (by omega)
  omega
theorem tk (x : Int) {m : Nat} (h : 1 ≤ m) (h2 : m ≤ 100) : m__law_take [.int x] [.int (m : Int)] = some (nI (dig x m), [.int (x / (m : Int))]) := by
  rw [law_take_ok (by omega) (by omega)]
  have a := Int.emod_nonneg x (b := (m : Int)) (by omega)
  unfold dig nI
  rw [Int.toNat_of_nonneg a]
theorem tk2 (x : Int) : m__law_take [.int x] [.int 2] = some (nI (dig x 2), [.int (x / 2)]) := tk x (m := 2) (by omega) (by omega)
theorem tk3 (x : Int) : m__law_take [.int x] [.int 3] = some (nI (dig x 3), [.int (x / 3)]) := tk x (m := 3) (by omega) (by omega)
theorem tk4 (x : Int) : m__law_take [.int x] [.int 4] = some (nI (dig x 4), [.int (x / 4)]) := tk x (m := 4) (by omega) (by omega)
theorem tk5 (x : Int) : m__law_take [.int x] [.int 5] = some (nI (dig x 5), [.int (x / 5)]) := tk x (m := 5) (by omega) (by omega)
theorem tk8 (x : Int) : m__law_take [.int x] [.int 8] = some (nI (dig x 8), [.int (x / 8)]) := tk x (m := 8) (by omega) (by omega)
theorem numbers_ok (x : Int) {s : Nat} (h1 : 2 ≤ s) (h2 : s ≤ 5) : ∃ ns x', Nums ns s ∧ m__law_numbers [.int x] [nI s] = some (nL ns, [.int x']) := by
  have hp : (2 : Int) ^ s = ((2 ^ s : Nat) : Int) := by simp
  have hb : 2 ^ s ≤ 32 := Nat.pow_le_pow_right (n := 2) (by omega) h2
  have hb1 : 1 ≤ 2 ^ s := Nat.one_le_two_pow
  have e := tk x hb1 (by omega)
  generalize 2 ^ s = B at *
  refine ⟨(List.range s).filter (fun j : Nat => decide (Builtin.bitAnd ((dig x B : Int) / 2 ^ j) 1 = 1)), x / (B : Int), ⟨List.pairwise_lt_range.filter _, fun n hn => List.mem_range.mp (List.mem_filter.mp hn).1, Nat.le_trans (List.length_filter_le _ _) (by simp)⟩, ?_⟩
  simp [m__law_numbers, runO, F__law_numbers, slots, hp, e, show (s : Int) ≤ 1000000 by omega, show (s : Int) ≤ 100000 by omega, show (-100000 : Int) ≤ (s : Int) by omega, rng_map, wipeE, hide, show s ≤ 1000 by omega]
  rw [comp_map (fun i : Nat => PyData.int (i : Int)) (fun j : Nat => decide (Builtin.bitAnd ((dig x B : Int) / 2 ^ j) 1 = 1)) (fun i : Nat => PyData.int (i : Int))]
  · simp [own0]
  · intro j hj
    by_cases c : Builtin.bitAnd ((dig x B : Int) / 2 ^ j) 1 = 1 <;> simp [c]
theorem size_get {d : Nat} (h : d < 4) : ∃ s : Nat, 2 ≤ s ∧ s ≤ 5 ∧ ([.int 2, .int 2, .int 3, .int 5] : List PyData)[d]? = some (nI s) := by
  have : d = 0 ∨ d = 1 ∨ d = 2 ∨ d = 3 := by omega
  rcases this with rfl | rfl | rfl | rfl
  · exact ⟨2, by omega, by omega, rfl⟩
  · exact ⟨2, by omega, by omega, rfl⟩
  · exact ⟨3, by omega, by omega, rfl⟩
  · exact ⟨5, by omega, by omega, rfl⟩
theorem kind_get {d : Nat} (h : d < 3) : ∃ k : Kd, ([.str "whole", .str "either", .str "torn"] : List PyData)[d]? = some (.str k.s) := by
  have : d = 0 ∨ d = 1 ∨ d = 2 := by omega
  rcases this with rfl | rfl | rfl
  · exact ⟨.whole, rfl⟩
  · exact ⟨.either, rfl⟩
  · exact ⟨.torn, rfl⟩
theorem whom_get {d : Nat} (h : d < 3) : ∃ k : Wm, ([.str "others", .str "lower", .str "higher"] : List PyData)[d]? = some (.str k.s) := by
  have : d = 0 ∨ d = 1 ∨ d = 2 := by omega
  rcases this with rfl | rfl | rfl
  · exact ⟨.others, rfl⟩
  · exact ⟨.lower, rfl⟩
  · exact ⟨.higher, rfl⟩
theorem template_ok (x : Int) : ∃ t x', Tm.Ok t ∧ m__law_template [.int x] [] = some (t.d, [.int x']) := by
  have d2 := dig_lt x (m := 2) (by omega)
  obtain ⟨n1, hn1⟩ : ∃ n1 : Nat, (1 : Int) + (dig x 2 : Int) = (n1 : Int) := ⟨1 + dig x 2, by simp⟩
  have n1a : 1 ≤ n1 := by omega
  have n1b : n1 ≤ 2 := by omega
  generalize hM : m__law_template [.int x] [] = M
  simp [m__law_template, runO, F__law_template, slots, tk2, hn1, show (n1 : Int) ≤ 100000 by omega, show (-100000 : Int) ≤ (n1 : Int) by omega, rng_map] at hM
  generalize hL : loopF _ _ _ _ = L at hM
  obtain ⟨ρ', rfl, x1, ks, o2, o9, rfl, k1, k2⟩ := loop_use hL (fun i ρ => ∃ (x : Int) (ks : List Bx) (o2 o9 : Option Sl), ρ = [some (.own [.int x]), some (.own (ks.map Bx.d)), o2, none, none, none, none, none, none, o9, none, none, none] ∧ ks.length = i ∧ ∀ b ∈ ks, b.Ok) ⟨_, [], _, _, rfl, rfl, by simp⟩ (by
    rintro i d ρ hi ⟨x, ks, o2, o9, rfl, k1, k2⟩
    simp at hi
    obtain ⟨j, hj, rfl⟩ := hi
    obtain ⟨hj, rfl⟩ := range_get hj
    obtain ⟨s, s1, s2, es⟩ := size_get (dig_lt x (m := 4) (by omega))
    obtain ⟨kd, ek⟩ := kind_get (dig_lt (x / 4) (m := 3) (by omega))
    have e3 := tk (x / 4 / 3) (m := s) (by omega) (by omega)
    refine ⟨_, [some (.own [.int (x / 4 / 3 / (s : Int))]), some (.own ((ks ++ [Bx.mk kd s (dig (x / 4 / 3) s)]).map Bx.d)), some (.val (nI j)), none, none, none, none, none, none, some (.val (nI s)), none, none, none], rfl, ?_, _, _, _, _, rfl, ?_, ?_⟩
    · simp [tk4, es, tk3, ek, e3, show ks.length < 1000 by omega]
      rfl
    · simp [k1]
    · intro b hb
      rcases List.mem_append.mp hb with hb | hb
      · exact k2 b hb
      · simp at hb
        subst hb
        exact ⟨s1, s2, dig_lt _ (by omega)⟩)
  simp at k1
  have d8 := dig_lt x1 (m := 8) (by omega)
  obtain ⟨m, hm⟩ : ∃ m : Nat, (1 : Int) + (dig x1 8 : Int) = (m : Int) := ⟨1 + dig x1 8, by simp⟩
  have m1 : 1 ≤ m := by omega
  have m8 : m ≤ 8 := by omega
  have e1 := tk (x1 / 8) m1 (by omega)
  have dw := dig_lt (x1 / 8) m1
  obtain ⟨w, hw⟩ : ∃ w : Nat, (1 : Int) + (dig (x1 / 8) m : Int) = (w : Int) := ⟨1 + dig (x1 / 8) m, by simp⟩
  have w1 : 1 ≤ w := by omega
  have wm : w ≤ m := by omega
  have e2 := tk (x1 / 8 / (m : Int)) w1 (by omega)
  have dd := dig_lt (x1 / 8 / (m : Int)) w1
  have hleft : (16 : Int) - (m : Int) = ((16 - m : Nat) : Int) := by omega
  have hr : rngD 1 ((m : Int) + 1) = (List.range' 1 m).map fun i : Nat => PyData.int (i : Int) := rng_map2 1 (m + 1)
  simp [tk8, hm, e1, hw, e2, hleft, show (0 : Int) ≤ (m : Int) + 1 by omega, show (m : Int) + 1 ≤ 100000 by omega, hr] at hM
  generalize hL2 : loopF _ _ _ _ = L2 at hM
  generalize dig (x1 / 8 / (m : Int)) w = dr at *
  obtain ⟨ρ', rfl, x2, rs, left, o8, o9, o10, o11, o12, rfl, r1, r2, r3⟩ := loop_use hL2 (fun i ρ => ∃ (x : Int) (rs : List TRw) (left : Nat) (o8 o9 o10 o11 o12 : Option Sl), ρ = [some (.own [.int x]), some (.own (ks.map Bx.d)), o2, some (.val (nI m)), some (.val (nI w)), some (.val (nI dr)), some (.own (rs.map TRw.d)), some (.val (nI left)), o8, o9, o10, o11, o12] ∧ rs.length = i ∧ (rs.map TRw.cost).sum + m + left = 16 + i ∧ ∀ (j : Nat) (r : TRw), rs[j]? = some r → r.Ok ks w j) ⟨_, [], 16 - m, _, _, _, _, _, rfl, rfl, by simp; omega, by simp⟩ (by
    rintro i d ρ hi ⟨x, rs, left, o8, o9, o10, o11, o12, rfl, r1, r2, r3⟩
    simp at hi
    obtain ⟨j, hj, rfl⟩ := hi
    have hjl := lt_of_get hj
    rw [List.length_range'] at hjl
    rw [List.getElem?_range' hjl] at hj
    have hj := Option.some.inj hj
    simp at hj
    subst hj
    have c1 : 1 ≤ ks.length := by omega
    have c2 : ks.length ≤ 2 := by omega
    have e4 := tk (x / 3) (m := ks.length) c1 (by omega)
    have dk := dig_lt (x / 3) (m := ks.length) c1
    obtain ⟨kx, hkx⟩ : ∃ kx, ks[dig (x / 3) ks.length]? = some kx := ⟨_, List.getElem?_eq_getElem dk⟩
    have kok := k2 kx (List.mem_of_getElem? hkx)
    have klo := kok.lo
    have khi := kok.hi
    generalize dig (x / 3) ks.length = kk at *
    have hrl : rs.length < 1000 := by omega
    by_cases hc : 0 < dig x 3 ∧ 1 + i < w ∧ 1 < left
    · obtain ⟨h1, h2, h3⟩ := hc
      obtain ⟨wm', ew⟩ := whom_get (dig_lt (x / 3 / (ks.length : Int)) (m := 3) (by omega))
      obtain ⟨ns, x4, hns, en⟩ := numbers_ok (x / 3 / (ks.length : Int) / 3) (s := kx.size) klo khi
      have e5 := tk x4 w1 (by omega)
      have dq := dig_lt x4 w1
      have h4 : (1 : Int) + (i : Int) < w := by omega
      have h5 : (1 : Int) < left := by omega
      have h6 : PyData.int ((left : Int) - 2) = nI (left - 2) := by
        unfold nI
        congr 1
        omega
      have h7 : PyData.int (1 + (dig x4 w : Int)) = nI (1 + dig x4 w) := by simp
      refine ⟨_, [some (.own [.int (x4 / (w : Int))]), some (.own (ks.map Bx.d)), o2, some (.val (nI m)), some (.val (nI w)), some (.val (nI dr)), some (.own ((rs ++ [TRw.lk wm' kk ns (1 + dig x4 w)]).map TRw.d)), some (.val (nI (left - 2))), some (.val (.int (1 + (i : Int)))), some (.val (nI kx.size)), some (.val (.bool true)), some (.val (nI kk)), some (.val (.str wm'.s))], rfl, ?_, _, _, _, _, _, _, _, _, rfl, ?_, ?_, ?_⟩
      · simp [tk3, e4, hkx, h1, h4, h5, h6, ew, en, e5, hrl]
        simp [TRw.d]
      · simp [r1]
      · simp [TRw.cost]; omega
      · intro j r hj
        rcases Nat.lt_or_ge j rs.length with hl | hl
        · rw [List.getElem?_append_left hl] at hj
          exact r3 j r hj
        · rw [List.getElem?_append_right hl] at hj
          have hj' := lt_of_get hj
          simp at hj'
          rw [show j - rs.length = 0 by omega] at hj
          simp at hj
          subst hj
          exact ⟨by omega, by omega, by omega, kx, hkx, hns⟩
    · have e5 := tk (x / 3 / (ks.length : Int)) (m := kx.size) (by omega) (by omega)
      have dv := dig_lt (x / 3 / (ks.length : Int)) (m := kx.size) (by omega)
      refine ⟨_, [some (.own [.int (x / 3 / (ks.length : Int) / (kx.size : Int))]), some (.own (ks.map Bx.d)), o2, some (.val (nI m)), some (.val (nI w)), some (.val (nI dr)), some (.own ((rs ++ [TRw.wr kk (dig (x / 3 / (ks.length : Int)) kx.size)]).map TRw.d)), some (.val (nI left)), some (.val (.int (1 + (i : Int)))), some (.val (nI kx.size)), some (.val (.bool (decide (0 < dig x 3)))), some (.val (nI kk)), o12], rfl, ?_, _, _, _, _, _, _, _, _, rfl, ?_, ?_, ?_⟩
      · by_cases h1 : 0 < dig x 3
        · by_cases h2 : 1 + i < w
          · have h4 : (1 : Int) + (i : Int) < w := by omega
            have h5 : ¬ (1 : Int) < left := by omega
            simp [tk3, e4, hkx, h1, h4, h5, e5, hrl]
            simp [TRw.d]
          · have h4 : ¬ (1 : Int) + (i : Int) < w := by omega
            simp [tk3, e4, hkx, h1, h4, e5, hrl]
            simp [TRw.d]
        · simp [tk3, e4, hkx, h1, e5, hrl]
          simp [TRw.d]
      · simp [r1]
      · simp [TRw.cost]; omega
      · intro j r hj
        rcases Nat.lt_or_ge j rs.length with hl | hl
        · rw [List.getElem?_append_left hl] at hj
          exact r3 j r hj
        · rw [List.getElem?_append_right hl] at hj
          have hj' := lt_of_get hj
          simp at hj'
          rw [show j - rs.length = 0 by omega] at hj
          simp at hj
          subst hj
          exact ⟨kx, hkx, dv⟩)
  simp at r1 r2
  refine ⟨⟨ks, dr, w, rs⟩, x2, ⟨by dsimp only; omega, by dsimp only; omega, k2, by dsimp only; omega, by dsimp only; omega, w1, by dsimp only; omega, dd, r3, ?_⟩, ?_⟩
  · show (rs.map TRw.cost).sum ≤ 16
    omega
  · rw [← hM]
    simp [own0]
    rfl

def tmA : Tm := ⟨[⟨.whole, 2, 0⟩], 1, 3, [.wr 0 1, .lk .others 0 [0] 2, .wr 0 0]⟩
def tmB : Tm := ⟨[⟨.whole, 2, 0⟩], 0, 6, [.wr 0 0, .lk .lower 0 [0] 2, .wr 0 1, .lk .lower 0 [0] 1, .lk .higher 0 [0] 5, .wr 0 0]⟩
theorem nums0 : Nums [0] 2 := ⟨by simp, by simp, by simp⟩
theorem tmA_ok : tmA.Ok := by
  refine ⟨by decide, by decide, ?_, by decide, by decide, by decide, by decide, by decide, ?_, by decide⟩
  · intro b hb
    simp [tmA] at hb
    subst hb
    exact ⟨by decide, by decide, by decide⟩
  · intro i r hr
    have hi := lt_of_get hr
    simp [tmA] at hi
    have : i = 0 ∨ i = 1 ∨ i = 2 := by omega
    rcases this with rfl | rfl | rfl <;> simp [tmA] at hr <;> subst hr
    · exact ⟨_, rfl, by decide⟩
    · exact ⟨by decide, by decide, by decide, _, rfl, nums0⟩
    · exact ⟨_, rfl, by decide⟩
theorem tmB_ok : tmB.Ok := by
  refine ⟨by decide, by decide, ?_, by decide, by decide, by decide, by decide, by decide, ?_, by decide⟩
  · intro b hb
    simp [tmB] at hb
    subst hb
    exact ⟨by decide, by decide, by decide⟩
  · intro i r hr
    have hi := lt_of_get hr
    simp [tmB] at hi
    have : i = 0 ∨ i = 1 ∨ i = 2 ∨ i = 3 ∨ i = 4 ∨ i = 5 := by omega
    rcases this with rfl | rfl | rfl | rfl | rfl | rfl <;> simp [tmB] at hr <;> subst hr
    · exact ⟨_, rfl, by decide⟩
    · exact ⟨by decide, by decide, by decide, _, rfl, nums0⟩
    · exact ⟨_, rfl, by decide⟩
    · exact ⟨by decide, by decide, by decide, _, rfl, nums0⟩
    · exact ⟨by decide, by decide, by decide, _, rfl, nums0⟩
    · exact ⟨_, rfl, by decide⟩
theorem known_0 : m__law_known_template [.int 0] = some tmA.d := by
  simp [m__law_known_template, runV, F__law_known_template, slots]
  rfl
theorem known_1 : m__law_known_template [.int 1] = some tmB.d := by
  simp [m__law_known_template, runV, F__law_known_template, slots]
  rfl
theorem some_template_ok (x : Int) : ∃ t x', Tm.Ok t ∧ m__law_some_template [.int x] [] = some (t.d, [.int x']) := by
  have d5 := dig_lt x (m := 5) (by omega)
  by_cases h0 : dig x 5 = 0
  · refine ⟨tmA, x / 5, tmA_ok, ?_⟩
    simp [m__law_some_template, runO, F__law_some_template, slots, tk5, h0, show m__law_known_template [nI 0] = some tmA.d from known_0, own0]
  · by_cases h1 : dig x 5 = 1
    · refine ⟨tmB, x / 5, tmB_ok, ?_⟩
      simp [m__law_some_template, runO, F__law_some_template, slots, tk5, h1, show m__law_known_template [nI 1] = some tmB.d from known_1, own0]
    · obtain ⟨t, x', ht, e⟩ := template_ok (x / 5)
      refine ⟨t, x', ht, ?_⟩
      simp [m__law_some_template, runO, F__law_some_template, slots, tk5, show ¬ ((dig x 5 : Int) < 2) by omega, e, own0]
theorem mulOk_big {i j : Int} (hi : i.natAbs < 2 ^ 1000) (hj : j.natAbs < 2 ^ 1000) : mulOk i j := by
  have a : ∀ n : Nat, n < 2 ^ 1000 → n.log2 < 1000 := fun n hn => by
    by_cases h0 : n = 0
    · rw [h0]; decide +kernel
    · exact (Nat.log2_lt h0).mpr hn
  have := a _ hi
  have := a _ hj
  exact Or.inr (by omega)
def mixC : Int := 977121254719662437295027903255115309200128864190695864829866917
def mixM : Int := 1000000000000000000000000000000000000000000000000000000000000
def mixI (c : Int) : Int := c % mixM * mixC % mixM
theorem mix_lt (c : Int) : 0 ≤ mixI c ∧ mixI c < mixM := ⟨Int.emod_nonneg _ (by decide), Int.emod_lt_of_pos _ (by decide)⟩
theorem mixed_ok (c : Int) : m__law_mixed [.int c] = some (.int (mixI c)) := by
  have e0 : dPow (.int 10) (.int 60) = some (.int mixM) := by rw [dPow_int, if_pos ⟨by decide, by decide, by decide⟩]; exact congrArg (fun z => some (PyData.int z)) (by decide +kernel)
  have e1 : ∀ i, dMod (.int i) (.int mixM) = some (.int (i % mixM)) := fun i => by rw [dMod_int, if_pos (by decide)]
  have e2 : dMulT (.int (c % mixM)) (.int mixC) = some (.int (c % mixM * mixC)) := by
    have a := Int.emod_nonneg c (b := mixM) (by decide)
    have b := Int.emod_lt_of_pos c (b := mixM) (by decide)
    have m : mixM < 2 ^ 1000 := by decide +kernel
    rw [dMulT_int, if_pos (mulOk_big (by omega) (by decide +kernel))]
  have e3 : (977121254719662437295027903255115309200128864190695864829866917 : Int) = mixC := rfl
  simp [m__law_mixed, runV, F__law_mixed, slots, -dPow_int, -dMod_int, -dMulT_int, e0, e1, e3, e2, mixI]
theorem pack_ok (ns : List Int) (hl : ns.length ≤ 900) (k : Nat) : ∃ x : Int, m__law_pack [.list (ns.map .int), nI k] = some [.int x] := by
  have e0 : dPow (.int 10) (.int 60) = some (.int mixM) := by rw [dPow_int, if_pos ⟨by decide, by decide, by decide⟩]; exact congrArg (fun z => some (PyData.int z)) (by decide +kernel)
  have e25 : dPow (.int 10) (.int 25) = some (.int 10000000000000000000000000) := by rw [dPow_int, if_pos ⟨by decide, by decide, by decide⟩]; exact congrArg (fun z => some (PyData.int z)) (by decide +kernel)
  have ed : ∀ i, dFdiv (.int i) (.int 10000000000000000000000000) = some (.int (i / 10000000000000000000000000)) := fun i => by rw [dFdiv_int, if_pos ⟨by decide, by decide +kernel⟩]
  have em : ∀ i j : Int, i.natAbs < 2 ^ 64 → dMulT (.int i) (.int j) = some (.int (i * j)) := fun i j h => by rw [dMulT_int, if_pos (show mulOk i j from Or.inl (Or.inl h))]
  have eb : ∀ c, dMulT (.int (mixI c)) (.int mixM) = some (.int (mixI c * mixM)) := fun c => by
    have ⟨a, b⟩ := mix_lt c
    have m : mixM < 2 ^ 1000 := by decide +kernel
    rw [dMulT_int, if_pos (mulOk_big (by omega) (by decide +kernel))]
  obtain ⟨a, ha⟩ : ∃ a : Int, (ns.map PyData.int ++ [PyData.int 0])[0]? = some (.int a) := by
    cases ns with
    | nil => exact ⟨0, rfl⟩
    | cons n ns => exact ⟨n, rfl⟩
  have hc : ∀ lo hi : Option Int, ∀ l : Int, (Md.cutD (ns.map PyData.int) lo hi).length ≤ 900 ∧ ∃ y : Int, (Md.cutD (ns.map PyData.int) lo hi ++ [PyData.int l])[0]? = some (.int y) := fun lo hi l => by
    unfold Md.cutD
    rw [← List.map_drop, ← List.map_take]
    refine ⟨?_, ?_⟩
    · rw [List.length_map, List.length_take, List.length_drop]
      omega
    · cases (List.take _ (List.drop _ ns)) with
      | nil => exact ⟨l, rfl⟩
      | cons n ns => exact ⟨n, rfl⟩
  have em1 : ∀ j : Int, dMulT (.int 6007) (.int j) = some (.int (6007 * j)) := fun j => em _ _ (by decide)
  have em2 : ∀ j : Int, dMulT (.int 11) (.int j) = some (.int (11 * j)) := fun j => em _ _ (by decide)
  generalize hM : m__law_pack [.list (ns.map .int), nI k] = M
  simp [m__law_pack, Md.runN, F__law_pack, slots] at hM
  generalize hL : loopF _ _ _ _ = L at hM
  obtain ⟨ρ', rfl, f, o3, o4, rfl, _, _⟩ := loop_use hL (fun i ρ => ∃ (f : Int) (o3 o4 : Option Sl), ρ = [some (.val (.list (ns.map .int))), some (.val (nI k)), some (.val (.int f)), o3, o4] ∧ (i = 0 → f = 0) ∧ (i = 1 → ∃ c, f = mixI c)) ⟨_, _, _, rfl, by simp, by simp⟩ (by
    rintro i d ρ hi ⟨f, o3, o4, rfl, f0, f1⟩
    obtain ⟨a', rfl⟩ : ∃ a' : Int, d = .int a' := by
      have := List.mem_of_getElem? hi
      simp at this
      rcases this with rfl | rfl
      · exact ⟨_, rfl⟩
      · exact ⟨_, rfl⟩
    have hi := lt_of_get hi
    simp at hi
    have ef : dMulT (.int f) (.int mixM) = some (.int (f * mixM)) := by
      have : i = 0 ∨ i = 1 := by omega
      rcases this with h | h
      · rw [f0 h]
        exact em _ _ (by decide)
      · obtain ⟨c, hc⟩ := f1 h
        rw [hc]
        exact eb c
    obtain ⟨h1, y, h2⟩ := hc (some a') (some (a' + 1)) (mixI (6007 * a' + 41 + 11 * a) / 10000000000000000000000000)
    obtain ⟨_, ha'⟩ := List.getElem?_eq_some_iff.mp ha
    obtain ⟨_, h2'⟩ := List.getElem?_eq_some_iff.mp h2
    refine ⟨_, [some (.val (.list (ns.map .int))), some (.val (nI k)), some (.val (.int (f * mixM + mixI y))), some (.val (.int a')), some (.val (.int (mixI (6007 * a' + 41 + 11 * a) / 10000000000000000000000000)))], rfl, ?_, _, _, _, rfl, by omega, ?_⟩
    · simp [-dMulT_int, -dPow_int, -dFdiv_int, em1, em2, e0, e25, ed, ha, mixed_ok, ef, h2, ha', h2', show ns.length ≤ 999 by omega, show (Md.cutD (ns.map PyData.int) (some a') (some (a' + 1))).length ≤ 999 by omega]
    · intro h
      have : i = 0 := by omega
      exact ⟨y, by rw [f0 this]; omega⟩)
  simp at hM
  exact ⟨f, hM.symm⟩
theorem law_ok (ns : List Int) (hl : ns.length ≤ 63) : m_law [.list (ns.map .int)] = some (.bool true) := by
  simp [m_law, runV, F_law, slots]
  generalize hm : (if (1 : Int) < if (8 : Int) < (ns.length : Int) then (8 : Int) else (ns.length : Int) then if (8 : Int) < (ns.length : Int) then (8 : Int) else (ns.length : Int) else 1) = b
  have hb : 0 ≤ b ∧ b ≤ 100000 := by
    rw [← hm]
    split <;> (try split) <;> omega
  simp [hb.1, hb.2]
  generalize hL : loopF _ _ _ _ = L
  obtain ⟨ρ', rfl, o1, o2, o3, rfl⟩ := loop_use hL (fun i ρ => ∃ (o1 o2 o3 : Option Sl), ρ = [some (.val (.list (ns.map .int))), o1, o2, o3]) ⟨_, _, _, rfl⟩ (by
    rintro i d ρ hi ⟨o1, o2, o3, rfl⟩
    obtain ⟨k, rfl⟩ : ∃ k : Nat, d = nI k := by
      have := List.mem_of_getElem? hi
      simp [evD] at this
      obtain ⟨j, _, e⟩ := this
      exact ⟨j * 2, by rw [← e]; simp⟩
    obtain ⟨x, p1⟩ := pack_ok ns (by omega) k
    obtain ⟨y, p2⟩ := pack_ok ns (by omega) (k + 3)
    obtain ⟨t, x', ht, p3⟩ := some_template_ok x
    have d3 := dig_lt y (m := 3) (by omega)
    obtain ⟨n, hn⟩ : ∃ n : Nat, (2 : Int) + (dig y 3 : Int) = (n : Int) := ⟨2 + dig y 3, by simp⟩
    obtain ⟨y', p4⟩ := law_right_ok ht (n := n) (by omega) (by omega) (y / 3)
    have p2' : m__law_pack [.list (ns.map .int), .int ((k : Int) + 3)] = some [.int y] := p2
    refine ⟨_, [some (.val (.list (ns.map .int))), some (.val (nI k)), some (.val t.d), some (.own [.int y'])], rfl, ?_, _, _, _, rfl⟩
    simp [p1, p2', p3, tk3, hn, p4])
  simp
end K45

set_option Elab.async false
set_option linter.all false
set_option maxRecDepth 100000
set_option maxHeartbeats 0
namespace K45
open PySem PySem.Spec PyProof.Rows L2
/-! the hook: defs, facts, tables -/
/-- no list lies among the objects told -/
def noL (K : PySem.W.Frag) : Bool := K.all fun p => match p.2.cls with
  | .type c => !decide (c = "list")
  | _ => true
theorem noL_ok : ∀ {K : PySem.W.Frag} {a : Addr} {o : Obj}, noL K = true → K.lookup a = some o → o.cls ≠ .type "list"
  | [], _, _, _, e => nomatch (show (none : Option Obj) = some _ from e)
  | (b, ob) :: r, a, o, h, e => by
    have h2 : ((match ob.cls with
      | .type c => !decide (c = "list")
      | _ => true) && noL r) = true := h
    obtain ⟨h3, h4⟩ := Bool.and_eq_true_iff.mp h2
    have e2 : (match a == b with | true => some ob | false => List.lookup a r) = some o := e
    cases q : (a == b) with
    | true =>
      rw [q] at e2
      have eo : ob = o := Option.some.inj e2
      subst eo
      intro z
      rw [z] at h3
      exact absurd h3 (by decide)
    | false =>
      rw [q] at e2
      exact noL_ok h4 e2
def obsT (fa : List He.Fa) (fn : List He.DefD) (tb : List (Str × List He.Dv)) (K : PySem.W.Frag) : He.AlD :=
  (((((fa.all fun f => f.ok K) && fn.all fun d => d.ok K) && tb.all fun p => He.tupB K p.1 p.2) && noL K), fn.map fun d => He.fnW K d.at_)
def SaysT (fa : List He.Fa) (fn : List He.DefD) (tb : List (Str × List He.Dv)) (K : PySem.W.Frag) : Prop := obsT fa fn tb K = He.valD fn
theorem SaysT.split {fa : List He.Fa} {fn : List He.DefD} {tb : List (Str × List He.Dv)} {K : PySem.W.Frag} (c : SaysT fa fn tb K) :
    He.SaysD fa fn K ∧ (∀ p ∈ tb, He.tupB K p.1 p.2 = true) ∧ noL K = true := by
  have c1 : ((((fa.all fun f => f.ok K) && fn.all fun d => d.ok K) && tb.all fun p => He.tupB K p.1 p.2) && noL K) = true := congrArg Prod.fst c
  have c2 : (fn.map fun d => He.fnW K d.at_) = fn.map He.DefD.val := congrArg Prod.snd c
  obtain ⟨h0, h3⟩ := Bool.and_eq_true_iff.mp c1
  obtain ⟨h1, h2⟩ := Bool.and_eq_true_iff.mp h0
  exact ⟨Prod.ext h1 c2, fun p hp => List.all_eq_true.mp h2 p hp, h3⟩
def obsTG (n : Nat) (fa : List He.Fa) (fn : List He.DefD) (tb : List (Str × List He.Dv)) (g : Addr → Option Obj) : He.AlD := obsT fa fn tb (He.frG g (He.asD g n))
def hookT (n : Nat) (fa : List He.Fa) (fn : List He.DefD) (tb : List (Str × List He.Dv)) : PySem.W.Hook where
  α := He.AlD
  obs := fun s => obsTG n fa fn tb s.heap.get?
  val := fun _ => He.valD fn
  says := fun _ h => ∃ K : PySem.W.Frag, K.In h ∧ SaysT fa fn tb K
  of := fun _ _ e => ⟨_, He.frG_in, e⟩
  keeps := fun _ _ _ ⟨K, hK, c⟩ k => ⟨K, PySem.W.Frag.In.keeps hK k, c⟩
theorem obsTG_eq {n : Nat} {fa : List He.Fa} {fn : List He.DefD} {tb : List (Str × List He.Dv)} {g : Addr → Option Obj} {s : Shared} (h : ∀ a, g a = s.heap.get? a) : obsTG n fa fn tb g = (hookT n fa fn tb).obs s := by
  have e : g = s.heap.get? := funext h
  rw [e] <;> rfl
def dOf (x : Str) (st : Stmt) : He.DefD := ⟨(x, none), x, x, defArgs st, defBody st, defScope st, [], []⟩

def fn : List He.DefD := [
  dOf "is_whole" (topSt 15),
  dOf "is_between" (topSt 16),
  dOf "is_kind" (topSt 17),
  dOf "is_box" (topSt 18),
  dOf "are_boxes" (topSt 19),
  dOf "are_numbers" (topSt 20),
  dOf "is_write" (topSt 21),
  dOf "is_place_for" (topSt 22),
  dOf "is_look" (topSt 23),
  dOf "has_ends" (topSt 24),
  dOf "is_program" (topSt 25),
  dOf "writers" (topSt 26),
  dOf "is_way" (topSt 27),
  dOf "check_way" (topSt 28),
  dOf "check_hand" (topSt 29),
  dOf "next_place" (topSt 30),
  dOf "part_of" (topSt 31),
  dOf "part_at" (topSt 32),
  dOf "is_template_look" (topSt 38),
  dOf "together" (topSt 39),
  dOf "is_template" (topSt 40),
  dOf "check_template" (topSt 41),
  dOf "looked_at" (topSt 42),
  dOf "rows_of" (topSt 43),
  dOf "begins" (topSt 44),
  dOf "program_for" (topSt 45),
  dOf "way_for" (topSt 46),
  dOf "is_spot" (topSt 48),
  dOf "is_standing" (topSt 49),
  dOf "check_standing" (topSt 50),
  dOf "first_standing" (topSt 51),
  dOf "put_in" (topSt 52),
  dOf "spot_on" (topSt 53),
  dOf "written_now" (topSt 54),
  dOf "can_be_told" (topSt 55),
  dOf "write_step" (topSt 56),
  dOf "look_steps" (topSt 57),
  dOf "hand_steps" (topSt 58),
  dOf "steps_of" (topSt 59),
  dOf "steps_from" (topSt 60),
  dOf "_law_mixed" (topSt 62),
  dOf "_law_pack" (topSt 63),
  dOf "_law_take" (topSt 64),
  dOf "_law_numbers" (topSt 65),
  dOf "_law_template" (topSt 66),
  dOf "_law_known_template" (topSt 67),
  dOf "_law_some_template" (topSt 68),
  dOf "_law_whom" (topSt 69),
  dOf "_law_settled" (topSt 70),
  dOf "_law_stepped" (topSt 71),
  dOf "_law_part" (topSt 72),
  dOf "_law_right" (topSt 73),
  dOf "law" (topSt 74)]
def fa : List He.Fa := [
  .glo "is_whole", .glo "is_between", .glo "is_kind", .glo "is_box", .glo "are_boxes", .glo "are_numbers", .glo "is_write", .glo "is_place_for", .glo "is_look", .glo "has_ends", .glo "is_program", .glo "writers", .glo "is_way", .glo "check_way", .glo "check_hand", .glo "next_place", .glo "part_of", .glo "part_at", .glo "is_template_look", .glo "together", .glo "is_template", .glo "check_template", .glo "looked_at", .glo "rows_of", .glo "begins", .glo "program_for", .glo "way_for", .glo "is_spot", .glo "is_standing", .glo "check_standing", .glo "first_standing", .glo "put_in", .glo "spot_on", .glo "written_now", .glo "can_be_told", .glo "write_step", .glo "look_steps", .glo "hand_steps", .glo "steps_of", .glo "steps_from", .glo "_law_mixed", .glo "_law_pack", .glo "_law_take", .glo "_law_numbers", .glo "_law_template", .glo "_law_known_template", .glo "_law_some_template", .glo "_law_whom", .glo "_law_settled", .glo "_law_stepped", .glo "_law_part", .glo "_law_right", .glo "law", .free "isinstance", .free "len", .free "all", .free "any", .free "sum", .free "int", .free "bool", .free "str", .free "tuple", .free "list", .free "range", .free "zip", .free "enumerate", .free "sorted", .free "set", .free "min", .free "max", .free "divmod", .int "LEAST_SIZE" 2, .int "MOST_SIZE" 5, .int "MOST_ROWS" 16, .int "MOST_BOXES" 12, .int "MOST_HANDS" 4, .int "MOST_KINDS" 2, .int "MOST_TEMPLATE_ROWS" 8, .int "MOST_TOGETHER" 16, .glo "KINDS", .glo "WHOM"]
def tb : List (Str × List He.Dv) := [("KINDS", [.str "whole", .str "either", .str "torn"]), ("WHOM", [.str "others", .str "lower", .str "higher"])]
def loose0 : List Str := ["WayError", "NoWay", "NoHand", "NoPlace", "NoStanding", "NoTemplate", "NoMany", "KINDS", "LEAST_SIZE", "MOST_SIZE", "MOST_ROWS", "MOST_BOXES"]
def loose1 : List Str := ["MOST_HANDS", "is_whole", "is_between", "is_kind", "is_box", "are_boxes", "are_numbers", "is_write", "is_place_for", "is_look", "has_ends", "is_program"]
def loose2 : List Str := ["writers", "is_way", "check_way", "check_hand", "next_place", "part_of", "part_at", "WHOM", "MOST_KINDS", "MOST_TEMPLATE_ROWS", "MOST_TOGETHER", "is_template_look"]
def loose3 : List Str := ["together", "is_template", "check_template", "looked_at", "rows_of", "begins", "program_for", "way_for", "is_spot", "is_standing", "check_standing", "first_standing"]
def loose4 : List Str := ["put_in", "spot_on", "written_now", "can_be_told", "write_step", "look_steps", "hand_steps", "steps_of", "steps_from", "_law_mixed", "_law_pack", "_law_take"]
def loose5 : List Str := ["_law_numbers", "_law_template", "_law_known_template", "_law_some_template", "_law_whom", "_law_settled", "_law_stepped", "_law_part", "_law_right"]
def loose : List Str := loose0 ++ loose1 ++ loose2 ++ loose3 ++ loose4 ++ loose5
abbrev R : PySem.W.OpenRow := PySem.W.OpenLaw.row PySem.Challenge.rw_onewithin_k45_whole_templates_at_work
abbrev hk : PySem.W.Hook := hookT 4 fa fn tb
def ob (s : PySem.W.SharedT) : He.AlD := obsTG 4 fa fn tb (HandSHeadRun.getT s)
theorem ob_eq (s : PySem.W.SharedT) : ob s = hk.obs s.abs := obsTG_eq (HandSHeadRun.getT_eq s)
theorem run (w : World) : HandSHeadRun.RunEq R (PySem.W.view R.prog [74]) hk ob 8000 loose w := by
  intro os
  kernel_rfl
end K45

set_option Elab.async false
set_option linter.all false
set_option maxRecDepth 100000
set_option maxHeartbeats 4000000
/-! K45: the defs together, the head's facts, the law's row (printed by gen_fin.py). -/
namespace K45
open PySem PySem.Spec PyProof.Rows L2 Md
section
variable {P : Program} {w : World} {K : PySem.W.Frag} {mg : Str → Option Value} {base : Heap}
theorem ok_law {f : Addr} {fd : FuncData} (F : FnP K "law" (topSt 74) f fd) (T : Bi mg) (G : Gv K mg) (h_law_pack : Df P w K mg base 2 "_law_pack" (spN K m__law_pack)) (h_law_take : Df P w K mg base 1 "_law_take" (spO K m__law_take)) (h_law_some_template : Df P w K mg base 4 "_law_some_template" (spO K m__law_some_template)) (h_law_right : Df P w K mg base 11 "_law_right" (spO K m__law_right)) : FnOk P w K mg base CX0 12 f fd ["_law_script"] (spV K m_law) := by
  refine fn_v (N := ["_law_script", "_law_k", "_law_template_here", "_law_pack_here"]) (k := 11) (F := F_law) F sc_law (fun cdv A outer s H E hr => ?_)
  exact (jss_cons (js_for PassesOwn.never rfl (ji_ev T (je_max rfl T je_int (je_min rfl T (je_len T (je_v 0)) je_int))) (jg_name 1 sc_law.nd) (jss_cons (js_set 2 sc_law.nd (je_callT h_law_some_template (hr.mono (by decide)) (jn_call h_law_pack (hr.mono (by decide)) (ja_cons (je_v 0) (ja_cons (je_v 1) ja_nil)))))
    (jss_cons (js_setN 3 sc_law.nd (jn_call h_law_pack (hr.mono (by decide)) (ja_cons (je_v 0) (ja_cons (je_add (je_v 1) je_int) ja_nil))))
    (jss_one (js_if (jt_not (jt_val (je_callO 3 h_law_right (hr.mono (by decide)) (ja_cons (je_v 2) (ja_cons (je_add je_int (je_callO 3 h_law_take (hr.mono (by decide)) (ja_cons je_int ja_nil))) ja_nil))))) (jss_one (js_ret je_bl)) jss_nil)))))
    (jss_one (js_ret je_bl)))
theorem ok_all {f : Addr} {fd : FuncData} (F : FnP K "law" (topSt 74) f fd) (T : Bi mg) (G : Gv K mg) (D64 : At K mg "_law_take" (topSt 64)) (D15 : At K mg "is_whole" (topSt 15)) (D16 : At K mg "is_between" (topSt 16)) (D17 : At K mg "is_kind" (topSt 17)) (D18 : At K mg "is_box" (topSt 18)) (D19 : At K mg "are_boxes" (topSt 19)) (D20 : At K mg "are_numbers" (topSt 20)) (D21 : At K mg "is_write" (topSt 21)) (D22 : At K mg "is_place_for" (topSt 22)) (D23 : At K mg "is_look" (topSt 23)) (D24 : At K mg "has_ends" (topSt 24)) (D25 : At K mg "is_program" (topSt 25)) (D26 : At K mg "writers" (topSt 26)) (D27 : At K mg "is_way" (topSt 27)) (D28 : At K mg "check_way" (topSt 28)) (D29 : At K mg "check_hand" (topSt 29)) (D30 : At K mg "next_place" (topSt 30)) (D31 : At K mg "part_of" (topSt 31)) (D32 : At K mg "part_at" (topSt 32)) (D38 : At K mg "is_template_look" (topSt 38)) (D39 : At K mg "together" (topSt 39)) (D40 : At K mg "is_template" (topSt 40)) (D41 : At K mg "check_template" (topSt 41)) (D42 : At K mg "looked_at" (topSt 42)) (D43 : At K mg "rows_of" (topSt 43)) (D44 : At K mg "begins" (topSt 44)) (D45 : At K mg "program_for" (topSt 45)) (D46 : At K mg "way_for" (topSt 46)) (D48 : At K mg "is_spot" (topSt 48)) (D49 : At K mg "is_standing" (topSt 49)) (D50 : At K mg "check_standing" (topSt 50)) (D51 : At K mg "first_standing" (topSt 51)) (D52 : At K mg "put_in" (topSt 52)) (D53 : At K mg "spot_on" (topSt 53)) (D54 : At K mg "written_now" (topSt 54)) (D55 : At K mg "can_be_told" (topSt 55)) (D56 : At K mg "write_step" (topSt 56)) (D57 : At K mg "look_steps" (topSt 57)) (D58 : At K mg "hand_steps" (topSt 58)) (D59 : At K mg "steps_of" (topSt 59)) (D60 : At K mg "steps_from" (topSt 60)) (D62 : At K mg "_law_mixed" (topSt 62)) (D63 : At K mg "_law_pack" (topSt 63)) (D65 : At K mg "_law_numbers" (topSt 65)) (D66 : At K mg "_law_template" (topSt 66)) (D67 : At K mg "_law_known_template" (topSt 67)) (D68 : At K mg "_law_some_template" (topSt 68)) (D69 : At K mg "_law_whom" (topSt 69)) (D70 : At K mg "_law_settled" (topSt 70)) (D71 : At K mg "_law_stepped" (topSt 71)) (D72 : At K mg "_law_part" (topSt 72)) (D73 : At K mg "_law_right" (topSt 73)) : FnOk P w K mg base CX0 12 f fd ["_law_script"] (spV K m_law) := by
  have e64 : Df P w K mg base 1 "_law_take" (spO K m__law_take) := df__law_take D64 T
  have e15 : Df P w K mg base 1 "is_whole" (spV K m_is_whole) := df_is_whole D15 T G
  have e16 : Df P w K mg base 2 "is_between" (spV K m_is_between) := df_is_between D16 T G e15
  have e17 : Df P w K mg base 1 "is_kind" (spV K m_is_kind) := df_is_kind D17 T G
  have e18 : Df P w K mg base 3 "is_box" (spV K m_is_box) := df_is_box D18 T G e16 e17
  have e19 : Df P w K mg base 4 "are_boxes" (spV K m_are_boxes) := df_are_boxes D19 T G e18
  have e20 : Df P w K mg base 3 "are_numbers" (spV K m_are_numbers) := df_are_numbers D20 T G e16
  have e21 : Df P w K mg base 3 "is_write" (spV K m_is_write) := df_is_write D21 T G e16
  have e22 : Df P w K mg base 3 "is_place_for" (spV K m_is_place_for) := df_is_place_for D22 T G e16
  have e23 : Df P w K mg base 4 "is_look" (spV K m_is_look) := df_is_look D23 T G e16 e20
  have e24 : Df P w K mg base 3 "has_ends" (spV K m_has_ends) := df_has_ends D24 T G e16
  have e25 : Df P w K mg base 5 "is_program" (spV K m_is_program) := df_is_program D25 T G e21 e22 e23 e24
  have e26 : Df P w K mg base 1 "writers" (spV K m_writers) := df_writers D26 T G
  have e27 : Df P w K mg base 6 "is_way" (spV K m_is_way) := df_is_way D27 T G e19 e25 e26
  have e28 : Df P w K mg base 7 "check_way" (spV K m_check_way) := df_check_way D28 T G e27
  have e29 : Df P w K mg base 8 "check_hand" (spV K m_check_hand) := df_check_hand D29 T G e16 e28
  have e30 : Df P w K mg base 1 "next_place" (spV K m_next_place) := df_next_place D30 T G
  have e31 : Df P w K mg base 1 "part_of" (spV K m_part_of) := df_part_of D31 T G
  have e32 : Df P w K mg base 9 "part_at" (spV K m_part_at) := df_part_at D32 T G e16 e29 e31
  have e38 : Df P w K mg base 5 "is_template_look" (spV K m_is_template_look) := df_is_template_look D38 T G e16 e23
  have e39 : Df P w K mg base 1 "together" (spV K m_together) := df_together D39 T G
  have e40 : Df P w K mg base 6 "is_template" (spV K m_is_template) := df_is_template D40 T G e19 e21 e24 e38 e39
  have e41 : Df P w K mg base 7 "check_template" (spV K m_check_template) := df_check_template D41 T G e40
  have e42 : Df P w K mg base 1 "looked_at" (spV K m_looked_at) := df_looked_at D42 T G
  have e43 : Df P w K mg base 2 "rows_of" (spV K m_rows_of) := df_rows_of D43 T G e42
  have e44 : Df P w K mg base 3 "begins" (spV K m_begins) := df_begins D44 T G e43
  have e45 : Df P w K mg base 4 "program_for" (spV K m_program_for) := df_program_for D45 T G e42 e43 e44
  have e46 : Df P w K mg base 8 "way_for" (spV K m_way_for) := df_way_for D46 T G e16 e41 e45
  have e48 : Df P w K mg base 2 "is_spot" (spV K m_is_spot) := df_is_spot D48 T G e15
  have e49 : Df P w K mg base 8 "is_standing" (spV K m_is_standing) := df_is_standing D49 T G e15 e28 e48
  have e50 : Df P w K mg base 9 "check_standing" (spV K m_check_standing) := df_check_standing D50 T G e49
  have e51 : Df P w K mg base 8 "first_standing" (spV K m_first_standing) := df_first_standing D51 T G e28
  have e52 : Df P w K mg base 1 "put_in" (spV K m_put_in) := df_put_in D52 T G
  have e53 : Df P w K mg base 2 "spot_on" (spV K m_spot_on) := df_spot_on D53 T G e30
  have e54 : Df P w K mg base 1 "written_now" (spV K m_written_now) := df_written_now D54 T G
  have e55 : Df P w K mg base 2 "can_be_told" (spV K m_can_be_told) := df_can_be_told D55 T G e54
  have e56 : Df P w K mg base 3 "write_step" (spV K m_write_step) := df_write_step D56 T G e52 e53
  have e57 : Df P w K mg base 3 "look_steps" (spV K m_look_steps) := df_look_steps D57 T G e52 e53 e55
  have e58 : Df P w K mg base 4 "hand_steps" (spV K m_hand_steps) := df_hand_steps D58 T G e52 e56 e57
  have e59 : Df P w K mg base 5 "steps_of" (spV K m_steps_of) := df_steps_of D59 T G e58
  have e60 : Df P w K mg base 10 "steps_from" (spV K m_steps_from) := df_steps_from D60 T G e50 e59
  have e62 : Df P w K mg base 1 "_law_mixed" (spV K m__law_mixed) := df__law_mixed D62 T G
  have e63 : Df P w K mg base 2 "_law_pack" (spN K m__law_pack) := df__law_pack D63 T G e62
  have e65 : Df P w K mg base 2 "_law_numbers" (spO K m__law_numbers) := df__law_numbers D65 T G e64
  have e66 : Df P w K mg base 3 "_law_template" (spO K m__law_template) := df__law_template D66 T G e64 e65
  have e67 : Df P w K mg base 1 "_law_known_template" (spV K m__law_known_template) := df__law_known_template D67 T G
  have e68 : Df P w K mg base 4 "_law_some_template" (spO K m__law_some_template) := df__law_some_template D68 T G e64 e66 e67
  have e69 : Df P w K mg base 1 "_law_whom" (spV K m__law_whom) := df__law_whom D69 T G
  have e70 : Df P w K mg base 2 "_law_settled" (spV K m__law_settled) := df__law_settled D70 T G e69
  have e71 : Df P w K mg base 3 "_law_stepped" (spV K m__law_stepped) := df__law_stepped D71 T G e70
  have e72 : Df P w K mg base 1 "_law_part" (spV K m__law_part) := df__law_part D72 T G
  have e73 : Df P w K mg base 11 "_law_right" (spO K m__law_right) := df__law_right D73 T G e32 e46 e51 e60 e64 e71 e72
  exact ok_law F T G e63 e64 e68 e73
end
theorem facts {P : Program} {w : World} {K : PySem.W.Frag} {h : Heap} {mg : Str → Option Value} {f : Addr} (X : K.In h) (G : h.Ns mainGlobals mg) (hfa : mg ("law" : Str) = some (.ref f)) (c : SaysT fa fn tb K) :
    (∀ (H : Hp) (a : Addr) (xs : List V), SqL K H a xs → Rd H a (.lst xs)) ∧ ∃ fd : FuncData, (∀ (s : Shared) (v : Value), BindsTo s fd ⟨[v], []⟩ [("_law_script", v)]) ∧ ∀ base : Heap, K.In base → base.Ns mainGlobals mg → FnOk P w K mg base CX0 12 f fd ["_law_script"] (spV K m_law) := by
  obtain ⟨cs, ct, cn⟩ := c.split
  have T : Bi mg := ⟨He.free_ok X G (cs.fact 53 (f := .free "isinstance") rfl), He.free_ok X G (cs.fact 54 (f := .free "len") rfl), He.free_ok X G (cs.fact 55 (f := .free "all") rfl), He.free_ok X G (cs.fact 56 (f := .free "any") rfl), He.free_ok X G (cs.fact 57 (f := .free "sum") rfl), He.free_ok X G (cs.fact 58 (f := .free "int") rfl), He.free_ok X G (cs.fact 59 (f := .free "bool") rfl), He.free_ok X G (cs.fact 60 (f := .free "str") rfl), He.free_ok X G (cs.fact 61 (f := .free "tuple") rfl), He.free_ok X G (cs.fact 62 (f := .free "list") rfl), He.free_ok X G (cs.fact 63 (f := .free "range") rfl), He.free_ok X G (cs.fact 64 (f := .free "zip") rfl), He.free_ok X G (cs.fact 65 (f := .free "enumerate") rfl), He.free_ok X G (cs.fact 66 (f := .free "sorted") rfl), He.free_ok X G (cs.fact 67 (f := .free "set") rfl), He.free_ok X G (cs.fact 68 (f := .free "min") rfl), He.free_ok X G (cs.fact 69 (f := .free "max") rfl), He.free_ok X G (cs.fact 70 (f := .free "divmod") rfl)⟩
  have V : Gv K mg := ⟨He.int_ok X G (cs.fact 71 (f := .int "LEAST_SIZE" 2) rfl), He.int_ok X G (cs.fact 72 (f := .int "MOST_SIZE" 5) rfl), He.int_ok X G (cs.fact 73 (f := .int "MOST_ROWS" 16) rfl), He.int_ok X G (cs.fact 74 (f := .int "MOST_BOXES" 12) rfl), He.int_ok X G (cs.fact 75 (f := .int "MOST_HANDS" 4) rfl), He.int_ok X G (cs.fact 76 (f := .int "MOST_KINDS" 2) rfl), He.int_ok X G (cs.fact 77 (f := .int "MOST_TEMPLATE_ROWS" 8) rfl), He.int_ok X G (cs.fact 78 (f := .int "MOST_TOGETHER" 16) rfl), ⟨_, He.glo_ok X G (cs.fact 79 (f := .glo "KINDS") rfl), fun H => He.tupB_ok (vs := [.str "whole", .str "either", .str "torn"]) (ct ("KINDS", [.str "whole", .str "either", .str "torn"]) (by simp [tb])) H⟩, ⟨_, He.glo_ok X G (cs.fact 80 (f := .glo "WHOM") rfl), fun H => He.tupB_ok (vs := [.str "others", .str "lower", .str "higher"]) (ct ("WHOM", [.str "others", .str "lower", .str "higher"]) (by simp [tb])) H⟩⟩
  have D15 : At K mg "is_whole" (topSt 15) := by
    obtain ⟨fd, F⟩ := cs.def_ 0 (d := dOf "is_whole" (topSt 15)) rfl
    exact ⟨_, fd, F, He.glo_ok X G (cs.fact 0 (f := .glo "is_whole") rfl)⟩
  have D16 : At K mg "is_between" (topSt 16) := by
    obtain ⟨fd, F⟩ := cs.def_ 1 (d := dOf "is_between" (topSt 16)) rfl
    exact ⟨_, fd, F, He.glo_ok X G (cs.fact 1 (f := .glo "is_between") rfl)⟩
  have D17 : At K mg "is_kind" (topSt 17) := by
    obtain ⟨fd, F⟩ := cs.def_ 2 (d := dOf "is_kind" (topSt 17)) rfl
    exact ⟨_, fd, F, He.glo_ok X G (cs.fact 2 (f := .glo "is_kind") rfl)⟩
  have D18 : At K mg "is_box" (topSt 18) := by
    obtain ⟨fd, F⟩ := cs.def_ 3 (d := dOf "is_box" (topSt 18)) rfl
    exact ⟨_, fd, F, He.glo_ok X G (cs.fact 3 (f := .glo "is_box") rfl)⟩
  have D19 : At K mg "are_boxes" (topSt 19) := by
    obtain ⟨fd, F⟩ := cs.def_ 4 (d := dOf "are_boxes" (topSt 19)) rfl
    exact ⟨_, fd, F, He.glo_ok X G (cs.fact 4 (f := .glo "are_boxes") rfl)⟩
  have D20 : At K mg "are_numbers" (topSt 20) := by
    obtain ⟨fd, F⟩ := cs.def_ 5 (d := dOf "are_numbers" (topSt 20)) rfl
    exact ⟨_, fd, F, He.glo_ok X G (cs.fact 5 (f := .glo "are_numbers") rfl)⟩
  have D21 : At K mg "is_write" (topSt 21) := by
    obtain ⟨fd, F⟩ := cs.def_ 6 (d := dOf "is_write" (topSt 21)) rfl
    exact ⟨_, fd, F, He.glo_ok X G (cs.fact 6 (f := .glo "is_write") rfl)⟩
  have D22 : At K mg "is_place_for" (topSt 22) := by
    obtain ⟨fd, F⟩ := cs.def_ 7 (d := dOf "is_place_for" (topSt 22)) rfl
    exact ⟨_, fd, F, He.glo_ok X G (cs.fact 7 (f := .glo "is_place_for") rfl)⟩
  have D23 : At K mg "is_look" (topSt 23) := by
    obtain ⟨fd, F⟩ := cs.def_ 8 (d := dOf "is_look" (topSt 23)) rfl
    exact ⟨_, fd, F, He.glo_ok X G (cs.fact 8 (f := .glo "is_look") rfl)⟩
  have D24 : At K mg "has_ends" (topSt 24) := by
    obtain ⟨fd, F⟩ := cs.def_ 9 (d := dOf "has_ends" (topSt 24)) rfl
    exact ⟨_, fd, F, He.glo_ok X G (cs.fact 9 (f := .glo "has_ends") rfl)⟩
  have D25 : At K mg "is_program" (topSt 25) := by
    obtain ⟨fd, F⟩ := cs.def_ 10 (d := dOf "is_program" (topSt 25)) rfl
    exact ⟨_, fd, F, He.glo_ok X G (cs.fact 10 (f := .glo "is_program") rfl)⟩
  have D26 : At K mg "writers" (topSt 26) := by
    obtain ⟨fd, F⟩ := cs.def_ 11 (d := dOf "writers" (topSt 26)) rfl
    exact ⟨_, fd, F, He.glo_ok X G (cs.fact 11 (f := .glo "writers") rfl)⟩
  have D27 : At K mg "is_way" (topSt 27) := by
    obtain ⟨fd, F⟩ := cs.def_ 12 (d := dOf "is_way" (topSt 27)) rfl
    exact ⟨_, fd, F, He.glo_ok X G (cs.fact 12 (f := .glo "is_way") rfl)⟩
  have D28 : At K mg "check_way" (topSt 28) := by
    obtain ⟨fd, F⟩ := cs.def_ 13 (d := dOf "check_way" (topSt 28)) rfl
    exact ⟨_, fd, F, He.glo_ok X G (cs.fact 13 (f := .glo "check_way") rfl)⟩
  have D29 : At K mg "check_hand" (topSt 29) := by
    obtain ⟨fd, F⟩ := cs.def_ 14 (d := dOf "check_hand" (topSt 29)) rfl
    exact ⟨_, fd, F, He.glo_ok X G (cs.fact 14 (f := .glo "check_hand") rfl)⟩
  have D30 : At K mg "next_place" (topSt 30) := by
    obtain ⟨fd, F⟩ := cs.def_ 15 (d := dOf "next_place" (topSt 30)) rfl
    exact ⟨_, fd, F, He.glo_ok X G (cs.fact 15 (f := .glo "next_place") rfl)⟩
  have D31 : At K mg "part_of" (topSt 31) := by
    obtain ⟨fd, F⟩ := cs.def_ 16 (d := dOf "part_of" (topSt 31)) rfl
    exact ⟨_, fd, F, He.glo_ok X G (cs.fact 16 (f := .glo "part_of") rfl)⟩
  have D32 : At K mg "part_at" (topSt 32) := by
    obtain ⟨fd, F⟩ := cs.def_ 17 (d := dOf "part_at" (topSt 32)) rfl
    exact ⟨_, fd, F, He.glo_ok X G (cs.fact 17 (f := .glo "part_at") rfl)⟩
  have D38 : At K mg "is_template_look" (topSt 38) := by
    obtain ⟨fd, F⟩ := cs.def_ 18 (d := dOf "is_template_look" (topSt 38)) rfl
    exact ⟨_, fd, F, He.glo_ok X G (cs.fact 18 (f := .glo "is_template_look") rfl)⟩
  have D39 : At K mg "together" (topSt 39) := by
    obtain ⟨fd, F⟩ := cs.def_ 19 (d := dOf "together" (topSt 39)) rfl
    exact ⟨_, fd, F, He.glo_ok X G (cs.fact 19 (f := .glo "together") rfl)⟩
  have D40 : At K mg "is_template" (topSt 40) := by
    obtain ⟨fd, F⟩ := cs.def_ 20 (d := dOf "is_template" (topSt 40)) rfl
    exact ⟨_, fd, F, He.glo_ok X G (cs.fact 20 (f := .glo "is_template") rfl)⟩
  have D41 : At K mg "check_template" (topSt 41) := by
    obtain ⟨fd, F⟩ := cs.def_ 21 (d := dOf "check_template" (topSt 41)) rfl
    exact ⟨_, fd, F, He.glo_ok X G (cs.fact 21 (f := .glo "check_template") rfl)⟩
  have D42 : At K mg "looked_at" (topSt 42) := by
    obtain ⟨fd, F⟩ := cs.def_ 22 (d := dOf "looked_at" (topSt 42)) rfl
    exact ⟨_, fd, F, He.glo_ok X G (cs.fact 22 (f := .glo "looked_at") rfl)⟩
  have D43 : At K mg "rows_of" (topSt 43) := by
    obtain ⟨fd, F⟩ := cs.def_ 23 (d := dOf "rows_of" (topSt 43)) rfl
    exact ⟨_, fd, F, He.glo_ok X G (cs.fact 23 (f := .glo "rows_of") rfl)⟩
  have D44 : At K mg "begins" (topSt 44) := by
    obtain ⟨fd, F⟩ := cs.def_ 24 (d := dOf "begins" (topSt 44)) rfl
    exact ⟨_, fd, F, He.glo_ok X G (cs.fact 24 (f := .glo "begins") rfl)⟩
  have D45 : At K mg "program_for" (topSt 45) := by
    obtain ⟨fd, F⟩ := cs.def_ 25 (d := dOf "program_for" (topSt 45)) rfl
    exact ⟨_, fd, F, He.glo_ok X G (cs.fact 25 (f := .glo "program_for") rfl)⟩
  have D46 : At K mg "way_for" (topSt 46) := by
    obtain ⟨fd, F⟩ := cs.def_ 26 (d := dOf "way_for" (topSt 46)) rfl
    exact ⟨_, fd, F, He.glo_ok X G (cs.fact 26 (f := .glo "way_for") rfl)⟩
  have D48 : At K mg "is_spot" (topSt 48) := by
    obtain ⟨fd, F⟩ := cs.def_ 27 (d := dOf "is_spot" (topSt 48)) rfl
    exact ⟨_, fd, F, He.glo_ok X G (cs.fact 27 (f := .glo "is_spot") rfl)⟩
  have D49 : At K mg "is_standing" (topSt 49) := by
    obtain ⟨fd, F⟩ := cs.def_ 28 (d := dOf "is_standing" (topSt 49)) rfl
    exact ⟨_, fd, F, He.glo_ok X G (cs.fact 28 (f := .glo "is_standing") rfl)⟩
  have D50 : At K mg "check_standing" (topSt 50) := by
    obtain ⟨fd, F⟩ := cs.def_ 29 (d := dOf "check_standing" (topSt 50)) rfl
    exact ⟨_, fd, F, He.glo_ok X G (cs.fact 29 (f := .glo "check_standing") rfl)⟩
  have D51 : At K mg "first_standing" (topSt 51) := by
    obtain ⟨fd, F⟩ := cs.def_ 30 (d := dOf "first_standing" (topSt 51)) rfl
    exact ⟨_, fd, F, He.glo_ok X G (cs.fact 30 (f := .glo "first_standing") rfl)⟩
  have D52 : At K mg "put_in" (topSt 52) := by
    obtain ⟨fd, F⟩ := cs.def_ 31 (d := dOf "put_in" (topSt 52)) rfl
    exact ⟨_, fd, F, He.glo_ok X G (cs.fact 31 (f := .glo "put_in") rfl)⟩
  have D53 : At K mg "spot_on" (topSt 53) := by
    obtain ⟨fd, F⟩ := cs.def_ 32 (d := dOf "spot_on" (topSt 53)) rfl
    exact ⟨_, fd, F, He.glo_ok X G (cs.fact 32 (f := .glo "spot_on") rfl)⟩
  have D54 : At K mg "written_now" (topSt 54) := by
    obtain ⟨fd, F⟩ := cs.def_ 33 (d := dOf "written_now" (topSt 54)) rfl
    exact ⟨_, fd, F, He.glo_ok X G (cs.fact 33 (f := .glo "written_now") rfl)⟩
  have D55 : At K mg "can_be_told" (topSt 55) := by
    obtain ⟨fd, F⟩ := cs.def_ 34 (d := dOf "can_be_told" (topSt 55)) rfl
    exact ⟨_, fd, F, He.glo_ok X G (cs.fact 34 (f := .glo "can_be_told") rfl)⟩
  have D56 : At K mg "write_step" (topSt 56) := by
    obtain ⟨fd, F⟩ := cs.def_ 35 (d := dOf "write_step" (topSt 56)) rfl
    exact ⟨_, fd, F, He.glo_ok X G (cs.fact 35 (f := .glo "write_step") rfl)⟩
  have D57 : At K mg "look_steps" (topSt 57) := by
    obtain ⟨fd, F⟩ := cs.def_ 36 (d := dOf "look_steps" (topSt 57)) rfl
    exact ⟨_, fd, F, He.glo_ok X G (cs.fact 36 (f := .glo "look_steps") rfl)⟩
  have D58 : At K mg "hand_steps" (topSt 58) := by
    obtain ⟨fd, F⟩ := cs.def_ 37 (d := dOf "hand_steps" (topSt 58)) rfl
    exact ⟨_, fd, F, He.glo_ok X G (cs.fact 37 (f := .glo "hand_steps") rfl)⟩
  have D59 : At K mg "steps_of" (topSt 59) := by
    obtain ⟨fd, F⟩ := cs.def_ 38 (d := dOf "steps_of" (topSt 59)) rfl
    exact ⟨_, fd, F, He.glo_ok X G (cs.fact 38 (f := .glo "steps_of") rfl)⟩
  have D60 : At K mg "steps_from" (topSt 60) := by
    obtain ⟨fd, F⟩ := cs.def_ 39 (d := dOf "steps_from" (topSt 60)) rfl
    exact ⟨_, fd, F, He.glo_ok X G (cs.fact 39 (f := .glo "steps_from") rfl)⟩
  have D62 : At K mg "_law_mixed" (topSt 62) := by
    obtain ⟨fd, F⟩ := cs.def_ 40 (d := dOf "_law_mixed" (topSt 62)) rfl
    exact ⟨_, fd, F, He.glo_ok X G (cs.fact 40 (f := .glo "_law_mixed") rfl)⟩
  have D63 : At K mg "_law_pack" (topSt 63) := by
    obtain ⟨fd, F⟩ := cs.def_ 41 (d := dOf "_law_pack" (topSt 63)) rfl
    exact ⟨_, fd, F, He.glo_ok X G (cs.fact 41 (f := .glo "_law_pack") rfl)⟩
  have D64 : At K mg "_law_take" (topSt 64) := by
    obtain ⟨fd, F⟩ := cs.def_ 42 (d := dOf "_law_take" (topSt 64)) rfl
    exact ⟨_, fd, F, He.glo_ok X G (cs.fact 42 (f := .glo "_law_take") rfl)⟩
  have D65 : At K mg "_law_numbers" (topSt 65) := by
    obtain ⟨fd, F⟩ := cs.def_ 43 (d := dOf "_law_numbers" (topSt 65)) rfl
    exact ⟨_, fd, F, He.glo_ok X G (cs.fact 43 (f := .glo "_law_numbers") rfl)⟩
  have D66 : At K mg "_law_template" (topSt 66) := by
    obtain ⟨fd, F⟩ := cs.def_ 44 (d := dOf "_law_template" (topSt 66)) rfl
    exact ⟨_, fd, F, He.glo_ok X G (cs.fact 44 (f := .glo "_law_template") rfl)⟩
  have D67 : At K mg "_law_known_template" (topSt 67) := by
    obtain ⟨fd, F⟩ := cs.def_ 45 (d := dOf "_law_known_template" (topSt 67)) rfl
    exact ⟨_, fd, F, He.glo_ok X G (cs.fact 45 (f := .glo "_law_known_template") rfl)⟩
  have D68 : At K mg "_law_some_template" (topSt 68) := by
    obtain ⟨fd, F⟩ := cs.def_ 46 (d := dOf "_law_some_template" (topSt 68)) rfl
    exact ⟨_, fd, F, He.glo_ok X G (cs.fact 46 (f := .glo "_law_some_template") rfl)⟩
  have D69 : At K mg "_law_whom" (topSt 69) := by
    obtain ⟨fd, F⟩ := cs.def_ 47 (d := dOf "_law_whom" (topSt 69)) rfl
    exact ⟨_, fd, F, He.glo_ok X G (cs.fact 47 (f := .glo "_law_whom") rfl)⟩
  have D70 : At K mg "_law_settled" (topSt 70) := by
    obtain ⟨fd, F⟩ := cs.def_ 48 (d := dOf "_law_settled" (topSt 70)) rfl
    exact ⟨_, fd, F, He.glo_ok X G (cs.fact 48 (f := .glo "_law_settled") rfl)⟩
  have D71 : At K mg "_law_stepped" (topSt 71) := by
    obtain ⟨fd, F⟩ := cs.def_ 49 (d := dOf "_law_stepped" (topSt 71)) rfl
    exact ⟨_, fd, F, He.glo_ok X G (cs.fact 49 (f := .glo "_law_stepped") rfl)⟩
  have D72 : At K mg "_law_part" (topSt 72) := by
    obtain ⟨fd, F⟩ := cs.def_ 50 (d := dOf "_law_part" (topSt 72)) rfl
    exact ⟨_, fd, F, He.glo_ok X G (cs.fact 50 (f := .glo "_law_part") rfl)⟩
  have D73 : At K mg "_law_right" (topSt 73) := by
    obtain ⟨fd, F⟩ := cs.def_ 51 (d := dOf "_law_right" (topSt 73)) rfl
    exact ⟨_, fd, F, He.glo_ok X G (cs.fact 51 (f := .glo "_law_right") rfl)⟩
  obtain ⟨fd, F⟩ := cs.def_ 52 (d := dOf "law" (topSt 74)) rfl
  have e := hfa.symm.trans (He.glo_ok X G (cs.fact 52 (f := .glo "law") rfl))
  cases e
  refine ⟨fun H a xs hs => ?_, fd, fun s v => ?_, fun base _ _ => ok_all F T V D64 D15 D16 D17 D18 D19 D20 D21 D22 D23 D24 D25 D26 D27 D28 D29 D30 D31 D32 D38 D39 D40 D41 D42 D43 D44 D45 D46 D48 D49 D50 D51 D52 D53 D54 D55 D56 D57 D58 D59 D60 D62 D63 D65 D66 D67 D68 D69 D70 D71 D72 D73⟩
  · rcases hs with hs | ⟨o, its, n, hk, hc, _⟩
    · exact hs
    · exact absurd hc (noL_ok cn hk)
  · have b := FunD.bindsA (ps := ["_law_script"]) F fun _ _ _ _ _ _ us hl => match us, hl with | [_], _ => rfl
    exact b s [v] rfl
theorem rd_script {K : PySem.W.Frag} {S : Hp} (ns : List Int) : RpL K S (ns.map V.int) (ns.map PyData.int) := by
  induction ns with
  | nil => exact .nil
  | cons n ns ih => exact .cons (.int n) ih
theorem says {K : PySem.W.Frag} {H : Hp} {a : Addr} {ns : List Int} (hl : ns.length ≤ 63) (h : Rd H a (.lst (ns.map V.int))) : spV K m_law [.ref a] H (fun v _ => v = .bl true) fun _ _ _ => False := by
  refine ⟨H, [.list (ns.map PyData.int)], .bool true, Le.refl H, .cons (.lst h (rd_script ns)) .nil, law_ok ns hl, fun v S' H' _ r => ?_⟩
  cases r
  rfl
end K45
open PySem PySem.W PySem.Calls PyProof.Rows
theorem PySem.Challenge.cw_onewithin_k45_whole_templates_at_work_holds : PySem.Challenge.rw_onewithin_k45_whole_templates_at_work.Holds := by
  w_on; o_law
  refine HandSHeadRun.head_any (r := OpenLaw.row PySem.Challenge.rw_onewithin_k45_whole_templates_at_work) (q := view (OpenLaw.row PySem.Challenge.rw_onewithin_k45_whole_templates_at_work).prog [74]) (H := K45.hk) (ob := K45.ob) (M := 8000) (loose := K45.loose) (d := HandSHeadRun.topDef (OpenLaw.row PySem.Challenge.rw_onewithin_k45_whole_templates_at_work).prog 74) (kwd := []) K45.ob_eq
    (by kernel_rfl) (fun s => by kernel_rfl) K45.run (by kernel_rfl) (by kernel_rfl) (by kernel_rfl) (by rfl) (by first | assumption | decide +kernel) (by decide +kernel) ⟨rfl, rfl, rfl, rfl, rfl, by decide +kernel⟩ ?hw ?hc
  case hw => w_witness2
  case hc =>
    refine L2.walk_ofE (l := PySem.Challenge.rw_onewithin_k45_whole_templates_at_work) (n := 63) (k := 12) (x := "_law_script") (CX := L2.CX0) rfl (by decide) (by kernel_rfl) ⟨rfl, by decide, by decide⟩ ?F (fun _ _ _ _ z => z)
    intro w mg fa h Y G hmg0
    obtain ⟨K, KX, c⟩ := Y
    have hmg : mg ("law" : PySem.Str) = some (.ref fa) := by
      have e : (HandSHeadRun.topDef (OpenLaw.row PySem.Challenge.rw_onewithin_k45_whole_templates_at_work).prog 74).name = ("law" : PySem.Str) := by kernel_rfl
      rw [← e]
      exact hmg0
    obtain ⟨hr, fd, hb, hF⟩ := K45.facts (P := (PySem.Challenge.rw_onewithin_k45_whole_templates_at_work).prog) (w := w) KX G hmg c
    exact ⟨K, fd, Md.spV K K45.m_law, KX, hb, fun H a ns hl _ hS => K45.says hl (hr H a _ hS), hF⟩
