import PyProof.Rows.All
import Wide.All
import OpenK.AllK
import Wide.FinOn
import HandS.ForMost
import HandS.Style
import HandS.TupAny
import HandS.More
import HandS.Conv
import HandS.Dict
import HandS.SortKw
import KE.SortKeyHeap
import KE.KDictPairs
import KE.KDictSum
import KE.GoesEnum
import HandS.Iter
import HandS.List
import PyProof.Rows.Range3
import HandS.Small
import HandS.Wide
import PySem.Challenge.RW_sortedbynets_k71_whole_next_nets_told_by
set_option Elab.async false
set_option linter.all false
set_option maxRecDepth 100000
set_option maxHeartbeats 2000000
/-! PL1: data on the abstract heap, owned objects, what the slots hold (Sat). -/
namespace PL
open PySem PySem.Spec PyProof.Rows L2

def Stp (H H' : Hp) : Prop := ∀ a xs, H a = some (.tup xs) → H' a = some (.tup xs)
def Ext (H H' : Hp) : Prop := ∀ a o, H a = some o → H' a = some o
theorem Ext.refl (H : Hp) : Ext H H := fun _ _ h => h
theorem Ext.trans {H H1 H2 : Hp} (a : Ext H H1) (b : Ext H1 H2) : Ext H H2 := fun x o h => b x o (a x o h)
theorem Ext.stp {H H' : Hp} (h : Ext H H') : Stp H H' := fun a xs e => h a _ e
theorem Stp.refl (H : Hp) : Stp H H := fun _ _ h => h
theorem Stp.trans {H H1 H2 : Hp} (a : Stp H H1) (b : Stp H1 H2) : Stp H H2 := fun x o h => b x o (a x o h)
theorem Ext.new {H : Hp} {p : Addr} {o : HO} (h : H p = none) : Ext H (upd H p o) := fun a u e => by
  rw [upd_ne (ne_of_none e h)]
  exact e
theorem Ext.back {H H' : Hp} {p : Addr} (e : Ext H H') (h : H' p = none) : H p = none := by
  cases h1 : H p with
  | none => rfl
  | some o => rw [e p o h1] at h; cases h
theorem Stp.upd {H : Hp} {l : Addr} {o : HO} (h : ∀ xs, H l ≠ some (.tup xs)) : Stp H (upd H l o) := fun a xs e => by
  have : a ≠ l := fun q => by subst q; exact h xs e
  rw [upd_ne this]; exact e

mutual
/-- a value is immutable data -/
inductive Rep (H : Hp) : V → PyData → Prop
  | none : Rep H .non .none
  | bool (b : Bool) : Rep H (.bl b) (.bool b)
  | int (i : Int) : Rep H (.int i) (.int i)
  | str (x : Str) : Rep H (.str x) (.str x)
  | tup {a : Addr} {vs : List V} {ds : List PyData} : H a = some (.tup vs) → Reps H vs ds → Rep H (.ref a) (.tuple ds)
inductive Reps (H : Hp) : List V → List PyData → Prop
  | nil : Reps H [] []
  | cons {v : V} {vs : List V} {d : PyData} {ds : List PyData} : Rep H v d → Reps H vs ds → Reps H (v :: vs) (d :: ds)
end

theorem Rep.st {H H' : Hp} (s : Stp H H') {v : V} {d : PyData} (h : Rep H v d) : Rep H' v d :=
  Rep.rec (motive_1 := fun v d _ => Rep H' v d) (motive_2 := fun vs ds _ => Reps H' vs ds)
    .none .bool .int .str (fun h _ r => .tup (s _ _ h) r) .nil (fun _ _ a b => .cons a b) h
theorem Reps.st {H H' : Hp} (s : Stp H H') {vs : List V} {ds : List PyData} (h : Reps H vs ds) : Reps H' vs ds :=
  Reps.rec (motive_1 := fun v d _ => Rep H' v d) (motive_2 := fun vs ds _ => Reps H' vs ds)
    .none .bool .int .str (fun h _ r => .tup (s _ _ h) r) .nil (fun _ _ a b => .cons a b) h
theorem Rep.reads {P : Program} {w : World} {H : Hp} {h : Heap} (ok : HOk P w H h) {v : V} {d : PyData} (r : Rep H v d) : ∀ {u : Value}, RelV v u → ∃ as, Reads h u d as :=
  Rep.rec (H := H) (motive_1 := fun v d _ => ∀ u : Value, RelV v u → ∃ as, Reads h u d as) (motive_2 := fun vs ds _ => ∀ us : List Value, Vals vs us → ∃ as, ReadsAll h us ds as)
    (fun u e => by cases e; exact ⟨_, .none⟩) (fun b u e => by cases e; exact ⟨_, .bool _⟩) (fun i u e => by obtain ⟨t, rfl⟩ := e; exact ⟨_, .int _ _⟩) (fun x u e => by obtain ⟨t, rfl⟩ := e; exact ⟨_, .str _ _⟩)
    (fun {a vs ds} hh _ ih u e => by
      cases e
      obtain ⟨_, its, r, o, e, c, n, q⟩ := ok a _ hh
      obtain ⟨as, q2⟩ := ih its r
      exact ⟨as, .tuple e c q (by simpa using q2)⟩)
    (fun us e => by cases e; exact ⟨_, .nil⟩)
    (fun _ _ ih1 ih2 us e => by
      cases e with
      | cons r t =>
        obtain ⟨as, q1⟩ := ih1 _ r
        obtain ⟨bs, q2⟩ := ih2 _ t
        exact ⟨_, .cons q1 q2⟩) r _
theorem Reps.length {H : Hp} : ∀ {vs : List V} {ds : List PyData}, Reps H vs ds → vs.length = ds.length
  | _, _, .nil => rfl
  | _, _, .cons _ t => by rw [List.length_cons, List.length_cons, Reps.length t]
theorem Reps.get {H : Hp} : ∀ {vs : List V} {ds : List PyData} {i : Nat} {d : PyData}, Reps H vs ds → ds[i]? = some d → ∃ v, vs[i]? = some v ∧ Rep H v d
  | _, _, _, _, .nil, e => by simp at e
  | _, _, 0, _, .cons r _, e => by simp at e; subst e; exact ⟨_, rfl, r⟩
  | _, _, i + 1, d, .cons _ t, e => by
    obtain ⟨u, h1, h2⟩ := Reps.get (i := i) (d := d) t (by simpa using e)
    exact ⟨u, by simpa using h1, h2⟩
theorem Reps.get' {H : Hp} {vs : List V} {ds : List PyData} {i : Nat} {v : V} (r : Reps H vs ds) (e : vs[i]? = some v) : ∃ d, ds[i]? = some d ∧ Rep H v d := by
  have hl := r.length
  obtain ⟨hi, _⟩ := List.getElem?_eq_some_iff.mp e
  have hi' : i < ds.length := by omega
  obtain ⟨v', e', q⟩ := r.get (List.getElem?_eq_getElem hi')
  rw [e] at e'; cases e'
  exact ⟨_, List.getElem?_eq_getElem hi', q⟩
theorem Reps.append {H : Hp} : ∀ {vs us : List V} {ds es : List PyData}, Reps H vs ds → Reps H us es → Reps H (vs ++ us) (ds ++ es)
  | _, _, _, _, .nil, s => s
  | _, _, _, _, .cons r t, s => .cons r (Reps.append t s)
theorem Reps.take {H : Hp} : ∀ {vs : List V} {ds : List PyData} (n : Nat), Reps H vs ds → Reps H (vs.take n) (ds.take n)
  | _, _, 0, _ => .nil
  | _, _, _ + 1, .nil => .nil
  | _, _, n + 1, .cons r t => .cons r (Reps.take n t)
theorem Reps.drop {H : Hp} : ∀ {vs : List V} {ds : List PyData} (n : Nat), Reps H vs ds → Reps H (vs.drop n) (ds.drop n)
  | _, _, 0, r => r
  | _, _, _ + 1, .nil => .nil
  | _, _, n + 1, .cons _ t => Reps.drop n t
theorem Reps.reverse {H : Hp} : ∀ {vs : List V} {ds : List PyData}, Reps H vs ds → Reps H vs.reverse ds.reverse
  | _, _, .nil => .nil
  | _, _, .cons r t => by
    rw [List.reverse_cons, List.reverse_cons]
    exact (Reps.reverse t).append (.cons r .nil)
theorem Reps.set {H : Hp} {v : V} {d : PyData} (r : Rep H v d) : ∀ {vs : List V} {ds : List PyData} (i : Nat), Reps H vs ds → Reps H (vs.set i v) (ds.set i d)
  | _, _, _, .nil => .nil
  | _, _, 0, .cons _ t => .cons r t
  | _, _, i + 1, .cons q t => .cons q (Reps.set r i t)
theorem Reps.ints {H : Hp} : ∀ {vs : List V} {ns : List Int}, Reps H vs (ns.map .int) → vs = ns.map V.int
  | _, [], h => by
    have h' : Reps H _ [] := h
    cases h'; rfl
  | _, n :: ns, h => by
    have h' : Reps H _ (.int n :: ns.map .int) := h
    cases h' with
    | cons r t =>
      cases r
      rw [Reps.ints t]; rfl
theorem Reps.of_ints {H : Hp} : ∀ (ns : List Int), Reps H (ns.map V.int) (ns.map .int)
  | [] => .nil
  | n :: ns => .cons (.int n) (Reps.of_ints ns)

/-! ### owned objects -/
structure Ow where
  p : Hp → V → List Addr → Prop
  st : ∀ {H H' v F}, Stp H H' → (∀ a ∈ F, H' a = H a) → p H v F → p H' v F
  mu : ∀ {H v F}, p H v F → ∀ a ∈ F, Mut (H a)

/-- a list of immutable data -/
def oL (ds : List PyData) : Ow where
  p := fun H v F => ∃ l vs, v = .ref l ∧ F = [l] ∧ H l = some (.lst vs) ∧ Reps H vs ds
  st := fun {H H' v F} s k h => by
    obtain ⟨l, vs, rfl, rfl, h1, h2⟩ := h
    exact ⟨l, vs, rfl, rfl, (k l (by simp)).trans h1, h2.st s⟩
  mu := fun {H v F} h a ha => by
    obtain ⟨l, vs, rfl, rfl, h1, h2⟩ := h
    have : a = l := by simpa using ha
    subst this
    rw [h1]; trivial
inductive As where
  | any
  | imm (d : PyData)
  | new (o : Ow)
  | own (v : V) (o : Ow)
  | frz (v : V) (o : Ow)
  | val (v : V)
/-- it has a footprint -/
def As.has : As → Bool
  | .new _ => true
  | .own _ _ => true
  | .frz _ _ => true
  | _ => false
/-- it is owned -/
def As.mine : As → Bool
  | .new _ => true
  | .own _ _ => true
  | _ => false
theorem As.has_of {A : As} (h : A.mine = true) : A.has = true := by cases A <;> first | rfl | cases h

def AtOk (σ : List (Option V)) (F : List Addr) (H : Hp) (i : Nat) : As → Prop
  | .any => True
  | .imm d => ∃ v, σ[i]? = some (some v) ∧ Rep H v d
  | .new o => ∃ v, σ[i]? = some (some v) ∧ o.p H v F
  | .own v o => σ[i]? = some (some v) ∧ o.p H v F
  | .frz v o => σ[i]? = some (some v) ∧ o.p H v F
  | .val v => σ[i]? = some (some v)

def Fps (B : Hp) (M : List Addr) (Γ : List As) (σ : List (Option V)) (H : Hp) (F : Nat → List Addr) : Prop :=
  (∀ i A, Γ[i]? = some A → AtOk σ (F i) H i A) ∧
  (∀ i A, Γ[i]? = some A → A.mine = true → (∀ a ∈ F i, B a = none ∨ a ∈ M) ∧ ∀ j A', j ≠ i → Γ[j]? = some A' → A'.has = true → ∀ a ∈ F i, a ∉ F j)

structure Sat (B : Hp) (M : List Addr) (Γ : List As) (σ : List (Option V)) (H : Hp) : Prop where
  len : Γ.length = σ.length
  keep : ∀ a o, B a = some o → a ∉ M → H a = some o
  fp : ∃ F : Nat → List Addr, Fps B M Γ σ H F

theorem AtOk.stay {σ : List (Option V)} {F : List Addr} {H H' : Hp} {i : Nat} {A : As} (s : Stp H H') (k : A.has = true → ∀ a ∈ F, H' a = H a) (h : AtOk σ F H i A) : AtOk σ F H' i A := by
  cases A with
  | any => trivial
  | imm d => obtain ⟨v, e, r⟩ := h; exact ⟨v, e, r.st s⟩
  | new o => obtain ⟨v, e, r⟩ := h; exact ⟨v, e, o.st s (k rfl) r⟩
  | own v o => exact ⟨h.1, o.st s (k rfl) h.2⟩
  | frz v o => exact ⟨h.1, o.st s (k rfl) h.2⟩
  | val v => exact h
theorem AtOk.fpM {σ : List (Option V)} {F : List Addr} {H : Hp} {i : Nat} {A : As} (h : AtOk σ F H i A) (hA : A.has = true) : ∀ a ∈ F, Mut (H a) := by
  cases A with
  | new o => obtain ⟨v, e, r⟩ := h; exact o.mu r
  | own v o => exact o.mu h.2
  | frz v o => exact o.mu h.2
  | any => cases hA
  | imm d => cases hA
  | val v => cases hA
/-- the same of another place with the same value -/
theorem AtOk.to {σ σ' : List (Option V)} {F : List Addr} {H : Hp} {i j : Nat} {A : As} (e : σ'[j]? = σ[i]?) (h : AtOk σ F H i A) : AtOk σ' F H j A := by
  cases A with
  | any => trivial
  | imm d => obtain ⟨v, q, r⟩ := h; exact ⟨v, e.trans q, r⟩
  | new o => obtain ⟨v, q, r⟩ := h; exact ⟨v, e.trans q, r⟩
  | own v o => exact ⟨e.trans h.1, h.2⟩
  | frz v o => exact ⟨e.trans h.1, h.2⟩
  | val v => exact e.trans h
theorem mut_some {H : Hp} {a : Addr} (h : Mut (H a)) : ∃ o, H a = some o := by
  cases e : H a with
  | none => rw [e] at h; exact h.elim
  | some o => exact ⟨o, rfl⟩
theorem mut_noTup {H : Hp} {a : Addr} (h : Mut (H a)) : ∀ xs, H a ≠ some (.tup xs) := fun xs e => by rw [e] at h; exact h

section
variable {B : Hp} {M : List Addr} {Γ : List As} {σ : List (Option V)} {H H' : Hp}

/-- objects are added alone -/
theorem Sat.ext (S : Sat B M Γ σ H) (e : Ext H H') : Sat B M Γ σ H' := by
  obtain ⟨hl, hk, F, h1, h2⟩ := S
  refine ⟨hl, fun a o q n => e a o (hk a o q n), F, fun i A q => (h1 i A q).stay e.stp fun hA a ha => ?_, h2⟩
  obtain ⟨o, ho⟩ := mut_some ((h1 i A q).fpM hA a ha)
  rw [ho, e a o ho]
theorem get_snocA {l : List As} {x : As} {i : Nat} {y : As} (h : (l ++ [x])[i]? = some y) : (i < l.length ∧ l[i]? = some y) ∨ (i = l.length ∧ x = y) := by
  by_cases hi : i < l.length
  · rw [List.getElem?_append_left hi] at h; exact .inl ⟨hi, h⟩
  · rw [List.getElem?_append_right (by omega)] at h
    have : i - l.length = 0 := by
      cases q : i - l.length with
      | zero => rfl
      | succ n => rw [q] at h; simp at h
    rw [this] at h
    exact .inr ⟨by omega, by simpa using h⟩
theorem lt_of_get {α : Type _} {l : List α} {i : Nat} {x : α} (h : l[i]? = some x) : i < l.length := by
  obtain ⟨h, _⟩ := List.getElem?_eq_some_iff.mp h
  exact h
/-- one more value, its addresses those that no owned object has -/
theorem Sat.push {A : As} {v : V} {F0 : List Addr} (S : Sat B M Γ σ H) (h : ∀ σ', σ'[Γ.length]? = some (some v) → AtOk σ' F0 H Γ.length A)
    (hf : A.has = true → ∀ a ∈ F0, ∀ F, Fps B M Γ σ H F → ∀ i A', Γ[i]? = some A' → A'.has = true → (A'.mine = true ∨ A.mine = true) → a ∉ F i)
    (ho : A.mine = true → ∀ a ∈ F0, B a = none ∨ a ∈ M) : Sat B M (Γ ++ [A]) (σ ++ [some v]) H := by
  obtain ⟨hl, hk, F, h1, h2⟩ := S
  have hlast : (σ ++ [some v])[Γ.length]? = some (some v) := by rw [hl]; simp
  refine ⟨by simp [hl], hk, fun i => if i < Γ.length then F i else F0, fun i A' q => ?_, fun i A' q hA => ?_⟩ <;> dsimp only
  · rcases get_snocA q with ⟨hi, q⟩ | ⟨rfl, rfl⟩
    · rw [if_pos hi]; exact (h1 i A' q).to (List.getElem?_append_left (by omega))
    · rw [if_neg (Nat.lt_irrefl _)]; exact h _ hlast
  · rcases get_snocA q with ⟨hi, q1⟩ | ⟨rfl, e⟩
    · rw [if_pos hi]
      refine ⟨(h2 i A' q1 hA).1, fun j A2 hj q' hA' a ha => ?_⟩
      rcases get_snocA q' with ⟨hj', q'⟩ | ⟨rfl, rfl⟩
      · rw [if_pos hj']; exact (h2 i A' q1 hA).2 j A2 hj q' hA' a ha
      · rw [if_neg (Nat.lt_irrefl _)]; exact fun z => hf hA' a z F ⟨h1, h2⟩ i A' q1 (As.has_of hA) (.inl hA) ha
    · rw [if_neg (Nat.lt_irrefl _)]
      subst e
      refine ⟨ho hA, fun j A2 hj q' hA' a ha => ?_⟩
      rcases get_snocA q' with ⟨hj', q'⟩ | ⟨rfl, _⟩
      · rw [if_pos hj']; exact hf (As.has_of hA) a ha F ⟨h1, h2⟩ j A2 q' hA' (.inr hA)
      · exact absurd rfl hj
theorem Sat.imm {d : PyData} {v : V} (S : Sat B M Γ σ H) (r : Rep H v d) : Sat B M (Γ ++ [.imm d]) (σ ++ [some v]) H :=
  S.push (F0 := []) (fun _ e => ⟨v, e, r⟩) (fun h => by cases h) (fun h => by cases h)
theorem Sat.val {v : V} (S : Sat B M Γ σ H) : Sat B M (Γ ++ [.val v]) (σ ++ [some v]) H :=
  S.push (F0 := []) (fun _ e => e) (fun h => by cases h) (fun h => by cases h)
theorem Sat.any {x : Option V} (S : Sat B M Γ σ H) : Sat B M (Γ ++ [.any]) (σ ++ [x]) H := by
  obtain ⟨hl, hk, F, h1, h2⟩ := S
  refine ⟨by simp [hl], hk, F, fun i A' q => ?_, fun i A' q hA => ?_⟩
  · rcases get_snocA q with ⟨hi, q⟩ | ⟨rfl, rfl⟩
    · exact (h1 i A' q).to (List.getElem?_append_left (by omega))
    · trivial
  · rcases get_snocA q with ⟨hi, q⟩ | ⟨rfl, e⟩
    · refine ⟨(h2 i A' q hA).1, fun j A2 hj q' hA' a ha => ?_⟩
      rcases get_snocA q' with ⟨hj', q'⟩ | ⟨rfl, rfl⟩
      · exact (h2 i A' q hA).2 j A2 hj q' hA' a ha
      · cases hA'
    · subst e; cases hA
/-- a new object, its addresses fresh -/
theorem Sat.new {o : Ow} {v : V} {F0 : List Addr} (S : Sat B M Γ σ H) (e : Ext H H') (h : o.p H' v F0) (hf : ∀ a ∈ F0, H a = none) : Sat B M (Γ ++ [.new o]) (σ ++ [some v]) H' := by
  obtain ⟨hl, hk, F, h1, h2⟩ := S
  have key : ∀ a ∈ F0, ∀ i A', Γ[i]? = some A' → A'.has = true → a ∉ F i := fun a ha i A' q hA z => by
    obtain ⟨o, ho⟩ := mut_some ((h1 i A' q).fpM hA a z)
    rw [hf a ha] at ho; cases ho
  have hlast : (σ ++ [some v])[Γ.length]? = some (some v) := by rw [hl]; simp
  refine ⟨by simp [hl], fun a o q n => e a o (hk a o q n), fun i => if i < Γ.length then F i else F0, fun i A' q => ?_, fun i A' q hA => ?_⟩ <;> dsimp only
  · rcases get_snocA q with ⟨hi, q⟩ | ⟨rfl, rfl⟩
    · rw [if_pos hi]
      refine ((h1 i A' q).stay e.stp fun hA a ha => ?_).to (List.getElem?_append_left (by omega))
      obtain ⟨o, ho⟩ := mut_some ((h1 i A' q).fpM hA a ha)
      rw [ho, e a o ho]
    · rw [if_neg (Nat.lt_irrefl _)]; exact ⟨v, hlast, h⟩
  · rcases get_snocA q with ⟨hi, q1⟩ | ⟨rfl, ee⟩
    · rw [if_pos hi]
      refine ⟨(h2 i A' q1 hA).1, fun j A2 hj q' hA' a ha => ?_⟩
      rcases get_snocA q' with ⟨hj', q'⟩ | ⟨rfl, rfl⟩
      · rw [if_pos hj']; exact (h2 i A' q1 hA).2 j A2 hj q' hA' a ha
      · rw [if_neg (Nat.lt_irrefl _)]; exact fun z => key a z i _ q1 (As.has_of hA) ha
    · rw [if_neg (Nat.lt_irrefl _)]
      refine ⟨fun a ha => ?_, fun j A2 hj q' hA' a ha => ?_⟩
      · by_cases hM : a ∈ M
        · exact .inr hM
        · left
          cases q : B a with
          | none => rfl
          | some u =>
            have := hk a u q hM
            rw [hf a ha] at this; cases this
      · rcases get_snocA q' with ⟨hj', q'⟩ | ⟨rfl, _⟩
        · rw [if_pos hj']; exact key a ha j A2 q' hA'
        · exact absurd rfl hj
theorem Sat.pop {A : As} {x : Option V} (S : Sat B M (Γ ++ [A]) (σ ++ [x]) H) : Sat B M Γ σ H := by
  obtain ⟨hl, hk, F, h1, h2⟩ := S
  have hl' : Γ.length = σ.length := by simpa using hl
  have up : ∀ {i A'}, Γ[i]? = some A' → (Γ ++ [A])[i]? = some A' := fun {i A'} q => by
    rw [List.getElem?_append_left (lt_of_get q)]; exact q
  refine ⟨hl', hk, F, fun i A' q => ?_, fun i A' q hA => ⟨(h2 i A' (up q) hA).1, fun j A2 hj q' => (h2 i A' (up q) hA).2 j A2 hj (up q')⟩⟩
  have hi := lt_of_get q
  exact (h1 i A' (up q)).to (List.getElem?_append_left (by omega)).symm
theorem Sat.last {A : As} {x : Option V} (S : Sat B M (Γ ++ [A]) (σ ++ [x]) H) : ∃ F, AtOk [x] F H 0 A := by
  obtain ⟨hl, hk, F, h1, h2⟩ := S
  have hl' : Γ.length = σ.length := by simpa using hl
  exact ⟨F Γ.length, (h1 Γ.length A (by simp)).to (by rw [hl']; simp)⟩
theorem Sat.last_imm {d : PyData} {x : Option V} (S : Sat B M (Γ ++ [.imm d]) (σ ++ [x]) H) : ∃ v, x = some v ∧ Rep H v d := by
  obtain ⟨F, v, e, r⟩ := S.last
  exact ⟨v, by simpa using e, r⟩
theorem Sat.slot_imm {i : Nat} {d : PyData} (S : Sat B M Γ σ H) (h : Γ[i]? = some (.imm d)) : ∃ v, σ[i]? = some (some v) ∧ Rep H v d := by
  obtain ⟨hl, hk, F, h1, h2⟩ := S
  exact h1 i _ h
/-- places go to other places -/
theorem Sat.sub {Γ' : List As} {σ' : List (Option V)} (S : Sat B M Γ σ H) (m : Nat → Nat) (hl : Γ'.length = σ'.length) (inj : ∀ i j A A', Γ'[i]? = some A → Γ'[j]? = some A' → A.mine = true → A'.has = true → m i = m j → i = j)
    (h : ∀ i A, Γ'[i]? = some A → (A.has = false ∧ (∃ F, AtOk σ' F H i A)) ∨ ∃ A0, Γ[m i]? = some A0 ∧ (A.has = true → A0.has = true) ∧ (A.mine = true → A0.mine = true) ∧ ∀ F, AtOk σ F H (m i) A0 → AtOk σ' F H i A) : Sat B M Γ' σ' H := by
  obtain ⟨hl0, hk, F, h1, h2⟩ := S
  have noF : ∀ {i A F1 F2}, A.has = false → AtOk σ' F1 H i A → AtOk σ' F2 H i A := fun {i A F1 F2} hA q => by
    cases A <;> first | exact q | cases hA
  refine ⟨hl, hk, fun i => F (m i), fun i A q => ?_, fun i A q hA => ?_⟩
  · rcases h i A q with ⟨hA, F', q'⟩ | ⟨A0, q0, _, _, q'⟩
    · exact noF hA q'
    · exact q' _ (h1 _ _ q0)
  · rcases h i A q with ⟨hA', _⟩ | ⟨A0, q0, _, hm, q'⟩
    · rw [As.has_of hA] at hA'; cases hA'
    · refine ⟨(h2 _ _ q0 (hm hA)).1, fun j A2 hj q2 hA2 a ha => ?_⟩
      rcases h j A2 q2 with ⟨hA', _⟩ | ⟨A3, q3, hh, _, _⟩
      · rw [hA2] at hA'; cases hA'
      · exact (h2 _ _ q0 (hm hA)).2 _ A3 (fun e => hj (inj i j A A2 q q2 hA hA2 e.symm).symm) q3 (hh hA2) a ha
/-- what a value becomes in a slot -/
def As.put (v : V) : As → As
  | .new o => .own v o
  | A => A
/-- the last value goes to a slot -/
theorem Sat.set {A : As} {v : V} {i : Nat} (S : Sat B M (Γ ++ [A]) (σ ++ [some v]) H) (hi : i < Γ.length) : Sat B M (Γ.set i (A.put v)) (σ.set i (some v)) H := by
  have hl' : Γ.length = σ.length := by have := S.len; simpa using this
  have gs : ∀ {j A'}, (Γ.set i (A.put v))[j]? = some A' → (j = i ∧ A' = A.put v) ∨ (j ≠ i ∧ Γ[j]? = some A') := fun {j A'} q => by
    by_cases hj : j = i
    · subst hj
      rw [List.getElem?_set_self hi] at q
      exact .inl ⟨rfl, (Option.some.inj q).symm⟩
    · rw [List.getElem?_set_ne (Ne.symm hj)] at q
      exact .inr ⟨hj, q⟩
  refine S.sub (fun j => if j = i then Γ.length else j) (by simp [hl']) (fun j k A1 A2 q1 q2 _ _ e => ?_) (fun j A' q => .inr ?_)
  · have l1 := lt_of_get q1
    have l2 := lt_of_get q2
    rw [List.length_set] at l1 l2
    by_cases h1 : j = i <;> by_cases h2 : k = i <;> simp only [h1, h2, if_true, if_false] at e <;> omega
  · rcases gs q with ⟨rfl, rfl⟩ | ⟨hj, q⟩
    · refine ⟨A, by simp, ?_⟩
      have e1 : (σ.set j (some v))[j]? = some (some v) := List.getElem?_set_self (by omega)
      have e2 : (σ ++ [some v])[Γ.length]? = some (some v) := by rw [hl']; simp
      rw [if_pos rfl]
      cases A with
      | any => exact ⟨fun h => h, fun h => h, fun F h => trivial⟩
      | imm d => exact ⟨fun h => h, fun h => h, fun F ⟨u, e, r⟩ => by rw [e2] at e; cases e; exact ⟨v, e1, r⟩⟩
      | new o => exact ⟨fun _ => rfl, fun _ => rfl, fun F ⟨u, e, r⟩ => by rw [e2] at e; cases e; exact ⟨e1, r⟩⟩
      | own u o => exact ⟨fun h => h, fun h => h, fun F ⟨e, r⟩ => by rw [e2] at e; cases e; exact ⟨e1, r⟩⟩
      | frz u o => exact ⟨fun h => h, fun h => h, fun F ⟨e, r⟩ => by rw [e2] at e; cases e; exact ⟨e1, r⟩⟩
      | val u => exact ⟨fun h => h, fun h => h, fun F e => by
          have e : _ = _ := e
          rw [e2] at e; cases e; exact e1⟩
    · have lj := lt_of_get q
      rw [if_neg hj]
      refine ⟨A', by rw [List.getElem?_append_left lj]; exact q, fun h => h, fun h => h, fun F h => h.to ?_⟩
      rw [List.getElem?_set_ne (Ne.symm hj), List.getElem?_append_left (by omega)]
/-- an owned object changes -/
theorem Sat.mut {i : Nat} {v : V} {o : Ow} (S : Sat B M Γ σ H) (h : Γ[i]? = some (.own v o)) : σ[i]? = some (some v) ∧ ∃ F, o.p H v F ∧
    ∀ (o' : Ow) (F' : List Addr) (H' : Hp), (∀ a u, H a = some u → a ∉ F → H' a = some u) → o'.p H' v F' → (∀ a ∈ F', a ∈ F ∨ H a = none) → Sat B M (Γ.set i (.own v o')) σ H' := by
  obtain ⟨hl, hk, F, h1, h2⟩ := S
  have hi := lt_of_get h
  obtain ⟨hv, hp⟩ := h1 i _ h
  refine ⟨hv, F i, hp, fun o' F' H' keep hp' sub => ?_⟩
  have own := h2 i _ h rfl
  have stp : Stp H H' := fun a xs e => keep a _ e fun z => mut_noTup (o.mu hp a z) xs e
  have gs : ∀ {j A'}, (Γ.set i (.own v o'))[j]? = some A' → (j = i ∧ A' = .own v o') ∨ (j ≠ i ∧ Γ[j]? = some A') := fun {j A'} q => by
    by_cases hj : j = i
    · subst hj
      rw [List.getElem?_set_self hi] at q
      exact .inl ⟨rfl, (Option.some.inj q).symm⟩
    · rw [List.getElem?_set_ne (Ne.symm hj)] at q
      exact .inr ⟨hj, q⟩
  have other : ∀ {j A'}, j ≠ i → Γ[j]? = some A' → A'.has = true → ∀ a ∈ F j, a ∉ F i := fun {j A'} hj q hA a ha z => own.2 j A' hj q hA a z ha
  have others : ∀ {j A'}, j ≠ i → Γ[j]? = some A' → A'.has = true → ∀ a ∈ F j, a ∉ F' := fun {j A'} hj q hA a ha z => by
    rcases sub a z with z | z
    · exact other hj q hA a ha z
    · obtain ⟨u, hu⟩ := mut_some ((h1 j A' q).fpM hA a ha)
      rw [z] at hu; cases hu
  refine ⟨by simp [hl], fun a u q n => keep a u (hk a u q n) fun z => ?_, fun j => if j = i then F' else F j, fun j A' q => ?_, fun j A' q hA => ?_⟩ <;> (try dsimp only)
  · rcases own.1 a z with z | z
    · rw [q] at z; cases z
    · exact n z
  · rcases gs q with ⟨rfl, rfl⟩ | ⟨hj, q⟩
    · rw [if_pos rfl]; exact ⟨hv, hp'⟩
    · rw [if_neg hj]
      refine (h1 j A' q).stay stp fun hA a ha => ?_
      obtain ⟨u, hu⟩ := mut_some ((h1 j A' q).fpM hA a ha)
      rw [hu, keep a u hu (other hj q hA a ha)]
  · rcases gs q with ⟨rfl, rfl⟩ | ⟨hj, q1⟩
    · rw [if_pos rfl]
      refine ⟨fun a ha => ?_, fun k A2 hk' q2 hA2 a ha => ?_⟩
      · rcases sub a ha with z | z
        · exact own.1 a z
        · by_cases hM : a ∈ M
          · exact .inr hM
          · left
            cases qq : B a with
            | none => rfl
            | some u =>
              have := hk a u qq hM
              rw [z] at this; cases this
      · rcases gs q2 with ⟨e, _⟩ | ⟨hk2, q2⟩
        · exact absurd e hk'
        · rw [if_neg hk2]; exact fun z => others hk2 q2 hA2 a z ha
    · rw [if_neg hj]
      refine ⟨(h2 j A' q1 hA).1, fun k A2 hk' q2 hA2 a ha => ?_⟩
      rcases gs q2 with ⟨rfl, rfl⟩ | ⟨hk2, q2⟩
      · rw [if_pos rfl]; exact others hj q1 (As.has_of hA) a ha
      · rw [if_neg hk2]; exact (h2 j A' q1 hA).2 k A2 hk' q2 hA2 a ha
/-- an owned list changes -/
theorem Sat.mutL {i : Nat} {v : V} {ds : List PyData} (S : Sat B M Γ σ H) (h : Γ[i]? = some (.own v (oL ds))) : σ[i]? = some (some v) ∧ ∃ l vs, v = .ref l ∧ H l = some (.lst vs) ∧ Reps H vs ds ∧
    ∀ (vs' : List V) (ds' : List PyData), Reps H vs' ds' → Sat B M (Γ.set i (.own v (oL ds'))) σ (upd H l (.lst vs')) := by
  obtain ⟨hv, F, ⟨l, vs, rfl, rfl, h1, h2⟩, k⟩ := S.mut h
  refine ⟨hv, l, vs, rfl, h1, h2, fun vs' ds' r => k (oL ds') [l] _ (fun a u e n => ?_) ⟨l, vs', rfl, rfl, upd_same, r.st (Stp.upd fun xs e => by rw [h1] at e; cases e)⟩ fun a ha => .inl ha⟩
  have : a ≠ l := fun e => n (by simp [e])
  rw [upd_ne this]; exact e
/-- a list that is seen -/
def Lk (Γ : List As) (A : As) (o : Ow) : Prop := A = .new o ∨ ∃ (v : V) (i : Nat), A = .val v ∧ (Γ[i]? = some (.own v o) ∨ Γ[i]? = some (.frz v o))
theorem Sat.see {A : As} {o : Ow} {G : List As} {s : List (Option V)} {x : Option V} (S : Sat B M (G ++ [A]) (s ++ [x]) H) (h : Lk G A o) : ∃ v F, x = some v ∧ o.p H v F := by
  rcases h with rfl | ⟨v, i, rfl, h⟩
  · obtain ⟨F, v, e, r⟩ := S.last
    exact ⟨v, F, by simpa using e, r⟩
  · obtain ⟨F, e⟩ := S.last
    have e : x = some v := by
      have e' : [x][0]? = some (some v) := e
      simpa using e'
    obtain ⟨hl, hk, F, h1, h2⟩ := S.pop
    rcases h with h | h
    · exact ⟨v, F i, e, (h1 i _ h).2⟩
    · exact ⟨v, F i, e, (h1 i _ h).2⟩
theorem Lk.mono {Γ T : List As} {A : As} {o : Ow} (h : Lk Γ A o) : Lk (Γ ++ T) A o := by
  rcases h with rfl | ⟨v, i, rfl, h⟩
  · exact .inl rfl
  · refine .inr ⟨v, i, rfl, ?_⟩
    rcases h with h | h
    · left; rw [List.getElem?_append_left (lt_of_get h)]; exact h
    · right; rw [List.getElem?_append_left (lt_of_get h)]; exact h
end
end PL

/-! PL2: judgements over Sat; names, constants, ints, tests, arguments, displays. -/
namespace PL
open PySem PySem.Spec PyProof.Rows L2

/-! ### the weakest readings -/
def WE (X : Cx) (e : Expr) : TE := fun σ H Q => ∀ pins s, Inv X pins σ H s → wpAny (model X.prog X.w) X.A (eval e X.env) (EP X pins σ Q) X.xe s
def WT (X : Cx) (e : Expr) : TT := fun σ H Q => ∀ pins s, Inv X pins σ H s → wpAny (model X.prog X.w) X.A (isTrue e X.env (eval e X.env)) (TP X pins σ Q) X.xe s
def WW (X : Cx) (e : Expr) : TT := fun σ H Q => ∀ whole pins s, Inv X pins σ H s → wpAny (model X.prog X.w) X.A (isTrue e X.env whole) (TP X pins σ Q) X.xe s
def WA (X : Cx) (es : List Expr) : TA := fun σ H Q => ∀ pos pins s, Inv X pins σ H s → wpAny (model X.prog X.w) X.A (spliced (backTo pos (starEach es X.env))) (AP X pins σ Q) X.xe s
def WS (X : Cx) (st : Stmt) : TS := fun D σ H => ∀ pins s, Inv X pins σ H s → wpAny (model X.prog X.w) X.A (exec st X.env) (SP X pins D) X.xe s
def WSs (X : Cx) (st : List Stmt) : TS := fun D σ H => ∀ pins s, Inv X pins σ H s → wpAny (model X.prog X.w) X.A (execs st X.env) (SP X pins D) X.xe s
section
variable {X : Cx} {e : Expr} {es : List Expr} {st : Stmt} {sts : List Stmt} {σ : L2.St} {H : Hp}
theorem pe_we : PE X e (WE X e) := ⟨fun pins s _ _ _ I h => h pins s I⟩
theorem pt_wt : PT X e (WT X e) := ⟨fun pins s _ _ _ I h => h pins s I⟩
theorem pw_ww : PW X e (WW X e) := ⟨fun wh pins s _ _ _ I h => h wh pins s I⟩
theorem pa_wa : PA X es (WA X es) := ⟨fun pos pins s _ _ _ I h => h pos pins s I⟩
theorem ps_ws : PS X st (WS X st) := ⟨fun pins s _ _ _ I h => h pins s I⟩
theorem pss_wss : PSs X sts (WSs X sts) := ⟨fun pins s _ _ _ I h => h pins s I⟩
theorem WE.of {t : TE} {Q : VK} (h : PE X e t) (q : t σ H Q) : WE X e σ H Q := fun pins s I => h.run pins s σ H Q I q
theorem WT.of {t : TT} {Q : Bool → Hp → Prop} (h : PT X e t) (q : t σ H Q) : WT X e σ H Q := fun pins s I => h.run pins s σ H Q I q
theorem WW.of {t : TT} {Q : Bool → Hp → Prop} (h : PW X e t) (q : t σ H Q) : WW X e σ H Q := fun wh pins s I => h.run wh pins s σ H Q I q
theorem WA.of {t : TA} {Q : List V → Hp → Prop} (h : PA X es t) (q : t σ H Q) : WA X es σ H Q := fun pos pins s I => h.run pos pins s σ H Q I q
theorem WS.of {t : TS} {D : Ends} (h : PS X st t) (q : t D σ H) : WS X st D σ H := fun pins s I => h.run pins s σ H D I q
theorem WSs.of {t : TS} {D : Ends} (h : PSs X sts t) (q : t D σ H) : WSs X sts D σ H := fun pins s I => h.run pins s σ H D I q
theorem WE.mono {Q Q' : VK} (h : WE X e σ H Q) (k : ∀ v H', Q v H' → Q' v H') : WE X e σ H Q' := fun pins s I =>
  thn (h pins s I) fun _ _ ⟨v, H', I', r, q⟩ => ⟨v, H', I', r, k v H' q⟩
theorem WT.mono {Q Q' : Bool → Hp → Prop} (h : WT X e σ H Q) (k : ∀ v H', Q v H' → Q' v H') : WT X e σ H Q' := fun pins s I =>
  thn (h pins s I) fun _ _ ⟨H', I', q⟩ => ⟨H', I', k _ H' q⟩
theorem WA.mono {Q Q' : List V → Hp → Prop} (h : WA X es σ H Q) (k : ∀ v H', Q v H' → Q' v H') : WA X es σ H Q' := fun pos pins s I =>
  thn (h pos pins s I) fun _ _ ⟨v, H', I', r, q⟩ => ⟨v, H', I', r, k v H' q⟩
theorem spMono {pins : List (Addr × Obj)} {D D' : Ends} {f : Flow} {s : Shared} (h : SP X pins D f s) (k1 : ∀ σ H, D.nx σ H → D'.nx σ H) (k2 : ∀ v H, D.rt v H → D'.rt v H) (k3 : ∀ σ H, D.bk σ H → D'.bk σ H) (k4 : ∀ σ H, D.ct σ H → D'.ct σ H) : SP X pins D' f s := by
  cases f with
  | next => obtain ⟨a, b, c, d⟩ := h; exact ⟨a, b, c, k1 _ _ d⟩
  | brk => obtain ⟨a, b, c, d⟩ := h; exact ⟨a, b, c, k3 _ _ d⟩
  | cont => obtain ⟨a, b, c, d⟩ := h; exact ⟨a, b, c, k4 _ _ d⟩
  | ret u => obtain ⟨v, a, b, c, r, d⟩ := h; exact ⟨v, a, b, c, r, k2 _ _ d⟩
theorem WS.mono {D D' : Ends} (h : WS X st D σ H) (k1 : ∀ σ H, D.nx σ H → D'.nx σ H) (k2 : ∀ v H, D.rt v H → D'.rt v H) (k3 : ∀ σ H, D.bk σ H → D'.bk σ H) (k4 : ∀ σ H, D.ct σ H → D'.ct σ H) : WS X st D' σ H := fun pins s I =>
  thn (h pins s I) fun _ _ q => spMono q k1 k2 k3 k4
theorem WSs.mono {D D' : Ends} (h : WSs X sts D σ H) (k1 : ∀ σ H, D.nx σ H → D'.nx σ H) (k2 : ∀ v H, D.rt v H → D'.rt v H) (k3 : ∀ σ H, D.bk σ H → D'.bk σ H) (k4 : ∀ σ H, D.ct σ H → D'.ct σ H) : WSs X sts D' σ H := fun pins s I =>
  thn (h pins s I) fun _ _ q => spMono q k1 k2 k3 k4
end

/-! ### the context's names: N by slot, ks their kinds (0 not seen, 1 local, 2 cell, 3 captured) -/
structure Fx (X : Cx) (N : List Str) (ks : List Nat) (gs : List Str) (sc : Scope) : Prop where
  hN : X.N = N
  nd : N.Nodup
  calm : X.calm = true
  xe : X.xe = fun _ _ => False
  fk : X.env.scope.kind = .function
  rm : Room 0 X.A
  k1 : ∀ (i : Nat) (x : Str), N[i]? = some x → ks[i]? = some 1 → X.env.scope.names.lookup x = some .local
  k2 : ∀ (i : Nat) (x : Str), N[i]? = some x → ks[i]? = some 2 → X.env.scope.names.lookup x = some .cell ∧ X.fn x = true
  k3 : ∀ (i : Nat) (x : Str), N[i]? = some x → ks[i]? = some 3 → X.env.scope.names.lookup x = some .cell ∨ X.env.scope.names.lookup x = some .free
  gl : ∀ (i : Nat) (x : Str), gs[i]? = some x → Gl X x
  up : ∀ y, (sc.names.lookup y = some .cell ∨ sc.names.lookup y = some .free) → (X.env.scope.names.lookup y = some .cell ∨ X.env.scope.names.lookup y = some .free)
def visK : Option Nat → Bool
  | some 1 => true
  | some 2 => true
  | some 3 => true
  | _ => false
def stoK : Option Nat → Bool
  | some 1 => true
  | some 2 => true
  | _ => false
section
variable {X : Cx} {N : List Str} {ks : List Nat} {gs : List Str} {sc : Scope}
theorem Fx.vis (F : Fx X N ks gs sc) (i : Nat) (x : Str) (h : N[i]? = some x) (hk : visK (ks[i]?) = true) : Vis X.env.scope x := by
  unfold visK at hk
  split at hk
  · exact .inl (F.k1 i x h (by assumption))
  · exact .inr (.inl (F.k2 i x h (by assumption)).1)
  · exact .inr (F.k3 i x h (by assumption))
  · cases hk
theorem Fx.sto (F : Fx X N ks gs sc) (i : Nat) (x : Str) (h : N[i]? = some x) (hk : stoK (ks[i]?) = true) : Loc X.env.scope x ∧ (X.fn x = true ∨ X.env.scope.names.lookup x = some .local) := by
  unfold stoK at hk
  split at hk
  · have q := F.k1 i x h (by assumption)
    exact ⟨.inl q, .inr q⟩
  · have q := F.k2 i x h (by assumption)
    exact ⟨.inr q.1, .inl q.2⟩
  · cases hk
theorem Fx.blk (F : Fx X N ks gs sc) : X.env.blockKind = .function := by unfold Env.blockKind; rw [F.fk]; rfl
end
def kindOk (sc : Scope) : List Str → List Nat → Bool
  | x :: N, k :: m => (match k with
      | 1 => decide (sc.names.lookup x = some .local)
      | 2 => decide (sc.names.lookup x = some .cell)
      | 3 => decide (sc.names.lookup x = some .free)
      | _ => true) && kindOk sc N m
  | _, _ => true
theorem kindOk_get {sc : Scope} : ∀ {N : List Str} {m : List Nat}, kindOk sc N m = true → ∀ (i : Nat) x k, N[i]? = some x → m[i]? = some k →
    (k = 1 → sc.names.lookup x = some .local) ∧ (k = 2 → sc.names.lookup x = some .cell) ∧ (k = 3 → sc.names.lookup x = some .free)
  | [], _, _, i, x, _, e, _ => by simp at e
  | _ :: _, [], _, i, x, _, _, e => by simp at e
  | y :: N, b :: m, h, 0, x, k, e, e' => by
    simp at e e'
    subst e; subst e'
    unfold kindOk at h
    rw [Bool.and_eq_true] at h
    refine ⟨fun q => ?_, fun q => ?_, fun q => ?_⟩ <;> (subst q; exact of_decide_eq_true h.1)
  | y :: N, b :: m, h, i + 1, x, k, e, e' => by
    unfold kindOk at h
    rw [Bool.and_eq_true] at h
    exact kindOk_get h.2 i x k (by simpa using e) (by simpa using e')
def isFn : Scope → Bool := fun sc => match sc.kind with | .function => true | _ => false
theorem isFn_of {sc : Scope} (h : isFn sc = true) : sc.kind = .function := by
  unfold isFn at h
  split at h
  · assumption
  · cases h
def frC (N : List Str) (ks : List Nat) (gs : List Str) (sc : Scope) : Bool :=
  isFn sc && kindOk sc N ks && gs.all fun x => decide (sc.names.lookup x = some .globalImplicit)
theorem Fx.ofDef {P : Program} {w : World} {K : PySem.W.Frag} {mg : Str → Option Value} {base : Heap} {N ps : List Str} {qual : Str} {sc : Scope} {f : Addr} {cd : Value} {A : Around} {outer : List Env} {s : Shared} {H : Hp} {E : XK} {ks : List Nat} {gs : List Str}
    (S : FnScope N ps sc) (h : frC N ks gs sc = true) {k : Nat} (hr : Room k (A.deeper (envOfC qual sc s.heap.objs.size f cd))) : Fx (cxOf CX0 P w K mg base N qual sc f cd A outer s H E).nox N ks gs sc := by
  unfold frC at h
  simp only [Bool.and_eq_true] at h
  obtain ⟨⟨h1, h2⟩, h3⟩ := h
  exact ⟨rfl, S.nd, rfl, rfl, S.kind, hr.mono (Nat.zero_le _), fun i x e e' => (kindOk_get h2 i x _ e e').1 rfl, fun i x e e' => ⟨(kindOk_get h2 i x _ e e').2.1 rfl, rfl⟩, fun i x e e' => .inr ((kindOk_get h2 i x _ e e').2.2 rfl),
    fun i x e => (show sc.names.lookup x = some .globalImplicit from of_decide_eq_true (List.all_eq_true.mp h3 x (List.mem_of_getElem? e))), fun y h => h⟩

theorem lookup_relab {g : Str → NameKind → NameKind} : ∀ {names : List (Str × NameKind)} {x : Str}, (names.map fun p => (p.1, g p.1 p.2)).lookup x = (names.lookup x).map (g x)
  | [], _ => rfl
  | (n, k) :: r, x => by
    show List.lookup x ((n, g n k) :: _) = _
    rw [List.lookup_cons, List.lookup_cons]
    cases h : x == n with
    | true =>
      have e : x = n := by simpa using h
      subst e; rfl
    | false => exact lookup_relab
def relG (env : Env) (n : Str) (k : NameKind) : NameKind := if (k == NameKind.free && env.scope.kind == .function && env.kindOf n == some .cell) then .cell else k
theorem relabel_lookup {scope : Scope} {env : Env} {x : Str} : (relabel scope env).names.lookup x = (scope.names.lookup x).map (relG env x) := by
  have e : (relabel scope env).names = scope.names.map fun p => (p.1, relG env p.1 p.2) := by
    show scope.names.map _ = _
    refine List.map_congr_left fun p _ => ?_
    obtain ⟨n, k⟩ := p
    show (if _ then (n, NameKind.cell) else (n, k)) = (n, relG env n k)
    unfold relG
    split <;> rfl
  rw [e, lookup_relab]
/-- X' is the context of a comprehension's block of X -/
def Bk (X X' : Cx) (scope : Scope) : Prop := ∃ (s : Shared) (H : Hp) (C : Addr) (cl : List (Str × Addr)) (fp : List Addr), X' = X.blk s H scope (compEnvC scope cl C X.env) fp
theorem Fx.ofBlk {X X' : Cx} {N : List Str} {ks : List Nat} {gs : List Str} {sc : Scope} (F : Fx X N ks gs sc) {scope : Scope} {ks' : List Nat} {gs' : List Str} (h : frC N ks' gs' scope = true) (b : Bk X X' scope) : Fx X' N ks' gs' scope := by
  obtain ⟨s, H, C, cl, fp, rfl⟩ := b
  unfold frC at h
  simp only [Bool.and_eq_true] at h
  obtain ⟨⟨h1, h2⟩, h3⟩ := h
  have lk : ∀ x, (X.blk s H scope (compEnvC scope cl C X.env) fp).env.scope.names.lookup x = (scope.names.lookup x).map (relG X.env x) := fun x => relabel_lookup
  have free : ∀ x, (some (relG X.env x .free) = some NameKind.cell) ∨ (some (relG X.env x .free) = some NameKind.free) := fun x => by
    unfold relG
    split
    · exact .inl rfl
    · exact .inr rfl
  refine ⟨F.hN, F.nd, F.calm, rfl, isFn_of h1, F.rm, fun i x e e' => ?_, fun i x e e' => ?_, fun i x e e' => ?_, fun i x e => ?_, fun y h => ?_⟩
  · rw [lk, (kindOk_get h2 i x _ e e').1 rfl]; rfl
  · have q := (kindOk_get h2 i x _ e e').2.1 rfl
    refine ⟨by rw [lk, q]; rfl, ?_⟩
    show (scope.names.lookup x == some .cell) = true
    rw [q]; rfl
  · rw [lk, (kindOk_get h2 i x _ e e').2.2 rfl]
    exact free x
  · have q := of_decide_eq_true (List.all_eq_true.mp h3 x (List.mem_of_getElem? e))
    show (X.blk s H scope (compEnvC scope cl C X.env) fp).env.scope.names.lookup x = _
    rw [lk, q]; rfl
  · rw [lk]
    rcases h with h | h
    · left; rw [h]; rfl
    · rw [h]
      exact free y
theorem Fx.blkOk {X : Cx} {N : List Str} {ks : List Nat} {gs : List Str} {sc : Scope} (F : Fx X N ks gs sc) {scope : Scope} {own : List (Str × Nat)} (h : blkC N sc scope own = true) : BlkOk X.N X.env.scope scope own := by
  have b := blkOk_by h
  rw [F.hN]
  exact ⟨b.kind, b.uniq, b.ix, fun y hy e => F.up _ (b.free y hy e), b.own⟩

/-! ### judgements -/
def Ee (X : Cx) (B : Hp) (M : List Addr) (e : Expr) (Γ Γ' : List As) (A : As) : Prop :=
  ∀ T σ τ H Q, σ.length = Γ.length → Sat B M (Γ ++ T) (σ ++ τ) H → (∀ v H', Sat B M ((Γ' ++ T) ++ [A]) ((σ ++ τ) ++ [some v]) H' → Q v H') → WE X e σ H Q
def Et (X : Cx) (B : Hp) (M : List Addr) (e : Expr) (Γ Γ' : List As) (b : Bool) : Prop :=
  ∀ T σ τ H Q, σ.length = Γ.length → Sat B M (Γ ++ T) (σ ++ τ) H → (∀ H', Sat B M (Γ' ++ T) (σ ++ τ) H' → Q b H') → WT X e σ H Q
def Ew (X : Cx) (B : Hp) (M : List Addr) (e : Expr) (Γ Γ' : List As) (b : Bool) : Prop :=
  ∀ T σ τ H Q, σ.length = Γ.length → Sat B M (Γ ++ T) (σ ++ τ) H → (∀ H', Sat B M (Γ' ++ T) (σ ++ τ) H' → Q b H') → WW X e σ H Q
def Ea (X : Cx) (B : Hp) (M : List Addr) (es : List Expr) (Γ Γ' : List As) (As' : List As) : Prop :=
  ∀ T σ τ H Q, σ.length = Γ.length → Sat B M (Γ ++ T) (σ ++ τ) H → (∀ vs H', vs.length = As'.length → Sat B M ((Γ' ++ T) ++ As') ((σ ++ τ) ++ vs.map some) H' → Q vs H') → WA X es σ H Q

section
variable {X : Cx} {B : Hp} {M : List Addr} {N : List Str} {ks : List Nat} {gs : List Str} {sc : Scope} {Γ Γ1 Γ2 Γ3 : List As} {A A1 A2 A3 : As} {a b c e : Expr} {es : List Expr} {pos : Pos}

theorem len_of {T : List As} {σ τ : List (Option V)} {H : Hp} (hl : σ.length = Γ.length) (S : Sat B M (Γ ++ T) (σ ++ τ) H) : T.length = τ.length := by
  have := S.len
  simp at this; omega
theorem len_next {T : List As} {σ τ : List (Option V)} {H H' : Hp} {v : Option V} (hl : σ.length = Γ.length) (S : Sat B M (Γ ++ T) (σ ++ τ) H) (S1 : Sat B M ((Γ1 ++ T) ++ [A]) ((σ ++ τ) ++ [v]) H') : σ.length = Γ1.length := by
  have h1 := len_of hl S
  have := S1.len
  simp at this; omega
theorem len_next0 {T : List As} {σ τ : List (Option V)} {H H' : Hp} (hl : σ.length = Γ.length) (S : Sat B M (Γ ++ T) (σ ++ τ) H) (S1 : Sat B M (Γ1 ++ T) (σ ++ τ) H') : σ.length = Γ1.length := by
  have h1 := len_of hl S
  have := S1.len
  simp at this; omega
theorem asc {T : List As} {σ τ : List (Option V)} {H : Hp} {v : Option V} (S : Sat B M ((Γ ++ T) ++ [A]) ((σ ++ τ) ++ [v]) H) : Sat B M (Γ ++ (T ++ [A])) (σ ++ (τ ++ [v])) H := by
  rw [List.append_assoc, List.append_assoc] at S; exact S
theorem asc2 {T : List As} {σ τ : List (Option V)} {H : Hp} {v u : Option V} (S : Sat B M ((Γ ++ (T ++ [A])) ++ [A2]) ((σ ++ (τ ++ [v])) ++ [u]) H) : Sat B M (((Γ ++ T) ++ [A]) ++ [A2]) (((σ ++ τ) ++ [v]) ++ [u]) H := by
  rw [← List.append_assoc Γ, ← List.append_assoc σ] at S; exact S

/-- change the data by an equation -/
theorem E_cv {A' : As} (h : Ee X B M e Γ Γ1 A) (q : A = A') : Ee X B M e Γ Γ1 A' := q ▸ h
theorem T_cv {x y : Bool} (h : Et X B M e Γ Γ1 x) (q : x = y) : Et X B M e Γ Γ1 y := q ▸ h
/-- a rule of two expressions -/
theorem op2 {r : R2} (he : ∀ ta tb, PE X a ta → PE X b tb → PE X e (tOp r ta tb)) (h1 : Ee X B M a Γ Γ1 A1) (h2 : Ee X B M b Γ1 Γ2 A2)
    (hr : ∀ G x y s H Q, (∃ T, G = Γ2 ++ T) → Sat B M ((G ++ [A1]) ++ [A2]) ((s ++ [some x]) ++ [some y]) H → (∀ z H', Sat B M (G ++ [A3]) (s ++ [some z]) H' → Q z H') → r x y H Q) : Ee X B M e Γ Γ2 A3 := by
  intro T σ τ H Q hl S k
  refine WE.of (he _ _ pe_we pe_we) ?_
  refine h1 T σ τ H _ hl S fun x H1 S1 => ?_
  refine h2 (T ++ [A1]) σ (τ ++ [some x]) H1 _ (len_next hl S S1) (asc S1) fun y H2 S2 => ?_
  exact hr (Γ2 ++ T) x y (σ ++ τ) H2 Q ⟨T, rfl⟩ (asc2 S2) k
theorem op1 {r : V → Hp → VK → Prop} (he : ∀ ta, PE X a ta → PE X e (tUn r ta)) (h1 : Ee X B M a Γ Γ1 A1)
    (hr : ∀ G x s H Q, (∃ T, G = Γ1 ++ T) → Sat B M (G ++ [A1]) (s ++ [some x]) H → (∀ z H', Sat B M (G ++ [A3]) (s ++ [some z]) H' → Q z H') → r x H Q) : Ee X B M e Γ Γ1 A3 := by
  intro T σ τ H Q hl S k
  refine WE.of (he _ pe_we) ?_
  refine h1 T σ τ H _ hl S fun x H1 S1 => ?_
  exact hr (Γ1 ++ T) x (σ ++ τ) H1 Q ⟨T, rfl⟩ S1 k

/-! ### names, constants -/
theorem E_var (F : Fx X N ks gs sc) (i : Nat) {x : Str} {d : PyData} (hi : N[i]? = some x := by rfl) (hm : visK (ks[i]?) = true := by rfl) (hg : Γ[i]? = some (.imm d) := by rfl)
    (hd : (x == ("__debug__" : Str)) = false := by decide) (hcd : (x == ("__classdict__" : Str)) = false := by decide) : Ee X B M (.Name x pos) Γ Γ (.imm d) := by
  intro T σ τ H Q hl S k
  obtain ⟨hi', _⟩ := List.getElem?_eq_some_iff.mp hg
  obtain ⟨v, e, r⟩ := S.slot_imm (i := i) (by rw [List.getElem?_append_left hi']; exact hg)
  refine WE.of (pe_var (i := i) (by rw [F.hN]; exact hi) (F.vis i x hi hm) hd hcd) ⟨v, ?_, k v H (S.imm r)⟩
  rw [List.getElem?_append_left (by omega)] at e
  exact e
/-- a name whose value is known: an owned (or frozen) object -/
theorem E_ref (F : Fx X N ks gs sc) (i : Nat) {x : Str} {v : V} (hg : (∃ o, Γ[i]? = some (.own v o)) ∨ (∃ o, Γ[i]? = some (.frz v o)) ∨ Γ[i]? = some (.val v) := by first | exact Or.inl ⟨_, rfl⟩ | exact Or.inr (Or.inl ⟨_, rfl⟩) | exact Or.inr (Or.inr rfl)) (hi : N[i]? = some x := by rfl) (hm : visK (ks[i]?) = true := by rfl)
    (hd : (x == ("__debug__" : Str)) = false := by decide) (hcd : (x == ("__classdict__" : Str)) = false := by decide) : Ee X B M (.Name x pos) Γ Γ (.val v) := by
  intro T σ τ H Q hl S k
  have e : i < Γ.length ∧ (σ ++ τ)[i]? = some (some v) := by
    obtain ⟨_, _, F, h1, _⟩ := id S
    rcases hg with ⟨o, hg⟩ | ⟨o, hg⟩ | hg
    · exact ⟨lt_of_get hg, (h1 i (.own v o) (by rw [List.getElem?_append_left (lt_of_get hg)]; exact hg)).1⟩
    · exact ⟨lt_of_get hg, (h1 i (.frz v o) (by rw [List.getElem?_append_left (lt_of_get hg)]; exact hg)).1⟩
    · exact ⟨lt_of_get hg, h1 i (.val v) (by rw [List.getElem?_append_left (lt_of_get hg)]; exact hg)⟩
  obtain ⟨hi', e⟩ := e
  refine WE.of (pe_var (i := i) (by rw [F.hN]; exact hi) (F.vis i x hi hm) hd hcd) ⟨v, ?_, k v H S.val⟩
  rw [List.getElem?_append_left (by omega)] at e
  exact e
theorem E_c {v : V} {d : PyData} (he : PE X e (tC v)) (r : ∀ H, Rep H v d) : Ee X B M e Γ Γ (.imm d) := fun T σ τ H Q hl S k => WE.of he (k v H (S.imm (r H)))
theorem E_int {i : Int} {j : Nat} : Ee X B M (.Constant (.int i) j pos) Γ Γ (.imm (.int i)) := E_c pe_int fun _ => .int i
theorem E_bool {i : Bool} {j : Nat} : Ee X B M (.Constant (.bool i) j pos) Γ Γ (.imm (.bool i)) := E_c pe_bl fun _ => .bool i
theorem E_str {x : Str} {j : Nat} : Ee X B M (.Constant (.str x) j pos) Γ Γ (.imm (.str x)) := E_c pe_str fun _ => .str x
theorem E_none {j : Nat} : Ee X B M (.Constant .none j pos) Γ Γ (.imm .none) := E_c pe_non fun _ => .none

/-! ### ints -/
theorem two_imm {G : List As} {s : List (Option V)} {H : Hp} {x y : V} {d d' : PyData} (S : Sat B M ((G ++ [.imm d]) ++ [.imm d']) ((s ++ [some x]) ++ [some y]) H) : Rep H x d ∧ Rep H y d' ∧ Sat B M G s H := by
  obtain ⟨v, e, r⟩ := S.last_imm
  cases e
  obtain ⟨v', e', r'⟩ := S.pop.last_imm
  cases e'
  exact ⟨r', r, S.pop.pop⟩
theorem one_imm {G : List As} {s : List (Option V)} {H : Hp} {x : V} {d : PyData} (S : Sat B M (G ++ [.imm d]) (s ++ [some x]) H) : Rep H x d ∧ Sat B M G s H := by
  obtain ⟨v, e, r⟩ := S.last_imm
  cases e
  exact ⟨r, S.pop⟩
theorem opInt {op : Operator} {C : Int → Int → Prop} {g : Int → Int → Int} (ho : OpR X (binaryOp op) (rI C fun i j => .int (g i j))) {i j : Int} (h1 : Ee X B M a Γ Γ1 (.imm (.int i))) (h2 : Ee X B M b Γ1 Γ2 (.imm (.int j))) (hc : C i j) :
    Ee X B M (.BinOp a op b pos) Γ Γ2 (.imm (.int (g i j))) := op2 (fun _ _ ha hb => pe_op ho ha hb) h1 h2 fun G x y s H Q _ S k => by
  obtain ⟨r1, r2, S'⟩ := two_imm S
  cases r1; cases r2
  exact ⟨i, j, rfl, rfl, hc, k _ _ (S'.imm (.int _))⟩
theorem opInt0 {op : Operator} {g : Int → Int → Int} (ho : OpR X (binaryOp op) (rI0 fun i j => .int (g i j))) {i j : Int} (h1 : Ee X B M a Γ Γ1 (.imm (.int i))) (h2 : Ee X B M b Γ1 Γ2 (.imm (.int j))) :
    Ee X B M (.BinOp a op b pos) Γ Γ2 (.imm (.int (g i j))) := op2 (fun _ _ ha hb => pe_op ho ha hb) h1 h2 fun G x y s H Q _ S k => by
  obtain ⟨r1, r2, S'⟩ := two_imm S
  cases r1; cases r2
  exact ⟨i, j, rfl, rfl, k _ _ (S'.imm (.int _))⟩
variable {i j : Int}
theorem E_add (h1 : Ee X B M a Γ Γ1 (.imm (.int i))) (h2 : Ee X B M b Γ1 Γ2 (.imm (.int j))) : Ee X B M (.BinOp a .Add b pos) Γ Γ2 (.imm (.int (i + j))) := opInt0 op_add h1 h2
theorem E_sub (h1 : Ee X B M a Γ Γ1 (.imm (.int i))) (h2 : Ee X B M b Γ1 Γ2 (.imm (.int j))) : Ee X B M (.BinOp a .Sub b pos) Γ Γ2 (.imm (.int (i - j))) := opInt0 op_sub h1 h2
theorem E_mul (h1 : Ee X B M a Γ Γ1 (.imm (.int i))) (h2 : Ee X B M b Γ1 Γ2 (.imm (.int j))) (hc : CMul i j) : Ee X B M (.BinOp a .Mult b pos) Γ Γ2 (.imm (.int (i * j))) := opInt op_mul h1 h2 hc
theorem E_fdiv (h1 : Ee X B M a Γ Γ1 (.imm (.int i))) (h2 : Ee X B M b Γ1 Γ2 (.imm (.int j))) (hc : CDiv i j) : Ee X B M (.BinOp a .FloorDiv b pos) Γ Γ2 (.imm (.int (i / j))) := opInt op_fdiv h1 h2 hc
theorem E_mod (h1 : Ee X B M a Γ Γ1 (.imm (.int i))) (h2 : Ee X B M b Γ1 Γ2 (.imm (.int j))) (hc : 0 < j) : Ee X B M (.BinOp a .Mod b pos) Γ Γ2 (.imm (.int (i % j))) := opInt (C := fun _ j => 0 < j) op_mod h1 h2 hc
theorem E_shl (h1 : Ee X B M a Γ Γ1 (.imm (.int i))) (h2 : Ee X B M b Γ1 Γ2 (.imm (.int j))) (hc : CPow i j) : Ee X B M (.BinOp a .LShift b pos) Γ Γ2 (.imm (.int (i * 2 ^ j.toNat))) := opInt op_shl h1 h2 hc
theorem E_neg (h1 : Ee X B M a Γ Γ1 (.imm (.int i))) : Ee X B M (.UnaryOp .USub a pos) Γ Γ1 (.imm (.int (-i))) := op1 (fun _ ha => pe_un un_neg ha) h1 fun G x s H Q _ S k => by
  obtain ⟨r, S'⟩ := one_imm S
  cases r
  exact ⟨i, rfl, k _ _ (S'.imm (.int _))⟩

/-! ### comparisons of ints -/
theorem cmpInt {op : CmpOp} {g : Int → Int → Bool} (ho : OpR X (compareOp op) (rI0 fun i j => .bl (g i j))) (h1 : Ee X B M a Γ Γ1 (.imm (.int i))) (h2 : Ee X B M b Γ1 Γ2 (.imm (.int j)))
    (hm : behindInMarks op b = false) : Ee X B M (.Compare a [op] [b] pos) Γ Γ2 (.imm (.bool (g i j))) := op2 (fun _ _ ha hb => pe_cmpR ho ha hb hm) h1 h2 fun G x y s H Q _ S k => by
  obtain ⟨r1, r2, S'⟩ := two_imm S
  cases r1; cases r2
  exact ⟨i, j, rfl, rfl, k _ _ (S'.imm (.bool _))⟩
theorem E_lt (h1 : Ee X B M a Γ Γ1 (.imm (.int i))) (h2 : Ee X B M b Γ1 Γ2 (.imm (.int j))) : Ee X B M (.Compare a [.Lt] [b] pos) Γ Γ2 (.imm (.bool (decide (i < j)))) := cmpInt op_lt h1 h2 (nomark _)
theorem E_le (h1 : Ee X B M a Γ Γ1 (.imm (.int i))) (h2 : Ee X B M b Γ1 Γ2 (.imm (.int j))) : Ee X B M (.Compare a [.LtE] [b] pos) Γ Γ2 (.imm (.bool (decide (i ≤ j)))) := cmpInt op_le h1 h2 (nomark _)
theorem E_gt (h1 : Ee X B M a Γ Γ1 (.imm (.int i))) (h2 : Ee X B M b Γ1 Γ2 (.imm (.int j))) : Ee X B M (.Compare a [.Gt] [b] pos) Γ Γ2 (.imm (.bool (decide (j < i)))) := cmpInt op_gt h1 h2 (nomark _)
theorem E_ge (h1 : Ee X B M a Γ Γ1 (.imm (.int i))) (h2 : Ee X B M b Γ1 Γ2 (.imm (.int j))) : Ee X B M (.Compare a [.GtE] [b] pos) Γ Γ2 (.imm (.bool (decide (j ≤ i)))) := cmpInt op_ge h1 h2 (nomark _)
theorem op_eqInt : OpR X (compareOp .Eq) (rI0 fun i j => .bl (decide (i = j))) := opB0 fun _ _ _ _ _ _ _ q => eq_int (by rw [Bool.beq_eq_decide_eq]; exact q)
theorem op_neInt : OpR X (compareOp .NotEq) (rI0 fun i j => .bl (!decide (i = j))) := opB0 fun _ _ _ _ _ _ _ q => ne_int (by rw [bne, Bool.beq_eq_decide_eq]; exact q)
theorem E_eqI (h1 : Ee X B M a Γ Γ1 (.imm (.int i))) (h2 : Ee X B M b Γ1 Γ2 (.imm (.int j))) : Ee X B M (.Compare a [.Eq] [b] pos) Γ Γ2 (.imm (.bool (decide (i = j)))) := cmpInt op_eqInt h1 h2 (nomark _)
theorem E_neI (h1 : Ee X B M a Γ Γ1 (.imm (.int i))) (h2 : Ee X B M b Γ1 Γ2 (.imm (.int j))) : Ee X B M (.Compare a [.NotEq] [b] pos) Γ Γ2 (.imm (.bool (!decide (i = j)))) := cmpInt op_neInt h1 h2 (nomark _)

/-! ### tests -/
/-- a bool's expression as a test -/
theorem T_val {x : Bool} (h : Ee X B M e Γ Γ1 (.imm (.bool x))) (he : ∀ whole, isTrue e X.env whole = (do let v ← whole; standAt e.pos; holding [v] (truthy v)) := by intro _; rfl) : Et X B M e Γ Γ1 x := by
  intro T σ τ H Q hl S k
  refine WT.of (pt_val pe_we he) ?_
  refine h T σ τ H _ hl S fun v H1 S1 => ?_
  obtain ⟨r, S'⟩ := one_imm S1
  cases r
  exact ⟨x, rfl, k _ S'⟩
/-- a test of two expressions compared -/
theorem tst2 {op : CmpOp} {r : R2} {x : Bool} (ho : OpR X (compareOp op) r) (hm : behindInMarks op b = false) (h1 : Ee X B M a Γ Γ1 A1) (h2 : Ee X B M b Γ1 Γ2 A2)
    (hr : ∀ G x' y s H Q, (∃ T, G = Γ2 ++ T) → Sat B M ((G ++ [A1]) ++ [A2]) ((s ++ [some x']) ++ [some y]) H → (∀ z H', Sat B M (G ++ [.imm (.bool x)]) (s ++ [some z]) H' → Q z H') → r x' y H Q) : Et X B M (.Compare a [op] [b] pos) Γ Γ2 x := by
  intro T σ τ H Q hl S k
  refine WT.of (pt_cmpR ho pe_we pe_we hm) ?_
  refine h1 T σ τ H _ hl S fun x H1 S1 => ?_
  refine h2 (T ++ [A1]) σ (τ ++ [some x]) H1 _ (len_next hl S S1) (asc S1) fun y H2 S2 => ?_
  refine hr (Γ2 ++ T) x y (σ ++ τ) H2 _ ⟨T, rfl⟩ (asc2 S2) fun z H' S' => ?_
  obtain ⟨q, S3⟩ := one_imm S'
  cases q
  exact ⟨_, rfl, k _ S3⟩
theorem tInt {op : CmpOp} {g : Int → Int → Bool} (ho : OpR X (compareOp op) (rI0 fun i j => .bl (g i j))) (h1 : Ee X B M a Γ Γ1 (.imm (.int i))) (h2 : Ee X B M b Γ1 Γ2 (.imm (.int j)))
    (hm : behindInMarks op b = false) : Et X B M (.Compare a [op] [b] pos) Γ Γ2 (g i j) := tst2 ho hm h1 h2 fun G x y s H Q _ S k => by
  obtain ⟨r1, r2, S'⟩ := two_imm S
  cases r1; cases r2
  exact ⟨i, j, rfl, rfl, k _ _ (S'.imm (.bool _))⟩
theorem T_lt (h1 : Ee X B M a Γ Γ1 (.imm (.int i))) (h2 : Ee X B M b Γ1 Γ2 (.imm (.int j))) : Et X B M (.Compare a [.Lt] [b] pos) Γ Γ2 (decide (i < j)) := tInt op_lt h1 h2 (nomark _)
theorem T_le (h1 : Ee X B M a Γ Γ1 (.imm (.int i))) (h2 : Ee X B M b Γ1 Γ2 (.imm (.int j))) : Et X B M (.Compare a [.LtE] [b] pos) Γ Γ2 (decide (i ≤ j)) := tInt op_le h1 h2 (nomark _)
theorem T_gt (h1 : Ee X B M a Γ Γ1 (.imm (.int i))) (h2 : Ee X B M b Γ1 Γ2 (.imm (.int j))) : Et X B M (.Compare a [.Gt] [b] pos) Γ Γ2 (decide (j < i)) := tInt op_gt h1 h2 (nomark _)
theorem T_ge (h1 : Ee X B M a Γ Γ1 (.imm (.int i))) (h2 : Ee X B M b Γ1 Γ2 (.imm (.int j))) : Et X B M (.Compare a [.GtE] [b] pos) Γ Γ2 (decide (j ≤ i)) := tInt op_ge h1 h2 (nomark _)
theorem T_eqI (h1 : Ee X B M a Γ Γ1 (.imm (.int i))) (h2 : Ee X B M b Γ1 Γ2 (.imm (.int j))) : Et X B M (.Compare a [.Eq] [b] pos) Γ Γ2 (decide (i = j)) := tInt op_eqInt h1 h2 (nomark _)
theorem T_neI (h1 : Ee X B M a Γ Γ1 (.imm (.int i))) (h2 : Ee X B M b Γ1 Γ2 (.imm (.int j))) : Et X B M (.Compare a [.NotEq] [b] pos) Γ Γ2 (!decide (i = j)) := tInt op_neInt h1 h2 (nomark _)
theorem T_not {x : Bool} (h : Et X B M a Γ Γ1 x) : Et X B M (.UnaryOp .Not a pos) Γ Γ1 (!x) := fun T σ τ H Q hl S k => WT.of (pt_not pt_wt) (h T σ τ H _ hl S fun H' S' => k H' S')
theorem T_w {x : Bool} (h : Ew X B M e Γ Γ1 x) : Et X B M e Γ Γ1 x := fun T σ τ H Q hl S k => WT.of pw_ww.pt (h T σ τ H Q hl S k)
theorem W_and1 {x : Bool} (h : Et X B M a Γ Γ1 x) : Ew X B M (.BoolOp .And [a] pos) Γ Γ1 x := fun T σ τ H Q hl S k => WW.of (pw_and1 pt_wt) (h T σ τ H Q hl S k)
theorem W_or1 {x : Bool} (h : Et X B M a Γ Γ1 x) : Ew X B M (.BoolOp .Or [a] pos) Γ Γ1 x := fun T σ τ H Q hl S k => WW.of (pw_or1 pt_wt) (h T σ τ H Q hl S k)
/-- and, the tests leaving the state as it is -/
theorem W_and {x y : Bool} (h1 : Et X B M a Γ Γ x) (h2 : x = true → Ew X B M (.BoolOp .And (b :: es) pos) Γ Γ y) : Ew X B M (.BoolOp .And (a :: b :: es) pos) Γ Γ (x && y) := by
  intro T σ τ H Q hl S k
  refine WW.of (pw_and pt_wt pw_ww) (h1 T σ τ H _ hl S fun H' S' => ?_)
  cases x with
  | true =>
    rw [if_pos rfl]
    exact h2 rfl T σ τ H' Q (len_next0 hl S S') S' k
  | false =>
    rw [if_neg Bool.false_ne_true]
    exact k H' S'
theorem W_or {x y : Bool} (h1 : Et X B M a Γ Γ x) (h2 : x = false → Ew X B M (.BoolOp .Or (b :: es) pos) Γ Γ y) : Ew X B M (.BoolOp .Or (a :: b :: es) pos) Γ Γ (x || y) := by
  intro T σ τ H Q hl S k
  refine WW.of (pw_or pt_wt pw_ww) (h1 T σ τ H _ hl S fun H' S' => ?_)
  cases x with
  | true =>
    rw [if_pos rfl]
    exact k H' S'
  | false =>
    rw [if_neg Bool.false_ne_true]
    exact h2 rfl T σ τ H' Q (len_next0 hl S S') S' k
/-- .. where what stands behind may change the state -/
theorem W_andS {x y : Bool} (h1 : Et X B M a Γ Γ1 x) (h2 : x = true → Ew X B M (.BoolOp .And (b :: es) pos) Γ1 Γ2 y) (h3 : x = false → Γ2 = Γ1) : Ew X B M (.BoolOp .And (a :: b :: es) pos) Γ Γ2 (x && y) := by
  intro T σ τ H Q hl S k
  refine WW.of (pw_and pt_wt pw_ww) (h1 T σ τ H _ hl S fun H' S' => ?_)
  cases x with
  | true =>
    rw [if_pos rfl]
    exact h2 rfl T σ τ H' Q (len_next0 hl S S') S' k
  | false =>
    rw [if_neg Bool.false_ne_true]
    exact k H' (by rw [h3 rfl]; exact S')
theorem W_orS {x y : Bool} (h1 : Et X B M a Γ Γ1 x) (h2 : x = false → Ew X B M (.BoolOp .Or (b :: es) pos) Γ1 Γ2 y) (h3 : x = true → Γ2 = Γ1) : Ew X B M (.BoolOp .Or (a :: b :: es) pos) Γ Γ2 (x || y) := by
  intro T σ τ H Q hl S k
  refine WW.of (pw_or pt_wt pw_ww) (h1 T σ τ H _ hl S fun H' S' => ?_)
  cases x with
  | true =>
    rw [if_pos rfl]
    exact k H' (by rw [h3 rfl]; exact S')
  | false =>
    rw [if_neg Bool.false_ne_true]
    exact h2 rfl T σ τ H' Q (len_next0 hl S S') S' k
/-- a if t else b -/
theorem E_if {x : Bool} (h : Et X B M c Γ Γ1 x) (h1 : x = true → Ee X B M a Γ1 Γ2 A) (h2 : x = false → Ee X B M b Γ1 Γ2 A) : Ee X B M (.IfExp c a b pos) Γ Γ2 A := by
  intro T σ τ H Q hl S k
  refine WE.of (pe_ifExp pt_wt pe_we pe_we) (h T σ τ H _ hl S fun H' S' => ?_)
  cases x with
  | true =>
    rw [if_pos rfl]
    exact h1 rfl T σ τ H' Q (len_next0 hl S S') S' k
  | false =>
    rw [if_neg Bool.false_ne_true]
    exact h2 rfl T σ τ H' Q (len_next0 hl S S') S' k
/-- and, or, not as values -/
theorem V_one {op : BoolOp} (h : Ee X B M a Γ Γ1 A) : Ee X B M (.BoolOp op [a] pos) Γ Γ1 A := fun T σ τ H Q hl S k => WE.of (pe_one pe_we) (h T σ τ H Q hl S k)
theorem V_and {x y : Bool} (h1 : Ee X B M a Γ Γ (.imm (.bool x))) (h2 : x = true → Ee X B M (.BoolOp .And (b :: es) pos) Γ Γ (.imm (.bool y))) : Ee X B M (.BoolOp .And (a :: b :: es) pos) Γ Γ (.imm (.bool (x && y))) := by
  intro T σ τ H Q hl S k
  refine WE.of (pe_and pe_we pe_we) (h1 T σ τ H _ hl S fun v H' S' => ?_)
  have hl' := len_next hl S S'
  obtain ⟨r, S2⟩ := one_imm S'
  cases r
  refine ⟨x, rfl, ?_⟩
  cases x with
  | true =>
    rw [if_pos rfl]
    exact h2 rfl T σ τ H' Q hl' S2 k
  | false =>
    rw [if_neg Bool.false_ne_true]
    exact k _ H' (S2.imm (.bool _))
theorem V_or {x y : Bool} (h1 : Ee X B M a Γ Γ (.imm (.bool x))) (h2 : x = false → Ee X B M (.BoolOp .Or (b :: es) pos) Γ Γ (.imm (.bool y))) : Ee X B M (.BoolOp .Or (a :: b :: es) pos) Γ Γ (.imm (.bool (x || y))) := by
  intro T σ τ H Q hl S k
  refine WE.of (pe_or pe_we pe_we) (h1 T σ τ H _ hl S fun v H' S' => ?_)
  have hl' := len_next hl S S'
  obtain ⟨r, S2⟩ := one_imm S'
  cases r
  refine ⟨x, rfl, ?_⟩
  cases x with
  | false =>
    rw [if_neg Bool.false_ne_true]
    exact h2 rfl T σ τ H' Q hl' S2 k
  | true =>
    rw [if_pos rfl]
    exact k _ H' (S2.imm (.bool _))
theorem V_not {x : Bool} (h1 : Ee X B M a Γ Γ1 (.imm (.bool x))) : Ee X B M (.UnaryOp .Not a pos) Γ Γ1 (.imm (.bool (!x))) := by
  intro T σ τ H Q hl S k
  refine WE.of (pe_not pe_we) (h1 T σ τ H _ hl S fun v H' S' => ?_)
  obtain ⟨r, S2⟩ := one_imm S'
  cases r
  exact ⟨x, rfl, k _ H' (S2.imm (.bool _))⟩

/-! ### arguments, displays -/
theorem A_nil : Ea X B M [] Γ Γ [] := fun T σ τ H Q hl S k => WA.of pa_nil (k [] H rfl (by simpa using S))
theorem A_cons {Al : List As} (h1 : Ee X B M e Γ Γ1 A) (h2 : Ea X B M es Γ1 Γ2 Al) (hs : starEach (e :: es) X.env = (false, eval e X.env) :: starEach es X.env := by rfl) : Ea X B M (e :: es) Γ Γ2 (A :: Al) := by
  intro T σ τ H Q hl S k
  refine WA.of (pa_cons pe_we pa_wa hs) (h1 T σ τ H _ hl S fun v H1 S1 => ?_)
  refine h2 (T ++ [A]) σ (τ ++ [some v]) H1 _ (len_next hl S S1) (asc S1) fun vs H2 hv S2 => k (v :: vs) H2 (by simp [hv]) ?_
  have e1 : (Γ2 ++ T) ++ (A :: Al) = (Γ2 ++ (T ++ [A])) ++ Al := by simp
  have e2 : (σ ++ τ) ++ (v :: vs).map some = (σ ++ (τ ++ [some v])) ++ vs.map some := by simp
  rw [e1, e2]; exact S2
/-- immutable items read off the end of a state -/
theorem imms_of : ∀ {ds : List PyData} {vs : List V} {G : List As} {s : List (Option V)} {H : Hp}, vs.length = ds.length → Sat B M (G ++ ds.map As.imm) (s ++ vs.map some) H → Reps H vs ds ∧ Sat B M G s H
  | [], [], G, s, H, _, S => ⟨.nil, by simpa using S⟩
  | [], _ :: _, _, _, _, h, _ => by simp at h
  | _ :: _, [], _, _, _, h, _ => by simp at h
  | d :: ds, v :: vs, G, s, H, h, S => by
    have e1 : G ++ (d :: ds).map As.imm = (G ++ [.imm d]) ++ ds.map As.imm := by simp
    have e2 : s ++ (v :: vs).map some = (s ++ [some v]) ++ vs.map some := by simp
    rw [e1, e2] at S
    obtain ⟨r, S1⟩ := imms_of (by simpa using h) S
    obtain ⟨r1, S2⟩ := one_imm S1
    exact ⟨.cons r1 r, S2⟩
theorem E_tup {ds : List PyData} {k1 : Nat} (h : Ea X B M es Γ Γ1 (ds.map As.imm)) (hz : ds.length ≤ sizeLine) : Ee X B M (.Tuple es k1 pos) Γ Γ1 (.imm (.tuple ds)) := by
  intro T σ τ H Q hl S k
  refine WE.of (pe_tup pa_wa) (h T σ τ H _ hl S fun vs H1 hv S1 => ?_)
  obtain ⟨r, S2⟩ := imms_of (by simpa using hv) S1
  refine ⟨by rw [r.length]; exact hz, fun p hp => k _ _ ?_⟩
  have e := Ext.new (o := .tup vs) hp
  exact (S2.ext e).imm (.tup upd_same (r.st e.stp))
theorem E_lst {ds : List PyData} (h : Ea X B M es Γ Γ1 (ds.map As.imm)) (hz : ds.length ≤ sizeLine) : Ee X B M (.List es pos) Γ Γ1 (.new (oL ds)) := by
  intro T σ τ H Q hl S k
  refine WE.of (pe_lst pa_wa) (h T σ τ H _ hl S fun vs H1 hv S1 => ?_)
  obtain ⟨r, S2⟩ := imms_of (by simpa using hv) S1
  refine ⟨by rw [r.length]; exact hz, fun p hp => k _ _ ?_⟩
  have e := Ext.new (o := .lst vs) hp
  exact S2.new (F0 := [p]) e ⟨p, vs, rfl, rfl, upd_same, r.st e.stp⟩ (fun a ha => by
    have : a = p := by simpa using ha
    rw [this]; exact hp)
end
end PL

/-! PL3: statements, targets, iterators, loops. -/
namespace PL
open PySem PySem.Spec PyProof.Rows L2

def WG (X : Cx) (tg : Expr) : TG := fun v σ H Q => ∀ pins s u, Inv X pins σ H s → RelV v u → wpAny (model X.prog X.w) X.A (assign tg X.env u) (fun _ s' => ∃ σ' H', Inv X pins σ' H' s' ∧ Q σ' H') X.xe s
def WGs (X : Cx) (tgs : List Expr) : TGs := fun vs σ H Q => ∀ pins s us, Inv X pins σ H s → Vals vs us → wpAny (model X.prog X.w) X.A (assignInOrder ((assignEach tgs X.env).map (·.2)) us) (fun _ s' => ∃ σ' H', Inv X pins σ' H' s' ∧ Q σ' H') X.xe s
def WI (X : Cx) (tg iter : Expr) : TI := fun σ H R => ∀ pins s, Inv X pins σ H s → wpAny (model X.prog X.w) X.A (eval iter X.env) (fun v s1 => wpAny (model X.prog X.w) X.A (pyIter v) (PIE X pins σ tg R) X.xe s1) X.xe s
theorem pg_wg {X : Cx} {tg : Expr} : PG X tg (WG X tg) := ⟨fun pins s _ _ _ u _ I r h => h pins s u I r⟩
theorem pgs_wgs {X : Cx} {tgs : List Expr} : PGs X tgs (WGs X tgs) := ⟨fun pins s _ _ _ us _ I r h => h pins s us I r⟩
theorem pi_wi {X : Cx} {tg iter : Expr} : PI X tg iter (WI X tg iter) := ⟨fun pins s _ _ _ I h => h pins s I⟩
theorem WG.of {X : Cx} {tg : Expr} {t : TG} {v : V} {σ : L2.St} {H : Hp} {Q : L2.St → Hp → Prop} (h : PG X tg t) (q : t v σ H Q) : WG X tg v σ H Q := fun pins s u I r => h.run pins s σ H v u Q I r q
theorem WGs.of {X : Cx} {tgs : List Expr} {t : TGs} {vs : List V} {σ : L2.St} {H : Hp} {Q : L2.St → Hp → Prop} (h : PGs X tgs t) (q : t vs σ H Q) : WGs X tgs vs σ H Q := fun pins s us I r => h.run pins s σ H vs us Q I r q
theorem WI.of {X : Cx} {tg iter : Expr} {t : TI} {σ : L2.St} {H : Hp} {R : It → Hp → Prop} (h : PI X tg iter t) (q : t σ H R) : WI X tg iter σ H R := fun pins s I => h.run pins s σ H R I q

structure En where
  nx : List As → Prop
  rt : List As → As → Prop
  bk : List As → Prop := fun _ => False
  ct : List As → Prop := fun _ => False
def stK (B : Hp) (M : List Addr) (T : List As) (τ : List (Option V)) (P : List As → Prop) : L2.St → Hp → Prop := fun σ H => ∃ Γ, P Γ ∧ σ.length = Γ.length ∧ Sat B M (Γ ++ T) (σ ++ τ) H
def rtK (B : Hp) (M : List Addr) (T : List As) (τ : List (Option V)) (P : List As → As → Prop) : VK := fun v H => ∃ Γ σ A, P Γ A ∧ σ.length = Γ.length ∧ Sat B M ((Γ ++ T) ++ [A]) ((σ ++ τ) ++ [some v]) H
def En.ends (D : En) (B : Hp) (M : List Addr) (T : List As) (τ : List (Option V)) : Ends where
  nx := stK B M T τ D.nx
  rt := rtK B M T τ D.rt
  bk := stK B M T τ D.bk
  ct := stK B M T τ D.ct
def Ss (X : Cx) (B : Hp) (M : List Addr) (sts : List Stmt) (Γ : List As) (D : En) : Prop := ∀ T σ τ H, σ.length = Γ.length → Sat B M (Γ ++ T) (σ ++ τ) H → WSs X sts (D.ends B M T τ) σ H
def Sx (X : Cx) (B : Hp) (M : List Addr) (st : Stmt) (Γ : List As) (D : En) : Prop := ∀ T σ τ H, σ.length = Γ.length → Sat B M (Γ ++ T) (σ ++ τ) H → WS X st (D.ends B M T τ) σ H
/-- an immutable item goes to a target -/
def Tg (X : Cx) (B : Hp) (M : List Addr) (tg : Expr) (Γ : List As) (d : PyData) (Γ' : List As) (L : List Nat) : Prop :=
  ∀ T σ τ v H Q, σ.length = Γ.length → Sat B M (Γ ++ T) (σ ++ τ) H → Rep H v d → (∀ σ' H', σ'.length = Γ'.length → (σ'.length = σ.length ∧ ∀ i, i ∉ L → σ'[i]? = σ[i]?) → Sat B M (Γ' ++ T) (σ' ++ τ) H' → Q σ' H') → WG X tg v σ H Q
def Tgs (X : Cx) (B : Hp) (M : List Addr) (tgs : List Expr) (Γ : List As) (ds : List PyData) (Γ' : List As) (L : List Nat) : Prop :=
  ∀ T σ τ vs H Q, σ.length = Γ.length → Sat B M (Γ ++ T) (σ ++ τ) H → Reps H vs ds → (∀ σ' H', σ'.length = Γ'.length → (σ'.length = σ.length ∧ ∀ i, i ∉ L → σ'[i]? = σ[i]?) → Sat B M (Γ' ++ T) (σ' ++ τ) H' → Q σ' H') → WGs X tgs vs σ H Q

section
variable {X : Cx} {B : Hp} {M : List Addr} {N : List Str} {ks : List Nat} {gs : List Str} {sc : Scope} {Γ Γ1 Γ2 Γ3 : List As} {A A1 A2 A3 : As} {a b c e tg iter : Expr} {es tgs : List Expr} {st : Stmt} {sts body : List Stmt} {pos : Pos} {D : En}

/-! ### blocks -/
theorem S_nil (h : D.nx Γ) : Ss X B M [] Γ D := fun T σ τ H hl S => WSs.of pss_nil ⟨Γ, h, hl, S⟩
theorem S_cons (h : Sx X B M st Γ { D with nx := fun Γ' => Ss X B M sts Γ' D }) : Ss X B M (st :: sts) Γ D := fun T σ τ H hl S => by
  refine WSs.of (pss_cons ps_ws pss_wss) ?_
  refine (h T σ τ H hl S).mono (fun σ' H' ⟨Γ', q, hl', S'⟩ => q T σ' τ H' hl' S') (fun _ _ q => q) (fun _ _ q => q) (fun _ _ q => q)
/-- the last statement of a block -/
theorem S_one (h : Sx X B M st Γ D) : Ss X B M [st] Γ D := fun T σ τ H hl S => WSs.of (pss_one ps_ws) (h T σ τ H hl S)
theorem X_mono {D' : En} (h : Sx X B M st Γ D) (k1 : ∀ Γ, D.nx Γ → D'.nx Γ) (k2 : ∀ Γ A, D.rt Γ A → D'.rt Γ A) (k3 : ∀ Γ, D.bk Γ → D'.bk Γ) (k4 : ∀ Γ, D.ct Γ → D'.ct Γ) : Sx X B M st Γ D' := fun T σ τ H hl S =>
  (h T σ τ H hl S).mono (fun _ _ ⟨Γ, p, q⟩ => ⟨Γ, k1 _ p, q⟩) (fun _ _ ⟨Γ, s, A, p, q⟩ => ⟨Γ, s, A, k2 _ _ p, q⟩) (fun _ _ ⟨Γ, p, q⟩ => ⟨Γ, k3 _ p, q⟩) (fun _ _ ⟨Γ, p, q⟩ => ⟨Γ, k4 _ p, q⟩)
theorem X_pass (h : D.nx Γ) : Sx X B M (.Pass pos) Γ D := fun T σ τ H hl S => WS.of ps_pass ⟨Γ, h, hl, S⟩
theorem X_break (h : D.bk Γ) : Sx X B M (.Break pos) Γ D := fun T σ τ H hl S => WS.of ps_break ⟨Γ, h, hl, S⟩
theorem X_continue (h : D.ct Γ) : Sx X B M (.Continue pos) Γ D := fun T σ τ H hl S => WS.of ps_continue ⟨Γ, h, hl, S⟩
theorem X_ret (h : Ee X B M e Γ Γ1 A) (k : D.rt Γ1 A) : Sx X B M (.Return (some e) pos) Γ D := fun T σ τ H hl S => by
  refine WS.of (ps_ret pe_we) (h T σ τ H _ hl S fun v H' S' => ?_)
  exact ⟨Γ1, σ, A, k, len_next hl S S', S'⟩
theorem X_expr (h : Ee X B M e Γ Γ1 A) (k : D.nx Γ1) (hs : swapsWith e none pos.line X.env = pure false := by rfl) : Sx X B M (.Expr e pos) Γ D := fun T σ τ H hl S => by
  refine WS.of (ps_expr pe_we hs) (h T σ τ H _ hl S fun v H' S' => ?_)
  exact ⟨Γ1, k, len_next hl S S', S'.pop⟩
theorem X_if {x : Bool} {t u : List Stmt} (h : Et X B M c Γ Γ1 x) (h1 : x = true → Ss X B M t Γ1 D) (h2 : x = false → Ss X B M u Γ1 D) : Sx X B M (.If c t u pos) Γ D := fun T σ τ H hl S => by
  refine WS.of (ps_if pt_wt pss_wss pss_wss) (h T σ τ H _ hl S fun H' S' => ?_)
  have hl' := len_next0 hl S S'
  cases x with
  | true => rw [if_pos rfl]; exact h1 rfl T σ τ H' hl' S'
  | false => rw [if_neg Bool.false_ne_true]; exact h2 rfl T σ τ H' hl' S'

/-! ### a slot is set -/
theorem setT {T : List As} {σ τ : List (Option V)} {H : Hp} {v : V} {i : Nat} (hl : σ.length = Γ.length) (S : Sat B M ((Γ ++ T) ++ [A]) ((σ ++ τ) ++ [some v]) H) (hi : i < Γ.length) :
    Sat B M (Γ.set i (A.put v) ++ T) (σ.set i (some v) ++ τ) H := by
  have q := S.set (i := i) (by simp; omega)
  rwa [List.set_append_left _ _ hi, List.set_append_left _ _ (by omega)] at q

theorem X_asg (F : Fx X N ks gs sc) (i : Nat) {x : Str} {pos' : Pos} (h : Ee X B M e Γ Γ1 A) (k : ∀ v, D.nx (Γ1.set i (A.put v))) (hi : N[i]? = some x := by rfl) (hm : stoK (ks[i]?) = true := by rfl) (hlen : decide (i < Γ1.length) = true := by rfl)
    (hs : swapsWith e (some (.Name x pos')) pos.line X.env = pure false := by rfl) : Sx X B M (.Assign [.Name x pos'] e pos) Γ D := fun T σ τ H hl S => by
  obtain ⟨h1, h2⟩ := F.sto i x hi hm
  refine WS.of (ps_set (i := i) (by rw [F.hN]; exact F.nd) (by rw [F.hN]; exact hi) h1 pe_we hs h2) (h T σ τ H _ hl S fun v H' S' => ?_)
  have hl' := len_next hl S S'
  exact ⟨_, k v, by simp [hl'], setT hl' S' (of_decide_eq_true hlen)⟩
/-- .. a value that is known -/
theorem X_asgV (F : Fx X N ks gs sc) (i : Nat) {x : Str} {pos' : Pos} {v : V} (h : Ee X B M e Γ Γ1 (.val v)) (k : D.nx (Γ1.set i (.val v))) (hi : N[i]? = some x := by rfl) (hm : stoK (ks[i]?) = true := by rfl) (hlen : decide (i < Γ1.length) = true := by rfl)
    (hs : swapsWith e (some (.Name x pos')) pos.line X.env = pure false := by rfl) : Sx X B M (.Assign [.Name x pos'] e pos) Γ D := X_asg F i h (fun _ => k) hi hm hlen hs
/-- two names of one value: the other one has it -/
theorem S_move {i j : Nat} {v : V} {o : Ow} (hi : Γ[i]? = some (.own v o)) (hj : Γ[j]? = some (.val v)) (h : Ss X B M sts ((Γ.set i (.val v)).set j (.own v o)) D) : Ss X B M sts Γ D := fun T σ τ H hl S => by
  have li := lt_of_get hi
  have lj := lt_of_get hj
  have hne : i ≠ j := fun e => by subst e; rw [hi] at hj; cases hj
  refine h T σ τ H (by simp [hl]) ?_
  have gs : ∀ {k A'}, (((Γ.set i (.val v)).set j (.own v o)) ++ T)[k]? = some A' → (k = i ∧ A' = .val v) ∨ (k = j ∧ A' = .own v o) ∨ (k ≠ i ∧ k ≠ j ∧ (Γ ++ T)[k]? = some A') := fun {k A'} q => by
    by_cases hk : k < Γ.length
    · rw [List.getElem?_append_left (by simpa using hk)] at q
      by_cases hj' : k = j
      · subst hj'
        rw [List.getElem?_set_self (by simpa using lj)] at q
        exact .inr (.inl ⟨rfl, (Option.some.inj q).symm⟩)
      · rw [List.getElem?_set_ne (Ne.symm hj')] at q
        by_cases hi' : k = i
        · subst hi'
          rw [List.getElem?_set_self li] at q
          exact .inl ⟨rfl, (Option.some.inj q).symm⟩
        · rw [List.getElem?_set_ne (Ne.symm hi')] at q
          exact .inr (.inr ⟨hi', hj', by rw [List.getElem?_append_left hk]; exact q⟩)
    · refine .inr (.inr ⟨by omega, by omega, ?_⟩)
      rw [List.getElem?_append_right (by simp; omega)] at q
      rw [List.getElem?_append_right (by omega)]
      simpa using q
  obtain ⟨hl0, hk, Fp, h1, h2⟩ := id S
  have vi : (σ ++ τ)[i]? = some (some v) := (h1 i (.own v o) (by rw [List.getElem?_append_left li]; exact hi)).1
  have vj : (σ ++ τ)[j]? = some (some v) := h1 j (.val v) (by rw [List.getElem?_append_left lj]; exact hj)
  refine S.sub (fun k => if k = j then i else if k = i then j else k) (by simpa using hl0) (fun a b A1 A2 q1 q2 _ _ e => ?_) (fun k A' q => .inr ?_)
  · by_cases a1 : a = j <;> by_cases a2 : a = i <;> by_cases b1 : b = j <;> by_cases b2 : b = i <;> simp only [a1, a2, b1, b2, if_true, if_false] at e <;> first | omega | (split at e <;> omega)
  · rcases gs q with ⟨rfl, rfl⟩ | ⟨rfl, rfl⟩ | ⟨n1, n2, q⟩
    · rw [if_neg hne, if_pos rfl]
      exact ⟨.val v, by rw [List.getElem?_append_left lj]; exact hj, fun h => h, fun h => h, fun F h => vi⟩
    · rw [if_pos rfl]
      exact ⟨.own v o, by rw [List.getElem?_append_left li]; exact hi, fun h => h, fun h => h, fun F h => ⟨vj, h.2⟩⟩
    · rw [if_neg n2, if_neg n1]
      exact ⟨A', q, fun h => h, fun h => h, fun F h => h⟩
/-- a slot is forgotten -/
theorem S_drop (i : Nat) (h : Ss X B M sts (Γ.set i .any) D) : Ss X B M sts Γ D := fun T σ τ H hl S => by
  refine h T σ τ H (by simp [hl]) ?_
  refine S.sub id (by have := S.len; simpa using this) (fun _ _ _ _ _ _ _ _ e => e) (fun k A' q => ?_)
  by_cases hk : k < Γ.length
  · rw [List.getElem?_append_left (by simpa using hk)] at q
    by_cases hi : k = i
    · subst hi
      rw [List.getElem?_set_self hk] at q
      cases q
      exact .inl ⟨rfl, [], trivial⟩
    · rw [List.getElem?_set_ne (Ne.symm hi)] at q
      exact .inr ⟨A', by rw [id, List.getElem?_append_left hk]; exact q, fun h => h, fun h => h, fun F h => h⟩
  · rw [List.getElem?_append_right (by simp; omega)] at q
    exact .inr ⟨A', by rw [id, List.getElem?_append_right (by omega)]; simpa using q, fun h => h, fun h => h, fun F h => h⟩

/-! ### targets -/
theorem G_name (F : Fx X N ks gs sc) (i : Nat) {x : Str} {d : PyData} (hi : N[i]? = some x := by rfl) (hm : stoK (ks[i]?) = true := by rfl) (hlen : decide (i < Γ.length) = true := by rfl) : Tg X B M (.Name x pos) Γ d (Γ.set i (.imm d)) [i] := fun T σ τ v H Q hl S r k => by
  obtain ⟨h1, h2⟩ := F.sto i x hi hm
  refine WG.of (pg_name (i := i) (by rw [F.hN]; exact F.nd) (by rw [F.hN]; exact hi) h1 h2) (k _ H (by simp [hl]) ⟨by simp, fun j hj => List.getElem?_set_ne (fun e => hj (by simp [e]))⟩ ?_)
  exact setT (A := .imm d) hl (S.imm r) (of_decide_eq_true hlen)
theorem G_nil : Tgs X B M [] Γ [] Γ [] := fun T σ τ vs H Q hl S r k => by
  cases r
  exact WGs.of pgs_nil ⟨rfl, k σ H hl ⟨rfl, fun _ _ => rfl⟩ S⟩
theorem G_cons {d : PyData} {ds : List PyData} {L1 L2 : List Nat} (h1 : Tg X B M tg Γ d Γ1 L1) (h2 : Tgs X B M tgs Γ1 ds Γ2 L2) (hs : (assignEach (tg :: tgs) X.env).map (·.2) = assign tg X.env :: (assignEach tgs X.env).map (·.2) := by rfl) : Tgs X B M (tg :: tgs) Γ (d :: ds) Γ2 (L1 ++ L2) := fun T σ τ vs H Q hl S r k => by
  cases r with
  | @cons v vs _ _ r rs =>
    refine WGs.of (pgs_cons pg_wg pgs_wgs hs) ⟨v, vs, rfl, ?_⟩
    have hτ := (len_of hl S).symm
    have push : ∀ {vs : List V} {ds : List PyData} {G : List As} {g : List (Option V)}, Reps H vs ds → Sat B M G g H → Sat B M (G ++ ds.map As.imm) (g ++ vs.map some) H := by
      intro vs ds
      induction ds generalizing vs with
      | nil => intro G g r S; cases r; simpa using S
      | cons d ds ih =>
        intro G g r S
        cases r with
        | cons r1 r2 =>
          have q := ih r2 (S.imm r1)
          simpa using q
    have Sp := push rs S
    rw [List.append_assoc, List.append_assoc] at Sp
    refine h1 (T ++ ds.map As.imm) σ (τ ++ vs.map some) v H _ hl Sp r fun σ' H' hl' q1 S' => ?_
    rw [← List.append_assoc, ← List.append_assoc] at S'
    obtain ⟨rs', S2⟩ := imms_of rs.length S'
    exact h2 T σ' τ vs H' Q hl' S2 rs' fun σ2 H2 hl2 q2 S2 => k σ2 H2 hl2 ⟨q2.1.trans q1.1, fun i hi => by
      rw [List.mem_append, not_or] at hi
      exact (q2.2 i hi.2).trans (q1.2 i hi.1)⟩ S2
theorem G_tup (F : Fx X N ks gs sc) {ds : List PyData} {k1 : Nat} {L : List Nat} (h : Tgs X B M tgs Γ ds Γ1 L) (hn : (assignEach tgs X.env).length = ds.length := by rfl) (hst : (assignEach tgs X.env).findIdx? (·.1) = none := by rfl) : Tg X B M (.Tuple tgs k1 pos) Γ (.tuple ds) Γ1 L := fun T σ τ v H Q hl S r k => by
  cases r with
  | @tup a vs _ hh rs =>
    exact WG.of (pg_tup F.calm pgs_wgs hn hst) ⟨a, vs, rfl, SqT.of hh, rs.length, h T σ τ vs H Q hl S rs k⟩
theorem X_asgT {d : PyData} {L : List Nat} (h : Ee X B M e Γ Γ1 (.imm d)) (g : Tg X B M tg Γ1 d Γ2 L) (k : D.nx Γ2) (hs : swapsWithSole [tg] e pos.line X.env = pure false := by rfl) (hw : swappedStores [tg] e X.env = pure none := by rfl)
    (h1 : (assignEach [tg] X.env).map (·.2) = [assign tg X.env] := by rfl) : Sx X B M (.Assign [tg] e pos) Γ D := fun T σ τ H hl S => by
  refine WS.of (ps_asg pe_we pg_wg hs hw h1) (h T σ τ H _ hl S fun v H' S' => ?_)
  obtain ⟨r, S2⟩ := one_imm S'
  exact g T σ τ v H' _ (len_next hl S S') S2 r fun σ' H2 hl' _ S3 => ⟨Γ2, k, hl', S3⟩
def isStar : Expr → Bool
  | .Starred .. => true
  | _ => false
/-- the stores of two local names are swapped -/
theorem sw_two {env : Env} {x y : Str} {px py pt pt2 : Pos} {kt k2 : Nat} {a b : Expr} (hb : env.blockKind = .function) (hx : env.scope.names.lookup x = some .local) (hy : env.scope.names.lookup y = some .local) (hne : (x == y) = false)
    (hl : (py.line == px.line) = true) (hf : [a, b].all (foldedForSure 8) = false) (hc : [a, b].all (constantsAlone 8) = false) (hs : [a, b].any isStar = false) :
    swappedStores [.Tuple [.Name x px, .Name y py] kt pt] (.Tuple [a, b] k2 pt2) env = pure (some [x, y]) := by
  have kx : env.kindOf x = some .local := hx
  have ky : env.kindOf y = some .local := hy
  have hne' : (y == x) = false := by
    rw [beq_eq_false_iff_ne] at hne ⊢
    exact fun e => hne e.symm
  unfold swappedStores
  simp only [hb, kx, ky, hl, hf, hc, Expr.pos, List.length_cons, List.length_nil, List.filterMap_cons, List.filterMap_nil, List.head?_cons, Option.map_some, Option.getD_some, beq_self_eq_true, Bool.and_self, if_true, List.eraseDups_cons, List.filter_cons, List.filter_nil, hne', List.eraseDups_nil, Bool.not_false, Bool.not_true, Bool.or_false, Bool.false_or, bne_self_eq_false, Bool.true_or, Bool.or_self]
  refine (if_neg (by decide)).trans ((if_neg fun h => ?_).trans rfl)
  obtain ⟨e, he, h⟩ := List.any_eq_true.mp h
  have hs' := List.any_eq_false.mp hs e he
  cases e with
  | Starred _ _ => exact absurd rfl hs'
  | _ => cases h
/-- a, b = x, y with two local names -/
theorem X_par (F : Fx X N ks gs sc) (i j : Nat) {x y : Str} {px py pt pt2 : Pos} {kt k2 : Nat} (h : Ea X B M [a, b] Γ Γ1 [A1, A2]) (k : ∀ v w, D.nx ((Γ1.set j (A2.put w)).set i (A1.put v))) (hij : i ≠ j := by decide)
    (hi : N[i]? = some x := by rfl) (hj : N[j]? = some y := by rfl) (hx : ks[i]? = some 1 := by rfl) (hy : ks[j]? = some 1 := by rfl) (hli : decide (i < Γ1.length) = true := by rfl) (hlj : decide (j < Γ1.length) = true := by rfl)
    (hne : (x == y) = false := by decide) (hln : (py.line == px.line) = true := by rfl) (hf : [a, b].all (foldedForSure 8) = false := by rfl) (hc : [a, b].all (constantsAlone 8) = false := by rfl) (hst : [a, b].any isStar = false := by rfl)
    (hs : swapsWithSole [.Tuple [.Name x px, .Name y py] kt pt] (.Tuple [a, b] k2 pt2) pos.line X.env = pure false := by rfl) :
    Sx X B M (.Assign [.Tuple [.Name x px, .Name y py] kt pt] (.Tuple [a, b] k2 pt2) pos) Γ D := fun T σ τ H hl S => by
  refine WS.of (ps_par (i := i) (j := j) F.calm (by rw [F.hN]; exact F.nd) (by rw [F.hN]; exact hi) (by rw [F.hN]; exact hj) hij (F.k1 i x hi hx) (F.k1 j y hj hy) pa_wa (sw_two F.blk (F.k1 i x hi hx) (F.k1 j y hj hy) hne hln hf hc hst) hs) (h T σ τ H _ hl S fun vs H1 hv S1 => ?_)
  match vs, hv with
  | [v, w], _ =>
    have hl1 : σ.length = Γ1.length := by
      have a1 := S1.len
      have a2 := len_of hl S
      simp at a1; omega
    refine ⟨v, w, rfl, _, k v w, by simp [hl1], ?_⟩
    have e1 : (Γ1 ++ T) ++ [A1, A2] = ((Γ1 ++ T) ++ [A1]) ++ [A2] := by simp
    have e2 : (σ ++ τ) ++ [v, w].map some = ((σ ++ τ) ++ [some v]) ++ [some w] := by simp
    rw [e1, e2] at S1
    have lj := of_decide_eq_true hlj
    have li := of_decide_eq_true hli
    have q := S1.set (i := j) (by simp; omega)
    rw [List.append_assoc, List.append_assoc, List.set_append_left _ _ lj, List.set_append_left _ _ (by omega), ← List.append_assoc, ← List.append_assoc] at q
    have q2 := setT (Γ := Γ1.set j (A2.put w)) (i := i) (by simp [hl1]) q (by simpa using li)
    rw [List.set_comm _ _ hij]
    exact q2
end
end PL

/-! PL4: iterators, for, while, list comprehensions. -/
namespace PL
open PySem PySem.Spec PyProof.Rows L2

/-- at a turn: the next item, or the end -/
def Trn (J : It) (ds : List PyData) (k : Nat) (H : Hp) : Prop :=
  (∀ d, ds[k]? = some d → J.go k H ∧ ∀ x H', J.yld k H x H' → Ext H H' ∧ Rep H' x d) ∧ (k = ds.length → J.stop k H)
/-- iter yields ds; it keeps the values Tn meanwhile, and asks Ok of the slots -/
def Ii (X : Cx) (B : Hp) (M : List Addr) (tg iter : Expr) (Γ Γ' Tn : List As) (ds : List PyData) (Ok : List As → Prop) : Prop :=
  ∀ T σ τ H R, σ.length = Γ.length → Sat B M (Γ ++ T) (σ ++ τ) H →
    (∀ J u H', u.length = Tn.length → σ.length = Γ'.length → Sat B M (Γ' ++ (T ++ Tn)) (σ ++ (τ ++ u)) H' →
      (∀ k Γk σk W ω Hk, Ok Γk → σk.length = Γk.length → Sat B M ((Γk ++ (T ++ Tn)) ++ W) ((σk ++ (τ ++ u)) ++ ω) Hk → Trn J ds k Hk) → R J H') → WI X tg iter σ H R

section
variable {X : Cx} {B : Hp} {M : List Addr} {N : List Str} {ks : List Nat} {gs : List Str} {sc : Scope} {Γ Γ1 Γ2 Γ3 Tn : List As} {A A1 A2 A3 : As} {a b c e tg iter elt : Expr} {es tgs : List Expr} {st : Stmt} {sts body : List Stmt} {pos : Pos} {D : En} {ds : List PyData} {Ok : List As → Prop}

theorem atI_len (xs : List PyData) (k : Nat) (h : xs[k]? = none) : xs.length ≤ k := List.getElem?_eq_none_iff.mp h
theorem trn_list {K : PySem.W.Frag} {a : Addr} {vs : List V} {ds : List PyData} {k : Nat} {H : Hp} (h : H a = some (.lst vs)) (r : Reps H vs ds) : Trn (Itl K a) ds k H := by
  refine ⟨fun d e => ?_, fun e => ?_⟩
  · obtain ⟨v, e1, r1⟩ := r.get e
    refine ⟨⟨vs, v, SqL.of h, e1⟩, fun x H' y => ?_⟩
    obtain ⟨rfl, y⟩ := y
    have := y vs (SqL.of h)
    rw [e1] at this; cases this
    exact ⟨Ext.refl _, r1⟩
  · exact ⟨vs, SqL.of h, by rw [r.length, e]; exact Nat.le_refl _⟩
theorem trn_tup {K : PySem.W.Frag} {a : Addr} {vs : List V} {ds : List PyData} {k : Nat} {H : Hp} (h : H a = some (.tup vs)) (r : Reps H vs ds) : Trn (Itt K a) ds k H := by
  refine ⟨fun d e => ?_, fun e => ?_⟩
  · obtain ⟨v, e1, r1⟩ := r.get e
    refine ⟨⟨vs, v, SqT.of h, e1⟩, fun x H' y => ?_⟩
    obtain ⟨rfl, y⟩ := y
    have := y vs (SqT.of h)
    rw [e1] at this; cases this
    exact ⟨Ext.refl _, r1⟩
  · exact ⟨vs, SqT.of h, by rw [r.length, e]; exact Nat.le_refl _⟩
/-- a value kept at a place amid -/
theorem mid_at {G T W : List As} {g τ ω : List (Option V)} {u : Option V} {H : Hp} (hl : g.length = G.length) (S : Sat B M ((G ++ (T ++ [A])) ++ W) ((g ++ (τ ++ [u])) ++ ω) H) (hτ : τ.length = T.length) : ∃ F, AtOk [u] F H 0 A := by
  obtain ⟨_, _, F, h1, _⟩ := S
  refine ⟨F (G.length + T.length), (h1 (G.length + T.length) A ?_).to ?_⟩
  · rw [List.getElem?_append_left (by simp)]
    rw [List.getElem?_append_right (by omega), List.getElem?_append_right (by omega)]
    simp
  · rw [List.getElem?_append_left (by simp; omega)]
    rw [List.getElem?_append_right (by omega), List.getElem?_append_right (by omega)]
    rw [hl, hτ]; simp
/-- over a tuple -/
theorem I_tup (h : Ee X B M iter Γ Γ1 (.imm (.tuple ds))) : Ii X B M tg iter Γ Γ1 [.imm (.tuple ds)] ds (fun _ => True) := fun T σ τ H R hl S k => by
  refine WI.of (pi_tup pe_we) (h T σ τ H _ hl S fun v H' S' => ?_)
  obtain ⟨r, _⟩ := one_imm S'
  have hτ := len_of hl S
  cases r with
  | @tup a vs _ hh rs =>
    refine ⟨a, rfl, ⟨vs, SqT.of hh⟩, k _ [some (.ref a)] H' rfl (len_next hl S S') (asc S') fun j Γk σk W ω Hk _ hk Sk => ?_⟩
    obtain ⟨F, q⟩ := mid_at hk Sk hτ.symm
    obtain ⟨v, e, r⟩ := q
    have e : v = .ref a := by simpa using e.symm
    subst e
    cases r with
    | tup h2 r2 => exact trn_tup h2 r2
/-- over a new list -/
theorem I_new (h : Ee X B M iter Γ Γ1 (.new (oL ds))) : Ii X B M tg iter Γ Γ1 [.new (oL ds)] ds (fun _ => True) := fun T σ τ H R hl S k => by
  refine WI.of (pi_list pe_we) (h T σ τ H _ hl S fun v H' S' => ?_)
  have hτ := len_of hl S
  obtain ⟨v', F, e, l, vs, rfl, _, h1, h2⟩ := S'.see (o := oL ds) (.inl rfl)
  cases e
  refine ⟨l, rfl, ⟨vs, SqL.of h1⟩, k _ [some (.ref l)] H' rfl (len_next hl S S') (asc S') fun j Γk σk W ω Hk _ hk Sk => ?_⟩
  obtain ⟨F, q⟩ := mid_at hk Sk hτ.symm
  obtain ⟨v, e, l', vs', rfl, _, h3, h4⟩ := q
  have e : l' = l := by simpa using e.symm
  subst e
  exact trn_list h3 h4
/-- over a list in a slot, which stays as it is -/
theorem I_own {i : Nat} {v : V} (h : Ee X B M iter Γ Γ1 (.val v)) (hg : Γ1[i]? = some (.own v (oL ds)) ∨ Γ1[i]? = some (.frz v (oL ds)) := by first | exact Or.inl rfl | exact Or.inr rfl) :
    Ii X B M tg iter Γ Γ1 [] ds (fun Γk => Γk[i]? = some (.own v (oL ds)) ∨ Γk[i]? = some (.frz v (oL ds))) := fun T σ τ H R hl S k => by
  have see : ∀ {G W : List As} {g ω : List (Option V)} {H : Hp}, Sat B M (G ++ W) (g ++ ω) H → (G[i]? = some (.own v (oL ds)) ∨ G[i]? = some (.frz v (oL ds))) → ∃ l vs, v = .ref l ∧ H l = some (.lst vs) ∧ Reps H vs ds := fun {G W g ω H} S q => by
    obtain ⟨_, _, F, h1, _⟩ := S
    rcases q with q | q
    · obtain ⟨_, l, vs, e, _, h2, h3⟩ := h1 i (.own v (oL ds)) (by rw [List.getElem?_append_left (lt_of_get q)]; exact q)
      exact ⟨l, vs, e, h2, h3⟩
    · obtain ⟨_, l, vs, e, _, h2, h3⟩ := h1 i (.frz v (oL ds)) (by rw [List.getElem?_append_left (lt_of_get q)]; exact q)
      exact ⟨l, vs, e, h2, h3⟩
  refine WI.of (pi_list pe_we) (h T σ τ H _ hl S fun w H' S' => ?_)
  obtain ⟨F, e⟩ := S'.last
  have e : w = v := by
    have e' : [some w][0]? = some (some v) := e
    simpa using e'
  subst e
  have S2 := S'.pop
  obtain ⟨l, vs, rfl, h2, h3⟩ := see S2 hg
  refine ⟨l, rfl, ⟨vs, SqL.of h2⟩, k _ [] H' rfl (len_next hl S S') (by simpa using S2) fun j Γk σk W ω Hk ok hk Sk => ?_⟩
  rw [List.append_assoc, List.append_assoc σk] at Sk
  obtain ⟨l', vs', e, h4, h5⟩ := see Sk ok
  cases e
  exact trn_list h4 h5
/-- over range(n), range(lo, hi) -/
theorem trn_rng {lo : Int} {n k : Nat} {H : Hp} : Trn (Itr lo n) ((List.range n).map fun (i : Nat) => PyData.int (lo + (i : Int))) k H := by
  refine ⟨fun d e => ?_, fun e => ?_⟩
  · rw [List.getElem?_map] at e
    obtain ⟨j, e1, e2⟩ := Option.map_eq_some_iff.mp e
    have hj := lt_of_get e1
    rw [List.length_range] at hj
    rw [List.getElem?_range hj] at e1
    cases e1
    subst e2
    refine ⟨hj, fun x H' y => ?_⟩
    obtain ⟨rfl, rfl⟩ := y
    exact ⟨Ext.refl _, .int _⟩
  · show n ≤ k
    rw [e]; simp
theorem I_rng1 (F : Fx X N ks gs sc) {p : Pos} {n : Int} (h : Ea X B M [a] Γ Γ1 [.imm (.int n)]) (hm : X.mg "range" = none) (hn : n < 2 ^ 62) (hn0 : -(2 ^ 62) ≤ n) (g : Nat := gs.idxOf ("range" : Str)) (hg : gs[g]? = some ("range" : Str) := by rfl) (hs : starEach [a] X.env = [(false, eval a X.env)] := by rfl) :
    Ii X B M tg (.Call (.Name "range" p) [a] [] pos) Γ Γ1 [] ((List.range n.toNat).map fun (i : Nat) => PyData.int ((0 : Int) + (i : Int))) (fun _ => True) := fun T σ τ H R hl S k => by
  refine WI.of (pi_range1 (F.gl g _ hg) hm pa_wa hs) (h T σ τ H _ hl S fun vs H' hv S' => ?_)
  match vs, hv with
  | [v], _ =>
    have S' : Sat B M ((Γ1 ++ T) ++ [.imm (.int n)]) ((σ ++ τ) ++ [some v]) H' := S'
    have hl' := len_next hl S S'
    obtain ⟨r, S2⟩ := one_imm S'
    cases r
    exact ⟨n, rfl, hn0, hn, k _ [] H' rfl hl' (by simpa using S2) fun j Γk σk W ω Hk _ hk Sk => trn_rng⟩
theorem I_rng2 (F : Fx X N ks gs sc) {p : Pos} {lo n : Int} (h : Ea X B M [a, b] Γ Γ1 [.imm (.int lo), .imm (.int n)]) (hm : X.mg "range" = none) (hn : -(2 ^ 62) ≤ lo ∧ lo < 2 ^ 62 ∧ -(2 ^ 62) ≤ n ∧ n < 2 ^ 62) (g : Nat := gs.idxOf ("range" : Str)) (hg : gs[g]? = some ("range" : Str) := by rfl)
    (hs : starEach [a, b] X.env = [(false, eval a X.env), (false, eval b X.env)] := by rfl) (hs2 : starEach [b] X.env = [(false, eval b X.env)] := by rfl) :
    Ii X B M tg (.Call (.Name "range" p) [a, b] [] pos) Γ Γ1 [] ((List.range (n - lo).toNat).map fun (i : Nat) => PyData.int (lo + (i : Int))) (fun _ => True) := fun T σ τ H R hl S k => by
  refine WI.of (pi_range2 (F.gl g _ hg) hm pa_wa hs hs2) (h T σ τ H _ hl S fun vs H' hv S' => ?_)
  match vs, hv with
  | [v, w], _ =>
    have e1 : (Γ1 ++ T) ++ [As.imm (.int lo), As.imm (.int n)] = ((Γ1 ++ T) ++ [.imm (.int lo)]) ++ [.imm (.int n)] := by simp
    have e2 : (σ ++ τ) ++ [v, w].map some = ((σ ++ τ) ++ [some v]) ++ [some w] := by simp
    rw [e1, e2] at S'
    obtain ⟨r1, r2, S2⟩ := two_imm S'
    cases r1; cases r2
    have hl' := len_next0 hl S S2
    exact ⟨lo, n, rfl, hn, k _ [] H' rfl hl' (by simpa using S2) fun j Γk σk W ω Hk _ hk Sk => trn_rng⟩
/-- the data by an equation -/
theorem I_cv {ds' : List PyData} (h : Ii X B M tg iter Γ Γ1 Tn ds Ok) (e : ds = ds') : Ii X B M tg iter Γ Γ1 Tn ds' Ok := e ▸ h

/-! ### for -/
theorem pops {T : List As} {τ u : List (Option V)} : ∀ {Tn : List As} {u : List (Option V)} {G : List As} {g : List (Option V)} {H : Hp}, u.length = Tn.length → Sat B M (G ++ Tn) (g ++ u) H → Sat B M G g H := by
  intro Tn
  induction Tn with
  | nil => intro u G g H hu S; cases u with
    | nil => simpa using S
    | cons _ _ => simp at hu
  | cons A Tn ih => intro u G g H hu S; cases u with
    | nil => simp at hu
    | cons x u =>
      have e1 : G ++ A :: Tn = (G ++ [A]) ++ Tn := by simp
      have e2 : g ++ x :: u = (g ++ [x]) ++ u := by simp
      rw [e1, e2] at S
      exact (ih (by simpa using hu) S).pop
/-- values amid go -/
theorem drop_mid {T Tn : List As} {σ τ u : List (Option V)} {H : Hp} {v : Option V} (hl : σ.length = Γ.length) (hτ : τ.length = T.length) (hu : u.length = Tn.length) (S : Sat B M ((Γ ++ (T ++ Tn)) ++ [A]) ((σ ++ (τ ++ u)) ++ [v]) H) : Sat B M ((Γ ++ T) ++ [A]) ((σ ++ τ) ++ [v]) H := by
  refine S.sub (fun i => if i < Γ.length + T.length then i else i + Tn.length) (by simp; omega) (fun i j A1 A2 _ _ _ _ e => ?_) (fun i A' q => .inr ?_)
  · split at e <;> split at e <;> omega
  · by_cases hi : i < Γ.length + T.length
    · rw [if_pos hi]
      rw [List.getElem?_append_left (by simp; omega)] at q
      refine ⟨A', ?_, fun h => h, fun h => h, fun F h => h.to ?_⟩
      · rw [List.getElem?_append_left (by simp; omega), ← List.append_assoc, List.getElem?_append_left (by simp; omega)]
        exact q
      · have q1 : ((σ ++ τ) ++ [v])[i]? = (σ ++ τ)[i]? := List.getElem?_append_left (by simp; omega)
        have q2 : ((σ ++ (τ ++ u)) ++ [v])[i]? = (σ ++ τ)[i]? := by
          rw [List.getElem?_append_left (by simp; omega), ← List.append_assoc, List.getElem?_append_left (by simp; omega)]
        rw [q1, q2]
    · rw [if_neg hi]
      have hq := lt_of_get q
      simp at hq
      have e : i = Γ.length + T.length := by omega
      subst e
      refine ⟨A, ?_, ?_⟩
      · rw [List.getElem?_append_right (by simp; omega)]; simp [Nat.add_assoc]
      · have e : A' = A := by
          rw [List.getElem?_append_right (by simp)] at q
          simpa using q.symm
        subst e
        refine ⟨fun h => h, fun h => h, fun F h => h.to ?_⟩
        rw [List.getElem?_append_right (by simp; omega), List.getElem?_append_right (by simp; omega)]
        simp [hl, hτ, hu, Nat.add_assoc]
theorem X_for (F : Fx X N ks gs sc) {I : Nat → List As → Prop} (hi : Ii X B M tg iter Γ Γ1 Tn ds Ok) (h0 : I 0 Γ1) (hok : ∀ k Γk, I k Γk → Ok Γk)
    (step : ∀ k d Γk, ds[k]? = some d → I k Γk → ∃ Γ' L, Tg X B M tg Γk d Γ' L ∧ Ss X B M body Γ' { nx := I (k + 1), ct := I (k + 1), bk := D.nx, rt := D.rt }) (done : ∀ Γk, I ds.length Γk → D.nx Γk)
    (hs : ∀ x, foldedSetIterable iter X.env x = pure x := by intro _; rfl) : Sx X B M (.For tg iter body [] pos) Γ D := fun T σ τ H hl S => by
  refine WS.of (ps_for (by rw [F.xe]; exact PassesOwn.never) F.calm pi_wi pg_wg pss_wss hs) ?_
  have hτ := (len_of hl S).symm
  refine hi T σ τ H _ hl S fun J u H1 hu hl1 S1 turn => ?_
  refine ⟨fun i m σ' H' => m = ds.length - i ∧ i ≤ ds.length ∧ ∃ Γk, I i Γk ∧ σ'.length = Γk.length ∧ Sat B M (Γk ++ (T ++ Tn)) (σ' ++ (τ ++ u)) H', ⟨ds.length, by simp, Nat.zero_le _, Γ1, h0, hl1, S1⟩, ?_⟩
  rintro i m σ' H' ⟨rfl, hle, Γk, hI, hlk, Sk⟩
  obtain ⟨t1, t2⟩ := turn i Γk σ' [] [] H' (hok i Γk hI) hlk (by simpa using Sk)
  by_cases hlt : i < ds.length
  · have e : ds[i]? = some ds[i] := List.getElem?_eq_getElem hlt
    obtain ⟨go, yl⟩ := t1 _ e
    obtain ⟨Γ', L, g, bd⟩ := step i _ Γk e hI
    refine .inr ⟨go, fun σ2 H2 => i + 1 ≤ ds.length ∧ ∃ Γk, I (i + 1) Γk ∧ σ2.length = Γk.length ∧ Sat B M (Γk ++ (T ++ Tn)) (σ2 ++ (τ ++ u)) H2, fun σ2 H2 ⟨q1, q2⟩ => ⟨ds.length - (i + 1), by omega, rfl, q1, q2⟩, fun x H2 y => ?_⟩
    obtain ⟨ex, r⟩ := yl x H2 y
    refine g (T ++ Tn) σ' (τ ++ u) x H2 _ hlk (Sk.ext ex) r fun σ3 H3 hl3 _ S3 => ?_
    refine (bd (T ++ Tn) σ3 (τ ++ u) H3 hl3 S3).mono (fun σ4 H4 ⟨Γ4, p, l4, S4⟩ => ⟨hlt, Γ4, p, l4, S4⟩) (fun v H4 ⟨Γ4, σ4, A4, p, l4, S4⟩ => ⟨Γ4, σ4, A4, p, l4, drop_mid l4 hτ hu S4⟩)
      (fun σ4 H4 ⟨Γ4, p, l4, S4⟩ => ⟨Γ4, p, l4, ?_⟩) (fun σ4 H4 ⟨Γ4, p, l4, S4⟩ => ⟨hlt, Γ4, p, l4, S4⟩)
    rw [← List.append_assoc, ← List.append_assoc] at S4
    exact pops (T := T) (τ := τ) (u := u) hu S4
  · have e : i = ds.length := by omega
    subst e
    refine .inl ⟨t2 rfl, Γk, done _ hI, hlk, ?_⟩
    rw [← List.append_assoc, ← List.append_assoc] at Sk
    exact pops (T := T) (τ := τ) (u := u) hu Sk
/-- a fold over the items of a typed list -/
theorem X_fold (F : Fx X N ks gs sc) {α β : Type} {xs : List α} {enc : α → PyData} (f : β → α → β) (b0 : β) {I : β → List As → Prop} (hi : Ii X B M tg iter Γ Γ1 Tn (xs.map enc) Ok) (h0 : I b0 Γ1) (hok : ∀ b Γk, I b Γk → Ok Γk)
    (step : ∀ pre x post Γk, xs = pre ++ x :: post → I (pre.foldl f b0) Γk → ∃ Γ' L, Tg X B M tg Γk (enc x) Γ' L ∧ Ss X B M body Γ' { nx := I (f (pre.foldl f b0) x), ct := I (f (pre.foldl f b0) x), bk := D.nx, rt := D.rt })
    (done : ∀ Γk, I (xs.foldl f b0) Γk → D.nx Γk) (hs : ∀ x, foldedSetIterable iter X.env x = pure x := by intro _; rfl) : Sx X B M (.For tg iter body [] pos) Γ D := by
  refine X_for F (I := fun k Γk => I ((xs.take k).foldl f b0) Γk) hi h0 (fun k Γk => hok _ Γk) (fun k d Γk e hI => ?_) (fun Γk hI => done Γk ?_) hs
  · rw [List.getElem?_map] at e
    obtain ⟨x, e1, rfl⟩ := Option.map_eq_some_iff.mp e
    have hk := lt_of_get e1
    have ex : xs = xs.take k ++ x :: xs.drop (k + 1) := by
      have q : xs[k] = x := by rw [List.getElem?_eq_getElem hk] at e1; exact Option.some.inj e1
      rw [← q, ← List.drop_eq_getElem_cons hk, List.take_append_drop]
    obtain ⟨Γ', L, g, bd⟩ := step _ x _ Γk ex hI
    refine ⟨Γ', L, g, ?_⟩
    have q : (xs.take (k + 1)).foldl f b0 = f ((xs.take k).foldl f b0) x := by
      rw [List.take_add_one, e1]
      show (xs.take k ++ [x]).foldl f b0 = _
      rw [List.foldl_append]; rfl
    rw [q]; exact bd
  · rw [List.length_map, List.take_length] at hI
    exact hI
/-! ### while -/
theorem X_while (F : Fx X N ks gs sc) {β : Type} (I : β → List As → Prop) (μ : β → Nat) {b0 : β} (h0 : I b0 Γ)
    (step : ∀ b Γk, I b Γk → ∃ Γ' t, Et X B M c Γk Γ' t ∧ (t = true → Ss X B M body Γ' { nx := fun Γ2 => ∃ b', μ b' < μ b ∧ I b' Γ2, ct := fun Γ2 => ∃ b', μ b' < μ b ∧ I b' Γ2, bk := D.nx, rt := D.rt }) ∧ (t = false → D.nx Γ')) : Sx X B M (.While c body [] pos) Γ D := fun T σ τ H hl S => by
  refine WS.of (ps_while (by rw [F.xe]; exact PassesOwn.never) pt_wt pss_wss) ?_
  refine ⟨fun m σ' H' => ∃ b Γk, m = μ b ∧ I b Γk ∧ σ'.length = Γk.length ∧ Sat B M (Γk ++ T) (σ' ++ τ) H', ⟨μ b0, b0, Γ, rfl, h0, hl, S⟩, ?_⟩
  rintro m σ' H' ⟨b, Γk, rfl, hI, hlk, Sk⟩
  obtain ⟨Γ', t, ht, h1, h2⟩ := step b Γk hI
  refine ht T σ' τ H' _ hlk Sk fun H2 S2 => ?_
  have hl2 := len_next0 hlk Sk S2
  cases t with
  | true =>
    rw [if_pos rfl]
    refine ⟨fun σ3 H3 => ∃ b', μ b' < μ b ∧ ∃ Γ3, I b' Γ3 ∧ σ3.length = Γ3.length ∧ Sat B M (Γ3 ++ T) (σ3 ++ τ) H3, fun σ3 H3 ⟨b', q, Γ3, p, l, S3⟩ => ⟨μ b', q, b', Γ3, rfl, p, l, S3⟩, ?_⟩
    exact (h1 rfl T σ' τ H2 hl2 S2).mono (fun σ3 H3 ⟨Γ3, ⟨b', q, p⟩, l, S3⟩ => ⟨b', q, Γ3, p, l, S3⟩) (fun _ _ q => q) (fun _ _ q => q) (fun σ3 H3 ⟨Γ3, ⟨b', q, p⟩, l, S3⟩ => ⟨b', q, Γ3, p, l, S3⟩)
  | false =>
    rw [if_neg Bool.false_ne_true]
    exact ⟨Γ', h2 rfl, hl2, S2⟩

/-! ### list comprehensions -/
def WTs (X : Cx) (ifs : List Expr) : TT := fun σ H Q => ∀ pins s, Inv X pins σ H s → wpAny (model X.prog X.w) X.A (forIn ifs true fun c r => if r = true then do let ok ← isTrue c X.env (eval c X.env); pure (ForInStep.yield ok) else pure (ForInStep.yield r)) (TP X pins σ Q) X.xe s
theorem pts_wts {ifs : List Expr} : PTs X ifs (WTs X ifs) := ⟨fun pins s _ _ _ I h => h pins s I⟩
def Ets (X : Cx) (B : Hp) (M : List Addr) (ifs : List Expr) (Γ Γ' : List As) (b : Bool) : Prop :=
  ∀ T σ τ H Q, σ.length = Γ.length → Sat B M (Γ ++ T) (σ ++ τ) H → (∀ H', Sat B M (Γ' ++ T) (σ ++ τ) H' → Q b H') → WTs X ifs σ H Q
theorem C_nil : Ets X B M [] Γ Γ true := fun T σ τ H Q hl S k => fun pins s I => pts_nil.run pins s σ H Q I (k H S)
theorem C_one {t : Bool} (h : Et X B M c Γ Γ1 t) : Ets X B M [c] Γ Γ1 t := fun T σ τ H Q hl S k => fun pins s I => (pts_one pt_wt).run pins s σ H Q I (h T σ τ H Q hl S k)
def anyAt (Γ : List As) : List Nat → List As
  | [] => Γ
  | v :: vs => (anyAt Γ vs).set v .any
theorem anyAt_length : ∀ vs : List Nat, (anyAt Γ vs).length = Γ.length
  | [] => rfl
  | v :: vs => by unfold anyAt; rw [List.length_set, anyAt_length vs]
theorem anyAt_get : ∀ {vs : List Nat} {i : Nat} {A : As}, (anyAt Γ vs)[i]? = some A → A = .any ∨ (i ∉ vs ∧ Γ[i]? = some A)
  | [], _, _, h => .inr ⟨by simp, h⟩
  | v :: vs, i, A, h => by
    unfold anyAt at h
    by_cases hi : i = v
    · subst hi
      rw [List.getElem?_set_self (by have := lt_of_get h; simpa using this)] at h
      exact .inl (Option.some.inj h).symm
    · rw [List.getElem?_set_ne (Ne.symm hi)] at h
      rcases anyAt_get h with h | ⟨h1, h2⟩
      · exact .inl h
      · exact .inr ⟨by simp [hi, h1], h2⟩
theorem wipe_none {σ : L2.St} {i : Nat} : ∀ {vs : List Nat}, i ∈ vs → i < σ.length → (wipe σ vs)[i]? = some none
  | [], h, _ => by simp at h
  | v :: vs, h, hi => by
    unfold wipe
    by_cases e : i = v
    · subst e
      rw [List.getElem?_set_self (by rw [wipe_length]; exact hi)]
    · rw [List.getElem?_set_ne (Ne.symm e)]
      exact wipe_none (by simpa [e] using h) hi
theorem wipe_same {σ σ2 : L2.St} {vs : List Nat} (hl : σ2.length = σ.length) (h : ∀ i, i ∉ vs → σ2[i]? = (wipe σ vs)[i]?) : wipe σ2 vs = wipe σ vs := by
  refine List.ext_getElem? fun i => ?_
  by_cases hi : i ∈ vs
  · by_cases hl' : i < σ.length
    · rw [wipe_none hi hl', wipe_none hi (by omega)]
    · rw [List.getElem?_eq_none (by rw [wipe_length]; omega), List.getElem?_eq_none (by rw [wipe_length]; omega)]
  · rw [wipe_out hi, h i hi]
/-- own slots wiped -/
theorem Sat.wipe {R : List As} {σ : L2.St} {ρ : List (Option V)} {H : Hp} {vs : List Nat} (hl : σ.length = Γ.length) (S : Sat B M (Γ ++ R) (σ ++ ρ) H) : Sat B M (anyAt Γ vs ++ R) (L2.wipe σ vs ++ ρ) H := by
  have hL := S.len
  refine S.sub id (by simp [anyAt_length, wipe_length] at hL ⊢; omega) (fun _ _ _ _ _ _ _ _ e => e) fun i A q => ?_
  by_cases hi : i < Γ.length
  · rw [List.getElem?_append_left (by rw [anyAt_length]; exact hi)] at q
    rcases anyAt_get q with rfl | ⟨h1, h2⟩
    · exact .inl ⟨rfl, [], trivial⟩
    · refine .inr ⟨A, by rw [id, List.getElem?_append_left hi]; exact h2, fun h => h, fun h => h, fun F h => h.to ?_⟩
      rw [List.getElem?_append_left (by rw [wipe_length]; omega), wipe_out h1, id, List.getElem?_append_left (by omega)]
  · rw [List.getElem?_append_right (by rw [anyAt_length]; omega), anyAt_length] at q
    refine .inr ⟨A, by rw [id, List.getElem?_append_right (by omega)]; exact q, fun h => h, fun h => h, fun F h => h.to ?_⟩
    rw [id, List.getElem?_append_right (by rw [wipe_length]; omega), wipe_length, List.getElem?_append_right (by omega)]
theorem AtOk.less {σ σ' : List (Option V)} {F : List Addr} {H : Hp} {i : Nat} {A : As} (e : ∀ v, σ[i]? = some (some v) → σ'[i]? = some (some v)) (h : AtOk σ F H i A) : AtOk σ' F H i A := by
  cases A with
  | any => trivial
  | imm d => obtain ⟨v, q, r⟩ := h; exact ⟨v, e v q, r⟩
  | new o => obtain ⟨v, q, r⟩ := h; exact ⟨v, e v q, r⟩
  | own v o => exact ⟨e v h.1, h.2⟩
  | frz v o => exact ⟨e v h.1, h.2⟩
  | val v => exact e v h
theorem Sat.unwipe {R : List As} {σ : L2.St} {ρ : List (Option V)} {H : Hp} {vs : List Nat} (hl : σ.length = Γ.length) (S : Sat B M (Γ ++ R) (L2.wipe σ vs ++ ρ) H) : Sat B M (Γ ++ R) (σ ++ ρ) H := by
  have hL := S.len
  refine S.sub id (by simp [wipe_length] at hL ⊢; omega) (fun _ _ _ _ _ _ _ _ e => e) fun i A q => .inr ⟨A, q, fun h => h, fun h => h, fun F h => h.less fun v e => ?_⟩
  by_cases hi : i < σ.length
  · rw [List.getElem?_append_left (by rw [wipe_length]; exact hi)] at e
    rw [List.getElem?_append_left hi]
    exact (wipe_some e).1
  · rw [List.getElem?_append_right (by rw [wipe_length]; omega), wipe_length] at e
    rw [List.getElem?_append_right (by omega)]
    exact e
def gB (X : Cx) (scope : Scope) (tg : Expr) : TG := fun v σ H Q => ∀ X', Bk X X' scope → WG X' tg v σ H Q
def tB (X : Cx) (scope : Scope) (ifs : List Expr) : TT := fun σ H Q => ∀ X', Bk X X' scope → WTs X' ifs σ H Q
def eB (X : Cx) (scope : Scope) (elt : Expr) : TE := fun σ H Q => ∀ X', Bk X X' scope → WE X' elt σ H Q
/-- what a comprehension does, told alone -/
theorem lc_tells {scope : Scope} {own : List (Str × Nat)} {ifs : List Expr} {out : List PyData} {I : Nat → List As → List PyData → Prop}
    (hi : Ii X B M tg iter Γ Γ1 Tn ds Ok) (h0 : I 0 (anyAt Γ1 (own.map (·.2))) []) (hok : ∀ k Γk acc, I k Γk acc → Ok Γk ∧ acc.length < sizeLine)
    (step : ∀ k d Γk acc, ds[k]? = some d → I k Γk acc → ∃ Γ' Γ'' Γ3 t y L, (∀ X', Bk X X' scope → Tg X' B M tg Γk d Γ' L ∧ Ets X' B M ifs Γ' Γ'' t ∧ (t = true → Ee X' B M elt Γ'' Γ3 (.imm y))) ∧ (∀ i ∈ L, i ∈ own.map (·.2)) ∧
      (t = true → I (k + 1) (anyAt Γ3 (own.map (·.2))) (acc ++ [y])) ∧ (t = false → I (k + 1) (anyAt Γ'' (own.map (·.2))) acc))
    (done : ∀ Γk acc, I ds.length Γk acc → Γk = Γ2 ∧ acc = out) {T : List As} {σ τ : List (Option V)} {H : Hp} {Q : VK} (hl : σ.length = Γ.length) (S : Sat B M (Γ ++ T) (σ ++ τ) H) (kk : ∀ v H', Sat B M ((Γ2 ++ T) ++ [.new (oL out)]) ((σ ++ τ) ++ [some v]) H' → Q v H') :
    tLc (WI X tg iter) (gB X scope tg) (tB X scope ifs) (eB X scope elt) (own.map (·.2)) σ H Q := by
  have hτ := (len_of hl S).symm
  refine hi T σ τ H _ hl S fun J u H1 hu hl1 S1 turn => ?_
  intro Dn hD
  generalize hvs : own.map (·.2) = vs at *
  have S1' : Sat B M ((anyAt Γ1 vs ++ (T ++ Tn)) ++ [.own (.ref Dn) (oL [])]) ((L2.wipe σ vs ++ (τ ++ u)) ++ [some (.ref Dn)]) (upd H1 Dn (.lst [])) := by
    have q := (S1.wipe (vs := vs) hl1).new (o := oL []) (v := .ref Dn) (F0 := [Dn]) (Ext.new (o := .lst []) hD) ⟨Dn, [], rfl, rfl, upd_same, .nil⟩ (fun a ha => by
      have : a = Dn := by simpa using ha
      rw [this]; exact hD)
    refine q.sub id (by simpa using q.len) (fun _ _ _ _ _ _ _ _ e => e) fun i A qi => .inr ?_
    rcases get_snocA qi with ⟨hi', q1⟩ | ⟨rfl, rfl⟩
    · exact ⟨A, by rw [id, List.getElem?_append_left hi']; exact q1, fun h => h, fun h => h, fun F h => h⟩
    · refine ⟨.new (oL []), by simp, fun _ => rfl, fun _ => rfl, fun F ⟨v, e, r⟩ => ?_⟩
      have e2 : (L2.wipe σ vs ++ (τ ++ u) ++ [some (V.ref Dn)])[(anyAt Γ1 vs ++ (T ++ Tn)).length]? = some (some (.ref Dn)) := by
        have := (S1.wipe (vs := vs) hl1).len
        rw [this]; simp
      rw [id, e2] at e
      cases e
      exact ⟨e2, r⟩
  refine ⟨fun i m H' => m = ds.length - i ∧ i ≤ ds.length ∧ ∃ Γk acc, I i Γk acc ∧ σ.length = Γk.length ∧ Sat B M ((Γk ++ (T ++ Tn)) ++ [.own (.ref Dn) (oL acc)]) ((L2.wipe σ vs ++ (τ ++ u)) ++ [some (.ref Dn)]) H',
    ⟨ds.length, by simp, Nat.zero_le _, _, [], h0, by rw [anyAt_length]; exact hl1, S1'⟩, ?_⟩
  rintro i m H' ⟨rfl, hle, Γk, acc, hI, hlk, Sk⟩
  obtain ⟨ok, hz⟩ := hok i Γk acc hI
  obtain ⟨t1, t2⟩ := turn i Γk (L2.wipe σ vs) [.own (.ref Dn) (oL acc)] [some (.ref Dn)] H' ok (by rw [wipe_length]; exact hlk) Sk
  by_cases hlt : i < ds.length
  · have e : ds[i]? = some ds[i] := List.getElem?_eq_getElem hlt
    obtain ⟨go, yl⟩ := t1 _ e
    obtain ⟨Γ', Γ'', Γ3, t, y, L, hX, hL, k1, k2⟩ := step i _ Γk acc e hI
    refine .inr ⟨go, fun H2 => i + 1 ≤ ds.length ∧ ∃ Γk acc, I (i + 1) Γk acc ∧ σ.length = Γk.length ∧ Sat B M ((Γk ++ (T ++ Tn)) ++ [.own (.ref Dn) (oL acc)]) ((L2.wipe σ vs ++ (τ ++ u)) ++ [some (.ref Dn)]) H2,
      fun H2 ⟨q1, q2⟩ => ⟨ds.length - (i + 1), by omega, rfl, q1, q2⟩, fun x H2 yy X' bX => ?_⟩
    obtain ⟨ex, r⟩ := yl x H2 yy
    obtain ⟨hg, ht, he⟩ := hX X' bX
    refine hg ((T ++ Tn) ++ [.own (.ref Dn) (oL acc)]) (L2.wipe σ vs) ((τ ++ u) ++ [some (.ref Dn)]) x H2 _ (by rw [wipe_length]; exact hlk) (by rw [← List.append_assoc Γk, ← List.append_assoc (L2.wipe σ vs)]; exact Sk.ext ex) r fun σ3 H3 hl3 hsame S3 => ?_
    have hl3' : σ3.length = σ.length := by rw [hsame.1, wipe_length]
    have hw : L2.wipe σ3 vs = L2.wipe σ vs := wipe_same hl3' fun j hj => hsame.2 j fun z => hj (hL j z)
    refine ⟨hw, fun X2 bX2 => ?_⟩
    obtain ⟨_, ht, _⟩ := hX X2 bX2
    refine ht _ σ3 _ H3 _ hl3 S3 fun H4 S4 => ?_
    have hl4 := len_next0 hl3 S3 S4
    cases t with
    | false =>
      rw [if_neg Bool.false_ne_true]
      refine ⟨hlt, _, acc, k2 rfl, by rw [anyAt_length]; omega, ?_⟩
      have q := S4.wipe (vs := vs) hl4
      rw [hw] at q
      rw [← List.append_assoc, ← List.append_assoc (L2.wipe σ vs)] at q
      exact q
    | true =>
      rw [if_pos rfl]
      intro X3 bX3
      obtain ⟨_, _, he⟩ := hX X3 bX3
      refine he rfl _ σ3 _ H4 _ hl4 S4 fun yv H5 S5 => ?_
      have hl5 := len_next hl4 S4 S5
      obtain ⟨r5, S6⟩ := one_imm S5
      have gi : (Γ3 ++ ((T ++ Tn) ++ [As.own (.ref Dn) (oL acc)]))[Γ3.length + (T ++ Tn).length]? = some (.own (.ref Dn) (oL acc)) := by
        rw [List.getElem?_append_right (by omega)]
        simp
      obtain ⟨_, l, vs', el, hl', rr, mu⟩ := S6.mutL gi
      cases el
      refine ⟨vs', hl', by rw [rr.length]; exact hz, hlt, _, acc ++ [y], k1 rfl, by rw [anyAt_length]; omega, ?_⟩
      have q := mu (vs' ++ [yv]) (acc ++ [y]) (rr.append (.cons r5 .nil))
      have es : (Γ3 ++ ((T ++ Tn) ++ [As.own (.ref Dn) (oL acc)])).set (Γ3.length + (T ++ Tn).length) (.own (.ref Dn) (oL (acc ++ [y]))) = Γ3 ++ ((T ++ Tn) ++ [As.own (.ref Dn) (oL (acc ++ [y]))]) := by
        rw [List.set_append_right _ _ (by omega), Nat.add_sub_cancel_left, List.set_append_right _ _ (by omega)]
        simp
      rw [es] at q
      have q := q.wipe (vs := vs) hl5
      rw [hw] at q
      rw [← List.append_assoc, ← List.append_assoc (L2.wipe σ vs)] at q
      exact q
  · have e : i = ds.length := by omega
    subst e
    obtain ⟨rfl, rfl⟩ := done _ _ hI
    refine .inl ⟨t2 rfl, kk _ _ ?_⟩
    rw [List.append_assoc, List.append_assoc (L2.wipe σ vs)] at Sk
    have q := Sk.unwipe hlk
    rw [← List.append_assoc, ← List.append_assoc σ] at q
    have q := drop_mid hlk hτ hu q
    refine q.sub id (by simpa using q.len) (fun _ _ _ _ _ _ _ _ e => e) fun i A qi => .inr ?_
    rcases get_snocA qi with ⟨hi', q1⟩ | ⟨rfl, rfl⟩
    · exact ⟨A, by rw [id, List.getElem?_append_left hi']; exact q1, fun h => h, fun h => h, fun F h => h⟩
    · exact ⟨.own (.ref Dn) (oL acc), by simp, fun _ => rfl, fun _ => rfl, fun F h => ⟨_, h⟩⟩
theorem E_lc (F : Fx X N ks gs sc) {scope : Scope} {own : List (Str × Nat)} {ifs : List Expr} {out : List PyData} {I : Nat → List As → List PyData → Prop} (hb : blkC N sc scope own = true)
    (hi : Ii X B M tg iter Γ Γ1 Tn ds Ok) (h0 : I 0 (anyAt Γ1 (own.map (·.2))) []) (hok : ∀ k Γk acc, I k Γk acc → Ok Γk ∧ acc.length < sizeLine)
    (step : ∀ k d Γk acc, ds[k]? = some d → I k Γk acc → ∃ Γ' Γ'' Γ3 t y L, (∀ X', Bk X X' scope → Tg X' B M tg Γk d Γ' L ∧ Ets X' B M ifs Γ' Γ'' t ∧ (t = true → Ee X' B M elt Γ'' Γ3 (.imm y))) ∧ (∀ i ∈ L, i ∈ own.map (·.2)) ∧
      (t = true → I (k + 1) (anyAt Γ3 (own.map (·.2))) (acc ++ [y])) ∧ (t = false → I (k + 1) (anyAt Γ'' (own.map (·.2))) acc))
    (done : ∀ Γk acc, I ds.length Γk acc → Γk = Γ2 ∧ acc = out) (hs : ∀ x, foldedSetIterable iter X.env x = pure x := by intro _; rfl) :
    Ee X B M (.ListComp elt [⟨tg, iter, ifs, 0⟩] scope pos) Γ Γ2 (.new (oL out)) := fun T σ τ H Q hl S kk =>
  WE.of (pe_lc (own := own) (g := gB X scope tg) (tt := tB X scope ifs) (te := eB X scope elt) F.calm (by rw [F.hN]; exact F.nd) pi_wi (F.blkOk hb)
    (fun s H C cl fp => ⟨fun pins s' σ H v u Q I r h => h _ ⟨s, _, C, cl, fp, rfl⟩ pins s' u I r⟩) (fun s H C cl fp => ⟨fun pins s' σ H Q I h => h _ ⟨s, _, C, cl, fp, rfl⟩ pins s' I⟩)
    (fun s H C cl fp => ⟨fun pins s' σ H Q I h => h _ ⟨s, _, C, cl, fp, rfl⟩ pins s' I⟩) hs) (lc_tells hi h0 hok step done hl S kk)
/-- x = [..] on one line, x a local name -/
theorem X_asgLc (F : Fx X N ks gs sc) (j : Nat) {y : Str} {py spos : Pos} {scope : Scope} {own : List (Str × Nat)} {ifs : List Expr} {out : List PyData} {I : Nat → List As → List PyData → Prop} (hb : blkC N sc scope own = true)
    (hi : Ii X B M tg iter Γ Γ1 Tn ds Ok) (h0 : I 0 (anyAt Γ1 (own.map (·.2))) []) (hok : ∀ k Γk acc, I k Γk acc → Ok Γk ∧ acc.length < sizeLine)
    (step : ∀ k d Γk acc, ds[k]? = some d → I k Γk acc → ∃ Γ' Γ'' Γ3 t y L, (∀ X', Bk X X' scope → Tg X' B M tg Γk d Γ' L ∧ Ets X' B M ifs Γ' Γ'' t ∧ (t = true → Ee X' B M elt Γ'' Γ3 (.imm y))) ∧ (∀ i ∈ L, i ∈ own.map (·.2)) ∧
      (t = true → I (k + 1) (anyAt Γ3 (own.map (·.2))) (acc ++ [y])) ∧ (t = false → I (k + 1) (anyAt Γ'' (own.map (·.2))) acc))
    (done : ∀ Γk acc, I ds.length Γk acc → Γk = Γ2 ∧ acc = out) (k : ∀ v, D.nx (Γ2.set j (.own v (oL out)))) (hj : N[j]? = some y := by rfl) (hm : (ks[j]? == some 1) = true := by rfl) (hlen : decide (j < Γ2.length) = true := by rfl)
    (hln : (py.line == pos.line) = true := by rfl) (ha : (scope.names.any fun (n, k) => n == y && (k == .local || k == .cell)) = false := by decide) (hs : ∀ x, foldedSetIterable iter X.env x = pure x := by intro _; rfl) :
    Sx X B M (.Assign [.Name y py] (.ListComp elt [⟨tg, iter, ifs, 0⟩] scope pos) spos) Γ D := fun T σ τ H hl S => by
  have hy : X.env.scope.names.lookup y = some .local := F.k1 j y hj (by simpa using hm)
  refine WS.of (ps_setLc (i := j) (own := own) (g := gB X scope tg) (tt := tB X scope ifs) (te := eB X scope elt) F.calm (by rw [F.hN]; exact F.nd) (by rw [F.hN]; exact hj) hy (sw_true F.fk hy hln ha) pi_wi (F.blkOk hb)
    (fun s H C cl fp => ⟨fun pins s' σ H v u Q I r h => h _ ⟨s, _, C, cl, fp, rfl⟩ pins s' u I r⟩) (fun s H C cl fp => ⟨fun pins s' σ H Q I h => h _ ⟨s, _, C, cl, fp, rfl⟩ pins s' I⟩)
    (fun s H C cl fp => ⟨fun pins s' σ H Q I h => h _ ⟨s, _, C, cl, fp, rfl⟩ pins s' I⟩) hs) (lc_tells hi h0 hok step done hl S fun v H' S' => ?_)
  have hl' := len_next hl S S'
  exact ⟨_, k v, by simp [hl'], setT hl' S' (of_decide_eq_true hlen)⟩
end
end PL

/-! PL5: contracts of defs, calls. -/
namespace PL
open PySem PySem.Spec PyProof.Rows L2

/-- a def that changes nothing that stood: what its arguments are, what it gives -/
def spP {ξ : Type _} (pre : ξ → List As) (ret : ξ → As) : Sp := fun vs H Q _ => ∃ x : ξ, Sat H [] (pre x) (vs.map some) H ∧ ∀ v H', Sat H [] [ret x] [some v] H' → Q v H'
/-- a def that changes one argument's object -/
def spIO {ξ : Type _} (pre : ξ → V → List As) (post : ξ → Ow) (ret : ξ → As) : Sp := fun vs H Q _ => ∃ (x : ξ) (v0 : V) (M : List Addr), Sat H M (pre x v0) (vs.map some) H ∧ ∀ v H', Sat H M [.own v0 (post x), ret x] [some v0, some v] H' → Q v H'
/-- a def that may be called by its name -/
def Cal (X : Cx) (x : Str) (sp : Sp) : Prop := ∃ (k : Nat) (f : Addr) (fd : FuncData) (ps : List Str), FnOk X.prog X.w X.K X.mg X.base CX0 k f fd ps sp ∧ Room k X.A ∧ X.mg x = some (.ref f) ∧ PySem.W.keepIn X.K (.ref f) = true ∧ Binds X.K fd ps []
theorem Cal.blk {X X' : Cx} {scope : Scope} {x : Str} {sp : Sp} (b : Bk X X' scope) (h : Cal X x sp) : Cal X' x sp := by
  obtain ⟨s, H, C, cl, fp, rfl⟩ := b
  exact h
theorem Bk.mg {X X' : Cx} {scope : Scope} (b : Bk X X' scope) : X'.mg = X.mg := by
  obtain ⟨s, H, C, cl, fp, rfl⟩ := b
  rfl

/-- an argument's value becomes what a def asks of it -/
def Cv (Γ : List As) (v : V) (A P : As) : Prop := (∃ d, A = .imm d ∧ P = .imm d) ∨ (∃ o, A = .new o ∧ P = .frz v o) ∨ ∃ (u : V) (i : Nat) (o : Ow), A = .val u ∧ P = .frz u o ∧ (Γ[i]? = some (.own u o) ∨ Γ[i]? = some (.frz u o))
inductive CvL (Γ : List As) : List V → List As → List As → Prop
  | nil : CvL Γ [] [] []
  | cons {v vs A Al P Ps} : Cv Γ v A P → CvL Γ vs Al Ps → CvL Γ (v :: vs) (A :: Al) (P :: Ps)
theorem Cv.imm {Γ : List As} {v : V} {d : PyData} : Cv Γ v (.imm d) (.imm d) := .inl ⟨d, rfl, rfl⟩
theorem Cv.new {Γ : List As} {v : V} {o : Ow} : Cv Γ v (.new o) (.frz v o) := .inr (.inl ⟨o, rfl, rfl⟩)
theorem Cv.val {Γ : List As} {v u : V} {o : Ow} (i : Nat) (h : Γ[i]? = some (.own u o) ∨ Γ[i]? = some (.frz u o) := by first | exact Or.inl rfl | exact Or.inr rfl) : Cv Γ v (.val u) (.frz u o) := .inr (.inr ⟨u, i, o, rfl, rfl, h⟩)

section
variable {X : Cx} {B : Hp} {M : List Addr} {N : List Str} {ks : List Nat} {gs : List Str} {sc : Scope} {Γ Γ1 Γ2 Γ3 : List As} {A A1 A2 A3 : As} {a b c e : Expr} {es : List Expr} {pos : Pos} {σ : List (Option V)} {H H' : Hp}

theorem Sat.args {Ps : List As} {vs : List (Option V)} (hl : Ps.length = vs.length) (h : ∀ i P, Ps[i]? = some P → P.mine = false ∧ ∃ F, AtOk vs F H i P) : Sat H [] Ps vs H := by
  have h' : ∀ i, ∃ F, ∀ P, Ps[i]? = some P → AtOk vs F H i P := fun i => by
    cases e : Ps[i]? with
    | none => exact ⟨[], fun P q => by cases q⟩
    | some P =>
      obtain ⟨_, F, q⟩ := h i P e
      exact ⟨F, fun P' q' => by cases q'; exact q⟩
  refine ⟨hl, fun a o e _ => e, fun i => Classical.choose (h' i), fun i A q => Classical.choose_spec (h' i) A q, fun i A q hA => ?_⟩
  rw [(h i A q).1] at hA; cases hA
theorem cv_args : ∀ {vs : List V} {Al Ps G : List As} {g : List (Option V)} {H : Hp}, CvL Γ vs Al Ps → (∃ T, G = Γ ++ T) → Sat B M (G ++ Al) (g ++ vs.map some) H → Ps.length = vs.length ∧ ∀ i P, Ps[i]? = some P → P.mine = false ∧ ∃ F, AtOk (vs.map some) F H i P
  | _, _, _, _, _, _, .nil, _, _ => ⟨rfl, fun i P q => by simp at q⟩
  | v :: vs, A :: Al, P :: Ps, G, g, H, .cons h t, hG, S => by
    have e1 : G ++ (A :: Al) = (G ++ [A]) ++ Al := by simp
    have e2 : g ++ (v :: vs).map some = (g ++ [some v]) ++ vs.map some := by simp
    rw [e1, e2] at S
    obtain ⟨hl, ih⟩ := cv_args t (by obtain ⟨T, rfl⟩ := hG; exact ⟨T ++ [A], by simp⟩) S
    have SA : Sat B M (G ++ [A]) (g ++ [some v]) H := by
      have := t
      exact pops (T := []) (τ := []) (u := []) (by
        have : ∀ {vs Al Ps}, CvL Γ vs Al Ps → (vs.map some).length = Al.length := fun {vs Al Ps} q => by
          induction q with
          | nil => rfl
          | cons _ _ ih => simpa using ih
        exact this t) S
    refine ⟨by simp [hl], fun i P' q => ?_⟩
    cases i with
    | zero =>
      have e : P = P' := by simpa using q
      subst e
      rcases h with ⟨d, rfl, rfl⟩ | ⟨o, rfl, rfl⟩ | ⟨u, j, o, rfl, rfl, hg⟩
      · obtain ⟨F, q⟩ := SA.last
        exact ⟨rfl, F, q.to rfl⟩
      · obtain ⟨F, w, e, r⟩ := SA.last
        have e : w = v := by simpa using e.symm
        subst e
        exact ⟨rfl, F, rfl, r⟩
      · obtain ⟨w, F, e, r⟩ := SA.see (o := o) (.inr ⟨u, j, rfl, by
          obtain ⟨T, rfl⟩ := hG
          rcases hg with hg | hg
          · left; rw [List.getElem?_append_left (lt_of_get hg)]; exact hg
          · right; rw [List.getElem?_append_left (lt_of_get hg)]; exact hg⟩)
        obtain ⟨F', e'⟩ := SA.last
        have e' : v = u := by
          have e2 : [some v][0]? = some (some u) := e'
          simpa using e2
        subst e'
        cases e
        exact ⟨rfl, F, rfl, r⟩
    | succ i =>
      obtain ⟨h1, F, h2⟩ := ih i P' (by simpa using q)
      exact ⟨h1, F, h2.to (by simp)⟩
/-- behind a call that changes nothing -/
theorem Sat.ret {R : As} {v : V} (S : Sat B M Γ σ H) (S2 : Sat H [] [R] [some v] H') (hR : (∃ d, R = .imm d) ∨ ∃ o, R = .new o) : Sat B M (Γ ++ [R]) (σ ++ [some v]) H' := by
  have ex : Ext H H' := fun a o e => S2.keep a o e (by simp)
  obtain ⟨_, _, F, h1, h2⟩ := S2
  rcases hR with ⟨d, rfl⟩ | ⟨o, rfl⟩
  · obtain ⟨w, e, r⟩ := h1 0 _ rfl
    have e : w = v := by simpa using e.symm
    subst e
    exact (S.ext ex).imm r
  · obtain ⟨w, e, r⟩ := h1 0 (.new o) rfl
    have e : w = v := by simpa using e.symm
    subst e
    refine S.new ex r fun a ha => ?_
    rcases (h2 0 (.new o) rfl rfl).1 a ha with q | q
    · exact q
    · simp at q
theorem E_call {ξ : Type _} {pre : ξ → List As} {ret : ξ → As} {x : Str} {p : Pos} {Al : List As} (F : Fx X N ks gs sc) (C : Cal X x (spP pre ret)) (xf : List V → ξ) (h : Ea X B M (e :: es) Γ Γ1 Al) (hc : ∀ vs : List V, vs.length = Al.length → CvL Γ1 vs Al (pre (xf vs))) (hr : ∀ vs : List V, vs.length = Al.length → ret (xf vs) = A)
    (hR : (∃ d, A = .imm d) ∨ ∃ o, A = .new o := by first | exact Or.inl ⟨_, rfl⟩ | exact Or.inr ⟨_, rfl⟩) (g : Nat := gs.idxOf x) (hg : gs[g]? = some x := by rfl) (hdb : (x == ("__debug__" : Str)) = false := by decide) (he : starEach (e :: es) X.env = (false, eval e X.env) :: starEach es X.env := by rfl) (hpl : (backTo pos (starEach es X.env)).any (·.1) = false := by rfl) :
    Ee X B M (.Call (.Name x p) (e :: es) [] pos) Γ Γ1 A := fun T σ τ H Q hl S k => by
  obtain ⟨lv, f, fd, ps, FO, hroom, hmg, hkp, hbd⟩ := C
  refine WE.of (pe_call FO hroom (F.gl g x hg) hmg hkp hbd .nil pass0 pa_wa hdb he hpl) (h T σ τ H _ hl S fun vs H1 hv S1 => ?_)
  obtain ⟨l1, l2⟩ := cv_args (hc vs hv) ⟨T, rfl⟩ S1
  rw [List.append_nil]
  refine ⟨xf vs, Sat.args (by simpa using l1) l2, fun v H' S2 => k v H' ?_⟩
  rw [hr vs hv] at S2
  exact (pops (T := []) (τ := []) (u := []) (by simp [hv]) S1).ret S2 hR
/-- a def called without arguments -/
theorem E_call0 {ξ : Type _} {pre : ξ → List As} {ret : ξ → As} {x : Str} {p : Pos} (F : Fx X N ks gs sc) (C : Cal X x (spP pre ret)) (x0 : ξ) (hc : pre x0 = []) (hr : ret x0 = A)
    (hR : (∃ d, A = .imm d) ∨ ∃ o, A = .new o := by first | exact Or.inl ⟨_, rfl⟩ | exact Or.inr ⟨_, rfl⟩) (g : Nat := gs.idxOf x) (hg : gs[g]? = some x := by rfl) (hdb : (x == ("__debug__" : Str)) = false := by decide) :
    Ee X B M (.Call (.Name x p) [] [] pos) Γ Γ A := fun T σ τ H Q hl S k => by
  obtain ⟨lv, f, fd, ps, FO, hroom, hmg, hkp, hbd⟩ := C
  refine WE.of (pe_call0 FO hroom (F.gl g x hg) hmg hkp hbd .nil pass0 hdb) ?_
  refine ⟨x0, by rw [hc]; exact Sat.args rfl (fun i P q => by simp at q), fun v H' S2 => k v H' ?_⟩
  rw [hr] at S2
  exact S.ret S2 hR

/-- an owned object handed to a def that changes it -/
theorem Sat.retIO {R : As} {v v0 : V} {i : Nat} {o o' : Ow} {M' : List Addr} {F : Nat → List Addr} (S : Sat B M Γ σ H) (hF : Fps B M Γ σ H F) (hi : Γ[i]? = some (.own v0 o)) (hM : F i = M') (S2 : Sat H M' [.own v0 o', R] [some v0, some v] H') (hR : (∃ d, R = .imm d) ∨ ∃ o, R = .new o) :
    Sat B M (Γ.set i (.own v0 o') ++ [R]) (σ ++ [some v]) H' := by
  subst hM
  obtain ⟨hl, hk, _⟩ := S
  obtain ⟨h1, h2⟩ := hF
  obtain ⟨_, k2, F2, g1, g2⟩ := S2
  have li := lt_of_get hi
  have own := h2 i _ hi rfl
  obtain ⟨hv, hp⟩ := h1 i _ hi
  have stp : Stp H H' := fun a xs e => k2 a _ e fun z => mut_noTup (o.mu hp a z) xs e
  have gs : ∀ {j A'}, (Γ.set i (.own v0 o'))[j]? = some A' → (j = i ∧ A' = .own v0 o') ∨ (j ≠ i ∧ Γ[j]? = some A') := fun {j A'} q => by
    by_cases hj : j = i
    · subst hj
      rw [List.getElem?_set_self li] at q
      exact .inl ⟨rfl, (Option.some.inj q).symm⟩
    · rw [List.getElem?_set_ne (Ne.symm hj)] at q
      exact .inr ⟨hj, q⟩
  have sub0 : ∀ a ∈ F2 0, H a = none ∨ a ∈ F i := (g2 0 _ rfl rfl).1
  have hRo : R.has = true → ∃ o, R = .new o := fun h => by
    rcases hR with ⟨d, rfl⟩ | q
    · cases h
    · exact q
  have sub1 : R.has = true → ∀ a ∈ F2 1, H a = none ∨ a ∈ F i := fun h => by
    obtain ⟨o, rfl⟩ := hRo h
    exact (g2 1 (.new o) rfl rfl).1
  have ap : R.has = true → ∀ a ∈ F2 0, a ∉ F2 1 := fun h => (g2 0 _ rfl rfl).2 1 R (by decide) rfl h
  have other : ∀ {j A'}, j ≠ i → Γ[j]? = some A' → A'.has = true → ∀ a ∈ F j, ∀ a' , (H a' = none ∨ a' ∈ F i) → a ≠ a' := fun {j A'} hj q hA a ha a' ha' e => by
    subst e
    rcases ha' with z | z
    · obtain ⟨u, hu⟩ := mut_some ((h1 j A' q).fpM hA a ha)
      rw [z] at hu; cases hu
    · exact own.2 j A' hj q hA a z ha
  have up : ∀ {a}, (H a = none ∨ a ∈ F i) → B a = none ∨ a ∈ M := fun {a} ha => by
    rcases ha with z | z
    · by_cases hM : a ∈ M
      · exact .inr hM
      · left
        cases qq : B a with
        | none => rfl
        | some u =>
          have := hk a u qq hM
          rw [z] at this; cases this
    · exact own.1 a z
  refine ⟨by simp [hl], fun a u q n => k2 a u (hk a u q n) fun z => ?_, fun j => if j = i then F2 0 else if j < Γ.length then F j else F2 1, fun j A' q => ?_, fun j A' q hA => ?_⟩ <;> (try dsimp only)
  · rcases own.1 a z with z | z
    · rw [q] at z; cases z
    · exact n z
  · rcases get_snocA q with ⟨hj, q⟩ | ⟨rfl, rfl⟩
    · rcases gs q with ⟨rfl, rfl⟩ | ⟨hj', q⟩
      · rw [if_pos rfl]
        exact ⟨by rw [List.getElem?_append_left (by omega)]; exact hv, (g1 0 _ rfl).2⟩
      · rw [if_neg hj', if_pos (lt_of_get q)]
        refine ((h1 j A' q).stay stp fun hA a ha => ?_).to (List.getElem?_append_left (by have := lt_of_get q; omega))
        obtain ⟨u, hu⟩ := mut_some ((h1 j A' q).fpM hA a ha)
        rw [hu, k2 a u hu fun z => other hj' q hA a ha a (.inr z) rfl]
    · rw [List.length_set, if_neg (by omega), if_neg (Nat.lt_irrefl _)]
      refine (g1 1 R rfl).to ?_
      rw [hl]; simp
  · rcases get_snocA q with ⟨hj, q1⟩ | ⟨rfl, rfl⟩
    · rcases gs q1 with ⟨rfl, rfl⟩ | ⟨hj', q3⟩
      · rw [if_pos rfl]
        refine ⟨fun a ha => up (sub0 a ha), fun k A2 hk' q2 hA2 a ha => ?_⟩
        rcases get_snocA q2 with ⟨hk2, q2⟩ | ⟨rfl, rfl⟩
        · rcases gs q2 with ⟨e, _⟩ | ⟨hk3, q2⟩
          · exact absurd e hk'
          · rw [if_neg hk3, if_pos (lt_of_get q2)]
            exact fun z => other hk3 q2 hA2 a z a (sub0 a ha) rfl
        · rw [List.length_set, if_neg (by omega), if_neg (Nat.lt_irrefl _)]
          exact ap hA2 a ha
      · rw [if_neg hj', if_pos (lt_of_get q3)]
        refine ⟨(h2 j A' q3 hA).1, fun k A2 hk' q2 hA2 a ha => ?_⟩
        rcases get_snocA q2 with ⟨hk2, q2⟩ | ⟨rfl, rfl⟩
        · rcases gs q2 with ⟨rfl, rfl⟩ | ⟨hk3, q2⟩
          · rw [if_pos rfl]
            exact fun z => other hj' q3 (As.has_of hA) a ha a (sub0 a z) rfl
          · rw [if_neg hk3, if_pos (lt_of_get q2)]
            exact (h2 j A' q3 hA).2 k A2 hk' q2 hA2 a ha
        · rw [List.length_set, if_neg (by omega), if_neg (Nat.lt_irrefl _)]
          exact fun z => other hj' q3 (As.has_of hA) a ha a (sub1 hA2 a z) rfl
    · rw [List.length_set, if_neg (by omega), if_neg (Nat.lt_irrefl _)]
      have hh := As.has_of hA
      refine ⟨fun a ha => up (sub1 hh a ha), fun k A2 hk' q2 hA2 a ha => ?_⟩
      rcases get_snocA q2 with ⟨hk2, q2⟩ | ⟨rfl, rfl⟩
      · rcases gs q2 with ⟨rfl, rfl⟩ | ⟨hk3, q2⟩
        · rw [if_pos rfl]
          exact fun z => ap hh a z ha
        · rw [if_neg hk3, if_pos (lt_of_get q2)]
          exact fun z => other hk3 q2 hA2 a z a (sub1 hh a ha) rfl
      · exact absurd (by simp) hk'

theorem Fps.pre {Al : List As} {u : List (Option V)} {F : Nat → List Addr} (hl : Γ.length = σ.length) (h : Fps B M (Γ ++ Al) (σ ++ u) H F) : Fps B M Γ σ H F := by
  obtain ⟨h1, h2⟩ := h
  have up : ∀ {i A'}, Γ[i]? = some A' → (Γ ++ Al)[i]? = some A' := fun {i A'} q => by
    rw [List.getElem?_append_left (lt_of_get q)]; exact q
  refine ⟨fun i A' q => ?_, fun i A' q hA => ⟨(h2 i A' (up q) hA).1, fun j A2 hj q' => (h2 i A' (up q) hA).2 j A2 hj (up q')⟩⟩
  have hi := lt_of_get q
  exact (h1 i A' (up q)).to (List.getElem?_append_left (by omega)).symm
/-- .. beside the object of slot j that is handed over -/
def Cw (Γ : List As) (j : Nat) (v : V) (A P : As) : Prop := (∃ d, A = .imm d ∧ P = .imm d) ∨ (∃ o, A = .new o ∧ P = .frz v o) ∨ ∃ (u : V) (i : Nat) (o : Ow), i ≠ j ∧ A = .val u ∧ P = .frz u o ∧ (Γ[i]? = some (.own u o) ∨ Γ[i]? = some (.frz u o))
inductive CwL (Γ : List As) (j : Nat) : List V → List As → List As → Prop
  | nil : CwL Γ j [] [] []
  | cons {v vs A Al P Ps} : Cw Γ j v A P → CwL Γ j vs Al Ps → CwL Γ j (v :: vs) (A :: Al) (P :: Ps)
inductive CwX (Γ : List As) (j : Nat) (v0 : V) (o : Ow) : List V → List As → List As → Prop
  | io {vs Al Ps v} : CwL Γ j vs Al Ps → CwX Γ j v0 o (v :: vs) (.val v0 :: Al) (.own v0 o :: Ps)
  | cons {v vs A Al P Ps} : Cw Γ j v A P → CwX Γ j v0 o vs Al Ps → CwX Γ j v0 o (v :: vs) (A :: Al) (P :: Ps)
theorem Cw.imm {Γ : List As} {j : Nat} {v : V} {d : PyData} : Cw Γ j v (.imm d) (.imm d) := .inl ⟨d, rfl, rfl⟩
theorem Cw.new {Γ : List As} {j : Nat} {v : V} {o : Ow} : Cw Γ j v (.new o) (.frz v o) := .inr (.inl ⟨o, rfl, rfl⟩)
theorem Cw.val {Γ : List As} {j : Nat} {v u : V} {o : Ow} (i : Nat) (hij : i ≠ j := by decide) (h : Γ[i]? = some (.own u o) ∨ Γ[i]? = some (.frz u o) := by first | exact Or.inl rfl | exact Or.inr rfl) : Cw Γ j v (.val u) (.frz u o) := .inr (.inr ⟨u, i, o, hij, rfl, rfl, h⟩)
/-- what an argument is, seen in the caller's state -/
theorem cw_one {j : Nat} {v : V} {P A : As} {G W : List As} {g ω : List (Option V)} {F : Nat → List Addr} {v0 : V} {o : Ow} (h : Cw Γ j v A P) (hG : ∃ T, G = Γ ++ T) (hl : G.length = g.length) (hj : Γ[j]? = some (.own v0 o)) (S : Fps B M ((G ++ [A]) ++ W) ((g ++ [some v]) ++ ω) H F) :
    P.mine = false ∧ ∃ F', AtOk [some v] F' H 0 P ∧ (P.has = true → ∀ a ∈ F j, a ∉ F') := by
  have lj := lt_of_get hj
  have gj : ((G ++ [A]) ++ W)[j]? = some (.own v0 o) := by
    obtain ⟨T, rfl⟩ := hG
    rw [List.getElem?_append_left (by simp; omega), List.getElem?_append_left (by simp; omega), List.getElem?_append_left lj]; exact hj
  have own := S.2 j _ gj rfl
  have ga : ((G ++ [A]) ++ W)[G.length]? = some A := by
    rw [List.getElem?_append_left (by simp)]; simp
  have va : ((g ++ [some v]) ++ ω)[G.length]? = some (some v) := by
    rw [List.getElem?_append_left (by simp [hl]), hl]; simp
  have ha := S.1 _ _ ga
  have nj : G.length ≠ j := by
    obtain ⟨T, rfl⟩ := hG
    simp; omega
  rcases h with ⟨d, rfl, rfl⟩ | ⟨o', rfl, rfl⟩ | ⟨u, i, o', hij, rfl, rfl, hg⟩
  · exact ⟨rfl, _, ha.to (by rw [va]; rfl), fun h => by cases h⟩
  · obtain ⟨w, e, r⟩ := ha
    rw [va] at e
    cases e
    exact ⟨rfl, _, ⟨rfl, r⟩, fun _ a h => own.2 G.length _ nj ga rfl a h⟩
  · have e : _ = _ := ha
    rw [va] at e
    cases e
    have gi : ((G ++ [As.val v]) ++ W)[i]? = some (.own v o') ∨ ((G ++ [As.val v]) ++ W)[i]? = some (.frz v o') := by
      obtain ⟨T, rfl⟩ := hG
      rcases hg with hg | hg
      · left; rw [List.getElem?_append_left (by have := lt_of_get hg; simp; omega), List.getElem?_append_left (by have := lt_of_get hg; simp; omega), List.getElem?_append_left (lt_of_get hg)]; exact hg
      · right; rw [List.getElem?_append_left (by have := lt_of_get hg; simp; omega), List.getElem?_append_left (by have := lt_of_get hg; simp; omega), List.getElem?_append_left (lt_of_get hg)]; exact hg
    rcases gi with gi | gi
    · exact ⟨rfl, F i, ⟨rfl, (S.1 i _ gi).2⟩, fun _ a h => own.2 i _ hij gi rfl a h⟩
    · exact ⟨rfl, F i, ⟨rfl, (S.1 i _ gi).2⟩, fun _ a h => own.2 i _ hij gi rfl a h⟩
theorem cw_list {j : Nat} {v0 : V} {o : Ow} {F : Nat → List Addr} : ∀ {vs : List V} {Al Ps G W : List As} {g ω : List (Option V)}, CwL Γ j vs Al Ps → (∃ T, G = Γ ++ T) → G.length = g.length → Γ[j]? = some (.own v0 o) → Fps B M ((G ++ Al) ++ W) ((g ++ vs.map some) ++ ω) H F →
    Ps.length = vs.length ∧ ∀ i P, Ps[i]? = some P → P.mine = false ∧ ∃ F', AtOk (vs.map some) F' H i P ∧ (P.has = true → ∀ a ∈ F j, a ∉ F')
  | _, _, _, _, _, _, _, .nil, _, _, _, _ => ⟨rfl, fun i P q => by simp at q⟩
  | v :: vs, A :: Al, P :: Ps, G, W, g, ω, .cons h t, hG, hl, hj, S => by
    have e1 : (G ++ (A :: Al)) ++ W = ((G ++ [A]) ++ Al) ++ W := by simp
    have e2 : (g ++ (v :: vs).map some) ++ ω = ((g ++ [some v]) ++ vs.map some) ++ ω := by simp
    rw [e1, e2] at S
    obtain ⟨l, ih⟩ := cw_list t (by obtain ⟨T, rfl⟩ := hG; exact ⟨T ++ [A], by simp⟩) (by simp [hl]) hj S
    refine ⟨by simp [l], fun i P' q => ?_⟩
    cases i with
    | zero =>
      have e : P = P' := by simpa using q
      subst e
      rw [List.append_assoc, List.append_assoc (g ++ [some v])] at S
      obtain ⟨q1, F', q2, q3⟩ := cw_one h hG hl hj S
      exact ⟨q1, F', q2.to rfl, q3⟩
    | succ i =>
      obtain ⟨h1, F', h2, h3⟩ := ih i P' (by simpa using q)
      exact ⟨h1, F', h2.to (by simp), h3⟩
theorem cw_argsX {j : Nat} {v0 : V} {o : Ow} {F : Nat → List Addr} : ∀ {vs : List V} {Al Ps G W : List As} {g ω : List (Option V)}, CwX Γ j v0 o vs Al Ps → (∃ T, G = Γ ++ T) → G.length = g.length → Γ[j]? = some (.own v0 o) → Fps B M ((G ++ Al) ++ W) ((g ++ vs.map some) ++ ω) H F →
    Ps.length = vs.length ∧ ∃ k : Nat, ∀ i P, Ps[i]? = some P → (P.mine = false ∧ ∃ F', AtOk (vs.map some) F' H i P ∧ (P.has = true → ∀ a ∈ F j, a ∉ F')) ∨ (i = k ∧ P = .own v0 o ∧ (vs.map some)[i]? = some (some v0))
  | v :: vs, _, _, G, W, g, ω, .io t, hG, hl, hj, S => by
    rename_i Al Ps
    have e1 : (G ++ (As.val v0 :: Al)) ++ W = ((G ++ [.val v0]) ++ Al) ++ W := by simp
    have e2 : (g ++ (v :: vs).map some) ++ ω = ((g ++ [some v]) ++ vs.map some) ++ ω := by simp
    rw [e1, e2] at S
    obtain ⟨l, ih⟩ := cw_list t (by obtain ⟨T, rfl⟩ := hG; exact ⟨T ++ [.val v0], by simp⟩) (by simp [hl]) hj S
    refine ⟨by simp [l], 0, fun i P' q => ?_⟩
    cases i with
    | zero =>
      have e : As.own v0 o = P' := by simpa using q
      subst e
      refine .inr ⟨rfl, rfl, ?_⟩
      have ga : (((G ++ [As.val v0]) ++ Al) ++ W)[G.length]? = some (.val v0) := by
        rw [List.getElem?_append_left (by simp), List.getElem?_append_left (by simp)]; simp
      have e : _ = _ := S.1 _ _ ga
      rw [List.getElem?_append_left (by simp [hl]), List.getElem?_append_left (by simp [hl]), hl] at e
      simpa using e
    | succ i =>
      obtain ⟨h1, F', h2, h3⟩ := ih i P' (by simpa using q)
      exact .inl ⟨h1, F', h2.to (by simp), h3⟩
  | v :: vs, A :: Al, P :: Ps, G, W, g, ω, .cons h t, hG, hl, hj, S => by
    have e1 : (G ++ (A :: Al)) ++ W = ((G ++ [A]) ++ Al) ++ W := by simp
    have e2 : (g ++ (v :: vs).map some) ++ ω = ((g ++ [some v]) ++ vs.map some) ++ ω := by simp
    rw [e1, e2] at S
    obtain ⟨l, k, ih⟩ := cw_argsX t (by obtain ⟨T, rfl⟩ := hG; exact ⟨T ++ [A], by simp⟩) (by simp [hl]) hj S
    refine ⟨by simp [l], k + 1, fun i P' q => ?_⟩
    cases i with
    | zero =>
      have e : P = P' := by simpa using q
      subst e
      rw [List.append_assoc, List.append_assoc (g ++ [some v])] at S
      obtain ⟨q1, F', q2, q3⟩ := cw_one h hG hl hj S
      exact .inl ⟨q1, F', q2.to rfl, q3⟩
    | succ i =>
      rcases ih i P' (by simpa using q) with ⟨h1, F', h2, h3⟩ | ⟨rfl, h2, h3⟩
      · exact .inl ⟨h1, F', h2.to (by simp), h3⟩
      · exact .inr ⟨rfl, h2, by simpa using h3⟩
theorem Sat.argsIO {Ps : List As} {vs : List (Option V)} {v0 : V} {o : Ow} {Fj : List Addr} {k : Nat} (hl : Ps.length = vs.length) (hp : o.p H v0 Fj)
    (h : ∀ i P, Ps[i]? = some P → (P.mine = false ∧ ∃ F', AtOk vs F' H i P ∧ (P.has = true → ∀ a ∈ Fj, a ∉ F')) ∨ (i = k ∧ P = .own v0 o ∧ vs[i]? = some (some v0))) : Sat H Fj Ps vs H := by
  have h' : ∀ i, ∃ F, ∀ P, Ps[i]? = some P → AtOk vs F H i P ∧ ((P.mine = true → i = k ∧ F = Fj) ∧ (P.has = true → P.mine = false → ∀ a ∈ Fj, a ∉ F)) := fun i => by
    cases e : Ps[i]? with
    | none => exact ⟨[], fun P q => by cases q⟩
    | some P =>
      rcases h i P e with ⟨m, F, q, d⟩ | ⟨hi, rfl, q⟩
      · exact ⟨F, fun P' q' => by cases q'; exact ⟨q, ⟨fun h => absurd h (by rw [m]; decide), fun hh _ => d hh⟩⟩⟩
      · exact ⟨Fj, fun P' q' => by cases q'; exact ⟨⟨q, hp⟩, ⟨fun _ => ⟨hi, rfl⟩, fun _ h => by cases h⟩⟩⟩
  refine ⟨hl, fun a o e _ => e, fun i => Classical.choose (h' i), fun i A q => (Classical.choose_spec (h' i) A q).1, fun i A q hA => ?_⟩
  obtain ⟨hi, hF⟩ := (Classical.choose_spec (h' i) A q).2.1 hA
  refine ⟨fun a ha => .inr (hF ▸ ha), fun j A' hj q' hA' a ha => ?_⟩
  have ha : a ∈ Fj := hF ▸ ha
  cases hm : A'.mine with
  | true => exact absurd ((Classical.choose_spec (h' j) A' q').2.1 hm).1 (by omega)
  | false => exact (Classical.choose_spec (h' j) A' q').2.2 hA' hm a ha
theorem E_callIO {ξ : Type _} {pre : ξ → V → List As} {post : ξ → Ow} {ret : ξ → As} {x : Str} {p : Pos} {Al : List As} {v0 : V} {o o' : Ow} (F : Fx X N ks gs sc) (C : Cal X x (spIO pre post ret)) (j : Nat) (xf : List V → ξ) (h : Ea X B M (e :: es) Γ Γ1 Al)
    (hc : ∀ vs : List V, vs.length = Al.length → CwX Γ1 j v0 o vs Al (pre (xf vs) v0)) (hr : ∀ vs : List V, vs.length = Al.length → ret (xf vs) = A ∧ post (xf vs) = o') (hj : Γ1[j]? = some (.own v0 o) := by rfl)
    (hR : (∃ d, A = .imm d) ∨ ∃ o, A = .new o := by first | exact Or.inl ⟨_, rfl⟩ | exact Or.inr ⟨_, rfl⟩) (g : Nat := gs.idxOf x) (hg : gs[g]? = some x := by rfl) (hdb : (x == ("__debug__" : Str)) = false := by decide) (he : starEach (e :: es) X.env = (false, eval e X.env) :: starEach es X.env := by rfl) (hpl : (backTo pos (starEach es X.env)).any (·.1) = false := by rfl) :
    Ee X B M (.Call (.Name x p) (e :: es) [] pos) Γ (Γ1.set j (.own v0 o')) A := fun T σ τ H Q hl S k => by
  obtain ⟨lv, f, fd, ps, FO, hroom, hmg, hkp, hbd⟩ := C
  refine WE.of (pe_call FO hroom (F.gl g x hg) hmg hkp hbd .nil pass0 pa_wa hdb he hpl) (h T σ τ H _ hl S fun vs H1 hv S1 => ?_)
  have lj := lt_of_get hj
  have S0 : Sat B M (Γ1 ++ T) (σ ++ τ) H1 := pops (T := []) (τ := []) (u := []) (by simp [hv]) S1
  obtain ⟨_, _, Fp, hF⟩ := S1
  have hFp := Fps.pre S0.len hF
  have gj : (Γ1 ++ T)[j]? = some (.own v0 o) := by rw [List.getElem?_append_left lj]; exact hj
  obtain ⟨l, kk, q⟩ := cw_argsX (W := []) (ω := []) (hc vs hv) ⟨T, rfl⟩ S0.len hj (by simpa using hF)
  rw [List.append_nil]
  refine ⟨xf vs, v0, Fp j, Sat.argsIO (by simpa using l) (hFp.1 j _ gj).2 q, fun v H' S2 => k v H' ?_⟩
  rw [(hr vs hv).1, (hr vs hv).2] at S2
  have e := S0.retIO hFp gj rfl S2 hR
  rwa [List.set_append_left _ _ lj] at e

/-! ### a def's body -/
/-- the state at the entry -/
def entry (N : List Str) (Ps : List As) : List As := Ps ++ List.replicate (N.length - Ps.length) .any
theorem Sat.toEntry {Ps : List As} {vs : List V} {N : List Str} (S : Sat B M Ps (vs.map some) H) : Sat B M (entry N Ps) (L2.start N vs) H := by
  unfold PL.entry L2.start
  have hl : Ps.length = vs.length := by have := S.len; simpa using this
  rw [hl]
  generalize N.length - vs.length = n
  induction n with
  | zero => simpa using S
  | succ n ih =>
    rw [List.replicate_succ', List.replicate_succ', ← List.append_assoc, ← List.append_assoc]
    exact ih.any
theorem fn_pure {P : Program} {w : World} {K : PySem.W.Frag} {mg : Str → Option Value} {base : Heap} {ξ : Type _} {pre : ξ → List As} {ret : ξ → As} {x qual : Str} {st : Stmt} {f : Addr} {fd : FuncData} {N ps : List Str} {k : Nat} {ks : List Nat} {gs : List Str}
    (F : Fun K x qual st f fd) (S : FnScope N ps (defScope st)) (hfr : frC N ks gs (defScope st) = true) (hpre : ∀ x, (pre x).length = ps.length)
    (body : ∀ (X : Cx) (B : Hp) (x : ξ), Fx X N ks gs (defScope st) → X.prog = P → X.w = w → X.K = K → X.mg = mg → X.base = base → Room k X.A → Ss X B [] (defBody st) (entry N (pre x)) { nx := fun _ => ret x = .imm .none, rt := fun _ A => A = ret x }) :
    FnOk P w K mg base CX0 (k + 1) f fd ps (spP pre ret) := by
  refine F.ok S (fun vs H Q E ⟨x, q, _⟩ => ?_) (fun cdv A outer s H vs Q E hr ⟨x, q, k2⟩ => ?_)
  · have := q.len
    rw [hpre] at this
    simpa using this.symm
  · refine ⟨_, pss_wss, ?_⟩
    have e := body (cxOf CX0 P w K mg base N qual (defScope st) f cdv A outer s H E).nox H x (Fx.ofDef S hfr hr) rfl rfl rfl rfl rfl hr [] (L2.start N vs) [] H (by
      have := (Sat.toEntry (N := N) q).len
      exact this.symm) (by simpa using Sat.toEntry (N := N) q)
    refine e.mono (fun σ' H' ⟨Γ', hx, _, S'⟩ => k2 _ _ ?_) (fun v H' ⟨Γ', σ', A', hA, _, S'⟩ => k2 _ _ ?_) (fun _ _ ⟨_, z, _⟩ => z.elim) (fun _ _ ⟨_, z, _⟩ => z.elim)
    · rw [hx]
      exact (show Sat H [] [] [] H' from ⟨rfl, S'.keep, fun _ => [], fun i A q => by simp at q, fun i A q => by simp at q⟩).imm .none
    · subst hA
      rw [List.append_nil, List.append_nil] at S'
      refine S'.sub (fun i => i + Γ'.length) rfl (fun i j _ _ _ _ _ _ e => by omega) fun i A q => .inr ⟨A, ?_, fun h => h, fun h => h, fun F h => h.to ?_⟩
      · rw [List.getElem?_append_right (by omega), Nat.add_sub_cancel]; exact q
      · have hll : Γ'.length = σ'.length := by have := S'.len; simpa using this
        rw [hll, List.getElem?_append_right (by omega), Nat.add_sub_cancel]
/-- .. that changes the object of its parameter kp -/
theorem fn_io {P : Program} {w : World} {K : PySem.W.Frag} {mg : Str → Option Value} {base : Heap} {ξ : Type _} {pre : ξ → V → List As} {post : ξ → Ow} {ret : ξ → As} {x qual : Str} {st : Stmt} {f : Addr} {fd : FuncData} {N ps : List Str} {k kp : Nat} {ks : List Nat} {gs : List Str}
    (F : Fun K x qual st f fd) (S : FnScope N ps (defScope st)) (hfr : frC N ks gs (defScope st) = true) (hpre : ∀ x v, (pre x v).length = ps.length)
    (body : ∀ (X : Cx) (B : Hp) (M : List Addr) (x : ξ) (v0 : V), Fx X N ks gs (defScope st) → X.prog = P → X.w = w → X.K = K → X.mg = mg → X.base = base → Room k X.A →
      Ss X B M (defBody st) (entry N (pre x v0)) { nx := fun Γ => ret x = .imm .none ∧ Γ[kp]? = some (.own v0 (post x)), rt := fun Γ A => A = ret x ∧ Γ[kp]? = some (.own v0 (post x)) }) :
    FnOk P w K mg base CX0 (k + 1) f fd ps (spIO pre post ret) := by
  refine F.ok S (fun vs H Q E ⟨x, v0, M, q, _⟩ => ?_) (fun cdv A outer s H vs Q E hr ⟨x, v0, M, q, k2⟩ => ?_)
  · have := q.len
    rw [hpre] at this
    simpa using this.symm
  · refine ⟨_, pss_wss, ?_⟩
    have e := body (cxOf CX0 P w K mg base N qual (defScope st) f cdv A outer s H E).nox H M x v0 (Fx.ofDef S hfr hr) rfl rfl rfl rfl rfl hr [] (L2.start N vs) [] H (by
      have := (Sat.toEntry (N := N) q).len
      exact this.symm) (by simpa using Sat.toEntry (N := N) q)
    have one : ∀ {Γ' : List As} {σ' : List (Option V)} {H'}, Sat H M Γ' σ' H' → Γ'[kp]? = some (.own v0 (post x)) → Sat H M [.own v0 (post x)] [some v0] H' := fun {Γ' σ' H'} S' q => by
      refine S'.sub (fun i => i + kp) rfl (fun i j _ _ _ _ _ _ e => by omega) fun i A q' => .inr ?_
      have hi : i = 0 := by have := lt_of_get q'; simp at this; omega
      subst hi
      cases q'
      refine ⟨_, by rw [Nat.zero_add]; exact q, fun h => h, fun h => h, fun F h => ⟨rfl, h.2⟩⟩
    refine e.mono (fun σ' H' ⟨Γ', ⟨hx, hk⟩, _, S'⟩ => k2 _ _ ?_) (fun v H' ⟨Γ', σ', A', ⟨hA, hk⟩, _, S'⟩ => k2 _ _ ?_) (fun _ _ ⟨_, z, _⟩ => z.elim) (fun _ _ ⟨_, z, _⟩ => z.elim)
    · rw [hx]
      rw [List.append_nil, List.append_nil] at S'
      exact (one S' hk).imm .none
    · subst hA
      rw [List.append_nil, List.append_nil] at S'
      have hll : Γ'.length = σ'.length := by have := S'.len; simpa using this
      have lk := lt_of_get hk
      refine S'.sub (fun i => if i = 0 then kp else Γ'.length) rfl (fun i j A1 A2 q1 q2 _ _ e => ?_) fun i A q => .inr ?_
      · have l1 := lt_of_get q1
        have l2 := lt_of_get q2
        simp at l1 l2
        split at e <;> split at e <;> omega
      · have li := lt_of_get q
        simp at li
        match i, li with
        | 0, _ =>
          cases q
          exact ⟨.own v0 (post x), by rw [if_pos rfl, List.getElem?_append_left lk]; exact hk, fun h => h, fun h => h, fun F h => ⟨rfl, h.2⟩⟩
        | 1, _ =>
          cases q
          refine ⟨ret x, by rw [if_neg (by omega)]; simp, fun h => h, fun h => h, fun F h => h.to ?_⟩
          rw [if_neg (by omega), hll]
          simp
end
end PL

/-! PL6: operations on tuples and lists, built-ins. -/
namespace PL
open PySem PySem.Spec PyProof.Rows L2

/-- names that the module does not bind -/
def Nb (X : Cx) (ns : List Str) : Prop := ∀ (i : Nat) (x : Str), ns[i]? = some x → X.mg x = none
theorem Nb.blk {X X' : Cx} {scope : Scope} {ns : List Str} (b : Bk X X' scope) (h : Nb X ns) : Nb X' ns := by
  intro i x e
  rw [b.mg]
  exact h i x e
theorem Reps.bools {H : Hp} : ∀ {vs : List V} {bs : List Bool}, Reps H vs (bs.map .bool) → vs = bs.map V.bl
  | _, [], h => by
    have h' : Reps H _ [] := h
    cases h'; rfl
  | _, n :: ns, h => by
    have h' : Reps H _ (.bool n :: ns.map .bool) := h
    cases h' with
    | cons r t =>
      cases r
      rw [Reps.bools t]; rfl
theorem Reps.erase {H : Hp} : ∀ {vs : List V} {ds : List PyData} (i : Nat), Reps H vs ds → Reps H (vs.eraseIdx i) (ds.eraseIdx i)
  | _, _, _, .nil => .nil
  | _, _, 0, .cons _ t => t
  | _, _, i + 1, .cons q t => .cons q (Reps.erase i t)
theorem Reps.dropLast {H : Hp} {vs : List V} {ds : List PyData} (h : Reps H vs ds) : Reps H vs.dropLast ds.dropLast := by
  rw [List.dropLast_eq_take, List.dropLast_eq_take, h.length]
  exact h.take _
def cutD (xs : List PyData) (lo hi : Option Int) : List PyData := (xs.drop (HT.sIx xs.length 0 lo)).take (HT.sIx xs.length xs.length hi - HT.sIx xs.length 0 lo)
theorem Reps.cut {H : Hp} {vs : List V} {ds : List PyData} (h : Reps H vs ds) (lo hi : Option Int) : Reps H (cutV vs lo hi) (cutD ds lo hi) := by
  unfold cutV cutD
  rw [h.length]
  exact (h.drop _).take _
theorem Reps.atI {H : Hp} {vs : List V} {ds : List PyData} {k : Int} {d : PyData} (h : Reps H vs ds) (e : L2.atI ds k = some d) : ∃ v, L2.atI vs k = some v ∧ Rep H v d := by
  unfold L2.atI at e ⊢
  rw [h.length]
  cases q : ixN ds.length k with
  | none => rw [q] at e; cases e
  | some j =>
    rw [q] at e
    exact h.get e

section
variable {X : Cx} {B : Hp} {M : List Addr} {N : List Str} {ks : List Nat} {gs ns : List Str} {sc : Scope} {Γ Γ1 Γ2 Γ3 : List As} {A A1 A2 A3 : As} {a b c e : Expr} {es : List Expr} {pos : Pos} {ds fs : List PyData} {d : PyData}

/-! ### how a call of a built-in goes -/
theorem callB {x : Str} {p : Pos} {id : String} {r : List V → Hp → VK → Prop} {Al : List As} (F : Fx X N ks gs sc) (nb : Nb X ns) (g n : Nat) (hr : CallR X (.builtin id) r) (hv : bootBuiltins x = some (.builtin id)) (h : Ea X B M (e :: es) Γ Γ1 Al)
    (k : ∀ G vs s H Q, (∃ T, G = Γ1 ++ T) → vs.length = Al.length → Sat B M (G ++ Al) (s ++ vs.map some) H → (∀ z H', Sat B M (G ++ [A]) (s ++ [some z]) H' → Q z H') → r vs H Q)
    (hg : gs[g]? = some x) (hm : ns[n]? = some x) (hn : x ≠ "__name__") (hdb : (x == ("__debug__" : Str)) = false)
    (he : starEach (e :: es) X.env = (false, eval e X.env) :: starEach es X.env) (hpl : (backTo pos (starEach es X.env)).any (·.1) = false) : Ee X B M (.Call (.Name x p) (e :: es) [] pos) Γ Γ1 A := fun T σ τ H Q hl S q => by
  refine WE.of (pe_callB hr (F.gl g x hg) (nb n x hm) hv pa_wa hn hdb he hpl) (h T σ τ H _ hl S fun vs H1 hv S1 => ?_)
  exact k (Γ1 ++ T) vs (σ ++ τ) H1 Q ⟨T, rfl⟩ hv S1 q
theorem callTy {x : Str} {p : Pos} {id : String} {r : List V → Hp → VK → Prop} {Al : List As} (F : Fx X N ks gs sc) (nb : Nb X ns) (g n : Nat) (hr : CallR X (.type id) r) (hv : bootBuiltins x = some (.type id)) (h : Ea X B M (e :: es) Γ Γ1 Al)
    (k : ∀ G vs s H Q, (∃ T, G = Γ1 ++ T) → vs.length = Al.length → Sat B M (G ++ Al) (s ++ vs.map some) H → (∀ z H', Sat B M (G ++ [A]) (s ++ [some z]) H' → Q z H') → r vs H Q)
    (hg : gs[g]? = some x) (hm : ns[n]? = some x) (hn : x ≠ "__name__") (hdb : (x == ("__debug__" : Str)) = false)
    (he : starEach (e :: es) X.env = (false, eval e X.env) :: starEach es X.env) (hpl : (backTo pos (starEach es X.env)).any (·.1) = false) : Ee X B M (.Call (.Name x p) (e :: es) [] pos) Γ Γ1 A := fun T σ τ H Q hl S q => by
  refine WE.of (pe_callTy hr (F.gl g x hg) (nb n x hm) hv pa_wa hn hdb he hpl) (h T σ τ H _ hl S fun vs H1 hv S1 => ?_)
  exact k (Γ1 ++ T) vs (σ ++ τ) H1 Q ⟨T, rfl⟩ hv S1 q
theorem A_one (h : Ee X B M e Γ Γ1 A) (hs : starEach [e] X.env = (false, eval e X.env) :: starEach [] X.env) : Ea X B M [e] Γ Γ1 [A] := A_cons h A_nil hs
/-- one argument -/
theorem one_arg {G : List As} {s : List (Option V)} {H : Hp} {vs : List V} (hv : vs.length = [A].length) (S : Sat B M (G ++ [A]) (s ++ vs.map some) H) : ∃ v, vs = [v] ∧ Sat B M (G ++ [A]) (s ++ [some v]) H := by
  match vs, hv with
  | [v], _ => exact ⟨v, rfl, S⟩
theorem two_args {G : List As} {s : List (Option V)} {H : Hp} {vs : List V} (hv : vs.length = [A, A1].length) (S : Sat B M (G ++ [A, A1]) (s ++ vs.map some) H) : ∃ v w, vs = [v, w] ∧ Sat B M ((G ++ [A]) ++ [A1]) ((s ++ [some v]) ++ [some w]) H := by
  match vs, hv with
  | [v, w], _ => exact ⟨v, w, rfl, by simpa using S⟩
/-- a list that a value sees -/
theorem seeL {G : List As} {s : List (Option V)} {H : Hp} {v : V} (hG : ∃ T, G = Γ ++ T) (hA : Lk Γ A (oL ds)) (S : Sat B M (G ++ [A]) (s ++ [some v]) H) : ∃ l vs, v = .ref l ∧ H l = some (.lst vs) ∧ Reps H vs ds ∧ Sat B M G s H := by
  obtain ⟨T, rfl⟩ := hG
  obtain ⟨w, F, e, l, vs, rfl, _, h1, h2⟩ := S.see hA.mono
  cases e
  exact ⟨l, vs, rfl, h1, h2, S.pop⟩
theorem Lk.new {o : Ow} : Lk Γ (.new o) o := .inl rfl
theorem Lk.at {o : Ow} {v : V} (i : Nat) (h : Γ[i]? = some (.own v o) ∨ Γ[i]? = some (.frz v o) := by first | exact Or.inl rfl | exact Or.inr rfl) : Lk Γ (.val v) o := .inr ⟨v, i, rfl, h⟩

/-! ### subscripts, slices -/
theorem E_ixT {k : Int} (h1 : Ee X B M a Γ Γ1 (.imm (.tuple ds))) (h2 : Ee X B M b Γ1 Γ2 (.imm (.int k))) (hd : L2.atI ds k = some d) (hs : PlainIx b := by exact fun _ _ => rfl) : Ee X B M (.Subscript a b pos) Γ Γ2 (.imm d) :=
  op2 (fun _ _ ha hb => pe_ix ix_tup ha hb hs) h1 h2 fun G x y s H Q _ S q => by
    obtain ⟨r1, r2, S'⟩ := two_imm S
    cases r2
    cases r1 with
    | tup hh rs =>
      obtain ⟨v, e, r⟩ := rs.atI hd
      exact ⟨_, _, k, v, rfl, rfl, SqT.of hh, e, q _ _ (S'.imm r)⟩
theorem E_ixL {k : Int} (h1 : Ee X B M a Γ Γ1 A) (h2 : Ee X B M b Γ1 Γ2 (.imm (.int k))) (hA : Lk Γ2 A (oL ds)) (hd : L2.atI ds k = some d) (hs : PlainIx b := by exact fun _ _ => rfl) : Ee X B M (.Subscript a b pos) Γ Γ2 (.imm d) :=
  op2 (fun _ _ ha hb => pe_ix ix_list ha hb hs) h1 h2 fun G x y s H Q hG S q => by
    obtain ⟨r2, S1⟩ := one_imm S
    cases r2
    obtain ⟨l, vs, rfl, hh, rs, S'⟩ := seeL hG hA S1
    obtain ⟨v, e, r⟩ := rs.atI hd
    exact ⟨l, _, k, v, rfl, rfl, SqL.of hh, e, q _ _ (S'.imm r)⟩
theorem newL {G : List As} {s : List (Option V)} {H : Hp} {vs : List V} (S : Sat B M G s H) (r : Reps H vs ds) {p : Addr} (hp : H p = none) : Sat B M (G ++ [.new (oL ds)]) (s ++ [some (.ref p)]) (upd H p (.lst vs)) := by
  have e := Ext.new (o := .lst vs) hp
  exact S.new (F0 := [p]) e ⟨p, vs, rfl, rfl, upd_same, r.st e.stp⟩ (fun a ha => by
    have : a = p := by simpa using ha
    rw [this]; exact hp)
theorem newT {G : List As} {s : List (Option V)} {H : Hp} {vs : List V} (S : Sat B M G s H) (r : Reps H vs ds) {p : Addr} (hp : H p = none) : Sat B M (G ++ [.imm (.tuple ds)]) (s ++ [some (.ref p)]) (upd H p (.tup vs)) := by
  have e := Ext.new (o := .tup vs) hp
  exact (S.ext e).imm (.tup upd_same (r.st e.stp))
/-- a part of a slice -/
inductive Po (X : Cx) (B : Hp) (M : List Addr) (Γ : List As) : Option Expr → Option Int → Prop
  | none : Po X B M Γ none none
  | some {e : Expr} {i : Int} : Ee X B M e Γ Γ (.imm (.int i)) → Po X B M Γ (some e) (some i)
def WO (X : Cx) (e : Option Expr) : TO := fun σ H Q => ∀ pins s, Inv X pins σ H s → wpAny (model X.prog X.w) X.A (evalPart e X.env) (fun u s' => ∃ o H', Inv X pins σ H' s' ∧ IsPart u o ∧ Q o H') X.xe s
theorem po_go {o : Option Expr} {v : Option Int} (h : Po X B M Γ o v) : ∃ t : TO, PO X o t ∧ ∀ T σ τ H Q, σ.length = Γ.length → Sat B M (Γ ++ T) (σ ++ τ) H → (∀ H', Sat B M (Γ ++ T) (σ ++ τ) H' → Q v H') → t σ H Q := by
  cases h with
  | none => exact ⟨tNoPart, po_none, fun T σ τ H Q hl S k => k H S⟩
  | @some e i h =>
    refine ⟨tPart (WE X e), po_some pe_we, fun T σ τ H Q hl S k => ?_⟩
    refine h T σ τ H _ hl S fun w H1 S1 => ?_
    obtain ⟨r, S2⟩ := one_imm S1
    cases r
    exact ⟨i, rfl, k H1 S2⟩
theorem E_slL {lo hi : Option Expr} {u v : Option Int} {p2 : Pos} (h1 : Ee X B M a Γ Γ1 A) (hlo : Po X B M Γ1 lo u) (hhi : Po X B M Γ1 hi v) (hA : Lk Γ1 A (oL ds)) : Ee X B M (.Subscript a (.Slice lo hi none p2) pos) Γ Γ1 (.new (oL (cutD ds u v))) := fun T σ τ H Q hl S q => by
  obtain ⟨t1, p1, g1⟩ := po_go hlo
  obtain ⟨t2, p2, g2⟩ := po_go hhi
  refine WE.of (pe_slice sl_list pe_we p1 p2) (h1 T σ τ H _ hl S fun x H1 S1 => ?_)
  have hl1 := len_next hl S S1
  refine g1 (T ++ [A]) σ (τ ++ [some x]) H1 _ hl1 (asc S1) fun H2 S2 => ?_
  refine g2 (T ++ [A]) σ (τ ++ [some x]) H2 _ hl1 S2 fun H3 S3 => ?_
  rw [← List.append_assoc, ← List.append_assoc] at S3
  obtain ⟨l, vs, rfl, hh, rs, S'⟩ := seeL ⟨T, rfl⟩ hA S3
  exact ⟨l, vs, rfl, SqL.of hh, fun p hp => q _ _ (newL S' (rs.cut u v) hp)⟩
theorem E_slT {lo hi : Option Expr} {u v : Option Int} {p2 : Pos} (h1 : Ee X B M a Γ Γ1 (.imm (.tuple ds))) (hlo : Po X B M Γ1 lo u) (hhi : Po X B M Γ1 hi v) : Ee X B M (.Subscript a (.Slice lo hi none p2) pos) Γ Γ1 (.imm (.tuple (cutD ds u v))) := fun T σ τ H Q hl S q => by
  obtain ⟨t1, p1, g1⟩ := po_go hlo
  obtain ⟨t2, p2, g2⟩ := po_go hhi
  refine WE.of (pe_slice sl_tupA pe_we p1 p2) (h1 T σ τ H _ hl S fun x H1 S1 => ?_)
  have hl1 := len_next hl S S1
  refine g1 (T ++ [_]) σ (τ ++ [some x]) H1 _ hl1 (asc S1) fun H2 S2 => ?_
  refine g2 (T ++ [_]) σ (τ ++ [some x]) H2 _ hl1 S2 fun H3 S3 => ?_
  rw [← List.append_assoc, ← List.append_assoc] at S3
  obtain ⟨r, S'⟩ := one_imm S3
  cases r with
  | @tup l vs _ hh rs =>
    refine ⟨l, vs, rfl, SqT.of hh, ?_, ?_⟩
    · intro hw
      refine q _ _ (S'.imm (.tup hh ?_))
      have e : cutD ds u v = ds := by
        unfold cutD
        rw [← rs.length, hw.1, hw.2, rs.length]
        simp
      rw [e]; exact rs
    · intro hw p hp
      exact q _ _ (newT S' (rs.cut u v) hp)

/-! ### joined -/
theorem E_catT (h1 : Ee X B M a Γ Γ1 (.imm (.tuple ds))) (h2 : Ee X B M b Γ1 Γ2 (.imm (.tuple fs))) (hz : ds.length + fs.length ≤ sizeLine) : Ee X B M (.BinOp a .Add b pos) Γ Γ2 (.imm (.tuple (ds ++ fs))) :=
  op2 (fun _ _ ha hb => pe_op op_catA ha hb) h1 h2 fun G x y s H Q hG S q => by
    obtain ⟨r1, r2, S'⟩ := two_imm S
    cases r1 with
    | @tup l1 vs1 _ hh1 rs1 =>
      cases r2 with
      | @tup l2 vs2 _ hh2 rs2 =>
        refine ⟨l1, l2, vs1, vs2, rfl, rfl, SqT.of hh1, SqT.of hh2, by rw [rs1.length, rs2.length]; exact hz, fun hx => ?_, fun _ hy => ?_, fun _ _ p hp => q _ _ (newT S' (rs1.append rs2) hp)⟩
        · subst hx
          cases rs1
          exact q _ _ (S'.imm (.tup hh2 rs2))
        · subst hy
          cases rs2
          rw [List.append_nil] at q
          exact q _ _ (S'.imm (.tup hh1 rs1))
theorem E_catL (h1 : Ee X B M a Γ Γ1 A1) (h2 : Ee X B M b Γ1 Γ2 A2) (hA1 : Lk Γ2 A1 (oL ds)) (hA2 : Lk Γ2 A2 (oL fs)) (hz : ds.length + fs.length ≤ sizeLine) : Ee X B M (.BinOp a .Add b pos) Γ Γ2 (.new (oL (ds ++ fs))) :=
  op2 (fun _ _ ha hb => pe_op op_cat ha hb) h1 h2 fun G x y s H Q hG S q => by
    obtain ⟨l2, vs2, rfl, hh2, rs2, S1⟩ := seeL (by obtain ⟨T, rfl⟩ := hG; exact ⟨T ++ [A1], by simp⟩) hA2 S
    obtain ⟨l1, vs1, rfl, hh1, rs1, S'⟩ := seeL hG hA1 S1
    exact ⟨l1, l2, vs1, vs2, rfl, rfl, hh1, hh2, by rw [rs1.length, rs2.length]; exact hz, fun p hp => q _ _ (newL S' (rs1.append rs2) hp)⟩

/-! ### built-ins -/
section
variable {p : Pos} {i j : Int}
theorem E_len (F : Fx X N ks gs sc) (nb : Nb X ns) (h : Ee X B M e Γ Γ1 A) (hA : (A = .imm (.tuple ds)) ∨ Lk Γ1 A (oL ds)) (g : Nat := gs.idxOf ("len" : Str)) (n : Nat := ns.idxOf ("len" : Str)) (hg : gs[g]? = some ("len" : Str) := by rfl) (hm : ns[n]? = some ("len" : Str) := by rfl)
    (hs : starEach [e] X.env = (false, eval e X.env) :: starEach [] X.env := by rfl) : Ee X B M (.Call (.Name "len" p) [e] [] pos) Γ Γ1 (.imm (.int (ds.length : Int))) :=
  callB F nb g n call_len_seq PySem.boot_len (A_one h hs) (fun G vs s H Q hG hv S q => by
    obtain ⟨v, rfl, S⟩ := one_arg hv S
    rcases hA with rfl | hA
    · obtain ⟨r, S'⟩ := one_imm S
      cases r with
      | @tup l vs _ hh rs => exact ⟨l, vs, rfl, .inr (SqT.of hh), by rw [rs.length]; exact q _ _ (S'.imm (.int _))⟩
    · obtain ⟨l, vs, rfl, hh, rs, S'⟩ := seeL hG hA S
      exact ⟨l, vs, rfl, .inl (SqL.of hh), by rw [rs.length]; exact q _ _ (S'.imm (.int _))⟩) hg hm (by decide) (by decide) hs rfl
theorem E_min2 (F : Fx X N ks gs sc) (nb : Nb X ns) (h : Ea X B M [a, b] Γ Γ1 [.imm (.int i), .imm (.int j)]) (g : Nat := gs.idxOf ("min" : Str)) (n : Nat := ns.idxOf ("min" : Str)) (hg : gs[g]? = some ("min" : Str) := by rfl) (hm : ns[n]? = some ("min" : Str) := by rfl)
    (hs : starEach [a, b] X.env = (false, eval a X.env) :: starEach [b] X.env := by rfl) (hpl : (backTo pos (starEach [b] X.env)).any (·.1) = false := by rfl) : Ee X B M (.Call (.Name "min" p) [a, b] [] pos) Γ Γ1 (.imm (.int (if j < i then j else i))) :=
  callB F nb g n (call_min2 F.calm) (by decide +kernel) h (fun G vs s H Q hG hv S q => by
    obtain ⟨v, w, rfl, S1⟩ := two_args hv S
    obtain ⟨r1, r2, S'⟩ := two_imm S1
    cases r1; cases r2
    exact ⟨i, j, rfl, q _ _ (S'.imm (.int _))⟩) hg hm (by decide) (by decide) hs hpl
theorem E_max2 (F : Fx X N ks gs sc) (nb : Nb X ns) (h : Ea X B M [a, b] Γ Γ1 [.imm (.int i), .imm (.int j)]) (g : Nat := gs.idxOf ("max" : Str)) (n : Nat := ns.idxOf ("max" : Str)) (hg : gs[g]? = some ("max" : Str) := by rfl) (hm : ns[n]? = some ("max" : Str) := by rfl)
    (hs : starEach [a, b] X.env = (false, eval a X.env) :: starEach [b] X.env := by rfl) (hpl : (backTo pos (starEach [b] X.env)).any (·.1) = false := by rfl) : Ee X B M (.Call (.Name "max" p) [a, b] [] pos) Γ Γ1 (.imm (.int (if j > i then j else i))) :=
  callB F nb g n (call_max2 F.calm) (by decide +kernel) h (fun G vs s H Q hG hv S q => by
    obtain ⟨v, w, rfl, S1⟩ := two_args hv S
    obtain ⟨r1, r2, S'⟩ := two_imm S1
    cases r1; cases r2
    exact ⟨i, j, rfl, q _ _ (S'.imm (.int _))⟩) hg hm (by decide) (by decide) hs hpl
theorem E_abs (F : Fx X N ks gs sc) (nb : Nb X ns) (h : Ee X B M e Γ Γ1 (.imm (.int i))) (g : Nat := gs.idxOf ("abs" : Str)) (n : Nat := ns.idxOf ("abs" : Str)) (hg : gs[g]? = some ("abs" : Str) := by rfl) (hm : ns[n]? = some ("abs" : Str) := by rfl)
    (hs : starEach [e] X.env = (false, eval e X.env) :: starEach [] X.env := by rfl) : Ee X B M (.Call (.Name "abs" p) [e] [] pos) Γ Γ1 (.imm (.int (if i < 0 then -i else i))) :=
  callB F nb g n call_abs (by decide +kernel) (A_one h hs) (fun G vs s H Q hG hv S q => by
    obtain ⟨v, rfl, S⟩ := one_arg hv S
    obtain ⟨r, S'⟩ := one_imm S
    cases r
    exact ⟨i, rfl, q _ _ (S'.imm (.int _))⟩) hg hm (by decide) (by decide) hs rfl
theorem E_int1 (F : Fx X N ks gs sc) (nb : Nb X ns) (h : Ee X B M e Γ Γ1 (.imm (.int i))) (g : Nat := gs.idxOf ("int" : Str)) (n : Nat := ns.idxOf ("int" : Str)) (hg : gs[g]? = some ("int" : Str) := by rfl) (hm : ns[n]? = some ("int" : Str) := by rfl)
    (hs : starEach [e] X.env = (false, eval e X.env) :: starEach [] X.env := by rfl) : Ee X B M (.Call (.Name "int" p) [e] [] pos) Γ Γ1 (.imm (.int i)) :=
  callTy F nb g n call_int1 (by decide +kernel) (A_one h hs) (fun G vs s H Q hG hv S q => by
    obtain ⟨v, rfl, S⟩ := one_arg hv S
    obtain ⟨r, S'⟩ := one_imm S
    cases r
    exact .inl ⟨i, rfl, q _ _ (S'.imm (.int _))⟩) hg hm (by decide) (by decide) hs rfl
theorem E_intB {x : Bool} (F : Fx X N ks gs sc) (nb : Nb X ns) (h : Ee X B M e Γ Γ1 (.imm (.bool x))) (g : Nat := gs.idxOf ("int" : Str)) (n : Nat := ns.idxOf ("int" : Str)) (hg : gs[g]? = some ("int" : Str) := by rfl) (hm : ns[n]? = some ("int" : Str) := by rfl)
    (hs : starEach [e] X.env = (false, eval e X.env) :: starEach [] X.env := by rfl) : Ee X B M (.Call (.Name "int" p) [e] [] pos) Γ Γ1 (.imm (.int (if x then 1 else 0))) :=
  callTy F nb g n call_int1 (by decide +kernel) (A_one h hs) (fun G vs s H Q hG hv S q => by
    obtain ⟨v, rfl, S⟩ := one_arg hv S
    obtain ⟨r, S'⟩ := one_imm S
    cases r
    exact .inr ⟨x, rfl, q _ _ (S'.imm (.int _))⟩) hg hm (by decide) (by decide) hs rfl
/-- tuple(..) of a list, of a tuple -/
theorem E_tupleL (F : Fx X N ks gs sc) (nb : Nb X ns) (h : Ee X B M e Γ Γ1 A) (hA : Lk Γ1 A (oL ds)) (g : Nat := gs.idxOf ("tuple" : Str)) (n : Nat := ns.idxOf ("tuple" : Str)) (hg : gs[g]? = some ("tuple" : Str) := by rfl) (hm : ns[n]? = some ("tuple" : Str) := by rfl)
    (hs : starEach [e] X.env = (false, eval e X.env) :: starEach [] X.env := by rfl) : Ee X B M (.Call (.Name "tuple" p) [e] [] pos) Γ Γ1 (.imm (.tuple ds)) :=
  callTy F nb g n call_tuple_of (by decide +kernel) (A_one h hs) (fun G vs s H Q hG hv S q => by
    obtain ⟨v, rfl, S⟩ := one_arg hv S
    obtain ⟨l, vs, rfl, hh, rs, S'⟩ := seeL hG hA S
    exact ⟨l, vs, rfl, .inl ⟨SqL.of hh, fun p hp => q _ _ (newT S' rs hp)⟩⟩) hg hm (by decide) (by decide) hs rfl
theorem E_tupleT (F : Fx X N ks gs sc) (nb : Nb X ns) (h : Ee X B M e Γ Γ1 (.imm (.tuple ds))) (g : Nat := gs.idxOf ("tuple" : Str)) (n : Nat := ns.idxOf ("tuple" : Str)) (hg : gs[g]? = some ("tuple" : Str) := by rfl) (hm : ns[n]? = some ("tuple" : Str) := by rfl)
    (hs : starEach [e] X.env = (false, eval e X.env) :: starEach [] X.env := by rfl) : Ee X B M (.Call (.Name "tuple" p) [e] [] pos) Γ Γ1 (.imm (.tuple ds)) :=
  callTy F nb g n call_tuple_of (by decide +kernel) (A_one h hs) (fun G vs s H Q hG hv S q => by
    obtain ⟨v, rfl, S⟩ := one_arg hv S
    obtain ⟨r, S'⟩ := one_imm S
    cases r with
    | @tup l vs _ hh rs => exact ⟨l, vs, rfl, .inr ⟨SqT.of hh, q _ _ (S'.imm (.tup hh rs))⟩⟩) hg hm (by decide) (by decide) hs rfl
/-- list(..) -/
theorem E_list (F : Fx X N ks gs sc) (nb : Nb X ns) (h : Ee X B M e Γ Γ1 A) (hA : (A = .imm (.tuple ds)) ∨ Lk Γ1 A (oL ds)) (g : Nat := gs.idxOf ("list" : Str)) (n : Nat := ns.idxOf ("list" : Str)) (hg : gs[g]? = some ("list" : Str) := by rfl) (hm : ns[n]? = some ("list" : Str) := by rfl)
    (hs : starEach [e] X.env = (false, eval e X.env) :: starEach [] X.env := by rfl) : Ee X B M (.Call (.Name "list" p) [e] [] pos) Γ Γ1 (.new (oL ds)) :=
  callTy F nb g n call_list_of (by decide +kernel) (A_one h hs) (fun G vs s H Q hG hv S q => by
    obtain ⟨v, rfl, S⟩ := one_arg hv S
    rcases hA with rfl | hA
    · obtain ⟨r, S'⟩ := one_imm S
      cases r with
      | @tup l vs _ hh rs => exact ⟨l, vs, rfl, .inr (SqT.of hh), fun p hp => q _ _ (newL S' rs hp)⟩
    · obtain ⟨l, vs, rfl, hh, rs, S'⟩ := seeL hG hA S
      exact ⟨l, vs, rfl, .inl (SqL.of hh), fun p hp => q _ _ (newL S' rs hp)⟩) hg hm (by decide) (by decide) hs rfl
theorem E_any {bs : List Bool} (F : Fx X N ks gs sc) (nb : Nb X ns) (h : Ee X B M e Γ Γ1 A) (hA : Lk Γ1 A (oL (bs.map .bool))) (g : Nat := gs.idxOf ("any" : Str)) (n : Nat := ns.idxOf ("any" : Str)) (hg : gs[g]? = some ("any" : Str) := by rfl) (hm : ns[n]? = some ("any" : Str) := by rfl)
    (hs : starEach [e] X.env = (false, eval e X.env) :: starEach [] X.env := by rfl) : Ee X B M (.Call (.Name "any" p) [e] [] pos) Γ Γ1 (.imm (.bool (bs.any id))) :=
  callB F nb g n (cr_any F.calm) (by decide +kernel) (A_one h hs) (fun G vs s H Q hG hv S q => by
    obtain ⟨v, rfl, S⟩ := one_arg hv S
    obtain ⟨l, vs, rfl, hh, rs, S'⟩ := seeL hG hA S
    rw [rs.bools] at hh
    exact ⟨l, bs, rfl, SqL.of hh, q _ _ (S'.imm (.bool _))⟩) hg hm (by decide) (by decide) hs rfl
theorem E_all {bs : List Bool} (F : Fx X N ks gs sc) (nb : Nb X ns) (h : Ee X B M e Γ Γ1 A) (hA : Lk Γ1 A (oL (bs.map .bool))) (g : Nat := gs.idxOf ("all" : Str)) (n : Nat := ns.idxOf ("all" : Str)) (hg : gs[g]? = some ("all" : Str) := by rfl) (hm : ns[n]? = some ("all" : Str) := by rfl)
    (hs : starEach [e] X.env = (false, eval e X.env) :: starEach [] X.env := by rfl) : Ee X B M (.Call (.Name "all" p) [e] [] pos) Γ Γ1 (.imm (.bool (bs.all id))) :=
  callB F nb g n (cr_all F.calm) (by decide +kernel) (A_one h hs) (fun G vs s H Q hG hv S q => by
    obtain ⟨v, rfl, S⟩ := one_arg hv S
    obtain ⟨l, vs, rfl, hh, rs, S'⟩ := seeL hG hA S
    rw [rs.bools] at hh
    exact ⟨l, bs, rfl, SqL.of hh, q _ _ (S'.imm (.bool _))⟩) hg hm (by decide) (by decide) hs rfl
theorem E_sum {is : List Int} (F : Fx X N ks gs sc) (nb : Nb X ns) (h : Ee X B M e Γ Γ1 A) (hA : Lk Γ1 A (oL (is.map .int))) (g : Nat := gs.idxOf ("sum" : Str)) (n : Nat := ns.idxOf ("sum" : Str)) (hg : gs[g]? = some ("sum" : Str) := by rfl) (hm : ns[n]? = some ("sum" : Str) := by rfl)
    (hs : starEach [e] X.env = (false, eval e X.env) :: starEach [] X.env := by rfl) : Ee X B M (.Call (.Name "sum" p) [e] [] pos) Γ Γ1 (.imm (.int is.sum)) :=
  callB F nb g n (cr_sum F.calm) (by decide +kernel) (A_one h hs) (fun G vs s H Q hG hv S q => by
    obtain ⟨v, rfl, S⟩ := one_arg hv S
    obtain ⟨l, vs, rfl, hh, rs, S'⟩ := seeL hG hA S
    rw [rs.ints] at hh
    exact ⟨l, is, rfl, SqL.of hh, q _ _ (S'.imm (.int _))⟩) hg hm (by decide) (by decide) hs rfl
/-- list(range(a, b)), tuple(range(a, b)) -/
theorem E_listRg1 (F : Fx X N ks gs sc) (nb : Nb X ns) {p2 pos2 : Pos} (h : Ee X B M e Γ Γ1 (.imm (.int i))) (hi : RgOk 0 i) (g : Nat := gs.idxOf ("list" : Str)) (n : Nat := ns.idxOf ("list" : Str)) (g2 : Nat := gs.idxOf ("range" : Str)) (n2 : Nat := ns.idxOf ("range" : Str)) (hg : gs[g]? = some ("list" : Str) := by rfl) (hm : ns[n]? = some ("list" : Str) := by rfl) (hg2 : gs[g2]? = some ("range" : Str) := by rfl) (hm2 : ns[n2]? = some ("range" : Str) := by rfl)
    (hs : starEach [e] X.env = (false, eval e X.env) :: starEach [] X.env := by rfl) (hs2 : starEach [Expr.Call (.Name "range" p2) [e] [] pos2] X.env = (false, eval (.Call (.Name "range" p2) [e] [] pos2) X.env) :: starEach [] X.env := by rfl) :
    Ee X B M (.Call (.Name "list" p) [.Call (.Name "range" p2) [e] [] pos2] [] pos) Γ Γ1 (.new (oL ((List.range i.toNat).map fun (k : Nat) => PyData.int (k : Int)))) := fun T σ τ H Q hl S q => by
  refine WE.of (pe_listRg F.calm (F.gl g _ hg) (nb n _ hm) (prg_1 (F.gl g2 _ hg2) (nb n2 _ hm2) pe_we hs) hs2) (h T σ τ H _ hl S fun v H1 S1 => ?_)
  obtain ⟨r, S2⟩ := one_imm S1
  cases r
  refine ⟨i, rfl, hi, fun p hp => q _ _ (newL S2 ?_ hp)⟩
  unfold rgV
  rw [Int.sub_zero]
  have e : ((List.range i.toNat).map fun (k : Nat) => PyData.int (k : Int)) = ((List.range i.toNat).map fun (k : Nat) => (0 : Int) + (k : Int)).map PyData.int := by
    rw [List.map_map]
    exact List.map_congr_left fun k _ => by simp
  rw [e, show ((List.range i.toNat).map fun k => V.int ((0 : Int) + ((k : Nat) : Int))) = ((List.range i.toNat).map fun (k : Nat) => (0 : Int) + (k : Int)).map V.int by rw [List.map_map]; rfl]
  exact Reps.of_ints _
end

/-! ### is -/
theorem E_isB {x y : Bool} (h1 : Ee X B M a Γ Γ1 (.imm (.bool x))) (h2 : Ee X B M b Γ1 Γ2 (.imm (.bool y))) : Ee X B M (.Compare a [.Is] [b] pos) Γ Γ2 (.imm (.bool (decide (x = y)))) := op2 (fun _ _ ha hb => pe_cmpR op_isBl ha hb (nomark _)) h1 h2 fun G x' y' s H Q _ S q => by
  obtain ⟨r1, r2, S'⟩ := two_imm S
  cases r1; cases r2
  exact ⟨x, y, rfl, rfl, q _ _ (S'.imm (.bool _))⟩
theorem T_isB {x y : Bool} (h1 : Ee X B M a Γ Γ1 (.imm (.bool x))) (h2 : Ee X B M b Γ1 Γ2 (.imm (.bool y))) : Et X B M (.Compare a [.Is] [b] pos) Γ Γ2 (decide (x = y)) := tst2 op_isBl (nomark _) h1 h2 fun G x' y' s H Q _ S q => by
  obtain ⟨r1, r2, S'⟩ := two_imm S
  cases r1; cases r2
  exact ⟨x, y, rfl, rfl, q _ _ (S'.imm (.bool _))⟩
theorem T_notB {x y : Bool} (h1 : Ee X B M a Γ Γ1 (.imm (.bool x))) (h2 : Ee X B M b Γ1 Γ2 (.imm (.bool y))) : Et X B M (.Compare a [.IsNot] [b] pos) Γ Γ2 (!decide (x = y)) := tst2 op_notBl (nomark _) h1 h2 fun G x' y' s H Q _ S q => by
  obtain ⟨r1, r2, S'⟩ := two_imm S
  cases r1; cases r2
  exact ⟨x, y, rfl, rfl, q _ _ (S'.imm (.bool _))⟩

/-! ### methods of lists -/
theorem set_app {T : List As} {i : Nat} (hi : i < Γ.length) : (Γ ++ T).set i A = Γ.set i A ++ T := List.set_append_left _ _ hi
/-- x.m(args): x a list in slot i -/
theorem meth {id : String} {r : V → List V → Hp → VK → Prop} {Al : List As} {m : Str} (slot : Slot "list" m id) (hty : typeOf (.builtin id) = pure (.type "method_descriptor")) (hr : MtR X id r) (F : Fx X N ks gs sc) (i : Nat) {x : Str} {v : V} {p apos : Pos} (h : Ea X B M (e :: es) Γ Γ1 Al)
    (hg0 : ∃ o, Γ[i]? = some (.own v (oL o))) (hi : N[i]? = some x) (hm : visK (ks[i]?) = true) (hd : (x == ("__debug__" : Str)) = false) (hcd : (x == ("__classdict__" : Str)) = false)
    (k : ∀ T vs s H Q, vs.length = Al.length → Sat B M ((Γ1 ++ T) ++ Al) (s ++ vs.map some) H → (∀ z H', Sat B M ((Γ2 ++ T) ++ [A]) (s ++ [some z]) H' → Q z H') → r v vs H Q)
    (hbase : attributeBase (.Name x p) m X.env (eval (.Name x p) X.env) = eval (.Name x p) X.env)
    (hfew : ((backTo pos (starEach (e :: es) X.env)).all (fun x => !x.1) && (backToKw pos (keywordEach [] X.env)).all (fun x => x.1.isSome) && decide ((e :: es).length + ([] : List Keyword).length + (if ([] : List Keyword).isEmpty then 0 else 1) < 30)) = true)
    (hline : (apos.endLine == pos.line) = true) (hs : starEach (e :: es) X.env = (false, eval e X.env) :: starEach es X.env) (hpl : (backTo pos (starEach es X.env)).any (·.1) = false) :
    Ee X B M (.Call (.Attribute (.Name x p) m apos) (e :: es) [] pos) Γ Γ2 A := fun T σ τ H Q hl S q => by
  refine WE.of (pe_bm PySem.F.plainAttrs_list slot hty hr pe_we pa_wa hbase hfew hline hs hpl) ?_
  obtain ⟨d0, hg0⟩ := hg0
  refine E_ref (v := v) F i (.inl ⟨_, hg0⟩) hi hm hd hcd T σ τ H _ hl S fun w H1 S1 => ?_
  have e1 : w = v := by
    obtain ⟨F', e⟩ := S1.last
    have e' : [some w][0]? = some (some v) := e
    simpa using e'
  subst e1
  obtain ⟨l, vs0, rfl, hh, _, _⟩ := seeL (A := .val w) (ds := d0) ⟨T, rfl⟩ (Lk.at i (.inl hg0)) S1
  refine ⟨.inl ⟨rfl, vs0, SqL.of hh⟩, ?_⟩
  refine h (T ++ [.val (.ref l)]) σ (τ ++ [some (.ref l)]) H1 _ (len_next hl S S1) (asc S1) fun vs H2 hv S2 => ?_
  refine k (T ++ [.val (.ref l)]) vs (σ ++ (τ ++ [some (.ref l)])) H2 Q hv S2 fun z H' S3 => q z H' ?_
  have hτ := (len_of hl S).symm
  have l2 : σ.length = Γ2.length := by
    have := S3.len
    simp at this; omega
  exact drop_mid (Tn := [.val (.ref l)]) (u := [some (.ref l)]) l2 hτ rfl S3
/-- .. whose list becomes another -/
theorem meth_mut {T Al : List As} {s : List (Option V)} {H : Hp} {i : Nat} {v : V} (S : Sat B M (Γ1 ++ T) s H) (hg : Γ1[i]? = some (.own v (oL ds))) : ∃ l vs, v = .ref l ∧ H l = some (.lst vs) ∧ Reps H vs ds ∧
    ∀ vs' ds', Reps H vs' ds' → Sat B M (Γ1.set i (.own v (oL ds')) ++ T) s (upd H l (.lst vs')) := by
  have lg := lt_of_get hg
  obtain ⟨_, l, vs, rfl, h1, h2, k⟩ := S.mutL (i := i) (v := v) (ds := ds) (by rw [List.getElem?_append_left lg]; exact hg)
  refine ⟨l, vs, rfl, h1, h2, fun vs' ds' r => ?_⟩
  have q := k vs' ds' r
  rwa [List.set_append_left _ _ lg] at q
theorem M_append (F : Fx X N ks gs sc) (i : Nat) {x : Str} {v : V} {p apos : Pos} (h : Ee X B M e Γ Γ1 (.imm d)) (hz : ds.length < sizeLine) (hg : Γ1[i]? = some (.own v (oL ds)) := by rfl) (hg0 : (∃ o, Γ[i]? = some (.own v (oL o))) := by exact ⟨_, rfl⟩) (hi : N[i]? = some x := by rfl) (hm : visK (ks[i]?) = true := by rfl)
    (hd : (x == ("__debug__" : Str)) = false := by decide) (hcd : (x == ("__classdict__" : Str)) = false := by decide) (hbase : attributeBase (.Name x p) "append" X.env (eval (.Name x p) X.env) = eval (.Name x p) X.env := by rfl)
    (hfew : ((backTo pos (starEach (e :: []) X.env)).all (fun x => !x.1) && (backToKw pos (keywordEach [] X.env)).all (fun x => x.1.isSome) && decide ((e :: []).length + ([] : List Keyword).length + (if ([] : List Keyword).isEmpty then 0 else 1) < 30)) = true := by rfl)
    (hline : (apos.endLine == pos.line) = true := by rfl) (hs : starEach (e :: []) X.env = (false, eval e X.env) :: starEach [] X.env := by rfl) :
    Ee X B M (.Call (.Attribute (.Name x p) "append" apos) [e] [] pos) Γ (Γ1.set i (.own v (oL (ds ++ [d])))) (.imm .none) :=
  meth PySem.F.slot_list_append PySem.F.type_list_append mt_append F i (A_one h hs) hg0 hi hm hd hcd (fun T vs s H Q hv S q => by
    obtain ⟨y, rfl, S1⟩ := one_arg hv S
    obtain ⟨r, S2⟩ := one_imm S1
    obtain ⟨l, vs, rfl, hh, rs, mu⟩ := meth_mut (Al := []) S2 hg
    exact ⟨l, vs, y, rfl, rfl, hh, by rw [rs.length]; exact hz, q _ _ ((mu _ _ (rs.append (.cons r .nil))).imm .none)⟩) hbase hfew hline hs rfl
/-- x.extend(a new list) -/
theorem M_extend (F : Fx X N ks gs sc) (i : Nat) {x : Str} {v : V} {p apos : Pos} (h : Ee X B M e Γ Γ1 A) (hA : Lk Γ1 A (oL fs)) (hz : ds.length + fs.length ≤ sizeLine) (hg : Γ1[i]? = some (.own v (oL ds)) := by rfl) (hg0 : (∃ o, Γ[i]? = some (.own v (oL o))) := by exact ⟨_, rfl⟩) (hi : N[i]? = some x := by rfl) (hm : visK (ks[i]?) = true := by rfl)
    (hd : (x == ("__debug__" : Str)) = false := by decide) (hcd : (x == ("__classdict__" : Str)) = false := by decide) (hbase : attributeBase (.Name x p) "extend" X.env (eval (.Name x p) X.env) = eval (.Name x p) X.env := by rfl)
    (hfew : ((backTo pos (starEach (e :: []) X.env)).all (fun x => !x.1) && (backToKw pos (keywordEach [] X.env)).all (fun x => x.1.isSome) && decide ((e :: []).length + ([] : List Keyword).length + (if ([] : List Keyword).isEmpty then 0 else 1) < 30)) = true := by rfl)
    (hline : (apos.endLine == pos.line) = true := by rfl) (hs : starEach (e :: []) X.env = (false, eval e X.env) :: starEach [] X.env := by rfl) :
    Ee X B M (.Call (.Attribute (.Name x p) "extend" apos) [e] [] pos) Γ (Γ1.set i (.own v (oL (ds ++ fs)))) (.imm .none) :=
  meth PySem.F.slot_list_extend PySem.F.type_list_extend mt_extend F i (A_one h hs) hg0 hi hm hd hcd (fun T vs s H Q hv S q => by
    obtain ⟨y, rfl, S1⟩ := one_arg hv S
    obtain ⟨b, zs, rfl, hb, rz, S2⟩ := seeL ⟨T, rfl⟩ hA S1
    obtain ⟨l, vs, rfl, hh, rs, mu⟩ := meth_mut (Al := []) S2 hg
    exact ⟨l, b, vs, zs, rfl, rfl, hh, hb, by rw [rs.length, rz.length]; exact hz, q _ _ ((mu _ _ (rs.append rz)).imm .none)⟩) hbase hfew hline hs rfl
/-- x.pop(k) -/
theorem M_popAt (F : Fx X N ks gs sc) (i : Nat) {x : Str} {v : V} {p apos : Pos} {j : Int} (h : Ee X B M e Γ Γ1 (.imm (.int j))) (h0 : 0 ≤ j) (hd0 : ds[j.toNat]? = some d) (hz : ds.length ≤ 2 ^ 62) (hg : Γ1[i]? = some (.own v (oL ds)) := by rfl) (hg0 : (∃ o, Γ[i]? = some (.own v (oL o))) := by exact ⟨_, rfl⟩) (hi : N[i]? = some x := by rfl) (hm : visK (ks[i]?) = true := by rfl)
    (hd : (x == ("__debug__" : Str)) = false := by decide) (hcd : (x == ("__classdict__" : Str)) = false := by decide) (hbase : attributeBase (.Name x p) "pop" X.env (eval (.Name x p) X.env) = eval (.Name x p) X.env := by rfl)
    (hfew : ((backTo pos (starEach (e :: []) X.env)).all (fun x => !x.1) && (backToKw pos (keywordEach [] X.env)).all (fun x => x.1.isSome) && decide ((e :: []).length + ([] : List Keyword).length + (if ([] : List Keyword).isEmpty then 0 else 1) < 30)) = true := by rfl)
    (hline : (apos.endLine == pos.line) = true := by rfl) (hs : starEach (e :: []) X.env = (false, eval e X.env) :: starEach [] X.env := by rfl) :
    Ee X B M (.Call (.Attribute (.Name x p) "pop" apos) [e] [] pos) Γ (Γ1.set i (.own v (oL (ds.eraseIdx j.toNat)))) (.imm d) :=
  meth PySem.F.slot_list_pop PySem.F.type_list_pop mt_popAt F i (A_one h hs) hg0 hi hm hd hcd (fun T vs s H Q hv S q => by
    obtain ⟨y, rfl, S1⟩ := one_arg hv S
    obtain ⟨r, S2⟩ := one_imm S1
    cases r
    obtain ⟨l, vs, rfl, hh, rs, mu⟩ := meth_mut (Al := []) S2 hg
    obtain ⟨u, hu, ru⟩ := rs.get hd0
    have hj := lt_of_get hd0
    have hj2 := lt_of_get hu
    refine ⟨l, vs, j, j.toNat, u, rfl, rfl, hh, by omega, by omega, ?_, hu, q _ _ ((mu _ _ (rs.erase j.toNat)).imm (ru.st (Stp.upd fun xs e => by rw [hh] at e; cases e)))⟩
    rw [PySem.seqIndex_of h0 (by omega)]) hbase hfew hline hs rfl
/-- x.insert(k, y) -/
theorem M_insert (F : Fx X N ks gs sc) (i : Nat) {x : Str} {v : V} {p apos : Pos} {j : Int} (h : Ea X B M [a, b] Γ Γ1 [.imm (.int j), .imm d]) (h0 : 0 ≤ j) (h1 : j < 2 ^ 63) (hz : ds.length < sizeLine) (hg : Γ1[i]? = some (.own v (oL ds)) := by rfl) (hg0 : (∃ o, Γ[i]? = some (.own v (oL o))) := by exact ⟨_, rfl⟩) (hi : N[i]? = some x := by rfl) (hm : visK (ks[i]?) = true := by rfl)
    (hd : (x == ("__debug__" : Str)) = false := by decide) (hcd : (x == ("__classdict__" : Str)) = false := by decide) (hbase : attributeBase (.Name x p) "insert" X.env (eval (.Name x p) X.env) = eval (.Name x p) X.env := by rfl)
    (hfew : ((backTo pos (starEach (a :: [b]) X.env)).all (fun x => !x.1) && (backToKw pos (keywordEach [] X.env)).all (fun x => x.1.isSome) && decide ((a :: [b]).length + ([] : List Keyword).length + (if ([] : List Keyword).isEmpty then 0 else 1) < 30)) = true := by rfl)
    (hline : (apos.endLine == pos.line) = true := by rfl) (hs : starEach (a :: [b]) X.env = (false, eval a X.env) :: starEach [b] X.env := by rfl) (hpl : (backTo pos (starEach [b] X.env)).any (·.1) = false := by rfl) :
    Ee X B M (.Call (.Attribute (.Name x p) "insert" apos) [a, b] [] pos) Γ (Γ1.set i (.own v (oL (ds.take j.toNat ++ [d] ++ ds.drop j.toNat)))) (.imm .none) :=
  meth PySem.F.slot_list_insert PySem.F.type_list_insert mt_insert F i h hg0 hi hm hd hcd (fun T vs s H Q hv S q => by
    obtain ⟨y1, y2, rfl, S1⟩ := two_args hv S
    obtain ⟨r1, r2, S2⟩ := two_imm S1
    cases r1
    obtain ⟨l, vs, rfl, hh, rs, mu⟩ := meth_mut (Al := []) S2 hg
    exact ⟨l, vs, j, y2, rfl, rfl, hh, by rw [rs.length]; exact hz, h0, h1, q _ _ ((mu _ _ (((rs.take _).append (.cons r2 .nil)).append (rs.drop _))).imm .none)⟩) hbase hfew hline hs hpl
/-- x.pop() -/
theorem M_pop (F : Fx X N ks gs sc) (i : Nat) {x : Str} {v : V} {p apos : Pos} (hg : Γ[i]? = some (.own v (oL (ds ++ [d]))) := by rfl) (hi : N[i]? = some x := by rfl) (hm : visK (ks[i]?) = true := by rfl)
    (hd : (x == ("__debug__" : Str)) = false := by decide) (hcd : (x == ("__classdict__" : Str)) = false := by decide) (hbase : attributeBase (.Name x p) "pop" X.env (eval (.Name x p) X.env) = eval (.Name x p) X.env := by rfl)
    (hline : (apos.endLine == pos.line) = true := by rfl) :
    Ee X B M (.Call (.Attribute (.Name x p) "pop" apos) [] [] pos) Γ (Γ.set i (.own v (oL ds))) (.imm d) := fun T σ τ H Q hl S q => by
  refine WE.of (pe_bm0 PySem.F.plainAttrs_list PySem.F.slot_list_pop PySem.F.type_list_pop mt_pop pe_we hbase hline) ?_
  refine E_ref (v := v) F i (.inl ⟨_, hg⟩) hi hm hd hcd T σ τ H _ hl S fun w H1 S1 => ?_
  have e1 : w = v := by
    obtain ⟨F', e⟩ := S1.last
    have e' : [some w][0]? = some (some v) := e
    simpa using e'
  subst e1
  obtain ⟨l, vs, rfl, hh, rs, mu⟩ := meth_mut (Al := []) S1.pop hg
  have lv := rs.length
  rw [List.length_append, List.length_singleton] at lv
  obtain ⟨u, hu, ru⟩ := rs.get (i := ds.length) (d := d) (by simp)
  refine ⟨.inl ⟨rfl, vs, SqL.of hh⟩, l, vs, u, rfl, rfl, hh, by rw [lv, Nat.add_sub_cancel]; exact hu, q _ _ ?_⟩
  have r2 := rs.dropLast
  rw [List.dropLast_concat] at r2
  exact (mu _ _ r2).imm (ru.st (Stp.upd fun xs e => by rw [hh] at e; cases e))

/-! ### x[i] = e, x[a:b] = e -/
theorem G_sub (F : Fx X N ks gs sc) (i : Nat) {x : Str} {v : V} {p : Pos} {k : Nat} (h : Ee X B M b Γ Γ (.imm (.int (k : Int)))) (hk : k < ds.length) (hg : Γ[i]? = some (.own v (oL ds)) := by rfl) (hi : N[i]? = some x := by rfl) (hm : visK (ks[i]?) = true := by rfl)
    (hd : (x == ("__debug__" : Str)) = false := by decide) (hcd : (x == ("__classdict__" : Str)) = false := by decide)
    (ha : ∀ v, assign (.Subscript (.Name x p) b pos) X.env v = (do
      let ov ← holding [v] (eval (.Name x p) X.env)
      let iv ← holding [v, ov] (eval b X.env)
      standAt pos
      holding [v, ov, iv] (setItem ov iv v)
      release [v, ov, iv] []) := by intro _; rfl) : Tg X B M (.Subscript (.Name x p) b pos) Γ d (Γ.set i (.own v (oL (ds.set k d)))) [] := fun T σ τ w H Q hl S r q => by
  refine WG.of (pg_sub pe_we pe_we set_list ha) ?_
  refine E_ref (v := v) F i (.inl ⟨_, hg⟩) hi hm hd hcd (T ++ [.imm d]) σ (τ ++ [some w]) H _ hl (asc (S.imm r)) fun o H1 S1 => ?_
  have e1 : o = v := by
    obtain ⟨F', e⟩ := S1.last
    have e' : [some o][0]? = some (some v) := e
    simpa using e'
  subst e1
  have S1' := S1.pop
  refine h (T ++ [.imm d]) σ (τ ++ [some w]) H1 _ hl S1' fun y H2 S2 => ?_
  obtain ⟨r2, S3⟩ := one_imm S2
  cases r2
  rw [← List.append_assoc, ← List.append_assoc] at S3
  obtain ⟨rw', S4⟩ := one_imm S3
  obtain ⟨l, vs, rfl, hh, rs, mu⟩ := meth_mut (Al := []) S4 hg
  refine ⟨l, vs, (k : Int), k, rfl, rfl, hh, ?_, q σ _ (by simp [hl]) ⟨rfl, fun _ _ => rfl⟩ (mu _ _ (rs.set rw' k))⟩
  unfold ixN
  rw [if_pos (by omega), if_pos (by rw [rs.length]; omega)]
  simp
end
end PL

/-! PL7: equality of data, sorted, dicts made and sorted. -/
namespace PL
open PySem PySem.Spec PyProof.Rows L2

/-! ### reading data off -/
theorem Rep.reads0 {P : Program} {w : World} {H : Hp} {h : Heap} (ok : HOk P w H h) {v : V} {d : PyData} (r : Rep H v d) : ∀ {u : Value}, RelV v u → Reads h u d [] :=
  Rep.rec (H := H) (motive_1 := fun v d _ => ∀ u : Value, RelV v u → Reads h u d []) (motive_2 := fun vs ds _ => ∀ us : List Value, Vals vs us → ReadsAll h us ds [])
    (fun u e => by cases e; exact .none) (fun b u e => by cases e; exact .bool _) (fun i u e => by obtain ⟨t, rfl⟩ := e; exact .int _ _) (fun x u e => by obtain ⟨t, rfl⟩ := e; exact .str _ _)
    (fun {a vs ds} hh _ ih u e => by
      cases e
      obtain ⟨_, its, r, o, e, c, n, q⟩ := ok a _ hh
      exact .tuple e c q (by simpa using ih its r))
    (fun us e => by cases e; exact .nil)
    (fun _ _ ih1 ih2 us e => by
      cases e with
      | cons r t => exact .cons (ih1 _ r) (ih2 _ t)) r _
/-- a value stands for a datum -/
def Vd (H : Hp) (u : Value) (d : PyData) : Prop := ∃ x : V, RelV x u ∧ Rep H x d
theorem Reps.each {P : Program} {w : World} {H : Hp} {h : Heap} (ok : HOk P w H h) : ∀ {vs : List V} {ds : List PyData} {us : List Value}, Reps H vs ds → Vals vs us → PySem.W.EachIs (fun u d => Vd H u d ∧ Reads h u d []) us ds
  | _, _, _, .nil, e => by cases e; exact .nil
  | _, _, _, .cons r t, e => by
    cases e with
    | cons e1 e2 => exact .cons ⟨⟨_, e1, r⟩, r.reads0 ok e1⟩ (Reps.each ok t e2)
theorem each_reps {H : Hp} : ∀ {us : List Value} {ds : List PyData}, PySem.W.EachIs (Vd H) us ds → ∃ xs : List V, Vals xs us ∧ Reps H xs ds
  | _, _, .nil => ⟨[], .nil, .nil⟩
  | _, _, .cons ⟨x, h1, h2⟩ t => by
    obtain ⟨xs, r1, r2⟩ := each_reps t
    exact ⟨x :: xs, .cons h1 r1, .cons h2 r2⟩

/-! ### data without bools and dicts are equal if they are one -/
mutual
def okD : PyData → Bool
  | .none => true
  | .int _ => true
  | .str x => PyData.strOk x
  | .list xs => okDs xs
  | .tuple xs => okDs xs
  | .bool _ => false
  | .dict _ => false
def okDs : List PyData → Bool
  | [] => true
  | x :: xs => okD x && okDs xs
end
mutual
theorem eqv_ok : ∀ d e : PyData, okD d = true → okD e = true → (PyData.eqv d e = true ↔ d = e)
  | .none, e, _, h => by cases e <;> simp_all [PyData.eqv, okD]
  | .int i, e, _, h => by cases e <;> simp_all [PyData.eqv, okD]
  | .str x, e, _, h => by cases e <;> simp_all [PyData.eqv, okD]
  | .bool _, _, h, _ => by simp [okD] at h
  | .dict _, _, h, _ => by simp [okD] at h
  | .list xs, e, h1, h => by
    cases e with
    | list ys =>
      rw [PyData.eqv, eqv_oks xs ys (by simpa [okD] using h1) (by simpa [okD] using h)]
      simp
    | _ => simp_all [PyData.eqv, okD]
  | .tuple xs, e, h1, h => by
    cases e with
    | tuple ys =>
      rw [PyData.eqv, eqv_oks xs ys (by simpa [okD] using h1) (by simpa [okD] using h)]
      simp
    | _ => simp_all [PyData.eqv, okD]
theorem eqv_oks : ∀ xs ys : List PyData, okDs xs = true → okDs ys = true → (PyData.eqvAll xs ys = true ↔ xs = ys)
  | [], [], _, _ => by simp [PyData.eqvAll]
  | [], _ :: _, _, _ => by simp [PyData.eqvAll]
  | _ :: _, [], _, _ => by simp [PyData.eqvAll]
  | x :: xs, y :: ys, h1, h2 => by
    have h1' : okD x = true ∧ okDs xs = true := by simpa [okDs] using h1
    have h2' : okD y = true ∧ okDs ys = true := by simpa [okDs] using h2
    rw [PyData.eqvAll, Bool.and_eq_true, eqv_ok x y h1'.1 h2'.1, eqv_oks xs ys h1'.2 h2'.2]
    simp
end
theorem okDs_all : ∀ {xs : List PyData}, okDs xs = true ↔ ∀ x ∈ xs, okD x = true
  | [] => by simp [okDs]
  | x :: xs => by simp [okDs, okDs_all (xs := xs)]
theorem canLayAll0_all : ∀ {xs : List PyData}, PyData.canLayAll0 xs = true ↔ ∀ x ∈ xs, PyData.canLay0 x = true
  | [] => by simp [PyData.canLayAll0]
  | x :: xs => by simp [PyData.canLayAll0, canLayAll0_all (xs := xs)]
theorem depthAll_le : ∀ {xs : List PyData} {n : Nat}, PyData.depthAll xs ≤ n ↔ ∀ x ∈ xs, x.depth ≤ n
  | [], n => by simp [PyData.depthAll]
  | x :: xs, n => by simp [PyData.depthAll, depthAll_le (xs := xs), Nat.max_le]
/-- it can be read and compared, so deep -/
structure Dp (n : Nat) (d : PyData) : Prop where
  ok : okD d = true
  lay : d.canLay0 = true
  dep : d.depth ≤ n
theorem Dp.int (i : Int) : Dp 0 (.int i) := ⟨by simp [okD], by simp [PyData.canLay0], by simp [PyData.depth]⟩
theorem Dp.none : Dp 0 .none := ⟨by simp [okD], by simp [PyData.canLay0], by simp [PyData.depth]⟩
theorem Dp.str {x : Str} (h : PyData.strOk x = true) : Dp 0 (.str x) := ⟨by simp [okD, h], by simp [PyData.canLay0, h], by simp [PyData.depth]⟩
theorem Dp.tup {n : Nat} {ds : List PyData} (h : ∀ d ∈ ds, Dp n d) : Dp (n + 1) (.tuple ds) :=
  ⟨by rw [okD, okDs_all]; exact fun d hd => (h d hd).ok, by rw [PyData.canLay0, canLayAll0_all]; exact fun d hd => (h d hd).lay, by rw [PyData.depth]; exact Nat.succ_le_succ (depthAll_le.mpr fun d hd => (h d hd).dep)⟩
theorem Dp.lst {n : Nat} {ds : List PyData} (h : ∀ d ∈ ds, Dp n d) : Dp (n + 1) (.list ds) :=
  ⟨by rw [okD, okDs_all]; exact fun d hd => (h d hd).ok, by rw [PyData.canLay0, canLayAll0_all]; exact fun d hd => (h d hd).lay, by rw [PyData.depth]; exact Nat.succ_le_succ (depthAll_le.mpr fun d hd => (h d hd).dep)⟩
theorem Dp.map {n : Nat} {α : Type} {xs : List α} {f : α → PyData} (h : ∀ x ∈ xs, Dp n (f x)) : ∀ d ∈ xs.map f, Dp n d := fun d hd => by
  obtain ⟨x, hx, rfl⟩ := List.mem_map.mp hd
  exact h x hx
theorem Dp.le {m n : Nat} {d : PyData} (h : Dp m d) (hl : m ≤ n) : Dp n d := ⟨h.ok, h.lay, Nat.le_trans h.dep hl⟩
theorem Dp.shaped {n : Nat} {d : PyData} (h : Dp n d) (hn : n ≤ 64) : PySem.SeqAt.shaped d = true := by
  unfold PySem.SeqAt.shaped
  rw [h.lay, decide_eq_true (Nat.le_trans h.dep hn)]; rfl
theorem eqv_dec {n m : Nat} {d e : PyData} {P : Prop} [Decidable P] (h1 : Dp n d) (h2 : Dp m e) (h : d = e ↔ P) : PyData.eqv d e = decide P := by
  have k := eqv_ok d e h1.ok h2.ok
  rw [h] at k
  cases q : PyData.eqv d e with
  | true => exact (decide_eq_true (k.mp q)).symm
  | false => exact (decide_eq_false (fun p => by rw [k.mpr p] at q; cases q)).symm
theorem map_inj {α β : Type} {f : α → β} (hf : ∀ x y, f x = f y → x = y) : ∀ {xs ys : List α}, xs.map f = ys.map f ↔ xs = ys
  | [], [] => by simp
  | [], _ :: _ => by simp
  | _ :: _, [] => by simp
  | x :: xs, y :: ys => by
    rw [List.map_cons, List.map_cons, List.cons.injEq, List.cons.injEq, map_inj hf]
    exact ⟨fun h => ⟨hf _ _ h.1, h.2⟩, fun h => ⟨h.1 ▸ rfl, h.2⟩⟩

/-! ### == and != -/
inductive Dv (H : Hp) : V → PyData → Prop
  | imm {v : V} {d : PyData} : Rep H v d → Dv H v d
  | lst {l : Addr} {vs : List V} {ds : List PyData} : H l = some (.lst vs) → Reps H vs ds → Dv H (.ref l) (.list ds)
theorem Dv.reads {P : Program} {w : World} {H : Hp} {h : Heap} (ok : HOk P w H h) {v : V} {d : PyData} (r : Dv H v d) {u : Value} (e : RelV v u) : ∃ as, Reads h u d as := by
  cases r with
  | imm r => exact ⟨[], r.reads0 ok e⟩
  | lst hh rs =>
    cases e
    obtain ⟨_, its, n, rv, q⟩ := ok _ _ hh
    obtain ⟨as, q2⟩ := PySem.W.each_readsAll id ((rs.each ok rv).mono fun _ _ q => ⟨[], q.2⟩)
    rw [List.map_id] at q2
    exact ⟨_, .list q rfl rfl (by simpa using q2)⟩
def rEqD (g : Bool → Bool) : R2 := fun x y H Q => ∃ dx dy, Dv H x dx ∧ Dv H y dy ∧ PySem.SeqAt.shaped dx = true ∧ PySem.SeqAt.shaped dy = true ∧ Q (.bl (g (PyData.eqv dx dy))) H
section
variable {X : Cx}
theorem op_eqD (hu : X.A.units + 64 < cLine) : OpR X (compareOp .Eq) (rEqD id) := by
  intro pins s σ H x y v u Q I rx ry h
  obtain ⟨dx, dy, r1, r2, s1, s2, q⟩ := h
  obtain ⟨as, e1⟩ := r1.reads I.hok rx
  obtain ⟨bs, e2⟩ := r2.reads I.hok ry
  exact eq_dataH e1 e2 s1 s2 hu ⟨.bl _, H, I, rfl, q⟩
theorem op_neD (hu : X.A.units + 64 < cLine) : OpR X (compareOp .NotEq) (rEqD not) := by
  intro pins s σ H x y v u Q I rx ry h
  obtain ⟨dx, dy, r1, r2, s1, s2, q⟩ := h
  obtain ⟨as, e1⟩ := r1.reads I.hok rx
  obtain ⟨bs, e2⟩ := r2.reads I.hok ry
  exact ne_dataH e1 e2 s1 s2 hu ⟨.bl _, H, I, rfl, q⟩
end
/-- what an expression's assertion says: a datum -/
def Dn (Γ : List As) (A : As) (d : PyData) : Prop := A = .imm d ∨ ∃ ds, d = .list ds ∧ Lk Γ A (oL ds)
theorem Dn.imm {Γ : List As} {d : PyData} : Dn Γ (.imm d) d := .inl rfl
theorem Dn.new {Γ : List As} {ds : List PyData} : Dn Γ (.new (oL ds)) (.list ds) := .inr ⟨ds, rfl, .new⟩
theorem Dn.at {Γ : List As} {v : V} {ds : List PyData} (i : Nat) (h : Γ[i]? = some (.own v (oL ds)) ∨ Γ[i]? = some (.frz v (oL ds)) := by first | exact Or.inl rfl | exact Or.inr rfl) : Dn Γ (.val v) (.list ds) := .inr ⟨ds, rfl, .at i h⟩
section
variable {X : Cx} {B : Hp} {M : List Addr} {N : List Str} {ks : List Nat} {gs ns : List Str} {sc : Scope} {Γ Γ1 Γ2 Γ3 : List As} {A A1 A2 A3 : As} {a b c e : Expr} {es : List Expr} {pos : Pos} {ds fs : List PyData} {d d1 d2 : PyData}
theorem Dn.see {G : List As} {s : List (Option V)} {H : Hp} {v : V} (hG : ∃ T, G = Γ ++ T) (hA : Dn Γ A d) (S : Sat B M (G ++ [A]) (s ++ [some v]) H) : Dv H v d ∧ Sat B M G s H := by
  rcases hA with rfl | ⟨ds, rfl, hA⟩
  · obtain ⟨r, S'⟩ := one_imm S
    exact ⟨.imm r, S'⟩
  · obtain ⟨l, vs, rfl, h1, h2, S'⟩ := seeL hG hA S
    exact ⟨.lst h1 h2, S'⟩
theorem E_eqD (F : Fx X N ks gs sc) {t : Bool} (h1 : Ee X B M a Γ Γ1 A1) (h2 : Ee X B M b Γ1 Γ2 A2) (k1 : Dn Γ2 A1 d1) (k2 : Dn Γ2 A2 d2) (s1 : PySem.SeqAt.shaped d1 = true) (s2 : PySem.SeqAt.shaped d2 = true) (ht : PyData.eqv d1 d2 = t) :
    Ee X B M (.Compare a [.Eq] [b] pos) Γ Γ2 (.imm (.bool t)) := op2 (fun _ _ ha hb => pe_cmpR (op_eqD F.rm.units) ha hb (nomark _)) h1 h2 fun G x' y' s H Q hG S q => by
  obtain ⟨r2, S1⟩ := k2.see (by obtain ⟨T, rfl⟩ := hG; exact ⟨T ++ [A1], by simp⟩) S
  obtain ⟨r1, S2⟩ := k1.see hG S1
  exact ⟨d1, d2, r1, r2, s1, s2, q _ _ (S2.imm (by rw [ht]; exact .bool _))⟩
theorem E_neD (F : Fx X N ks gs sc) {t : Bool} (h1 : Ee X B M a Γ Γ1 A1) (h2 : Ee X B M b Γ1 Γ2 A2) (k1 : Dn Γ2 A1 d1) (k2 : Dn Γ2 A2 d2) (s1 : PySem.SeqAt.shaped d1 = true) (s2 : PySem.SeqAt.shaped d2 = true) (ht : PyData.eqv d1 d2 = t) :
    Ee X B M (.Compare a [.NotEq] [b] pos) Γ Γ2 (.imm (.bool (!t))) := op2 (fun _ _ ha hb => pe_cmpR (op_neD F.rm.units) ha hb (nomark _)) h1 h2 fun G x' y' s H Q hG S q => by
  obtain ⟨r2, S1⟩ := k2.see (by obtain ⟨T, rfl⟩ := hG; exact ⟨T ++ [A1], by simp⟩) S
  obtain ⟨r1, S2⟩ := k1.see hG S1
  exact ⟨d1, d2, r1, r2, s1, s2, q _ _ (S2.imm (by rw [ht]; exact .bool _))⟩
theorem T_eqD (F : Fx X N ks gs sc) {t : Bool} (h1 : Ee X B M a Γ Γ1 A1) (h2 : Ee X B M b Γ1 Γ2 A2) (k1 : Dn Γ2 A1 d1) (k2 : Dn Γ2 A2 d2) (s1 : PySem.SeqAt.shaped d1 = true) (s2 : PySem.SeqAt.shaped d2 = true) (ht : PyData.eqv d1 d2 = t) :
    Et X B M (.Compare a [.Eq] [b] pos) Γ Γ2 t := tst2 (op_eqD F.rm.units) (nomark _) h1 h2 fun G x' y' s H Q hG S q => by
  obtain ⟨r2, S1⟩ := k2.see (by obtain ⟨T, rfl⟩ := hG; exact ⟨T ++ [A1], by simp⟩) S
  obtain ⟨r1, S2⟩ := k1.see hG S1
  exact ⟨d1, d2, r1, r2, s1, s2, q _ _ (S2.imm (by rw [ht]; exact .bool _))⟩
theorem T_neD (F : Fx X N ks gs sc) {t : Bool} (h1 : Ee X B M a Γ Γ1 A1) (h2 : Ee X B M b Γ1 Γ2 A2) (k1 : Dn Γ2 A1 d1) (k2 : Dn Γ2 A2 d2) (s1 : PySem.SeqAt.shaped d1 = true) (s2 : PySem.SeqAt.shaped d2 = true) (ht : PyData.eqv d1 d2 = t) :
    Et X B M (.Compare a [.NotEq] [b] pos) Γ Γ2 (!t) := tst2 (op_neD F.rm.units) (nomark _) h1 h2 fun G x' y' s H Q hG S q => by
  obtain ⟨r2, S1⟩ := k2.see (by obtain ⟨T, rfl⟩ := hG; exact ⟨T ++ [A1], by simp⟩) S
  obtain ⟨r1, S2⟩ := k1.see hG S1
  exact ⟨d1, d2, r1, r2, s1, s2, q _ _ (S2.imm (by rw [ht]; exact .bool _))⟩
end

/-! ### sorted -/
structure SrtOk (ds : List PyData) : Prop where
  al : PySem.W.AllAlike ds
  so : PySem.W.Sortable ds
  dp : ∀ d ∈ ds, d.depth ≤ 60
def srt (ds : List PyData) : List PyData := ds.mergeSort (PySem.W.dataLe false id)
theorem srt_length (ds : List PyData) : (srt ds).length = ds.length := List.length_mergeSort _
section
variable {X : Cx}
theorem cr_sortedL (hu : X.A.units + 64 < cLine) : CallR X (.builtin "sorted") (fun xs H Q => ∃ a vs ds, xs = [.ref a] ∧ H a = some (.lst vs) ∧ Reps H vs ds ∧ SrtOk ds ∧ ∀ ys p, H p = none → Reps H ys (srt ds) → Q (.ref p) (upd H p (.lst ys))) := by
  intro pins s σ H xs us Q I r h
  obtain ⟨a, vs, ds, rfl, hh, rs, sk, q⟩ := h
  obtain ⟨u, rfl, rx⟩ := r.one
  cases rx
  obtain ⟨z, its, n, rv, e⟩ := (show ObjOk X.prog X.w H s.heap a (.lst vs) from I.hok a _ hh)
  have el : s.heap.IsList a its.toArray := PySem.IsL.isList e
  have ei := rs.each I.hok rv
  refine PySem.W.sorted_data (bs := ds) (enc := id) (R := Vd H) el (ei.mono fun _ _ q => q.1) (ei.mono fun _ _ q => ⟨[], q.2⟩) (by rw [List.map_id]; exact sk.al) (by rw [List.map_id]; exact sk.so) (by rw [← rs.length]; exact z) (fun d hd => ?_) fun out hl eo => ?_
  · have := sk.dp d hd
    show X.A.units + 2 + d.depth < cLine
    omega
  · obtain ⟨ys, r1, r2⟩ := each_reps eo
    obtain ⟨c, hc⟩ := sortedAll_at s.heap its out.toArray
    refine ⟨.ref (s.heap.objs.size + 1), upd H (s.heap.objs.size + 1) (.lst ys), I.laid (t' := s.toks) (fun _ _ => sortedAll_old) (Nat.le_succ _) (show ObjOk X.prog X.w _ _ _ (.lst ys) from ⟨?_, out, c, r1, hc⟩), rfl, q ys _ (I.hok.fresh (Nat.le_succ _)) r2⟩
    rw [r2.length]
    show (srt ds).length ≤ _
    rw [srt_length, ← rs.length]; exact z
end
section
variable {prog : Program} {w : World} {A : Around} {E : Value → Shared → Prop} {s : Shared}
/-- sorted(d, ..) of a dict's keys is list.sort(..) on a new list of them -/
theorem sorted_col {d : Addr} {n : Nat} {P : Nat → Value → Prop} {OK : Heap → Prop} {kw : List (Str × Value)} {Q : Value → Shared → Prop} (K : PySem.W.KdlSrc prog w "dict" d d n P OK) (hh : A.handled = none) (ok : OK s.heap) (hn : n ≤ sizeLine) (ha1 : argsOk "sorted" ⟨[.ref d], kw⟩) (ha2 : ∀ x, argsOk "list.sort" ⟨[.ref x], kw⟩)
    (body : ∀ (h' : Heap) (tk : Nat) (acc : Array Value), (∀ b o, s.heap.get? b = some o → h'.get? b = some o) → ItemsOf P acc n → ∀ E' : Value → Shared → Prop,
      wpAny (model prog w) A.in1 (call (.builtin "list.sort") [.ref h'.objs.size] kw) (fun v s' => Q (.ref h'.objs.size) s') E' { s with heap := h'.push (seqObj "list" acc.toList.toArray 0), toks := tk }) :
    wpAny (model prog w) A (call (.builtin "sorted") [.ref d] kw) Q E s := by
  refine call_function_entry_kw kind_sorted plain_sorted entry_sorted ha1 ?_
  unfold Builtin.«sorted»
  refine wpAny_bind (m := checkCount "sorted" 1 1 _) (wpAny_pure ?_)
  refine wpAny_bind (PySem.W.kdu_collect (A := A.in1) K hh ok hn fun h' tk acc hk hacc => ?_)
  refine wpAny_bind (wpAny_newList ?_ (by rw [Array.length_toList, hacc.1]; exact hn))
  show wpAny _ _ _ _ _ { s with heap := h'.push (seqObj "list" acc.toList.toArray 0), toks := tk }
  refine wpAny_bind (wpAny_holding (wpAny_mono (body h' tk acc hk hacc _) (fun v s' q => ?_) fun _ _ e => e))
  exact wpAny_pure ⟨_, rfl, q⟩
end

/-! ### dicts of immutable data -/
def dkey : Key → PyData
  | .inl i => .int i
  | .inr x => .str x
def tkey (k : List Key) : PyData := .tuple (k.map dkey)
def VRel {κ : Type} (H : Hp) (p : κ × V) (q : κ × PyData) : Prop := p.1 = q.1 ∧ Rep H p.2 q.2
theorem VRel.sts {κ : Type} {H H' : Hp} (s : Stp H H') {ps : List (κ × V)} {qs : List (κ × PyData)} (h : Paired (VRel H) ps qs) : Paired (VRel H') ps qs := by
  induction h with
  | nil => exact .nil
  | cons h t ih => exact .cons ⟨h.1, h.2.st s⟩ ih
def oK (es : List (Key × PyData)) : Ow where
  p := fun H v F => ∃ l kvs, v = .ref l ∧ F = [l] ∧ H l = some (.dK kvs) ∧ Paired (VRel H) kvs es
  st := fun {H H' v F} s k h => by
    obtain ⟨l, vs, rfl, rfl, h1, h2⟩ := h
    exact ⟨l, vs, rfl, rfl, (k l (by simp)).trans h1, VRel.sts s h2⟩
  mu := fun {H v F} h a ha => by
    obtain ⟨l, vs, rfl, rfl, h1, h2⟩ := h
    have : a = l := by simpa using ha
    subst this
    rw [h1]; trivial
def oT (es : List (List Key × PyData)) : Ow where
  p := fun H v F => ∃ l kvs, v = .ref l ∧ F = [l] ∧ H l = some (.dT kvs) ∧ Paired (VRel H) kvs es
  st := fun {H H' v F} s k h => by
    obtain ⟨l, vs, rfl, rfl, h1, h2⟩ := h
    exact ⟨l, vs, rfl, rfl, (k l (by simp)).trans h1, VRel.sts s h2⟩
  mu := fun {H v F} h a ha => by
    obtain ⟨l, vs, rfl, rfl, h1, h2⟩ := h
    have : a = l := by simpa using ha
    subst this
    rw [h1]; trivial
theorem VRel.keys {κ : Type} {H : Hp} {ps : List (κ × V)} {qs : List (κ × PyData)} (h : Paired (VRel H) ps qs) : ps.map (·.1) = qs.map (·.1) := by
  induction h with
  | nil => rfl
  | cons h t ih => rw [List.map_cons, List.map_cons, h.1, ih]
end PL

/-! PL8: dicts made, sorted. -/
namespace PL
open PySem PySem.Spec PyProof.Rows L2

theorem rep_key {H : Hp} (k : Key) : Rep H (kV k) (dkey k) := by
  cases k with
  | inl i => exact .int i
  | inr x => exact .str x
theorem reps_keys {H : Hp} : ∀ k : List Key, Reps H (k.map kV) (k.map dkey)
  | [] => .nil
  | x :: k => .cons (rep_key x) (reps_keys k)
section
variable {X : Cx} {pins : List (Addr × Obj)} {σ : L2.St} {H : Hp} {s : Shared} {h' : Heap} {tk : Nat} {us : List Value} {ds : List PyData} {A : Around}
/-- a new list of values that stand for data, sorted -/
theorem tail_sort (I1 : Inv X pins σ H { s with heap := h', toks := tk }) (ei : PySem.W.EachIs (fun u d => Vd H u d ∧ Reads h' u d []) us ds) (sk : SrtOk ds) (hz : us.length ≤ sizeLine) (hu : A.units + 63 < cLine) {Q : VK}
    (q : ∀ ys p, H p = none → Reps H ys (srt ds) → Q (.ref p) (upd H p (.lst ys))) (E' : Value → Shared → Prop) :
    wpAny (model X.prog X.w) A (call (.builtin "list.sort") [.ref h'.objs.size]) (fun v s' => EP X pins σ Q (.ref h'.objs.size) s') E' { s with heap := h'.push (seqObj "list" us.toArray 0), toks := tk } := by
  have hoL : (h'.push (seqObj "list" us.toArray 0)).get? h'.objs.size = some (seqObj "list" us.toArray 0) := Heap.get?_push_size _ rfl
  have el := ei.length
  refine PySem.W.list_sort_data (s := { s with heap := h'.push (seqObj "list" us.toArray 0), toks := tk }) (bs := ds) (enc := id) (R := Vd H) hoL (ei.mono fun _ _ q => q.1) (ei.mono fun _ _ q => ⟨[], PyProof.Rows.Reads.keeps (fun _ _ e => Heap.get?_push_of_some _ e) q.2, by simp⟩)
    (by rw [List.map_id]; exact sk.al) (by rw [List.map_id]; exact sk.so) (by rw [← el]; exact hz) (fun d hd => ?_) fun out hl eo => ?_
  · have := sk.dp d hd
    show A.units + 1 + d.depth < cLine
    omega
  · obtain ⟨ys, r1, r2⟩ := each_reps eo
    obtain ⟨c, hc⟩ := sortedHeap_at (vs := us) (out := out.toArray) hoL
    refine ⟨.ref h'.objs.size, upd H h'.objs.size (.lst ys), I1.laid (t' := tk) (fun b u e => ?_) (Nat.le_refl _) (show ObjOk X.prog X.w _ _ _ (.lst ys) from ⟨?_, out, c, r1, hc⟩), rfl, q ys _ (I1.hok.fresh (Nat.le_refl _)) r2⟩
    · have hb : b < h'.objs.size := Heap.lt_size e
      rw [sortedHeap_old (Nat.ne_of_lt hb) (by rw [size_push']; exact Nat.lt_succ_of_lt hb)]
      exact Heap.get?_push_of_some _ e
    · rw [r2.length]
      show (srt ds).length ≤ _
      rw [srt_length, ← el]; exact hz
/-- its length, of a tuple -/
def lenD : PyData → PyData
  | .tuple xs => .int (xs.length : Int)
  | _ => .int 0
def srtLen (ds : List PyData) : List PyData := ds.mergeSort (PySem.W.dataLe false lenD)
theorem srtLen_length (ds : List PyData) : (srtLen ds).length = ds.length := List.length_mergeSort _
theorem lenD_int (d : PyData) : ∃ n : Int, lenD d = .int n := by cases d <;> exact ⟨_, rfl⟩
theorem lens_alike (ds : List PyData) : PySem.W.AllAlike (ds.map lenD) := fun d hd e he => by
  obtain ⟨x, _, rfl⟩ := List.mem_map.mp hd
  obtain ⟨y, _, rfl⟩ := List.mem_map.mp he
  obtain ⟨i, e1⟩ := lenD_int x
  obtain ⟨j, e2⟩ := lenD_int y
  rw [e1, e2]; simp [PySem.W.alike]
theorem lens_sortable (ds : List PyData) : PySem.W.Sortable (ds.map lenD) := .inr fun d hd => by
  obtain ⟨x, _, rfl⟩ := List.mem_map.mp hd
  obtain ⟨i, e1⟩ := lenD_int x
  rw [e1]
  exact ⟨by simp, fun xs => by simp⟩
theorem turn_len {a : Addr} {h₁ : Heap} (ok : HOk X.prog X.w H h₁) (ha : h₁.get? a = none) {v : Value} {d : PyData} (r : Vd H v d) (ht : ∃ xs, d = .tuple xs) (g : Heap) (tk : Nat) (kp : ∀ b o, b ≠ a → h₁.get? b = some o → g.get? b = some o) (s : Shared) :
    wpAny (model X.prog X.w) A (call (.builtin "len") [v]) (PySem.W.KeyPure (lenD d) { s with heap := g, toks := tk }) (fun _ _ => False) { s with heap := g, toks := tk } := by
  obtain ⟨x, rx, r⟩ := r
  obtain ⟨xs, rfl⟩ := ht
  cases r with
  | @tup t vs _ hh rs =>
    cases rx
    obtain ⟨z, its, rv, o, e, c, n, q⟩ := ok t _ hh
    have hta : t ≠ a := fun z => by subst z; rw [e] at ha; cases ha
    have hl := rv.length
    have hn := line63
    refine len_tuple (s := { s with heap := g, toks := tk }) (items := its.toArray) ⟨o, kp t o hta e, c, n, q⟩ (by simp only [List.size_toArray] <;> omega) ?_
    refine ⟨g, _, rfl, fun _ _ e => e, ?_⟩
    unfold lenD
    rw [List.size_toArray, ← hl, rs.length]
    exact .int _ _
theorem tail_sortLen (I1 : Inv X pins σ H { s with heap := h', toks := tk }) (ei : PySem.W.EachIs (fun u d => Vd H u d ∧ Reads h' u d []) us ds) (ht : ∀ d ∈ ds, ∃ xs, d = .tuple xs) (hz : us.length ≤ sizeLine) (hu : A.units + 63 < cLine) {Q : VK}
    (q : ∀ ys p, H p = none → Reps H ys (srtLen ds) → Q (.ref p) (upd H p (.lst ys))) (E' : Value → Shared → Prop) :
    wpAny (model X.prog X.w) A (call (.builtin "list.sort") [.ref h'.objs.size] [(Str.ofString "key", .builtin "len")]) (fun v s' => EP X pins σ Q (.ref h'.objs.size) s') E' { s with heap := h'.push (seqObj "list" us.toArray 0), toks := tk } := by
  have hoL : (h'.push (seqObj "list" us.toArray 0)).get? h'.objs.size = some (seqObj "list" us.toArray 0) := Heap.get?_push_size _ rfl
  have el := ei.length
  refine PySem.W.list_sort_key_data (s := { s with heap := h'.push (seqObj "list" us.toArray 0), toks := tk }) (bs := ds) (R := Vd H) (f := .builtin "len") (b := false) lenD hoL (ei.mono fun _ _ q => q.1) (lens_alike ds) (lens_sortable ds) (by rw [← el]; exact hz) (fun d hd => ?_) (ksk_l1 _ _) (ksk_t4 _ _)
    (fun v d r hd g tk2 kp => turn_len I1.hok (Heap.get?_none_of_le (Nat.le_refl _)) r (ht d hd) g tk2 (fun b o hb e => kp b o hb (Heap.get?_push_of_some _ e)) _) fun out c g tk2 kp hc hl eo => ?_
  · obtain ⟨i, e⟩ := lenD_int d
    rw [e]
    show A.units + 1 + 0 < cLine
    omega
  · obtain ⟨ys, r1, r2⟩ := each_reps eo
    refine ⟨.ref h'.objs.size, upd H h'.objs.size (.lst ys), I1.laid (t' := tk2) (fun b u e => ?_) (Nat.le_refl _) (show ObjOk X.prog X.w _ _ _ (.lst ys) from ⟨?_, out, c, r1, hc⟩), rfl, q ys _ (I1.hok.fresh (Nat.le_refl _)) r2⟩
    · exact kp b u (Nat.ne_of_lt (Heap.lt_size e)) (Heap.get?_push_of_some _ e)
    · rw [r2.length]
      show (srtLen ds).length ≤ _
      rw [srtLen_length, ← el]; exact hz
end
section
variable {X : Cx}
/-- values at places that stand for data -/
theorem each_of_at {H : Hp} {h : Heap} : ∀ {us : List Value} {ds : List PyData}, us.length = ds.length → (∀ (j : Nat) (u : Value) (d : PyData), us[j]? = some u → ds[j]? = some d → Vd H u d ∧ Reads h u d []) → PySem.W.EachIs (fun u d => Vd H u d ∧ Reads h u d []) us ds
  | [], [], _, _ => .nil
  | [], _ :: _, h, _ => by simp at h
  | _ :: _, [], h, _ => by simp at h
  | u :: us, d :: ds, hl, k => .cons (k 0 u d rfl rfl) (each_of_at (by simpa using hl) fun j u d e1 e2 => k (j + 1) u d (by simpa using e1) (by simpa using e2))
/-- the keys of a dict of ints and texts -/
theorem src_K (hc : X.calm = true) {pins : List (Addr × Obj)} {σ : L2.St} {H : Hp} {s : Shared} (I : Inv X pins σ H s) {a : Addr} {kvs : List (Key × V)} (ha : H a = some (.dK kvs)) :
    kvs.length ≤ sizeLine ∧ ∃ P OK, PySem.W.KdlSrc X.prog X.w "dict" a a kvs.length P OK ∧ OK s.heap ∧ ∀ (h' : Heap) (tk : Nat) (acc : Array Value), Inv X pins σ H { s with heap := h', toks := tk } → ItemsOf P acc kvs.length →
      PySem.W.EachIs (fun u d => Vd H u d ∧ Reads h' u d []) acc.toList (kvs.map fun p => dkey p.1) := by
  obtain ⟨z, lo, vs, rel, dd⟩ := (show ObjOk X.prog X.w H s.heap a (.dK kvs) from I.hok a _ ha)
  obtain ⟨ep, hat⟩ := dd.dictAt
  have hl : kvs.length = vs.length := rel.length
  refine ⟨z, _, _, by rw [hl]; exact PySem.W.kdl_dict (knd := mixKind X.prog X.w) (kvs := vs) (ep := ep) lo, hat, fun h' tk acc I1 hacc => ?_⟩
  refine each_of_at (by rw [Array.length_toList, hacc.1, List.length_map]) fun j u d e1 e2 => ?_
  obtain ⟨k, x, e3, e4⟩ := hacc.2 j u (by rw [← Array.getElem?_toList]; exact e1)
  have hk := congrArg (fun l => l[j]?) rel.keys
  simp only [List.getElem?_map] at hk
  rw [List.getElem?_map] at e2
  obtain ⟨p, e5, rfl⟩ := Option.map_eq_some_iff.mp e2
  rw [e5, e3] at hk
  have hk' : p.1 = k := by simpa using hk
  subst hk'
  have rr := keyIs_rel (show keyIs p.1 u = true from e4)
  exact ⟨⟨_, rr, rep_key p.1⟩, (rep_key (H := H) p.1).reads0 I1.hok rr⟩
/-- .. of a dict of tuples -/
theorem src_T (hc : X.calm = true) {pins : List (Addr × Obj)} {σ : L2.St} {H : Hp} {s : Shared} (I : Inv X pins σ H s) {a : Addr} {kvs : List (List Key × V)} (ha : H a = some (.dT kvs)) :
    kvs.length ≤ sizeLine ∧ ∃ P OK, PySem.W.KdlSrc X.prog X.w "dict" a a kvs.length P OK ∧ OK s.heap ∧ ∀ (h' : Heap) (tk : Nat) (acc : Array Value), Inv X pins σ H { s with heap := h', toks := tk } → ItemsOf P acc kvs.length →
      PySem.W.EachIs (fun u d => Vd H u d ∧ Reads h' u d []) acc.toList (kvs.map fun p => tkey p.1) := by
  obtain ⟨z, hs, ks, pr, o, es, ep, ho, hx, hdt, he, hn⟩ := (show ObjOk X.prog X.w H s.heap a (.dT kvs) from I.hok a _ ha)
  have l1 : es.size = ks.length := size_of_entries he
  have l2 : kvs.length = ks.length := Paired.length pr
  refine ⟨z, _, _, by rw [l2, ← l1]; exact kdl_raw hs hx hdt, ho, fun h' tk acc I1 it => ?_⟩
  refine each_of_at (by rw [Array.length_toList, it.1, List.length_map]) fun j u d e1 e2 => ?_
  rw [List.getElem?_map] at e2
  obtain ⟨p, e5, rfl⟩ := Option.map_eq_some_iff.mp e2
  obtain ⟨en, hen, hv⟩ := it.2 j u (by rw [← Array.getElem?_toList]; exact e1)
  have qe := entry_at he j
  rw [hen] at qe
  obtain ⟨b, hb, hp1, hp2, _⟩ : ∃ b, ks[j]? = some b ∧ p.1 = b.1 ∧ H b.2.1 = some (.tup (p.1.map kV)) ∧ RelV p.2 b.2.2 := by
    have key : ∀ {l : List (List Key × V)} {m : List (List Key × Addr × Value)} {j : Nat}, Paired (fun (p : List Key × V) (q : List Key × Addr × Value) => p.1 = q.1 ∧ H q.2.1 = some (.tup (p.1.map kV)) ∧ RelV p.2 q.2.2) l m → l[j]? = some p → ∃ b, m[j]? = some b ∧ p.1 = b.1 ∧ H b.2.1 = some (.tup (p.1.map kV)) ∧ RelV p.2 b.2.2 := by
      intro l m j h
      induction h generalizing j with
      | nil => intro e; simp at e
      | cons h t ih =>
        intro e
        cases j with
        | zero => simp at e; subst e; exact ⟨_, rfl, h⟩
        | succ j =>
          obtain ⟨b, e1, e2⟩ := ih (j := j) (by simpa using e)
          exact ⟨b, by simpa using e1, e2⟩
    exact key pr e5
  rw [hb] at qe
  have e2 : en = entryOfKey (tupleKind (mixKind X.prog X.w)) b := Option.some.inj qe
  have hu : u = Value.ref b.2.1 := by rw [hv, e2]; rfl
  subst hu
  have rr : RelV (.ref b.2.1) (Value.ref b.2.1) := rfl
  have rp : Rep H (.ref b.2.1) (tkey p.1) := .tup hp2 (reps_keys _)
  exact ⟨⟨_, rr, rp⟩, rp.reads0 I1.hok rr⟩
theorem cr_sortedK (hc : X.calm = true) (hu : X.A.units + 64 < cLine) : CallR X (.builtin "sorted") (fun xs H Q => ∃ a kvs, xs = [.ref a] ∧ H a = some (.dK kvs) ∧ SrtOk (kvs.map fun p => dkey p.1) ∧ ∀ ys p, H p = none → Reps H ys (srt (kvs.map fun p => dkey p.1)) → Q (.ref p) (upd H p (.lst ys))) := by
  intro pins s σ H xs us Q I r h
  obtain ⟨a, kvs, rfl, ha, sk, q⟩ := h
  obtain ⟨u, rfl, rx⟩ := r.one
  cases rx
  obtain ⟨z, P, OK, K, ok, each⟩ := src_K hc I ha
  refine sorted_col K (I.ok.hd hc) ok z (args_sorted1 _) (fun _ => args_list_sort _) fun h' tk acc hk hacc E' => ?_
  have I1 : Inv X pins σ H { s with heap := h', toks := tk } := I.kept hk
  exact tail_sort I1 (each h' tk acc I1 hacc) sk (by rw [Array.length_toList, hacc.1]; exact z) (by show X.A.units + 1 + 63 < _; omega) q E'
theorem cr_sortedT (hc : X.calm = true) (hu : X.A.units + 64 < cLine) : CallR X (.builtin "sorted") (fun xs H Q => ∃ a kvs, xs = [.ref a] ∧ H a = some (.dT kvs) ∧ SrtOk (kvs.map fun p => tkey p.1) ∧ ∀ ys p, H p = none → Reps H ys (srt (kvs.map fun p => tkey p.1)) → Q (.ref p) (upd H p (.lst ys))) := by
  intro pins s σ H xs us Q I r h
  obtain ⟨a, kvs, rfl, ha, sk, q⟩ := h
  obtain ⟨u, rfl, rx⟩ := r.one
  cases rx
  obtain ⟨z, P, OK, K, ok, each⟩ := src_T hc I ha
  refine sorted_col K (I.ok.hd hc) ok z (args_sorted1 _) (fun _ => args_list_sort _) fun h' tk acc hk hacc E' => ?_
  have I1 : Inv X pins σ H { s with heap := h', toks := tk } := I.kept hk
  exact tail_sort I1 (each h' tk acc I1 hacc) sk (by rw [Array.length_toList, hacc.1]; exact z) (by show X.A.units + 1 + 63 < _; omega) q E'
/-- a call of a built-in, key=len -/
def CallRL (X : Cx) (f : Value) (r : List V → Hp → VK → Prop) : Prop :=
  ∀ (pins : List (Addr × Obj)) (s : Shared) (σ : L2.St) (H : Hp) (xs : List V) (us : List Value) (Q : VK), Inv X pins σ H s → Vals xs us → r xs H Q → wpAny (model X.prog X.w) X.A (call f us [(Str.ofString "key", .builtin "len")]) (EP X pins σ Q) X.xe s
/-- sorted(d, key=len) of a dict of tuples -/
theorem cr_sortedTLen (hc : X.calm = true) (hu : X.A.units + 64 < cLine) : CallRL X (.builtin "sorted") (fun xs H Q => ∃ a kvs, xs = [.ref a] ∧ H a = some (.dT kvs) ∧ ∀ ys p, H p = none → Reps H ys (srtLen (kvs.map fun p => tkey p.1)) → Q (.ref p) (upd H p (.lst ys))) := by
  intro pins s σ H xs us Q I r h
  obtain ⟨a, kvs, rfl, ha, q⟩ := h
  obtain ⟨u, rfl, rx⟩ := r.one
  cases rx
  obtain ⟨z, P, OK, K, ok, each⟩ := src_T hc I ha
  refine sorted_col K (I.ok.hd hc) ok z (ksk_s1 _ _) (fun _ => ksk_l1 _ _) fun h' tk acc hk hacc E' => ?_
  have I1 : Inv X pins σ H { s with heap := h', toks := tk } := I.kept hk
  refine tail_sortLen I1 (each h' tk acc I1 hacc) (fun d hd => ?_) (by rw [Array.length_toList, hacc.1]; exact z) (by show X.A.units + 1 + 63 < _; omega) q E'
  obtain ⟨p, _, rfl⟩ := List.mem_map.mp hd
  exact ⟨_, rfl⟩
theorem pe_callLen {r : List V → Hp → VK → Prop} {x : Str} {id : String} {t : TA} {p p2 pos kpos : Pos} {e : Expr} {es : List Expr} (hr : CallRL X (.builtin id) r) (hg : Gl X x) (hm : X.mg x = none) (hv : bootBuiltins x = some (.builtin id)) (hg2 : Gl X "len") (hm2 : X.mg "len" = none) (ha : PA X (e :: es) t) (hn : x ≠ "__name__") (hdb : (x == ("__debug__" : Str)) = false)
    (he : backTo pos (starEach (e :: es) X.env) = (false, eval e X.env) :: backTo pos (starEach es X.env)) (hpl : (backTo pos (starEach (e :: es) X.env)).any (·.1) = false) :
    PE X (.Call (.Name x p) (e :: es) [⟨some "key", .Name "len" p2, kpos⟩] pos) (fun σ H Q => t σ H fun vs H1 => r vs H1 Q) := by
  refine ⟨fun pins s σ H Q I h => ?_⟩
  refine wpAny_Call_Name_kw (ld_blt I hg hm hv ?_ hn hdb)
  refine PyProof.Rows.callWith_kw (thn (ha.run pos pins s σ H _ I h) fun us s1 ⟨vs, H1, I1, r1, q1⟩ => ?_) he hpl rfl rfl
  show wpAny _ _ (evalAll [do let v ← eval (.Name "len" p2) X.env; standAt pos; pure v]) _ _ s1
  refine wpAny_evalAll_cons (wpAny_bind (ld_blt I1 hg2 hm2 PySem.boot_len (wpAny_bind (wpAny_standAt (wpAny_pure ?_))) (by decide) (by decide)))
  refine wpAny_evalAll_nil ?_
  exact hr pins _ σ H1 vs us Q I1 r1 q1
end
end PL

/-! PL9: dict(pairs), the rules of sorted and dict. -/
namespace PL
open PySem PySem.Spec PyProof.Rows L2

/-- a table's entry put in its place, or at the end -/
def putG {κ : Type} [DecidableEq κ] (es : List (κ × PyData)) (k : κ) (d : PyData) : List (κ × PyData) :=
  if es.any (fun e => decide (e.1 = k)) then es.map (fun e => if e.1 = k then (e.1, d) else e) else es ++ [(k, d)]
def mergeG {κ : Type} [DecidableEq κ] (es more : List (κ × PyData)) : List (κ × PyData) := more.foldl (fun acc e => putG acc e.1 e.2) es
theorem VRel.any {κ : Type} [DecidableEq κ] {H : Hp} (k : κ) {ps : List (κ × V)} {qs : List (κ × PyData)} (h : Paired (VRel H) ps qs) : (ps.any fun e => decide (e.1 = k)) = qs.any fun e => decide (e.1 = k) := by
  induction h with
  | nil => rfl
  | cons h t ih => rw [List.any_cons, List.any_cons, h.1, ih]
theorem VRel.repl {κ : Type} [DecidableEq κ] {H : Hp} (k : κ) {v : V} {d : PyData} (r : Rep H v d) {ps : List (κ × V)} {qs : List (κ × PyData)} (h : Paired (VRel H) ps qs) : Paired (VRel H) (ps.map fun kv => if kv.1 = k then (kv.1, v) else kv) (qs.map fun e => if e.1 = k then (e.1, d) else e) := by
  induction h with
  | nil => exact .nil
  | @cons p q ps qs h t ih =>
    refine .cons ?_ ih
    dsimp only
    rw [h.1]
    split
    · exact ⟨rfl, r⟩
    · exact h
theorem VRel.put {κ : Type} [DecidableEq κ] {H : Hp} {ps : List (κ × V)} {qs : List (κ × PyData)} (h : Paired (VRel H) ps qs) (k : κ) {v : V} {d : PyData} (r : Rep H v d) : Paired (VRel H) (putK ps k v) (putG qs k d) := by
  unfold putK putG
  rw [VRel.any k h]
  split
  · exact VRel.repl k r h
  · exact Paired.snoc h ⟨rfl, r⟩
theorem length_putG {κ : Type} [DecidableEq κ] (es : List (κ × PyData)) (k : κ) (d : PyData) : (putG es k d).length ≤ es.length + 1 := by
  unfold putG
  split <;> simp
theorem Reps.splitT {H : Hp} : ∀ {vs : List V} {es : List (List Key × PyData)}, Reps H vs (es.map fun e => .tuple [tkey e.1, e.2]) → ∃ (ps : List Addr) (bs : List (List Key × Addr × V)), vs = ps.map V.ref ∧ Paired (fun (p : Addr) (b : List Key × Addr × V) => H p = some (.tup [.ref b.2.1, b.2.2]) ∧ H b.2.1 = some (.tup (b.1.map kV))) ps bs ∧
    Paired (fun (b : List Key × Addr × V) (e : List Key × PyData) => b.1 = e.1 ∧ Rep H b.2.2 e.2) bs es
  | _, [], h => by
    have h' : Reps H _ [] := h
    cases h'
    exact ⟨[], [], rfl, .nil, .nil⟩
  | _, e :: es, h => by
    have h' : Reps H _ (.tuple [tkey e.1, e.2] :: es.map fun e => .tuple [tkey e.1, e.2]) := h
    cases h' with
    | cons r t =>
      obtain ⟨ps, bs, rfl, h1, h2⟩ := Reps.splitT t
      cases r with
      | @tup p us _ hp rs =>
        cases rs with
        | cons r1 rs =>
          cases rs with
          | cons r2 rs =>
            cases rs
            cases r1 with
            | @tup b ks _ hb rk =>
              have ek : ks = e.1.map kV := by
                have go : ∀ {ks : List V} {m : List Key}, Reps H ks (m.map dkey) → ks = m.map kV := by
                  intro ks m
                  induction m generalizing ks with
                  | nil =>
                    intro h
                    have h' : Reps H _ [] := h
                    cases h'; rfl
                  | cons k m ih =>
                    intro h
                    have h' : Reps H _ (dkey k :: m.map dkey) := h
                    cases h' with
                    | cons r t =>
                      rw [ih t]
                      cases k <;> (cases r; rfl)
                exact go rk
              subst ek
              exact ⟨p :: ps, (e.1, b, _) :: bs, rfl, .cons ⟨hp, hb⟩ h1, .cons ⟨rfl, r2⟩ h2⟩
theorem Reps.splitK {H : Hp} : ∀ {vs : List V} {es : List (Key × PyData)}, Reps H vs (es.map fun e => .tuple [dkey e.1, e.2]) → ∃ (ps : List Addr) (kvs : List (Key × V)), vs = ps.map V.ref ∧ Paired (fun (p : Addr) (b : Key × V) => H p = some (.tup [kV b.1, b.2])) ps kvs ∧ Paired (VRel H) kvs es
  | _, [], h => by
    have h' : Reps H _ [] := h
    cases h'
    exact ⟨[], [], rfl, .nil, .nil⟩
  | _, e :: es, h => by
    have h' : Reps H _ (.tuple [dkey e.1, e.2] :: es.map fun e => .tuple [dkey e.1, e.2]) := h
    cases h' with
    | cons r t =>
      obtain ⟨ps, bs, rfl, h1, h2⟩ := Reps.splitK t
      cases r with
      | @tup p us _ hp rs =>
        cases rs with
        | @cons k _ _ _ r1 rs =>
          cases rs with
          | cons r2 rs =>
            cases rs
            have ek : k = kV e.1 := by
              obtain ⟨k0, d0⟩ := e
              cases k0 <;> (cases r1; rfl)
            subst ek
            exact ⟨p :: ps, (e.1, _) :: bs, rfl, .cons hp h1, .cons ⟨rfl, r2⟩ h2⟩
theorem VRel.merge {κ : Type} [DecidableEq κ] {H : Hp} : ∀ {ms : List (κ × V)} {ns : List (κ × PyData)} {ps : List (κ × V)} {qs : List (κ × PyData)}, Paired (VRel H) ms ns → Paired (VRel H) ps qs → Paired (VRel H) (ms.foldl (fun acc kv => putK acc kv.1 kv.2) ps) (mergeG qs ns)
  | _, _, _, _, .nil, h => h
  | _, _, _, _, .cons (a := m) (b := n) h t, g => by
    unfold mergeG
    rw [List.foldl_cons, List.foldl_cons, ← h.1]
    exact VRel.merge t (VRel.put g m.1 h.2)
section
variable {X : Cx}
/-- dict(xs), xs pairs of a tuple and a datum -/
theorem cr_dictT (hc : X.calm = true) (hu : X.A.units + 64 < cLine) : CallR X (.type "dict") (fun xs H Q => ∃ (a : Addr) (vs : List V) (es : List (List Key × PyData)), xs = [.ref a] ∧ H a = some (.lst vs) ∧ Reps H vs (es.map fun e => .tuple [tkey e.1, e.2]) ∧
    ∀ p kvs, H p = none → Paired (VRel H) kvs (mergeG [] es) → Q (.ref p) (upd H p (.dT kvs))) := by
  intro pins s σ H xs us Q I r h
  obtain ⟨a, vs, es, rfl, ha, rs, q⟩ := h
  obtain ⟨u, rfl, rx⟩ := r.one
  cases rx
  obtain ⟨ps, bs, rfl, h1, h2⟩ := rs.splitT
  obtain ⟨z, its, n, rv, e⟩ := (show ObjOk X.prog X.w H s.heap a (.lst (ps.map V.ref)) from I.hok a _ ha)
  have ei := refs_at rv
  subst ei
  rw [List.length_map] at z
  have l1 : ps.length = bs.length := h1.length
  -- the values
  obtain ⟨xs, k1, k2, k3⟩ : ∃ xs : List (List Key × Addr × Value), KT H (bs.map fun b => (b.1, b.2.2)) xs ∧ xs.length = ps.length ∧ ∀ (j : Nat) (x : List Key × Addr × Value), xs[j]? = some x → ∃ b, ps[j]? = some b ∧ IsTup s.heap b #[.ref x.2.1, x.2.2] := by
    clear rs rv h2 ha z q l1 e r
    induction h1 with
    | nil => exact ⟨[], .nil, rfl, fun j x e => by simp at e⟩
    | @cons p b ps bs h t ih =>
      obtain ⟨xs, k1, k2, k3⟩ := ih
      obtain ⟨_, its, rv, ht⟩ := (show ObjOk X.prog X.w H s.heap p (.tup _) from I.hok p _ h.1)
      obtain ⟨u, y, rfl, ru, ry⟩ := vals2 rv
      cases (show u = Value.ref b.2.1 from ru)
      refine ⟨(b.1, b.2.1, y) :: xs, .cons ⟨rfl, h.2, ry⟩ k1, by rw [List.length_cons, List.length_cons, k2], fun j x e => ?_⟩
      cases j with
      | zero =>
        have e' : (b.1, b.2.1, y) = x := Option.some.inj e
        subst e'
        exact ⟨p, rfl, ht⟩
      | succ j =>
        obtain ⟨b', e1, e2⟩ := k3 j x (by simpa using e)
        exact ⟨b', by simpa using e1, e2⟩
  have iskey : ∀ x ∈ xs, H x.2.1 = some (.tup (x.1.map kV)) := by
    have go : ∀ {l : List (List Key × V)} {m : List (List Key × Addr × Value)}, KT H l m → ∀ x ∈ m, H x.2.1 = some (.tup (x.1.map kV)) := by
      intro l m q
      unfold KT at q
      induction q with
      | nil => intro x hx; exact nomatch hx
      | cons hq t ih =>
        intro x hx
        rcases List.mem_cons.mp hx with e | hx
        · subst e; rw [← hq.1]; exact hq.2.1
        · exact ih x hx
    exact go k1
  have hd : a < s.heap.objs.size := Heap.lt_size e
  refine call_dict_pairsH (knd := tupleKind (mixKind X.prog X.w)) (ps := xs) (PairArg.list (prog := X.prog) (w := X.w) a (ps.map Value.ref).toArray (fun j => ps.getD j 0) (xs.map fun x => (Value.ref x.2.1, x.2.2))) (I.ok.hd hc) (by show X.A.units + 1 + 1 < cLine; omega)
    ⟨⟨_, n, e, rfl, rfl, rfl⟩, by simp [k2], fun j k v hj => ?_⟩ ⟨by rw [List.length_map], fun i key v hr => ?_⟩ (fun h' hk x hx => ?_) (by rw [List.length_map, k2]; exact z) fun h' tk hd' hk => ?_
  · rw [List.getElem?_map] at hj
    obtain ⟨x, e1, e2⟩ := Option.map_eq_some_iff.mp hj
    cases e2
    obtain ⟨b, e3, e4⟩ := k3 j x e1
    refine ⟨by simp [e3, List.getD], ?_⟩
    have e5 : ps.getD j 0 = b := by simp [List.getD, e3]
    show PairAt s.heap (ps.getD j 0) _ _
    rw [e5]
    exact .inl e4
  · have hr' : (xs.map fun x => (Value.ref x.2.1, x.2.2))[i]? = some (key, v) := hr
    rw [List.getElem?_map] at hr'
    obtain ⟨x, e1, e2⟩ := Option.map_eq_some_iff.mp hr'
    cases e2
    exact ⟨x.1, x.2.1, e1, rfl⟩
  · obtain ⟨o, items, n', ho, hcl, hdt, hi⟩ := key_of I.hok (iskey x hx)
    exact ⟨o, items, n', hk _ _ (Nat.ne_of_lt (Heap.lt_size ho)) (by simp) ho, hcl, hdt, hi⟩
  · have hm : (s.heap.objs.size == sysModules) = false := beq_eq_false_iff_ne.mpr (Nat.ne_of_gt I.big)
    obtain ⟨o, es', ep, ho, hx, hdt, hes, _, hnd⟩ := hd'
    have kt : KT H ((bs.map fun b => (b.1, b.2.2)).foldl (fun acc kv => putK acc kv.1 kv.2) []) (storedAllH [] xs) := by
      have go : ∀ {l : List (List Key × V)} {m : List (List Key × Addr × Value)} {l0 : List (List Key × V)} {m0 : List (List Key × Addr × Value)}, KT H l m → KT H l0 m0 → KT H (l.foldl (fun acc kv => putK acc kv.1 kv.2) l0) (storedAllH m0 m) := by
        intro l m l0 m0 q
        unfold KT at q
        induction q generalizing l0 m0 with
        | nil => exact fun g => g
        | @cons p q ps qs hq t ih =>
          intro g
          unfold storedAllH
          rw [List.foldl_cons, List.foldl_cons]
          refine ih ?_
          rw [← hq.1]
          exact g.put p.1 hq.2.1 hq.2.2
      exact go k1 .nil
    have hkv : Paired (VRel H) ((bs.map fun b => (b.1, b.2.2)).foldl (fun acc kv => putK acc kv.1 kv.2) []) (mergeG [] es) := by
      refine VRel.merge ?_ .nil
      clear kt k1 k3 l1 iskey h1 rs rv ha q k2
      induction h2 with
      | nil => exact .nil
      | cons h t ih => exact .cons ⟨h.1, h.2⟩ ih
    have hlen : ((bs.map fun b => (b.1, b.2.2)).foldl (fun acc kv => putK acc kv.1 kv.2) ([] : List (List Key × V))).length ≤ sizeLine := by
      rw [show ((bs.map fun b => (b.1, b.2.2)).foldl (fun acc kv => putK acc kv.1 kv.2) ([] : List (List Key × V))).length = (storedAllH [] xs).length from Paired.length kt]
      refine Nat.le_trans (storedAllH_length xs []) ?_
      rw [List.length_nil, Nat.zero_add, k2]; exact z
    have hp : H s.heap.objs.size = none := I.hok.fresh (Nat.le_refl _)
    refine ⟨.ref s.heap.objs.size, upd H s.heap.objs.size (.dT _), I.laid (t' := tk) (fun b o e => hk b o (by simp) e) (Nat.le_refl _) (show ObjOk X.prog X.w _ _ _ (.dT _) from ⟨hlen, hm, _, kt.keeps fun b ys eb => ?_, o, es', ep, ho, hx, hdt, hes, hnd⟩), rfl, q _ _ hp hkv⟩
    rw [upd_ne (ne_of_none eb hp)]; exact eb
/-- dict(xs), xs pairs of an int or a text and a datum -/
theorem cr_dictK (hc : X.calm = true) : CallR X (.type "dict") (fun xs H Q => ∃ (a : Addr) (vs : List V) (es : List (Key × PyData)), xs = [.ref a] ∧ H a = some (.lst vs) ∧ Reps H vs (es.map fun e => .tuple [dkey e.1, e.2]) ∧
    ∀ p kvs, H p = none → Paired (VRel H) kvs (mergeG [] es) → Q (.ref p) (upd H p (.dK kvs))) := by
  intro pins s σ H xs us Q I r h
  obtain ⟨a, vs, es, rfl, ha, rs, q⟩ := h
  obtain ⟨ps, kvs, rfl, h1, h2⟩ := rs.splitK
  refine call_dictP hc pins s σ H _ us Q I r ⟨a, ps, kvs, rfl, SqL.of ha, ?_, fun p hp => q p _ hp (VRel.merge h2 .nil)⟩
  clear rs ha h2
  induction h1 with
  | nil => exact .nil
  | cons h t ih => exact .cons (SqT.of h) ih
end
section
variable {X : Cx} {B : Hp} {M : List Addr} {N : List Str} {ks : List Nat} {gs ns : List Str} {sc : Scope} {Γ Γ1 Γ2 Γ3 : List As} {A A1 A2 A3 : As} {a b c e : Expr} {es : List Expr} {pos p : Pos} {ds fs : List PyData} {d : PyData}
theorem lk_see {G : List As} {s : List (Option V)} {H : Hp} {v : V} {o : Ow} (hG : ∃ T, G = Γ ++ T) (hA : Lk Γ A o) (S : Sat B M (G ++ [A]) (s ++ [some v]) H) : (∃ F, o.p H v F) ∧ Sat B M G s H := by
  obtain ⟨T, rfl⟩ := hG
  obtain ⟨w, F, e, h⟩ := S.see hA.mono
  cases e
  exact ⟨⟨F, h⟩, S.pop⟩
theorem newO {G : List As} {s : List (Option V)} {H : Hp} {o : HO} {w : Ow} (S : Sat B M G s H) {q : Addr} (hq : H q = none) (h : Stp H (upd H q o) → w.p (upd H q o) (.ref q) [q]) : Sat B M (G ++ [.new w]) (s ++ [some (.ref q)]) (upd H q o) := by
  have e := Ext.new (o := o) hq
  exact S.new (F0 := [q]) e (h e.stp) (fun a ha => by
    have : a = q := by simpa using ha
    rw [this]; exact hq)
theorem E_dictK {ps : List (Key × PyData)} (F : Fx X N ks gs sc) (nb : Nb X ns) (h : Ee X B M e Γ Γ1 A) (hA : Lk Γ1 A (oL (ps.map fun e => .tuple [dkey e.1, e.2]))) (g : Nat := gs.idxOf ("dict" : Str)) (n : Nat := ns.idxOf ("dict" : Str)) (hg : gs[g]? = some ("dict" : Str) := by rfl) (hm : ns[n]? = some ("dict" : Str) := by rfl)
    (hs : starEach [e] X.env = (false, eval e X.env) :: starEach [] X.env := by rfl) : Ee X B M (.Call (.Name "dict" p) [e] [] pos) Γ Γ1 (.new (oK (mergeG [] ps))) :=
  callTy F nb g n (cr_dictK F.calm) (by decide +kernel) (A_one h hs) (fun G vs s H Q hG hv S q => by
    obtain ⟨v, rfl, S⟩ := one_arg hv S
    obtain ⟨l, vs, rfl, hh, rs, S'⟩ := seeL hG hA S
    exact ⟨l, vs, ps, rfl, hh, rs, fun p kvs hp hk => q _ _ (newO S' hp fun st => ⟨p, kvs, rfl, rfl, upd_same, VRel.sts st hk⟩)⟩) hg hm (by decide) (by decide) hs rfl
theorem E_dictT {ps : List (List Key × PyData)} (F : Fx X N ks gs sc) (nb : Nb X ns) (h : Ee X B M e Γ Γ1 A) (hA : Lk Γ1 A (oL (ps.map fun e => .tuple [tkey e.1, e.2]))) (g : Nat := gs.idxOf ("dict" : Str)) (n : Nat := ns.idxOf ("dict" : Str)) (hg : gs[g]? = some ("dict" : Str) := by rfl) (hm : ns[n]? = some ("dict" : Str) := by rfl)
    (hs : starEach [e] X.env = (false, eval e X.env) :: starEach [] X.env := by rfl) : Ee X B M (.Call (.Name "dict" p) [e] [] pos) Γ Γ1 (.new (oT (mergeG [] ps))) :=
  callTy F nb g n (cr_dictT F.calm F.rm.units) (by decide +kernel) (A_one h hs) (fun G vs s H Q hG hv S q => by
    obtain ⟨v, rfl, S⟩ := one_arg hv S
    obtain ⟨l, vs, rfl, hh, rs, S'⟩ := seeL hG hA S
    exact ⟨l, vs, ps, rfl, hh, rs, fun p kvs hp hk => q _ _ (newO S' hp fun st => ⟨p, kvs, rfl, rfl, upd_same, VRel.sts st hk⟩)⟩) hg hm (by decide) (by decide) hs rfl
theorem E_sortedL (F : Fx X N ks gs sc) (nb : Nb X ns) (h : Ee X B M e Γ Γ1 A) (hA : Lk Γ1 A (oL ds)) (sk : SrtOk ds) (g : Nat := gs.idxOf ("sorted" : Str)) (n : Nat := ns.idxOf ("sorted" : Str)) (hg : gs[g]? = some ("sorted" : Str) := by rfl) (hm : ns[n]? = some ("sorted" : Str) := by rfl)
    (hs : starEach [e] X.env = (false, eval e X.env) :: starEach [] X.env := by rfl) : Ee X B M (.Call (.Name "sorted" p) [e] [] pos) Γ Γ1 (.new (oL (srt ds))) :=
  callB F nb g n (cr_sortedL F.rm.units) (by decide +kernel) (A_one h hs) (fun G vs s H Q hG hv S q => by
    obtain ⟨v, rfl, S⟩ := one_arg hv S
    obtain ⟨l, vs, rfl, hh, rs, S'⟩ := seeL hG hA S
    exact ⟨l, vs, ds, rfl, hh, rs, sk, fun ys p hp hy => q _ _ (newL S' hy hp)⟩) hg hm (by decide) (by decide) hs rfl
theorem E_sortedK {ps : List (Key × PyData)} (F : Fx X N ks gs sc) (nb : Nb X ns) (h : Ee X B M e Γ Γ1 A) (hA : Lk Γ1 A (oK ps)) (sk : SrtOk (ps.map fun e => dkey e.1)) (g : Nat := gs.idxOf ("sorted" : Str)) (n : Nat := ns.idxOf ("sorted" : Str)) (hg : gs[g]? = some ("sorted" : Str) := by rfl) (hm : ns[n]? = some ("sorted" : Str) := by rfl)
    (hs : starEach [e] X.env = (false, eval e X.env) :: starEach [] X.env := by rfl) : Ee X B M (.Call (.Name "sorted" p) [e] [] pos) Γ Γ1 (.new (oL (srt (ps.map fun e => dkey e.1)))) :=
  callB F nb g n (cr_sortedK F.calm F.rm.units) (by decide +kernel) (A_one h hs) (fun G vs s H Q hG hv S q => by
    obtain ⟨v, rfl, S⟩ := one_arg hv S
    obtain ⟨⟨_, l, kvs, rfl, _, hh, rs⟩, S'⟩ := lk_see hG hA S
    have e1 : (kvs.map fun p => dkey p.1) = ps.map fun e => dkey e.1 := by
      have := congrArg (List.map dkey) (VRel.keys rs)
      simpa [Function.comp_def] using this
    exact ⟨l, kvs, rfl, hh, by rw [e1]; exact sk, fun ys p hp hy => q _ _ (newL S' (by rw [← e1]; exact hy) hp)⟩) hg hm (by decide) (by decide) hs rfl
theorem E_sortedT {ps : List (List Key × PyData)} (F : Fx X N ks gs sc) (nb : Nb X ns) (h : Ee X B M e Γ Γ1 A) (hA : Lk Γ1 A (oT ps)) (sk : SrtOk (ps.map fun e => tkey e.1)) (g : Nat := gs.idxOf ("sorted" : Str)) (n : Nat := ns.idxOf ("sorted" : Str)) (hg : gs[g]? = some ("sorted" : Str) := by rfl) (hm : ns[n]? = some ("sorted" : Str) := by rfl)
    (hs : starEach [e] X.env = (false, eval e X.env) :: starEach [] X.env := by rfl) : Ee X B M (.Call (.Name "sorted" p) [e] [] pos) Γ Γ1 (.new (oL (srt (ps.map fun e => tkey e.1)))) :=
  callB F nb g n (cr_sortedT F.calm F.rm.units) (by decide +kernel) (A_one h hs) (fun G vs s H Q hG hv S q => by
    obtain ⟨v, rfl, S⟩ := one_arg hv S
    obtain ⟨⟨_, l, kvs, rfl, _, hh, rs⟩, S'⟩ := lk_see hG hA S
    have e1 : (kvs.map fun p => tkey p.1) = ps.map fun e => tkey e.1 := by
      have := congrArg (List.map tkey) (VRel.keys rs)
      simpa [Function.comp_def] using this
    exact ⟨l, kvs, rfl, hh, by rw [e1]; exact sk, fun ys p hp hy => q _ _ (newL S' (by rw [← e1]; exact hy) hp)⟩) hg hm (by decide) (by decide) hs rfl
/-- sorted(d, key=len), d's keys tuples -/
theorem E_sortedTLen {ps : List (List Key × PyData)} {p2 kpos : Pos} (F : Fx X N ks gs sc) (nb : Nb X ns) (h : Ee X B M e Γ Γ1 A) (hA : Lk Γ1 A (oT ps)) (g : Nat := gs.idxOf ("sorted" : Str)) (n : Nat := ns.idxOf ("sorted" : Str)) (g2 : Nat := gs.idxOf ("len" : Str)) (n2 : Nat := ns.idxOf ("len" : Str)) (hg : gs[g]? = some ("sorted" : Str) := by rfl) (hm : ns[n]? = some ("sorted" : Str) := by rfl)
    (hg2 : gs[g2]? = some ("len" : Str) := by rfl) (hm2 : ns[n2]? = some ("len" : Str) := by rfl) (hs : starEach [e] X.env = (false, eval e X.env) :: starEach [] X.env := by rfl) (he : backTo pos (starEach [e] X.env) = (false, eval e X.env) :: backTo pos (starEach [] X.env) := by rfl) (hpl : (backTo pos (starEach [e] X.env)).any (·.1) = false := by rfl) :
    Ee X B M (.Call (.Name "sorted" p) [e] [⟨some "key", .Name "len" p2, kpos⟩] pos) Γ Γ1 (.new (oL (srtLen (ps.map fun e => tkey e.1)))) := fun T σ τ H Q hl S q => by
  refine WE.of (pe_callLen (cr_sortedTLen F.calm F.rm.units) (F.gl g _ hg) (nb n _ hm) (by decide +kernel) (F.gl g2 _ hg2) (nb n2 _ hm2) pa_wa (by decide) (by decide) he hpl) (A_one h hs T σ τ H _ hl S fun vs H1 hv S1 => ?_)
  obtain ⟨v, rfl, S2⟩ := one_arg hv S1
  obtain ⟨⟨_, l, kvs, rfl, _, hh, rs⟩, S'⟩ := lk_see ⟨T, rfl⟩ hA S2
  have e1 : (kvs.map fun p => tkey p.1) = ps.map fun e => tkey e.1 := by
    have := congrArg (List.map tkey) (VRel.keys rs)
    simpa [Function.comp_def] using this
  exact ⟨l, kvs, rfl, hh, fun ys p hp hy => q _ _ (newL S' (by rw [← e1]; exact hy) hp)⟩
end
end PL

/-! PL10: enumerate, in, slices stored, ranges downward, pairs of places. -/
namespace PL
open PySem PySem.Spec PyProof.Rows L2

/-! ### enumerate of a tuple -/
section
variable {prog : Program} {w : World} {A : Around} {E : Value → Shared → Prop} {s : Shared}
theorem meets_enum1 {v : Value} {o : Obj} {H : Heap → Prop} (B : Begins v o H) :
    Meets (Builtin.«enumerate.__new__» ⟨[.type "enumerate", v], []⟩) (fun _ R s => H s.heap ∧
      R (.ok (.ret (.ref (s.heap.push o).objs.size))) { s with heap := (s.heap.push o).push { cls := .type "enumerate", data := .fields #[.none, .bool false, .ref s.heap.objs.size, rawInt 0, .none, .none] } }) :=
  .of_wp fun prog w A R s h => by
    obtain ⟨hp, g, d, tk, os⟩ := s; obtain ⟨h1, h⟩ := h
    have hsub := sub_enumerate
    have q1 : ∀ {A' : Around} {E : Value → Shared → Prop} {Q : Value → Shared → Prop}, Q (.ref hp.objs.size) ⟨hp.push o, g, d, tk, os⟩ → wpAny (model prog w) A' (pyIter v) Q E ⟨hp, g, d, tk, os⟩ :=
      fun q => B.iter prog w _ _ ⟨hp, g, d, tk, os⟩ _ h1 q
    wp_walk using q1
    refine wpAny_stack_any fun st => wpAny_pure ?_
    split
    · rename_i c _ _ _ _ _
      cases (c == Value.type "enumerate")
      · wp_walk using q1
        exact ⟨_, rfl, h⟩
      · wp_walk using q1
        exact ⟨_, rfl, h⟩
    · wp_walk using q1
      exact ⟨_, rfl, h⟩
theorem enum_begins1 {v : Value} {o : Obj} {H : Heap → Prop} {Q : Value → Shared → Prop} (B : Begins v o H) (h1 : H s.heap)
    (h : ∀ h', IsEnum h' (s.heap.objs.size + 1) s.heap.objs.size 0 .none → h'.get? s.heap.objs.size = some o → h'.objs.size = s.heap.objs.size + 2 → (∀ b o, s.heap.get? b = some o → h'.get? b = some o) → Q (.ref (s.heap.objs.size + 1)) { s with heap := h' }) :
    wpAny (model prog w) A (call (.type "enumerate") [v]) Q E s := by
  refine callType_new F.called_enumerate (by decide) (F.typeCall_enumerate_1 _) (F.newCall_enumerate_1 _) (fun obj => F.args_object_init_2 obj _) F.entry_enumerate_new (meets_enum1 B) ⟨h1, ?_⟩
  have hz : (s.heap.push o).objs.size = s.heap.objs.size + 1 := Heap.size_push ..
  show _ ∧ _
  rw [hz]
  have he : IsEnum ((s.heap.push o).push { cls := .type "enumerate", data := .fields #[.none, .bool false, .ref s.heap.objs.size, rawInt 0, .none, .none] }) (s.heap.objs.size + 1) s.heap.objs.size 0 .none := by
    have := Heap.get?_push_size (s.heap.push o) (o := { cls := .type "enumerate", data := .fields #[.none, .bool false, .ref s.heap.objs.size, rawInt 0, .none, .none] }) rfl
    rw [hz] at this; exact this
  refine ⟨⟨_, he, rfl⟩, h _ he (Heap.get?_push_of_some _ (Heap.get?_push_size _ B.free)) (by rw [Heap.size_push, hz]) fun b o x => Heap.get?_push_of_some _ (Heap.get?_push_of_some _ x)⟩
end
/-- the tuple at a, each item in a new pair -/
def IteT (K : PySem.W.Frag) (a : Addr) : It :=
  ⟨fun i H => ∃ (xs : List V) (x : V), SqT K H a xs ∧ xs[i]? = some x, fun i H v H' => ∃ T x, v = .ref T ∧ H T = none ∧ H' = upd H T (.tup [.int (i : Nat), x]) ∧ ∀ xs, SqT K H a xs → xs[i]? = some x, fun i H => ∃ xs : List V, SqT K H a xs ∧ xs.length ≤ i⟩
theorem turn_enumT {P : Program} {w : World} {K : PySem.W.Frag} {elts : List Expr} {kk : Nat} {tpos : Pos} (a e it : Addr) (hae : a ≠ e) (hai : a ≠ it) :
    Turn P w K (.Tuple elts kk tpos) (IteT K a) [e, it] e (fun i h => (∃ old, IsEnum h e it ((i : Nat) : Int) old) ∧ h.IsTupleIter it a i ∧ e ≠ it) where
  mem := by simp
  obj := fun i h st b hb => by
    obtain ⟨⟨old, he⟩, ⟨o, ho, hc, hd⟩, _⟩ := st
    have e' : b = e ∨ b = it := by simpa using hb
    rcases e' with z | z
    · rw [z]; exact ⟨_, he, fun v q => nomatch q⟩
    · rw [z]; exact ⟨o, ho, fun v q => by rw [hd] at q; cases q⟩
  keep := fun i h h' st k => let ⟨⟨old, he⟩, ⟨o, ho, r⟩, hne⟩ := st; ⟨⟨old, k e (by simp) _ he⟩, ⟨o, k it (by simp) o ho, r⟩, hne⟩
  item := by
    intro X hP hw hK hc i pins s σ H E I hf st hg
    subst hP hw hK
    obtain ⟨⟨old, he⟩, hit, hne⟩ := st
    obtain ⟨xs, x, hq, hx⟩ := hg
    obtain ⟨its, rv, p, hz⟩ := I.tuple hq
    obtain ⟨u, hu, ru⟩ := rv.get hx
    have hel : e < s.heap.objs.size := Heap.lt_size he
    have hil : it < s.heap.objs.size := by obtain ⟨_, q, _⟩ := hit; exact Heap.lt_size q
    have hfe : e ∉ [it, a] := by
      simp only [List.mem_cons, List.not_mem_nil, or_false, not_or]
      exact ⟨hne, Ne.symm hae⟩
    refine wpAny_pyNext_enum_itemD (i := i) (n := its.toArray.size) (Draws.tuple (A := X.A.in1) (prog := X.prog) (w := X.w) (I.ok.hd hc) it a hai its.toArray) he ⟨hit, p⟩ (by simpa using lt_of_get hu) hne hfe fun x2 h' tk hx2 ho st' hT hsz hk => ?_
    have e2 : x2 = u := by
      have h1 : its.toArray[i]? = some x2 := hx2
      rw [List.getElem?_toArray, hu] at h1
      exact (Option.some.inj h1).symm
    subst e2
    refine ⟨_, rfl, wpAny_letOwnedTupleGo_enum (s := { s with heap := h', toks := tk + 1 }) ho fun h'' he' sb => ?_⟩
    have hT2 : h''.get? s.heap.objs.size = some { cls := .type "tuple", data := .seq #[.int i tk, x2] } := (sb.2 _ (Nat.ne_of_gt hel)).trans hT
    have new : ObjOk X.prog X.w (upd H s.heap.objs.size (.tup [.int (i : Nat), x])) h'' s.heap.objs.size (.tup [.int (i : Nat), x]) :=
      ⟨by show 2 ≤ sizeLine; decide, [.int i tk, x2], .cons ⟨_, rfl⟩ (.cons ru .nil), ⟨_, hT2, rfl, _, rfl⟩⟩
    have I1 : L2.Inv X pins σ (upd H s.heap.objs.size (.tup [.int (i : Nat), x])) { s with heap := h'', toks := tk + 1 } :=
      I.turnedNew (ch := [e, it]) (fun b ob hb q => (sb.2 b (fun z => hb (by simp [z]))).trans (hk b ob (fun z => hb (by simp [z])) (fun z => hb (by simp [z])) q)) hf (Nat.le_refl _) new
    obtain ⟨⟨oi, hoi, ri⟩, _⟩ := st'
    refine ⟨.ref s.heap.objs.size, _, I1, rfl, ⟨_, x, rfl, I.hok.fresh (Nat.le_refl _), rfl, fun ys hy => by rw [I.tuple_inj hy hq]; exact hx⟩, ⟨⟨x2, ?_⟩, ⟨oi, (sb.2 it (Ne.symm hne)).trans hoi, ri⟩, hne⟩, fun b hb => ?_⟩
    · have e1 : ((i + 1 : Nat) : Int) = (i : Int) + 1 := by omega
      rw [e1]; exact he'
    · have hb' : b < s.heap.objs.size := by
        have e' : b = e ∨ b = it := by simpa using hb
        rcases e' with z | z
        · rw [z]; exact hel
        · rw [z]; exact hil
      rw [upd_ne (Nat.ne_of_lt hb')]
      exact (hf b hb).1
  done := by
    intro X hP hw hK hc i pins s σ H E I hf st hg
    subst hP hw hK
    obtain ⟨⟨old, he⟩, hit, hne⟩ := st
    obtain ⟨xs, hq, hx⟩ := hg
    obtain ⟨its, rv, p, hz⟩ := I.tuple hq
    obtain ⟨f0, f1, f2, f3, f4, f5⟩ := hf it (by simp)
    have hl := rv.length
    have hT : s.TypeIs (.ref e) "enumerate" := ⟨_, he, rfl⟩
    unfold pyNext
    refine wpAny_bind (wpAny_attempt (wpAny_callSpecial?_slot (name := Str.ofString "__next__") hT F.slot_enumerate_next
      (wpAny_call_entry F.slot_enumerate_next hT F.entry_enumerate_next ?_ (F.args_enumerate_next_1 _))))
    show wpAny _ _ (field (.ref e) 2 >>= _) _ _ _
    refine wpAny_bind (wpAny_field he rfl (x := .ref it) rfl ?_)
    refine wpAny_bind (wpAny_nextOf_tuple_end (A := X.A.in1) (I.ok.hd hc) hit p (by simp; omega) fun h' x he' hx' => ?_)
    obtain ⟨o, ho, hcx⟩ := hx'
    refine wpAny_bind (wpAny_isInstance (T := "StopIteration") (b := true) ⟨o, ho, hcx⟩ isSubtype_stop ?_)
    exact wpAny_pure ⟨rfl, I.turned (t' := s.toks) (fun b o hb q => he' b o hb q) f0 f1 f3 f4 f5⟩
  self := fun A i s Q E st h => let ⟨⟨_, he⟩, _⟩ := st; wpAny_pyIter_enum he h

def iEnumT (K : PySem.W.Frag) (ta : TA) : TI := fun σ H R => ta σ H fun vs H1 => ∃ a xs, vs = [.ref a] ∧ SqT K H1 a xs ∧ R (IteT K a) H1
theorem pi_enumT {X : Cx} {e : Expr} {ta : TA} {p pos tpos : Pos} {elts : List Expr} {kk : Nat} (hg : Gl X "enumerate") (hm : X.mg "enumerate" = none) (ha : PA X [e] ta) (hs : starEach [e] X.env = [(false, eval e X.env)] := by rfl) :
    PI X (.Tuple elts kk tpos) (.Call (.Name "enumerate" p) [e] [] pos) (iEnumT X.K ta) := by
  refine ⟨fun pins s σ H R I h => ?_⟩
  refine Call_ (ld_blt I hg hm boot_enumerate (PyProof.Rows.callWith_type1 (thn (ha.run pos pins s σ H _ I h) fun us s1 ⟨vs, H1, I1, r1, q1⟩ => ?_) hs rfl))
  obtain ⟨a, xs, ex, hq, q⟩ := q1
  subst ex
  cases r1 with
  | cons r rr =>
    cases rr
    cases r
    obtain ⟨its, rv, p', hz⟩ := I1.tuple hq
    have hlt : a < s1.heap.objs.size := p'.lt
    refine enum_begins1 (begins_tuple a its.toArray) p' fun h' he hit hsz hk => wpAny_pyIter_enum he ?_
    have I2 : L2.Inv X pins σ H1 { s1 with heap := h' } := I1.kept (t' := s1.toks) hk
    refine ⟨s1.heap.objs.size + 1, [s1.heap.objs.size + 1, s1.heap.objs.size], _, _, H1, rfl, I2, turn_enumT a (s1.heap.objs.size + 1) s1.heap.objs.size (Nat.ne_of_lt (Nat.lt_succ_of_lt hlt)) (Nat.ne_of_lt hlt), ⟨⟨.none, he⟩, ⟨_, hit, rfl, rfl⟩, Nat.succ_ne_self _⟩, fun b hb => ?_, q⟩
    have e' : b = s1.heap.objs.size + 1 ∨ b = s1.heap.objs.size := by simpa using hb
    have hle : s1.heap.objs.size ≤ b := by
      rcases e' with z | z
      · rw [z]; exact Nat.le_add_right _ _
      · rw [z]; exact Nat.le_refl _
    exact I1.fpOk hle (I1.hok.fresh hle)
/-- the items of enumerate -/
def enumD (ds : List PyData) : List PyData := ds.mapIdx fun i d => .tuple [.int (i : Int), d]
theorem enumD_length (ds : List PyData) : (enumD ds).length = ds.length := List.length_mapIdx
theorem enumD_get {ds : List PyData} {k : Nat} {d : PyData} (h : (enumD ds)[k]? = some d) : ∃ x, ds[k]? = some x ∧ d = .tuple [.int (k : Int), x] := by
  unfold enumD at h
  rw [List.getElem?_mapIdx] at h
  obtain ⟨x, e1, e2⟩ := Option.map_eq_some_iff.mp h
  exact ⟨x, e1, e2.symm⟩
section
variable {X : Cx} {B : Hp} {M : List Addr} {N : List Str} {ks : List Nat} {gs ns : List Str} {sc : Scope} {Γ Γ1 Γ2 Γ3 : List As} {A A1 A2 A3 : As} {a b c e : Expr} {es elts : List Expr} {pos p tpos : Pos} {ds fs : List PyData} {d : PyData} {kk : Nat} {D : En}
theorem trn_enum {J : It} {ds : List PyData} {vs : List V} {k : Nat} {H : Hp} (rs : Reps H vs ds) (go : ∀ x, vs[k]? = some x → J.go k H) (yl : ∀ v H', J.yld k H v H' → ∃ T x, v = .ref T ∧ H T = none ∧ H' = upd H T (.tup [.int (k : Nat), x]) ∧ vs[k]? = some x) (st : vs.length ≤ k → J.stop k H) : Trn J (enumD ds) k H := by
  refine ⟨fun d e => ?_, fun e => st ?_⟩
  · obtain ⟨x, e1, rfl⟩ := enumD_get e
    obtain ⟨v, e2, r⟩ := rs.get e1
    refine ⟨go v e2, fun w H' y => ?_⟩
    obtain ⟨T, x', rfl, hT, rfl, e3⟩ := yl w H' y
    rw [e2] at e3
    cases e3
    have ex := Ext.new (o := .tup [.int (k : Nat), v]) hT
    exact ⟨ex, .tup upd_same (.cons (.int _) (.cons (r.st ex.stp) .nil))⟩
  · rw [rs.length, e, enumD_length]; exact Nat.le_refl _
theorem I_enumT (F : Fx X N ks gs sc) (nb : Nb X ns) (h : Ee X B M e Γ Γ1 (.imm (.tuple ds))) (g : Nat := gs.idxOf ("enumerate" : Str)) (n : Nat := ns.idxOf ("enumerate" : Str)) (hg : gs[g]? = some ("enumerate" : Str) := by rfl) (hm : ns[n]? = some ("enumerate" : Str) := by rfl) (hs : starEach [e] X.env = (false, eval e X.env) :: starEach [] X.env := by rfl) (hs' : starEach [e] X.env = [(false, eval e X.env)] := by rfl) :
    Ii X B M (.Tuple elts kk tpos) (.Call (.Name "enumerate" p) [e] [] pos) Γ Γ1 [.imm (.tuple ds)] (enumD ds) (fun _ => True) := fun T σ τ H R hl S k => by
  refine WI.of (pi_enumT (F.gl g _ hg) (nb n _ hm) pa_wa hs') (A_one h hs T σ τ H _ hl S fun vs H' hv S' => ?_)
  obtain ⟨v, rfl, S1⟩ := one_arg hv S'
  obtain ⟨r, _⟩ := one_imm S1
  have hτ := len_of hl S
  cases r with
  | @tup a vs _ hh rs =>
    refine ⟨a, vs, rfl, SqT.of hh, k _ [some (.ref a)] H' rfl (len_next hl S S1) (asc S1) fun j Γk σk W ω Hk _ hk Sk => ?_⟩
    obtain ⟨F', q⟩ := mid_at hk Sk hτ.symm
    obtain ⟨v, e, r⟩ := q
    have e : v = .ref a := by simpa using e.symm
    subst e
    cases r with
    | @tup _ vs2 _ h2 r2 =>
      exact trn_enum r2 (fun x e => ⟨vs2, x, SqT.of h2, e⟩) (fun v H' ⟨T, x, e1, e2, e3, e4⟩ => ⟨T, x, e1, e2, e3, e4 vs2 (SqT.of h2)⟩) (fun e => ⟨vs2, SqT.of h2, e⟩)
/-- enumerate(x), x a list in a slot that stays as it is -/
theorem I_enumL {i : Nat} {v : V} (F : Fx X N ks gs sc) (nb : Nb X ns) (h : Ee X B M e Γ Γ1 (.val v)) (hgi : Γ1[i]? = some (.own v (oL ds)) ∨ Γ1[i]? = some (.frz v (oL ds)) := by first | exact Or.inl rfl | exact Or.inr rfl) (g : Nat := gs.idxOf ("enumerate" : Str)) (n : Nat := ns.idxOf ("enumerate" : Str)) (hg : gs[g]? = some ("enumerate" : Str) := by rfl) (hm : ns[n]? = some ("enumerate" : Str) := by rfl)
    (hs : starEach [e] X.env = (false, eval e X.env) :: starEach [] X.env := by rfl) (hs' : starEach [e] X.env = [(false, eval e X.env)] := by rfl) :
    Ii X B M (.Tuple elts kk tpos) (.Call (.Name "enumerate" p) [e] [] pos) Γ Γ1 [] (enumD ds) (fun Γk => Γk[i]? = some (.own v (oL ds)) ∨ Γk[i]? = some (.frz v (oL ds))) := fun T σ τ H R hl S k => by
  refine WI.of (pi_enum (F.gl g _ hg) (nb n _ hm) pa_wa hs') (A_one h hs T σ τ H _ hl S fun vs H' hv S' => ?_)
  obtain ⟨w, rfl, S1⟩ := one_arg hv S'
  obtain ⟨F', e⟩ := S1.last
  have e : w = v := by
    have e' : [some w][0]? = some (some v) := e
    simpa using e'
  subst e
  obtain ⟨l, vs, rfl, h2, h3, S2⟩ := seeL ⟨T, rfl⟩ (Lk.at i hgi) S1
  refine ⟨l, vs, rfl, SqL.of h2, k _ [] H' rfl (len_next hl S S1) (by simpa using S2) fun j Γk σk W ω Hk ok hk Sk => ?_⟩
  rw [List.append_assoc, List.append_assoc σk] at Sk
  obtain ⟨_, _, F2, q1, _⟩ := Sk
  have see : ∃ vs, Hk l = some (.lst vs) ∧ Reps Hk vs ds := by
    rcases ok with q | q
    · obtain ⟨_, l', vs, e, _, h4, h5⟩ := q1 i (.own (.ref l) (oL ds)) (by rw [List.getElem?_append_left (lt_of_get q)]; exact q)
      cases e
      exact ⟨vs, h4, h5⟩
    · obtain ⟨_, l', vs, e, _, h4, h5⟩ := q1 i (.frz (.ref l) (oL ds)) (by rw [List.getElem?_append_left (lt_of_get q)]; exact q)
      cases e
      exact ⟨vs, h4, h5⟩
  obtain ⟨vs2, h4, h5⟩ := see
  exact trn_enum h5 (fun x e => ⟨vs2, x, SqL.of h4, e⟩) (fun v H' ⟨T, x, e1, e2, e3, e4⟩ => ⟨T, x, e1, e2, e3, e4 vs2 (SqL.of h4)⟩) (fun e => ⟨vs2, SqL.of h4, e⟩)

/-! ### an int in a tuple or list of ints -/
theorem inV_ints (i : Int) (ns : List Int) : inV (.int i) (ns.map V.int) = decide (i ∈ ns) := by
  unfold inV
  rw [List.any_map]
  induction ns with
  | nil => rfl
  | cons n ns ih =>
    rw [List.any_cons, ih]
    have e : (eqV (V.int n) (V.int i)) = decide (i = n) := by
      show (n == i) = _
      by_cases h : i = n
      · subst h; simp
      · rw [decide_eq_false h]; simpa using fun e => h e.symm
    show (eqV (V.int n) (V.int i) || _) = _
    rw [e]
    simp
theorem flat_ints (ns : List Int) : (ns.map V.int).all flatV = true := by
  rw [List.all_eq_true]
  intro x hx
  obtain ⟨n, _, rfl⟩ := List.mem_map.mp hx
  rfl
theorem in_core {i : Int} {xs : List Int} {G : List As} {s : List (Option V)} {H : Hp} {x y : V} {neg : Bool} {Q : VK} (hG : ∃ T, G = Γ ++ T) (hA : A = .imm (.tuple (xs.map .int)) ∨ Lk Γ A (oL (xs.map .int))) (S : Sat B M ((G ++ [.imm (.int i)]) ++ [A]) ((s ++ [some x]) ++ [some y]) H)
    (q : ∀ z H', Sat B M (G ++ [.imm (.bool (if neg then !decide (i ∈ xs) else decide (i ∈ xs)))]) (s ++ [some z]) H' → Q z H') : rIn X.K neg x y H Q := by
  rcases hA with rfl | hA
  · obtain ⟨r1, r2, S'⟩ := two_imm S
    cases r1
    cases r2 with
    | @tup a vs _ hh rs =>
      have e := rs.ints
      subst e
      exact ⟨a, _, rfl, .inr (SqT.of hh), rfl, flat_ints _, by rw [inV_ints]; exact q _ _ (S'.imm (.bool _))⟩
  · obtain ⟨l, vs, rfl, hh, rs, S1⟩ := seeL (by obtain ⟨T, rfl⟩ := hG; exact ⟨T ++ [.imm (.int i)], by simp⟩) hA S
    obtain ⟨r1, S'⟩ := one_imm S1
    cases r1
    have e := rs.ints
    subst e
    exact ⟨l, _, rfl, .inl (SqL.of hh), rfl, flat_ints _, by rw [inV_ints]; exact q _ _ (S'.imm (.bool _))⟩
theorem E_in {i : Int} {xs : List Int} (h1 : Ee X B M a Γ Γ1 (.imm (.int i))) (h2 : Ee X B M b Γ1 Γ2 A) (hA : A = .imm (.tuple (xs.map .int)) ∨ Lk Γ2 A (oL (xs.map .int)) := by first | exact Or.inl rfl | exact Or.inr (.at _)) (hm : behindInMarks .In b = false := by rfl) :
    Ee X B M (.Compare a [.In] [b] pos) Γ Γ2 (.imm (.bool (decide (i ∈ xs)))) := op2 (fun _ _ ha hb => pe_cmpR op_in_seq ha hb hm) h1 h2 fun G x' y' s H Q hG S q => in_core (neg := false) hG hA S q
theorem T_in {i : Int} {xs : List Int} (h1 : Ee X B M a Γ Γ1 (.imm (.int i))) (h2 : Ee X B M b Γ1 Γ2 A) (hA : A = .imm (.tuple (xs.map .int)) ∨ Lk Γ2 A (oL (xs.map .int)) := by first | exact Or.inl rfl | exact Or.inr (.at _)) (hm : behindInMarks .In b = false := by rfl) :
    Et X B M (.Compare a [.In] [b] pos) Γ Γ2 (decide (i ∈ xs)) := tst2 op_in_seq hm h1 h2 fun G x' y' s H Q hG S q => in_core (neg := false) hG hA S q
theorem T_notIn {i : Int} {xs : List Int} (h1 : Ee X B M a Γ Γ1 (.imm (.int i))) (h2 : Ee X B M b Γ1 Γ2 A) (hA : A = .imm (.tuple (xs.map .int)) ∨ Lk Γ2 A (oL (xs.map .int)) := by first | exact Or.inl rfl | exact Or.inr (.at _)) (hm : behindInMarks .NotIn b = false := by rfl) :
    Et X B M (.Compare a [.NotIn] [b] pos) Γ Γ2 (!decide (i ∈ xs)) := tst2 op_notIn_seq hm h1 h2 fun G x' y' s H Q hG S q => in_core (neg := true) hG hA S q

/-! ### xs[::-1] -/
theorem E_revL {p1 p2 p3 : Pos} {k : Nat} (h1 : Ee X B M a Γ Γ1 A) (hA : Lk Γ1 A (oL ds)) : Ee X B M (.Subscript a (.Slice none none (some (.UnaryOp .USub (.Constant (.int 1) k p1) p2)) p3) pos) Γ Γ1 (.new (oL ds.reverse)) := fun T σ τ H Q hl S q => by
  refine WE.of (pe_revL pe_we) (h1 T σ τ H _ hl S fun v H' S' => ?_)
  obtain ⟨l, vs, rfl, hh, rs, S2⟩ := seeL ⟨T, rfl⟩ hA S'
  exact ⟨l, vs, rfl, SqL.of hh, fun p hp => q _ _ (newL S2 rs.reverse hp)⟩

/-! ### x[lo:hi] = a new list -/
theorem pg_slice {o lo hi : Expr} {to : TE} {tl th : TO} {p2 : Pos} (ho : PE X o to) (hl : PO X (some lo) tl) (hh : PO X (some hi) th)
    (ha : ∀ v, assign (.Subscript o (.Slice (some lo) (some hi) none p2) pos) X.env v = (do
      let ov ← holding [v] (eval o X.env)
      let iv ← holding [v, ov] (eval (.Slice (some lo) (some hi) none p2) X.env)
      standAt pos
      holding [v, ov, iv] (setItem ov iv v)
      release [iv, v, ov] [])) : PG X (.Subscript o (.Slice (some lo) (some hi) none p2) pos) (fun v σ H Q => to σ H fun x H1 => tl σ H1 fun u H2 => th σ H2 fun w H3 => ∃ (l b : Addr) (xs ys : List V) (i j : Int), x = .ref l ∧ v = .ref b ∧ u = some i ∧ w = some j ∧
        H3 l = some (.lst xs) ∧ H3 b = some (.lst ys) ∧ l ≠ b ∧ 0 ≤ i ∧ i ≤ j ∧ j ≤ xs.length ∧ xs.length + ys.length ≤ sizeLine ∧ Q σ (upd H3 l (.lst (xs.take i.toNat ++ ys ++ xs.drop j.toNat)))) := by
  refine ⟨fun pins s σ H v u Q I r h => ?_⟩
  rw [ha]
  refine wpAny_bind (wpAny_holding (thn (ho.run pins s σ H _ I h) fun ov s1 ⟨x, H1, I1, r1, q1⟩ => ?_))
  refine wpAny_bind (wpAny_holding (wpAny_Slice (thn (hl.run pins s1 σ H1 _ I1 q1) fun vl s2 ⟨u1, H2, I2, pl, q2⟩ => ?_)))
  refine thn (hh.run pins s2 σ H2 _ I2 q2) fun vu s3 ⟨w1, H3, I3, pu, q3⟩ => ?_
  refine thn (po_none.run pins s3 σ H3 (fun o H4 => o = none ∧ H4 = H3) I3 ⟨rfl, rfl⟩) fun vs s4 ⟨o', H4, I4, ps, eo, e4⟩ => ?_
  subst eo e4
  have I5 : L2.Inv X pins σ H4 { s4 with heap := s4.heap.push { cls := .type "slice", data := .fields #[vl, vu, vs] } } := I4.kept (t' := s4.toks) fun b ob q => Heap.get?_push_of_some _ q
  obtain ⟨l, b, xs, ys, i, j, rfl, rfl, rfl, rfl, hL, hB, hne, h0, hij, hj, hz, q⟩ := q3
  cases r1
  cases r
  cases pl
  cases pu
  cases ps
  refine wpAny_bind (wpAny_standAt (wpAny_bind (wpAny_holding ?_)))
  refine set_slice I5 hL hB hne (Heap.IsSliceOf.new _ _ _ _) ⟨_, rfl⟩ ⟨_, rfl⟩ h0 hij hj hz fun s' I' => ?_
  exact wpAny_release ⟨σ, _, I', q⟩
theorem X_asgSl (F : Fx X N ks gs sc) (i : Nat) {x : Str} {v : V} {lo up : Expr} {p0 p2 p3 : Pos} {m j : Nat} (h : Ee X B M e Γ Γ1 (.new (oL fs))) (hlo : Ee X B M lo Γ1 Γ1 (.imm (.int (m : Int)))) (hhi : Ee X B M up Γ1 Γ1 (.imm (.int (j : Int)))) (hmj : m ≤ j) (hj : j ≤ ds.length) (hz : ds.length + fs.length ≤ sizeLine)
    (k : D.nx (Γ1.set i (.own v (oL (ds.take m ++ fs ++ ds.drop j))))) (hg : Γ1[i]? = some (.own v (oL ds)) := by rfl) (hi : N[i]? = some x := by rfl) (hm : visK (ks[i]?) = true := by rfl)
    (hd : (x == ("__debug__" : Str)) = false := by decide) (hcd : (x == ("__classdict__" : Str)) = false := by decide)
    (ha : ∀ v, assign (.Subscript (.Name x p0) (.Slice (some lo) (some up) none p2) p3) X.env v = (do
      let ov ← holding [v] (eval (.Name x p0) X.env)
      let iv ← holding [v, ov] (eval (.Slice (some lo) (some up) none p2) X.env)
      standAt p3
      holding [v, ov, iv] (setItem ov iv v)
      release [iv, v, ov] []) := by intro _; rfl)
    (hs : swapsWithSole [.Subscript (.Name x p0) (.Slice (some lo) (some up) none p2) p3] e pos.line X.env = pure false := by rfl) (hw : swappedStores [.Subscript (.Name x p0) (.Slice (some lo) (some up) none p2) p3] e X.env = pure none := by rfl)
    (h1 : (assignEach [.Subscript (.Name x p0) (.Slice (some lo) (some up) none p2) p3] X.env).map (·.2) = [assign (.Subscript (.Name x p0) (.Slice (some lo) (some up) none p2) p3) X.env] := by rfl) :
    Sx X B M (.Assign [.Subscript (.Name x p0) (.Slice (some lo) (some up) none p2) p3] e pos) Γ D := fun T σ τ H hl S => by
  obtain ⟨t1, pp1, g1⟩ := po_go (Po.some hlo)
  obtain ⟨t2, pp2, g2⟩ := po_go (Po.some hhi)
  refine WS.of (ps_asg pe_we (pg_slice pe_we pp1 pp2 ha) hs hw h1) (h T σ τ H _ hl S fun w H' S' => ?_)
  have hl1 := len_next hl S S'
  refine E_ref (v := v) F i (.inl ⟨_, hg⟩) hi hm hd hcd (T ++ [.new (oL fs)]) σ (τ ++ [some w]) H' _ hl1 (asc S') fun o H1 S1 => ?_
  have e1 : o = v := by
    obtain ⟨F', e⟩ := S1.last
    have e' : [some o][0]? = some (some v) := e
    simpa using e'
  subst e1
  have S1' := S1.pop
  refine g1 (T ++ [.new (oL fs)]) σ (τ ++ [some w]) H1 _ hl1 S1' fun H2 S2 => ?_
  refine g2 (T ++ [.new (oL fs)]) σ (τ ++ [some w]) H2 _ hl1 S2 fun H3 S3 => ?_
  rw [← List.append_assoc, ← List.append_assoc] at S3
  obtain ⟨l, vs, rfl, hh, rs, mu⟩ := meth_mut (Al := []) S3.pop hg
  -- the new list is another one
  obtain ⟨b, ys, ew, hb, rb, hne⟩ : ∃ b ys, w = .ref b ∧ H3 b = some (.lst ys) ∧ Reps H3 ys fs ∧ l ≠ b := by
    obtain ⟨hlen, _, F', q1, q2⟩ := S3
    have gi : ((Γ1 ++ T) ++ [As.new (oL fs)])[i]? = some (.own (.ref l) (oL ds)) := by
      rw [List.append_assoc, List.getElem?_append_left (lt_of_get hg)]; exact hg
    have gj : ((Γ1 ++ T) ++ [As.new (oL fs)])[(Γ1 ++ T).length]? = some (.new (oL fs)) := by simp
    obtain ⟨_, l', vs', e1, e2, _, _⟩ := q1 i _ gi
    obtain ⟨w', ew, b, ys, e3, e4, hb, rb⟩ := q1 _ _ gj
    have hst : (σ ++ τ).length = (Γ1 ++ T).length := by
      simp at hlen ⊢
      omega
    have ew' : w' = w := by
      rw [← hst] at ew
      simpa using ew.symm
    subst ew'
    cases e1
    subst e3
    refine ⟨b, ys, rfl, hb, rb, fun z => ?_⟩
    subst z
    refine (q2 i _ gi rfl).2 _ _ (by have := lt_of_get hg; simp; omega) gj rfl l (by rw [e2]; simp) (by rw [e4]; simp)
  subst ew
  refine ⟨l, b, vs, ys, (m : Int), (j : Int), rfl, rfl, rfl, rfl, hh, hb, hne, by omega, by omega, by rw [rs.length]; omega, by rw [rs.length, rb.length]; exact hz, ?_⟩
  exact ⟨_, k, by simp [hl1], mu _ _ (((rs.take m).append rb).append (rs.drop j))⟩

/-! ### a pair of places -/
def isSub : Expr → Bool
  | .Subscript .. => true
  | _ => false
theorem sw_sub {env : Env} {x y value : Expr} {pt : Pos} {kt : Nat} (hx : isSub x = true) (hy : isSub y = true) : swappedStores [.Tuple [x, y] kt pt] value env = pure none := by
  cases x <;> first | (cases hx; done) | skip
  cases y <;> first | (cases hy; done) | skip
  unfold swappedStores
  cases value <;> first | rfl | skip
  dsimp only
  split
  · rfl
  · split
    · rfl
    · rfl
/-- (x[i], y[j]) = an immutable pair -/
theorem X_asgS {x y : Expr} {pt : Pos} {kt : Nat} {d : PyData} {L : List Nat} (h : Ee X B M e Γ Γ1 (.imm d)) (g : Tg X B M (.Tuple [x, y] kt pt) Γ1 d Γ2 L) (k : D.nx Γ2) (hx : isSub x = true := by rfl) (hy : isSub y = true := by rfl) (hs : swapsWithSole [.Tuple [x, y] kt pt] e pos.line X.env = pure false := by rfl)
    (h1 : (assignEach [.Tuple [x, y] kt pt] X.env).map (·.2) = [assign (.Tuple [x, y] kt pt) X.env] := by rfl) : Sx X B M (.Assign [.Tuple [x, y] kt pt] e pos) Γ D := X_asgT h g k hs (sw_sub hx hy) h1
end
end PL

/-! PL11: objects split and joined; the law's own source of numbers; ranges downward. -/
namespace PL
open PySem PySem.Spec PyProof.Rows L2

section
variable {X : Cx} {B : Hp} {M : List Addr} {N : List Str} {ks : List Nat} {gs ns : List Str} {sc : Scope} {Γ Γ1 Γ2 Γ3 : List As} {A A1 A2 A3 : As} {a b c e : Expr} {es elts : List Expr} {pos p tpos : Pos} {ds fs : List PyData} {d : PyData} {kk : Nat} {D : En} {σ : List (Option V)} {H : Hp} {sts : List Stmt}

/-! ### an object in two, two in one -/
theorem set2_get {i j k : Nat} {A1 A2 A : As} (li : i < Γ.length) (lj : j < Γ.length) (h : ((Γ.set i A1).set j A2)[k]? = some A) : (k = j ∧ A = A2) ∨ (k ≠ j ∧ k = i ∧ A = A1) ∨ (k ≠ j ∧ k ≠ i ∧ Γ[k]? = some A) := by
  by_cases hj : k = j
  · subst hj
    rw [List.getElem?_set_self (by simpa using lj)] at h
    exact .inl ⟨rfl, (Option.some.inj h).symm⟩
  · rw [List.getElem?_set_ne (Ne.symm hj)] at h
    by_cases hi : k = i
    · subst hi
      rw [List.getElem?_set_self li] at h
      exact .inr (.inl ⟨hj, rfl, (Option.some.inj h).symm⟩)
    · rw [List.getElem?_set_ne (Ne.symm hi)] at h
      exact .inr (.inr ⟨hj, hi, h⟩)
theorem Sat.split {i j : Nat} {v u : V} {o o1 o2 : Ow} (S : Sat B M Γ σ H) (hi : Γ[i]? = some (.own v o)) (hj : Γ[j]? = some (.val u)) (ho : ∀ F, o.p H v F → ∃ F1 F2, o1.p H v F1 ∧ o2.p H u F2 ∧ (∀ a ∈ F1, a ∈ F) ∧ (∀ a ∈ F2, a ∈ F) ∧ ∀ a ∈ F1, a ∉ F2) :
    Sat B M ((Γ.set i (.own v o1)).set j (.own u o2)) σ H := by
  obtain ⟨hl, hk, F, h1, h2⟩ := S
  have li := lt_of_get hi
  have lj := lt_of_get hj
  have hne : i ≠ j := fun e => by subst e; rw [hi] at hj; cases hj
  obtain ⟨hv, hp⟩ := h1 i _ hi
  have hu : σ[j]? = some (some u) := h1 j _ hj
  obtain ⟨F1, F2, p1, p2, s1, s2, dj⟩ := ho _ hp
  have own := h2 i _ hi rfl
  have oth : ∀ {k A'}, k ≠ i → Γ[k]? = some A' → A'.has = true → ∀ a ∈ F k, a ∉ F i := fun {k A'} hk q hA a ha z => own.2 k A' hk q hA a z ha
  refine ⟨by simp [hl], hk, fun k => if k = j then F2 else if k = i then F1 else F k, fun k A' q => ?_, fun k A' q hA => ?_⟩ <;> dsimp only
  · rcases set2_get li lj q with ⟨rfl, rfl⟩ | ⟨n1, rfl, rfl⟩ | ⟨n1, n2, q⟩
    · rw [if_pos rfl]; exact ⟨hu, p2⟩
    · rw [if_neg n1, if_pos rfl]; exact ⟨hv, p1⟩
    · rw [if_neg n1, if_neg n2]; exact h1 k A' q
  · rcases set2_get li lj q with ⟨rfl, rfl⟩ | ⟨n1, rfl, rfl⟩ | ⟨n1, n2, q⟩
    · rw [if_pos rfl]
      refine ⟨fun a ha => own.1 a (s2 a ha), fun m A2 hm q2 hA2 a ha => ?_⟩
      rcases set2_get li lj q2 with ⟨rfl, rfl⟩ | ⟨m1, rfl, rfl⟩ | ⟨m1, m2, q2⟩
      · exact absurd rfl hm
      · rw [if_neg m1, if_pos rfl]; exact fun z => dj a z ha
      · rw [if_neg m1, if_neg m2]; exact fun z => oth m2 q2 hA2 a z (s2 a ha)
    · rw [if_neg n1, if_pos rfl]
      refine ⟨fun a ha => own.1 a (s1 a ha), fun m A2 hm q2 hA2 a ha => ?_⟩
      rcases set2_get li lj q2 with ⟨rfl, rfl⟩ | ⟨m1, rfl, rfl⟩ | ⟨m1, m2, q2⟩
      · rw [if_pos rfl]; exact dj a ha
      · exact absurd rfl hm
      · rw [if_neg m1, if_neg m2]; exact fun z => oth m2 q2 hA2 a z (s1 a ha)
    · rw [if_neg n1, if_neg n2]
      have q9 := q
      clear q
      refine ⟨(h2 k A' q9 hA).1, fun m A2 hm q2 hA2 a ha => ?_⟩
      rcases set2_get li lj q2 with ⟨e1, e2⟩ | ⟨m1, e1, e2⟩ | ⟨m1, m2, q2⟩
      · rw [if_pos e1]; exact fun z => oth n2 q9 (As.has_of hA) a ha (s2 a z)
      · rw [if_neg m1, if_pos e1]; exact fun z => oth n2 q9 (As.has_of hA) a ha (s1 a z)
      · rw [if_neg m1, if_neg m2]; exact (h2 k A' q9 hA).2 m A2 hm q2 hA2 a ha
theorem Sat.join {i j : Nat} {v u : V} {o o1 o2 : Ow} (S : Sat B M Γ σ H) (hi : Γ[i]? = some (.own v o1)) (hj : Γ[j]? = some (.own u o2)) (hne : i ≠ j) (ho : ∀ F1 F2, o1.p H v F1 → o2.p H u F2 → (∀ a ∈ F1, a ∉ F2) → ∃ F, o.p H v F ∧ ∀ a ∈ F, a ∈ F1 ∨ a ∈ F2) :
    Sat B M ((Γ.set i (.own v o)).set j .any) σ H := by
  obtain ⟨hl, hk, F, h1, h2⟩ := S
  have li := lt_of_get hi
  have lj := lt_of_get hj
  obtain ⟨hv, hp1⟩ := h1 i _ hi
  obtain ⟨hu, hp2⟩ := h1 j _ hj
  have own1 := h2 i _ hi rfl
  have own2 := h2 j _ hj rfl
  obtain ⟨F0, p0, s0⟩ := ho _ _ hp1 hp2 (own1.2 j _ (Ne.symm hne) hj rfl)
  refine ⟨by simp [hl], hk, fun k => if k = i then F0 else F k, fun k A' q => ?_, fun k A' q hA => ?_⟩ <;> dsimp only
  · rcases set2_get li lj q with ⟨rfl, rfl⟩ | ⟨n1, rfl, rfl⟩ | ⟨n1, n2, q⟩
    · trivial
    · rw [if_pos rfl]; exact ⟨hv, p0⟩
    · rw [if_neg n2]; exact h1 k A' q
  · rcases set2_get li lj q with ⟨rfl, rfl⟩ | ⟨n1, rfl, rfl⟩ | ⟨n1, n2, q⟩
    · cases hA
    · rw [if_pos rfl]
      refine ⟨fun a ha => ?_, fun m A2 hm q2 hA2 a ha => ?_⟩
      · rcases s0 a ha with z | z
        · exact own1.1 a z
        · exact own2.1 a z
      · rcases set2_get li lj q2 with ⟨rfl, rfl⟩ | ⟨m1, rfl, rfl⟩ | ⟨m1, m2, q2⟩
        · cases hA2
        · exact absurd rfl hm
        · rw [if_neg m2]
          rcases s0 a ha with z | z
          · exact own1.2 m A2 m2 q2 hA2 a z
          · exact own2.2 m A2 m1 q2 hA2 a z
    · rw [if_neg n2]
      have q9 := q
      clear q
      refine ⟨(h2 k A' q9 hA).1, fun m A2 hm q2 hA2 a ha => ?_⟩
      rcases set2_get li lj q2 with ⟨e1, e2⟩ | ⟨m1, e1, e2⟩ | ⟨m1, m2, q2⟩
      · rw [e2] at hA2; cases hA2
      · rw [if_pos e1]
        intro z
        rcases s0 a z with z | z
        · exact own1.2 k A' n2 q9 (As.has_of hA) a z ha
        · exact own2.2 k A' n1 q9 (As.has_of hA) a z ha
      · rw [if_neg m2]; exact (h2 k A' q9 hA).2 m A2 hm q2 hA2 a ha
theorem set2_app {T : List As} {i j : Nat} {A1 A2 : As} (li : i < Γ.length) (lj : j < Γ.length) : ((Γ ++ T).set i A1).set j A2 = (Γ.set i A1).set j A2 ++ T := by
  rw [List.set_append_left _ _ li, List.set_append_left _ _ (by simpa using lj)]
theorem S_split (i j : Nat) {v u : V} {o o1 o2 : Ow} (hi : Γ[i]? = some (.own v o)) (hj : Γ[j]? = some (.val u)) (ho : ∀ H F, o.p H v F → ∃ F1 F2, o1.p H v F1 ∧ o2.p H u F2 ∧ (∀ a ∈ F1, a ∈ F) ∧ (∀ a ∈ F2, a ∈ F) ∧ ∀ a ∈ F1, a ∉ F2)
    (h : Ss X B M sts ((Γ.set i (.own v o1)).set j (.own u o2)) D) : Ss X B M sts Γ D := fun T σ τ H hl S => by
  have li := lt_of_get hi
  have lj := lt_of_get hj
  refine h T σ τ H (by simp [hl]) ?_
  have q := S.split (by rw [List.getElem?_append_left li]; exact hi) (by rw [List.getElem?_append_left lj]; exact hj) (ho H)
  rwa [set2_app li lj] at q
theorem S_join (i j : Nat) {v u : V} {o o1 o2 : Ow} (hi : Γ[i]? = some (.own v o1)) (hj : Γ[j]? = some (.own u o2)) (hne : i ≠ j) (ho : ∀ H F1 F2, o1.p H v F1 → o2.p H u F2 → (∀ a ∈ F1, a ∉ F2) → ∃ F, o.p H v F ∧ ∀ a ∈ F, a ∈ F1 ∨ a ∈ F2)
    (h : Ss X B M sts ((Γ.set i (.own v o)).set j .any) D) : Ss X B M sts Γ D := fun T σ τ H hl S => by
  have li := lt_of_get hi
  have lj := lt_of_get hj
  refine h T σ τ H (by simp [hl]) ?_
  have q := S.join (by rw [List.getElem?_append_left li]; exact hi) (by rw [List.getElem?_append_left lj]; exact hj) hne (ho H)
  rwa [set2_app li lj] at q
/-- an owned object is known more nearly -/
theorem S_known (i : Nat) {v : V} {o : Ow} {α : Type} {os : α → Ow} (hi : Γ[i]? = some (.own v o)) (ho : ∀ H F, o.p H v F → ∃ x, (os x).p H v F) (h : ∀ x, Ss X B M sts (Γ.set i (.own v (os x))) D) : Ss X B M sts Γ D := fun T σ τ H hl S => by
  have li := lt_of_get hi
  have gi : (Γ ++ T)[i]? = some (.own v o) := by rw [List.getElem?_append_left li]; exact hi
  obtain ⟨hv, F, hp, k⟩ := S.mut gi
  obtain ⟨x, hx⟩ := ho H F hp
  refine h x T σ τ H (by simp [hl]) ?_
  have q := k (os x) F H (fun a u e _ => e) hx fun a ha => .inl ha
  rwa [List.set_append_left _ _ li] at q

/-! ### the source of numbers -/
structure Src where
  cells : List Int
  left : Int
  mixed : Int
  turn : Int
def kvS (c : Addr) (l m t : Int) : List (Key × V) := [(.inr "cells", .ref c), (.inr "left", .int l), (.inr "mixed", .int m), (.inr "turn", .int t)]
/-- cells: the next one first -/
def oSrcC (c : Addr) (s : Src) : Ow where
  p := fun H v F => ∃ l, v = .ref l ∧ F = [l, c] ∧ l ≠ c ∧ H l = some (.dK (kvS c s.left s.mixed s.turn)) ∧ H c = some (.lst (s.cells.reverse.map V.int))
  st := fun {H H' v F} st k h => by
    obtain ⟨l, rfl, rfl, hne, h1, h2⟩ := h
    exact ⟨l, rfl, rfl, hne, (k l (by simp)).trans h1, (k c (by simp)).trans h2⟩
  mu := fun {H v F} h a ha => by
    obtain ⟨l, rfl, rfl, hne, h1, h2⟩ := h
    have : a = l ∨ a = c := by simpa using ha
    rcases this with rfl | rfl
    · rw [h1]; trivial
    · rw [h2]; trivial
def oSrc (s : Src) : Ow where
  p := fun H v F => ∃ c, (oSrcC c s).p H v F
  st := fun {H H' v F} st k h => by
    obtain ⟨c, h⟩ := h
    exact ⟨c, (oSrcC c s).st st k h⟩
  mu := fun {H v F} h => by
    obtain ⟨c, h⟩ := h
    exact (oSrcC c s).mu h
/-- the dict alone -/
def oSd (c : Addr) (l m t : Int) : Ow where
  p := fun H v F => ∃ a, v = .ref a ∧ F = [a] ∧ H a = some (.dK (kvS c l m t))
  st := fun {H H' v F} st k h => by
    obtain ⟨a, rfl, rfl, h1⟩ := h
    exact ⟨a, rfl, rfl, (k a (by simp)).trans h1⟩
  mu := fun {H v F} h a ha => by
    obtain ⟨l, rfl, rfl, h1⟩ := h
    have : a = l := by simpa using ha
    subst this
    rw [h1]; trivial
theorem oSrc_split {c : Addr} {s : Src} {v : V} : ∀ H F, (oSrcC c s).p H v F → ∃ F1 F2, (oSd c s.left s.mixed s.turn).p H v F1 ∧ (oL (s.cells.reverse.map .int)).p H (.ref c) F2 ∧ (∀ a ∈ F1, a ∈ F) ∧ (∀ a ∈ F2, a ∈ F) ∧ ∀ a ∈ F1, a ∉ F2 := by
  rintro H F ⟨l, rfl, rfl, hne, h1, h2⟩
  exact ⟨[l], [c], ⟨l, rfl, rfl, h1⟩, ⟨c, _, rfl, rfl, h2, Reps.of_ints _⟩, by simp, by simp, by simpa using hne⟩
theorem oSrc_join {c : Addr} {l m t : Int} {ns : List Int} {v : V} : ∀ H F1 F2, (oSd c l m t).p H v F1 → (oL (ns.map .int)).p H (.ref c) F2 → (∀ a ∈ F1, a ∉ F2) → ∃ F, (oSrc ⟨ns.reverse, l, m, t⟩).p H v F ∧ ∀ a ∈ F, a ∈ F1 ∨ a ∈ F2 := by
  rintro H F1 F2 ⟨a, rfl, rfl, h1⟩ ⟨b, vs, eb, rfl, h2, r⟩ hd
  cases eb
  have e := r.ints
  subst e
  refine ⟨[a, c], ⟨c, a, rfl, rfl, by simpa using hd, h1, by rw [List.reverse_reverse]; exact h2⟩, ?_⟩
  intro x hx
  simpa using hx
/-- d[key] of a dict in a slot -/
theorem E_dgetC {i : Nat} {v : V} {o : Ow} {x key : Str} {p1 p2 : Pos} {kc : Nat} (F : Fx X N ks gs sc) (hg : Γ[i]? = some (.own v o) ∨ Γ[i]? = some (.frz v o)) (ho : ∀ H F, o.p H v F → ∃ a kvs w, v = .ref a ∧ H a = some (.dK kvs) ∧ valV kvs (.inr key) = some w ∧ ∀ G s, Sat B M G s H → Sat B M (G ++ [A]) (s ++ [some w]) H)
    (hi : N[i]? = some x := by rfl) (hm : visK (ks[i]?) = true := by rfl) (hd : (x == ("__debug__" : Str)) = false := by decide) (hcd : (x == ("__classdict__" : Str)) = false := by decide) : Ee X B M (.Subscript (.Name x p1) (.Constant (.str key) kc p2) pos) Γ Γ A := fun T σ τ H Q hl S q => by
  refine WE.of (pe_dget (by have := F.rm.units; omega) pe_we pe_we (fun _ _ => rfl)) ?_
  refine E_ref (v := v) F i (by rcases hg with h | h; exact .inl ⟨_, h⟩; exact .inr (.inl ⟨_, h⟩)) hi hm hd hcd T σ τ H _ hl S fun w H1 S1 => ?_
  have hl1 := len_next hl S S1
  have e1 : w = v := by
    obtain ⟨F', e⟩ := S1.last
    have e' : [some w][0]? = some (some v) := e
    simpa using e'
  subst e1
  refine E_str (T ++ [.val w]) σ (τ ++ [some w]) H1 _ hl1 (asc S1) fun y H2 S2 => ?_
  obtain ⟨r2, S3⟩ := one_imm S2
  cases r2
  rw [← List.append_assoc, ← List.append_assoc] at S3
  have S4 := S3.pop
  have hp : ∃ F, o.p H2 w F := by
    obtain ⟨_, _, F2, q1, _⟩ := S4
    rcases hg with h | h
    · exact ⟨_, (q1 i (.own w o) (by rw [List.getElem?_append_left (lt_of_get h)]; exact h)).2⟩
    · exact ⟨_, (q1 i (.frz w o) (by rw [List.getElem?_append_left (lt_of_get h)]; exact h)).2⟩
  obtain ⟨F3, hp⟩ := hp
  obtain ⟨a, kvs, u, rfl, ha, hv, k⟩ := ho H2 F3 hp
  exact ⟨a, u, rfl, by rw [← hv]; exact DGet.k (k := .inr key) ha, q _ _ (k _ _ S4)⟩
/-- d[key] = an int, of the source's dict -/
theorem X_sdPut {i : Nat} {v : V} {c0 : Addr} {l m t l' m' t' z : Int} {x key : Str} {p1 p2 p3 : Pos} {kc : Nat} (F : Fx X N ks gs sc) (h : Ee X B M e Γ Γ1 (.imm (.int z))) (k : D.nx (Γ1.set i (.own v (oSd c0 l' m' t'))))
    (hp : putK (kvS c0 l m t) (.inr key) (.int z) = kvS c0 l' m' t') (hg : Γ1[i]? = some (.own v (oSd c0 l m t)) := by rfl) (hi : N[i]? = some x := by rfl) (hm : visK (ks[i]?) = true := by rfl) (hd : (x == ("__debug__" : Str)) = false := by decide) (hcd : (x == ("__classdict__" : Str)) = false := by decide)
    (hs : swapsWith e (some (.Subscript (.Name x p1) (.Constant (.str key) kc p2) p3)) pos.line X.env = pure false := by rfl) : Sx X B M (.Assign [.Subscript (.Name x p1) (.Constant (.str key) kc p2) p3] e pos) Γ D := fun T σ τ H hl S => by
  refine WS.of (ps_dput (by have := F.rm.units; omega) pe_we pe_we pe_we hs) (h T σ τ H _ hl S fun w H' S' => ?_)
  have hl1 := len_next hl S S'
  obtain ⟨r0, S0⟩ := one_imm S'
  cases r0
  refine E_ref (v := v) F i (.inl ⟨_, hg⟩) hi hm hd hcd T σ τ H' _ hl1 S0 fun w H1 S1 => ?_
  have hl2 := len_next hl1 S0 S1
  have e1 : w = v := by
    obtain ⟨F', e⟩ := S1.last
    have e' : [some w][0]? = some (some v) := e
    simpa using e'
  subst e1
  refine E_str (T ++ [.val w]) σ (τ ++ [some w]) H1 _ hl2 (asc S1) fun y H2 S2 => ?_
  obtain ⟨r2, S3⟩ := one_imm S2
  cases r2
  rw [← List.append_assoc, ← List.append_assoc] at S3
  have S4 := S3.pop
  obtain ⟨hv, F3, ⟨a, rfl, rfl, ha⟩, mu⟩ := S4.mut (i := i) (v := w) (o := oSd c0 l m t) (by rw [List.getElem?_append_left (lt_of_get hg)]; exact hg)
  refine ⟨a, _, rfl, DPut.k (k := .inr key) ha (show 4 < sizeLine by decide), ?_⟩
  refine ⟨_, k, by simp [hl1], ?_⟩
  rw [hp]
  have q := mu (oSd c0 l' m' t') [a] (upd H2 a (.dK (kvS c0 l' m' t'))) (fun b u e hb => ?_) ⟨a, rfl, rfl, upd_same⟩ fun b hb => .inl hb
  · rwa [List.set_append_left _ _ (lt_of_get hg)] at q
  · have : b ≠ a := fun z => hb (by simp [z])
    rw [upd_ne this]; exact e
end
end PL

/-! PL12: comprehensions in packs, ranges. -/
namespace PL
open PySem PySem.Spec PyProof.Rows L2

section
variable {X : Cx} {B : Hp} {M : List Addr} {N : List Str} {ks : List Nat} {gs ns : List Str} {sc : Scope} {Γ Γ1 Γ2 Γ3 Tn : List As} {A A1 A2 A3 : As} {a b c e elt tg iter : Expr} {es elts ifs : List Expr} {pos p tpos : Pos} {ds fs out : List PyData} {d : PyData} {kk : Nat} {D : En} {σ : List (Option V)} {H : Hp} {sts : List Stmt} {scope : Scope} {own : List (Str × Nat)} {Ok : List As → Prop}

/-- what a comprehension comes to -/
def LcOk (X : Cx) (B : Hp) (M : List Addr) (elt tg iter : Expr) (ifs : List Expr) (scope : Scope) (own : List (Str × Nat)) (Γ Γ2 : List As) (out : List PyData) : Prop :=
  ∃ (Γ1 Tn : List As) (ds : List PyData) (Ok : List As → Prop) (I : Nat → List As → List PyData → Prop), Ii X B M tg iter Γ Γ1 Tn ds Ok ∧ I 0 (anyAt Γ1 (own.map (·.2))) [] ∧ (∀ k Γk acc, I k Γk acc → Ok Γk ∧ acc.length < sizeLine) ∧
    (∀ k d Γk acc, ds[k]? = some d → I k Γk acc → ∃ Γ' Γ'' Γ3 t y L, (∀ X', Bk X X' scope → Tg X' B M tg Γk d Γ' L ∧ Ets X' B M ifs Γ' Γ'' t ∧ (t = true → Ee X' B M elt Γ'' Γ3 (.imm y))) ∧ (∀ i ∈ L, i ∈ own.map (·.2)) ∧
      (t = true → I (k + 1) (anyAt Γ3 (own.map (·.2))) (acc ++ [y])) ∧ (t = false → I (k + 1) (anyAt Γ'' (own.map (·.2))) acc)) ∧ (∀ Γk acc, I ds.length Γk acc → Γk = Γ2 ∧ acc = out)
theorem E_lcO (F : Fx X N ks gs sc) (hb : blkC N sc scope own = true) (h : LcOk X B M elt tg iter ifs scope own Γ Γ2 out) (hs : ∀ x, foldedSetIterable iter X.env x = pure x := by intro _; rfl) : Ee X B M (.ListComp elt [⟨tg, iter, ifs, 0⟩] scope pos) Γ Γ2 (.new (oL out)) := by
  obtain ⟨Γ1, Tn, ds, Ok, I, hi, h0, hok, step, done⟩ := h
  exact E_lc F hb hi h0 hok step done hs
theorem X_lcO (F : Fx X N ks gs sc) (j : Nat) {y : Str} {py spos : Pos} (hb : blkC N sc scope own = true) (h : LcOk X B M elt tg iter ifs scope own Γ Γ2 out) (k : ∀ v, D.nx (Γ2.set j (.own v (oL out)))) (hj : N[j]? = some y := by rfl) (hm : (ks[j]? == some 1) = true := by rfl) (hlen : decide (j < Γ2.length) = true := by rfl)
    (hln : (py.line == pos.line) = true := by rfl) (ha : (scope.names.any fun (n, k) => n == y && (k == .local || k == .cell)) = false := by decide) (hs : ∀ x, foldedSetIterable iter X.env x = pure x := by intro _; rfl) :
    Sx X B M (.Assign [.Name y py] (.ListComp elt [⟨tg, iter, ifs, 0⟩] scope pos) spos) Γ D := by
  obtain ⟨Γ1, Tn, ds, Ok, I, hi, h0, hok, step, done⟩ := h
  exact X_asgLc F j hb hi h0 hok step done k hj hm hlen hln ha hs
/-- the state runs through a list; what is asked may leave a thing out -/
def runSt {β α γ : Type} (g : β → α → β) (c : β → α → Bool) (f : β → α → γ) : β → List α → β × List γ
  | b, [] => (b, [])
  | b, x :: xs => ((runSt g c f (g b x) xs).1, if c b x then f b x :: (runSt g c f (g b x) xs).2 else (runSt g c f (g b x) xs).2)
theorem runSt_snoc {β α γ : Type} (g : β → α → β) (c : β → α → Bool) (f : β → α → γ) : ∀ (xs : List α) (b : β) (x : α), runSt g c f b (xs ++ [x]) = (g (runSt g c f b xs).1 x, (runSt g c f b xs).2 ++ (if c (runSt g c f b xs).1 x then [f (runSt g c f b xs).1 x] else []))
  | [], b, x => rfl
  | y :: xs, b, x => by
    have ih := runSt_snoc g c f xs (g b y) x
    rw [List.cons_append]
    show ((runSt g c f (g b y) (xs ++ [x])).1, if c b y then f b y :: (runSt g c f (g b y) (xs ++ [x])).2 else (runSt g c f (g b y) (xs ++ [x])).2) = _
    rw [ih]
    show _ = (g (runSt g c f (g b y) xs).1 x, (if c b y then f b y :: (runSt g c f (g b y) xs).2 else (runSt g c f (g b y) xs).2) ++ (if c (runSt g c f (g b y) xs).1 x then [f (runSt g c f (g b y) xs).1 x] else []))
    cases c b y <;> rfl
theorem runSt_le {β α γ : Type} (g : β → α → β) (c : β → α → Bool) (f : β → α → γ) : ∀ (xs : List α) (b : β), (runSt g c f b xs).2.length ≤ xs.length
  | [], _ => Nat.le_refl _
  | x :: xs, b => by
    have ih := runSt_le g c f xs (g b x)
    simp only [runSt]
    split <;> simp <;> omega
theorem take_succ_of {α : Type} {xs : List α} {k : Nat} {x : α} (e : xs[k]? = some x) : xs.take (k + 1) = xs.take k ++ [x] := by
  rw [List.take_add_one, e]; rfl
theorem LcOk.go {α β : Type} {xs : List α} {enc : α → PyData} {G : β → List As} (b0 : β) (g : β → α → β) (cnd : β → α → Bool) (f : β → α → PyData) (hi : Ii X B M tg iter Γ Γ1 Tn (xs.map enc) Ok) (h0 : anyAt Γ1 (own.map (·.2)) = G b0) (hok : ∀ b, Ok (G b)) (hz : xs.length < sizeLine)
    (step : ∀ pre x post, xs = pre ++ x :: post → ∃ Γ' Γ'' Γ3 L, (∀ X', Bk X X' scope → Tg X' B M tg (G (runSt g cnd f b0 pre).1) (enc x) Γ' L ∧ Ets X' B M ifs Γ' Γ'' (cnd (runSt g cnd f b0 pre).1 x) ∧ (cnd (runSt g cnd f b0 pre).1 x = true → Ee X' B M elt Γ'' Γ3 (.imm (f (runSt g cnd f b0 pre).1 x)))) ∧
      (∀ i ∈ L, i ∈ own.map (·.2)) ∧ (cnd (runSt g cnd f b0 pre).1 x = true → anyAt Γ3 (own.map (·.2)) = G (g (runSt g cnd f b0 pre).1 x)) ∧ (cnd (runSt g cnd f b0 pre).1 x = false → anyAt Γ'' (own.map (·.2)) = G (g (runSt g cnd f b0 pre).1 x))) :
    LcOk X B M elt tg iter ifs scope own Γ (G (runSt g cnd f b0 xs).1) (runSt g cnd f b0 xs).2 := by
  refine ⟨Γ1, Tn, _, Ok, fun k Γk acc => Γk = G (runSt g cnd f b0 (xs.take k)).1 ∧ acc = (runSt g cnd f b0 (xs.take k)).2, hi, ⟨by rw [List.take_zero]; exact h0, by rw [List.take_zero]; rfl⟩, ?_, ?_, ?_⟩
  · rintro k Γk acc ⟨rfl, rfl⟩
    refine ⟨hok _, Nat.lt_of_le_of_lt (runSt_le _ _ _ _ _) (Nat.lt_of_le_of_lt ?_ hz)⟩
    rw [List.length_take]
    exact Nat.min_le_right _ _
  · rintro k d Γk acc e ⟨rfl, rfl⟩
    rw [List.getElem?_map] at e
    obtain ⟨x, e1, rfl⟩ := Option.map_eq_some_iff.mp e
    have hk := lt_of_get e1
    have ex : xs = xs.take k ++ x :: xs.drop (k + 1) := by
      have q : xs[k] = x := by rw [List.getElem?_eq_getElem hk] at e1; exact Option.some.inj e1
      rw [← q, ← List.drop_eq_getElem_cons hk, List.take_append_drop]
    obtain ⟨Γ', Γ'', Γ3, L, h1, h2, h3, h4⟩ := step _ x _ ex
    refine ⟨Γ', Γ'', Γ3, _, _, L, h1, h2, fun t => ?_, fun t => ?_⟩
    · dsimp only
      rw [take_succ_of e1, runSt_snoc]
      exact ⟨h3 t, by rw [if_pos t]⟩
    · dsimp only
      rw [take_succ_of e1, runSt_snoc]
      refine ⟨h4 t, ?_⟩
      rw [t]; simp
  · rintro Γk acc ⟨rfl, rfl⟩
    rw [List.length_map, List.take_length]
    exact ⟨rfl, rfl⟩
theorem runSt_map {α γ : Type} (f : α → γ) : ∀ xs : List α, (runSt (fun (_ : Unit) _ => ()) (fun _ _ => true) (fun _ x => f x) () xs).2 = xs.map f
  | [] => rfl
  | x :: xs => by
    have ih := runSt_map f xs
    simp only [runSt, if_true, List.map_cons, ih]
theorem runSt_filt {α γ : Type} (cnd : α → Bool) (f : α → γ) : ∀ xs : List α, (runSt (fun (_ : Unit) _ => ()) (fun _ x => cnd x) (fun _ x => f x) () xs).2 = (xs.filter cnd).map f
  | [] => rfl
  | x :: xs => by
    have ih := runSt_filt cnd f xs
    simp only [runSt, List.filter_cons, ih]
    split <;> simp
/-- [f x for x in xs], the state as it was -/
theorem LcOk.map {α : Type} {xs : List α} {enc : α → PyData} (f : α → PyData) {G : List As} (hi : Ii X B M tg iter Γ Γ1 Tn (xs.map enc) Ok) (hG : anyAt Γ1 (own.map (·.2)) = G) (hok : Ok G) (hz : xs.length < sizeLine)
    (step : ∀ x ∈ xs, ∃ Γ' Γ3 L, (∀ X', Bk X X' scope → Tg X' B M tg G (enc x) Γ' L ∧ Ee X' B M elt Γ' Γ3 (.imm (f x))) ∧ (∀ i ∈ L, i ∈ own.map (·.2)) ∧ anyAt Γ3 (own.map (·.2)) = G) :
    LcOk X B M elt tg iter [] scope own Γ G (xs.map f) := by
  have q := LcOk.go (elt := elt) (ifs := []) (scope := scope) (own := own) (G := fun _ => G) () (fun _ _ => ()) (fun _ _ => true) (fun _ x => f x) hi hG (fun _ => hok) hz fun pre x post e => by
    obtain ⟨Γ', Γ3, L, h1, h2, h3⟩ := step x (by rw [e]; simp)
    exact ⟨Γ', Γ', Γ3, L, fun X' b => ⟨(h1 X' b).1, C_nil, fun _ => (h1 X' b).2⟩, h2, fun _ => h3, fun t => by cases t⟩
  rwa [runSt_map] at q
/-- [f x for x in xs if c x] -/
theorem LcOk.filt {α : Type} {xs : List α} {enc : α → PyData} (cnd : α → Bool) (f : α → PyData) {G : List As} (hi : Ii X B M tg iter Γ Γ1 Tn (xs.map enc) Ok) (hG : anyAt Γ1 (own.map (·.2)) = G) (hok : Ok G) (hz : xs.length < sizeLine)
    (step : ∀ x ∈ xs, ∃ Γ' Γ'' Γ3 L, (∀ X', Bk X X' scope → Tg X' B M tg G (enc x) Γ' L ∧ Et X' B M c Γ' Γ'' (cnd x) ∧ (cnd x = true → Ee X' B M elt Γ'' Γ3 (.imm (f x)))) ∧ (∀ i ∈ L, i ∈ own.map (·.2)) ∧ (cnd x = true → anyAt Γ3 (own.map (·.2)) = G) ∧ anyAt Γ'' (own.map (·.2)) = G) :
    LcOk X B M elt tg iter [c] scope own Γ G ((xs.filter cnd).map f) := by
  have q := LcOk.go (elt := elt) (ifs := [c]) (scope := scope) (own := own) (G := fun _ => G) () (fun _ _ => ()) (fun _ x => cnd x) (fun _ x => f x) hi hG (fun _ => hok) hz fun pre x post e => by
    obtain ⟨Γ', Γ'', Γ3, L, h1, h2, h3, h4⟩ := step x (by rw [e]; simp)
    exact ⟨Γ', Γ'', Γ3, L, fun X' b => ⟨(h1 X' b).1, C_one (h1 X' b).2.1, (h1 X' b).2.2⟩, h2, h3, fun _ => h4⟩
  rwa [runSt_filt] at q

/-! ### ranges -/
def natI (i : Nat) : PyData := .int (i : Int)
theorem I_rgN (F : Fx X N ks gs sc) (nb : Nb X ns) {m : Nat} (h : Ea X B M [a] Γ Γ1 [.imm (.int (m : Int))]) (hn : m ≤ 2 ^ 61) (n : Nat := ns.idxOf ("range" : Str)) (hm : ns[n]? = some ("range" : Str) := by rfl) (g : Nat := gs.idxOf ("range" : Str)) (hg : gs[g]? = some ("range" : Str) := by rfl) (hs : starEach [a] X.env = [(false, eval a X.env)] := by rfl) :
    Ii X B M tg (.Call (.Name "range" p) [a] [] pos) Γ Γ1 [] ((List.range m).map natI) (fun _ => True) := by
  refine I_cv (I_rng1 F h (nb n _ hm) (by omega) (by omega) g hg hs) ?_
  rw [Int.toNat_natCast]
  refine List.map_congr_left fun i _ => ?_
  show PyData.int _ = PyData.int _
  rw [Int.zero_add]
/-- tuple(range(i, j, -1)) -/
theorem E_tupDown {i j : Int} {p2 pos2 : Pos} (F : Fx X N ks gs sc) (nb : Nb X ns) (h : Ea X B M [a, b, c] Γ Γ1 [.imm (.int i), .imm (.int j), .imm (.int (-1))]) (hi : -(2 ^ 62) ≤ i ∧ i < 2 ^ 62 ∧ -(2 ^ 62) ≤ j ∧ j < 2 ^ 62) (hn : (i - j).toNat ≤ 2 ^ 16)
    (g : Nat := gs.idxOf ("tuple" : Str)) (n : Nat := ns.idxOf ("tuple" : Str)) (g2 : Nat := gs.idxOf ("range" : Str)) (n2 : Nat := ns.idxOf ("range" : Str)) (hg : gs[g]? = some ("tuple" : Str) := by rfl) (hm : ns[n]? = some ("tuple" : Str) := by rfl) (hg2 : gs[g2]? = some ("range" : Str) := by rfl) (hm2 : ns[n2]? = some ("range" : Str) := by rfl)
    (hs : starEach [a, b, c] X.env = (false, eval a X.env) :: starEach [b, c] X.env := by rfl) (hpl : (backTo pos2 (starEach [b, c] X.env)).any (·.1) = false := by rfl) (na : starEach [Expr.Call (.Name "range" p2) [a, b, c] [] pos2] X.env = (false, eval (.Call (.Name "range" p2) [a, b, c] [] pos2) X.env) :: starEach [] X.env := by rfl) :
    Ee X B M (.Call (.Name "tuple" p) [.Call (.Name "range" p2) [a, b, c] [] pos2] [] pos) Γ Γ1 (.imm (.tuple ((List.range (i - j).toNat).map fun (m : Nat) => PyData.int (i - (m : Int))))) := fun T σ τ H Q hl S q => by
  intro pins s I
  refine Call_ (ld_blt I (F.gl g _ hg) (nb n _ hm) boot_tuple (PyProof.Rows.callWith_type1 (args_cons (Call_ (ld_blt I (F.gl g2 _ hg2) (nb n2 _ hm2) boot_range (PyProof.Rows.callWith_type1 (thn (h T σ τ H (fun vs H' => vs = [.int i, .int j, .int (-1)] ∧ Sat B M (Γ1 ++ T) (σ ++ τ) H') hl S (fun vs H' hv S' => ?_) _ pins s I) fun us s1 ⟨vs, H1, I1, r1, q1⟩ => ?_) hs hpl))) na) na))
  · match vs, hv with
    | [x, y, z], _ =>
      have e1 : (Γ1 ++ T) ++ [As.imm (.int i), As.imm (.int j), As.imm (.int (-1))] = (((Γ1 ++ T) ++ [.imm (.int i)]) ++ [.imm (.int j)]) ++ [.imm (.int (-1))] := by simp
      have e2 : (σ ++ τ) ++ [x, y, z].map some = (((σ ++ τ) ++ [some x]) ++ [some y]) ++ [some z] := by simp
      rw [e1, e2] at S'
      obtain ⟨r3, S3⟩ := one_imm S'
      obtain ⟨r1, r2, S1⟩ := two_imm S3
      cases r1; cases r2; cases r3
      exact ⟨rfl, S1⟩
  · obtain ⟨rfl, S1⟩ := q1
    cases r1 with
    | cons r rr =>
      cases rr with
      | cons r' rr =>
        cases rr with
        | cons r'' rr =>
          cases rr
          obtain ⟨t, rfl⟩ := r
          obtain ⟨t', rfl⟩ := r'
          obtain ⟨t'', rfl⟩ := r''
          obtain ⟨c0, c1, c2, c3⟩ := RgC.neg hi.1 hi.2.1 hi.2.2.1 hi.2.2.2
          refine call_range_3 c0 ?_ (.inl (PyProof.noPylong_small c1))
          have I2 : L2.Inv X pins σ H1 { s1 with heap := s1.heap.push { cls := .type "range", data := .fields #[.int i t, .int j t', .int (-1) t''] } } := I1.kept (t' := s1.toks) fun b o e => Heap.get?_push_of_some _ e
          refine args_nil ?_
          refine call_tuple_range (n := (i - j).toNat) (I2.ok.hd F.calm) (IsRange.new _ _ _ _ _ _ _) c2 c3 (by omega) fun h' tk acc hk hit => ?_
          have I3 : L2.Inv X pins σ H1 { s1 with heap := h', toks := tk } := I2.kept hk
          have el : acc.toList.length = (i - j).toNat := by rw [Array.length_toList]; exact hit.1
          have rv : Vals (((List.range (i - j).toNat).map fun (m : Nat) => i - (m : Int)).map V.int) acc.toList := by
            rw [List.map_map, ← el]
            refine vals_of_get acc.toList _ fun k u hk => ?_
            obtain ⟨t, rfl⟩ := hit.2 k u (by rw [← hk, Array.getElem?_toList])
            refine ⟨t, ?_⟩
            show Value.int _ t = Value.int _ t
            congr 1
            show i + (k : Int) * (-1) = i - (k : Int)
            omega
          have hp : H1 h'.objs.size = none := I3.hok.fresh (Nat.le_refl _)
          refine ⟨.ref h'.objs.size, upd H1 h'.objs.size (.tup _), I3.laid (t' := tk) (fun c o e => Heap.get?_push_of_some _ e) (Nat.le_refl _) (show ObjOk X.prog X.w _ _ _ (.tup _) from ⟨?_, acc.toList, rv, ?_⟩), rfl, q _ _ (newT S1 ?_ hp)⟩
          · rw [List.length_map, List.length_map, List.length_range, sizeLine_eq]; omega
          · rw [Array.toArray_toList]; exact IsTup.new _ _
          · have := Reps.of_ints (H := H1) ((List.range (i - j).toNat).map fun (m : Nat) => i - (m : Int))
            rw [show ((List.range (i - j).toNat).map fun (m : Nat) => PyData.int (i - (m : Int))) = ((List.range (i - j).toNat).map fun (m : Nat) => i - (m : Int)).map PyData.int by rw [List.map_map]; rfl]
            exact this

/-! ### typed lists -/
theorem atI_map {α : Type} {xs : List α} {enc : α → PyData} {k : Nat} (x0 : α) (hk : k < xs.length) : L2.atI (xs.map enc) (k : Int) = some (enc (xs.getD k x0)) := by
  unfold L2.atI ixN
  rw [if_pos (by omega), if_pos (by rw [List.length_map]; omega)]
  simp [List.getD, List.getElem?_eq_getElem hk]
theorem E_ixLx {α : Type} {xs : List α} {enc : α → PyData} {k : Nat} (x0 : α) (h1 : Ee X B M a Γ Γ1 A) (h2 : Ee X B M b Γ1 Γ2 (.imm (.int (k : Int)))) (hA : Lk Γ2 A (oL (xs.map enc))) (hk : k < xs.length) (hs : PlainIx b := by exact fun _ _ => rfl) : Ee X B M (.Subscript a b pos) Γ Γ2 (.imm (enc (xs.getD k x0))) :=
  E_ixL h1 h2 hA (atI_map x0 hk) hs
theorem E_ixTx {α : Type} {xs : List α} {enc : α → PyData} {k : Nat} (x0 : α) (h1 : Ee X B M a Γ Γ1 (.imm (.tuple (xs.map enc)))) (h2 : Ee X B M b Γ1 Γ2 (.imm (.int (k : Int)))) (hk : k < xs.length) (hs : PlainIx b := by exact fun _ _ => rfl) : Ee X B M (.Subscript a b pos) Γ Γ2 (.imm (enc (xs.getD k x0))) :=
  E_ixT h1 h2 (atI_map x0 hk) hs
theorem G_subx {α : Type} {xs : List α} {enc : α → PyData} {y : α} (F : Fx X N ks gs sc) (i : Nat) {x : Str} {v : V} {p : Pos} {k : Nat} (h : Ee X B M b Γ Γ (.imm (.int (k : Int)))) (hk : k < xs.length) (hg : Γ[i]? = some (.own v (oL (xs.map enc))) := by rfl) (hi : N[i]? = some x := by rfl) (hm : visK (ks[i]?) = true := by rfl)
    (hd : (x == ("__debug__" : Str)) = false := by decide) (hcd : (x == ("__classdict__" : Str)) = false := by decide)
    (ha : ∀ v, assign (.Subscript (.Name x p) b pos) X.env v = (do
      let ov ← holding [v] (eval (.Name x p) X.env)
      let iv ← holding [v, ov] (eval b X.env)
      standAt pos
      holding [v, ov, iv] (setItem ov iv v)
      release [v, ov, iv] []) := by intro _; rfl) : Tg X B M (.Subscript (.Name x p) b pos) Γ (enc y) (Γ.set i (.own v (oL ((xs.set k y).map enc)))) [] := by
  have q := G_sub (d := enc y) (pos := pos) F i (p := p) h (by rw [List.length_map]; exact hk) hg hi hm hd hcd ha
  rwa [← List.map_set] at q
/-- x.append(y), typed -/
theorem M_appx {α : Type} {xs : List α} {enc : α → PyData} {y : α} (F : Fx X N ks gs sc) (i : Nat) {x : Str} {v : V} {p apos : Pos} (h : Ee X B M e Γ Γ1 (.imm (enc y))) (hz : xs.length < sizeLine) (hg : Γ1[i]? = some (.own v (oL (xs.map enc))) := by rfl) (hg0 : (∃ o, Γ[i]? = some (.own v (oL o))) := by exact ⟨_, rfl⟩) (hi : N[i]? = some x := by rfl) (hm : visK (ks[i]?) = true := by rfl)
    (hd : (x == ("__debug__" : Str)) = false := by decide) (hcd : (x == ("__classdict__" : Str)) = false := by decide) (hbase : attributeBase (.Name x p) "append" X.env (eval (.Name x p) X.env) = eval (.Name x p) X.env := by rfl)
    (hfew : ((backTo pos (starEach (e :: []) X.env)).all (fun x => !x.1) && (backToKw pos (keywordEach [] X.env)).all (fun x => x.1.isSome) && decide ((e :: []).length + ([] : List Keyword).length + (if ([] : List Keyword).isEmpty then 0 else 1) < 30)) = true := by rfl)
    (hline : (apos.endLine == pos.line) = true := by rfl) (hs : starEach (e :: []) X.env = (false, eval e X.env) :: starEach [] X.env := by rfl) :
    Ee X B M (.Call (.Attribute (.Name x p) "append" apos) [e] [] pos) Γ (Γ1.set i (.own v (oL ((xs ++ [y]).map enc)))) (.imm .none) := by
  have q := M_append (pos := pos) F i (p := p) (apos := apos) h (by rw [List.length_map]; exact hz) hg hg0 hi hm hd hcd hbase hfew hline hs
  have e : xs.map enc ++ [enc y] = (xs ++ [y]).map enc := by simp
  rwa [e] at q
end
end PL

/-! PL13: owned locals given away; sorted and dicts, typed. -/
namespace PL
open PySem PySem.Spec PyProof.Rows L2
section
variable {X : Cx} {B : Hp} {M : List Addr} {N : List Str} {ks : List Nat} {gs ns : List Str} {sc : Scope} {Γ Γ1 Γ2 Γ3 Tn : List As} {A A1 A2 A3 : As} {a b c e elt tg iter : Expr} {es elts ifs : List Expr} {pos p tpos : Pos} {ds fs out : List PyData} {d : PyData} {kk : Nat} {D : En} {σ : List (Option V)} {H : Hp} {sts : List Stmt} {scope : Scope} {own : List (Str × Nat)} {Ok : List As → Prop}

/-- a name's own object is given away (the name sees it still) -/
theorem E_take (F : Fx X N ks gs sc) (i : Nat) {x : Str} {v : V} {o : Ow} (hg : Γ[i]? = some (.own v o) := by rfl) (hi : N[i]? = some x := by rfl) (hm : visK (ks[i]?) = true := by rfl)
    (hd : (x == ("__debug__" : Str)) = false := by decide) (hcd : (x == ("__classdict__" : Str)) = false := by decide) : Ee X B M (.Name x pos) Γ (Γ.set i (.val v)) (.new o) := fun T σ τ H Q hl S k => by
  refine E_ref (v := v) F i (.inl ⟨_, hg⟩) hi hm hd hcd T σ τ H _ hl S fun w H1 S1 => k w H1 ?_
  have e1 : w = v := by
    obtain ⟨F', e⟩ := S1.last
    have e' : [some w][0]? = some (some v) := e
    simpa using e'
  subst e1
  have li := lt_of_get hg
  have hlen := S1.len
  have gi : ((Γ ++ T) ++ [As.val w])[i]? = some (.own w o) := by
    rw [List.append_assoc, List.getElem?_append_left li]; exact hg
  obtain ⟨_, _, F0, h1, _⟩ := id S1
  have hv : ((σ ++ τ) ++ [some w])[i]? = some (some w) := (h1 i _ gi).1
  have hlast : ((σ ++ τ) ++ [some w])[(Γ ++ T).length]? = some (some w) := by
    have q : (Γ ++ T).length = (σ ++ τ).length := by simp at hlen ⊢; omega
    rw [q]; simp
  refine S1.sub (fun k => if k = (Γ ++ T).length then i else k) (by simpa using hlen) (fun a b B1 B2 q1 q2 m1 h2 e => ?_) (fun k B1 q => ?_)
  · -- places with footprints
    have nv : ∀ {k B1}, ((Γ.set i (.val w) ++ T) ++ [As.new o])[k]? = some B1 → B1.has = true → k ≠ i := fun {k B1} q hB z => by
      subst z
      rw [List.append_assoc, List.getElem?_append_left (by simpa using li), List.getElem?_set_self li] at q
      cases q; cases hB
    have n1 := nv q1 (As.has_of m1)
    have n2 := nv q2 h2
    by_cases x1 : a = (Γ ++ T).length <;> by_cases x2 : b = (Γ ++ T).length <;> simp only [x1, x2, if_true, if_false] at e <;> omega
  · rcases get_snocA q with ⟨hk, q⟩ | ⟨rfl, rfl⟩
    · have hk' : k < (Γ ++ T).length := by simpa using hk
      by_cases z : k = i
      · subst z
        rw [List.getElem?_append_left (by simpa using li), List.getElem?_set_self li] at q
        cases q
        exact .inl ⟨rfl, [], hv⟩
      · refine .inr ⟨B1, ?_, fun h => h, fun h => h, fun F h => ?_⟩
        · rw [if_neg (Nat.ne_of_lt hk'), List.getElem?_append_left hk']
          by_cases hkG : k < Γ.length
          · rw [List.getElem?_append_left (by simpa using hkG), List.getElem?_set_ne (Ne.symm z)] at q
            rw [List.getElem?_append_left hkG]; exact q
          · rw [List.getElem?_append_right (by simp; omega)] at q
            rw [List.getElem?_append_right (by omega)]
            simpa using q
        · rw [if_neg (Nat.ne_of_lt hk')] at h; exact h
    · have hz : (Γ.set i (As.val w) ++ T).length = (Γ ++ T).length := by simp
      rw [hz]
      refine .inr ⟨.own w o, by rw [if_pos rfl]; exact gi, fun h => h, fun h => h, fun F h => ?_⟩
      exact ⟨w, hlast, h.2⟩
/-! ### sorted, typed -/
theorem srt_map {α : Type} (enc : α → PyData) (xs : List α) : srt (xs.map enc) = (xs.mergeSort (PySem.W.dataLe false enc)).map enc := by
  unfold srt
  exact (List.map_mergeSort (f := enc) (l := xs) (r := PySem.W.dataLe false enc) (s := PySem.W.dataLe false id) (fun a _ b _ => rfl)).symm
theorem srtLen_map {α : Type} (enc : α → PyData) (xs : List α) : srtLen (xs.map enc) = (xs.mergeSort (PySem.W.dataLe false (lenD ∘ enc))).map enc := by
  unfold srtLen
  exact (List.map_mergeSort (f := enc) (l := xs) (r := PySem.W.dataLe false (lenD ∘ enc)) (s := PySem.W.dataLe false lenD) (fun a _ b _ => rfl)).symm
def rowT (r : List Int) : PyData := .tuple (r.map .int)
theorem le_int : PySem.W.dataLe false PyData.int = fun a b : Int => decide (a ≤ b) := PySem.W.dataLe_int (fun x => x)
theorem le_rowT : PySem.W.dataLe false rowT = fun a b => decide (a ≤ b) := by
  funext p q
  show (!PySem.W.dataLt (.tuple (q.map .int)) (.tuple (p.map .int))) = _
  rw [PySem.W.dataLt_tuple]
  show (!PySem.W.rowLt (q.map .int) (p.map .int)) = _
  rw [PySem.W.dataLt_ints]
  by_cases h : q < p
  · have h' : ¬ p ≤ q := fun r => List.not_lt.mpr r h
    simp [h, h']
  · have h' : p ≤ q := List.not_lt.mp h
    simp [h, h']
theorem le_rowLen : PySem.W.dataLe false (lenD ∘ rowT) = fun a b => decide (a.length ≤ b.length) := by
  have e : (lenD ∘ rowT) = fun r : List Int => PyData.int (r.length : Int) := by
    funext r
    simp [lenD, rowT]
  rw [e, PySem.W.dataLe_int (fun r : List Int => (r.length : Int))]
  funext a b
  simp
theorem srtOk_ints (xs : List Int) : SrtOk (xs.map .int) := by
  refine ⟨PySem.W.AllAlike.of fun _ _ => by simp [PySem.W.alike], .inr fun d hd => ?_, fun d hd => ?_⟩
  · obtain ⟨x, _, rfl⟩ := List.mem_map.mp hd
    exact ⟨by simp, fun xs => by simp⟩
  · obtain ⟨x, _, rfl⟩ := List.mem_map.mp hd
    simp [PyData.depth]
theorem srtOk_rows {xs : List (List Int)} (h : ∀ x ∈ xs, x ≠ []) : SrtOk (xs.map rowT) := by
  refine ⟨PySem.W.AllAlike.of fun p q => ?_, .inl fun d hd => ?_, fun d hd => ?_⟩
  · show PySem.W.alike (.tuple _) (.tuple _) = true
    rw [PySem.W.alike]
    exact PySem.W.alike_ints p q
  · obtain ⟨x, hx, rfl⟩ := List.mem_map.mp hd
    cases x with
    | nil => exact absurd rfl (h _ hx)
    | cons y ys => exact ⟨_, _, rfl⟩
  · obtain ⟨x, hx, rfl⟩ := List.mem_map.mp hd
    show PyData.depth (.tuple _) ≤ 60
    rw [PyData.depth, PySem.W.depth_ints]
    decide
/-! ### the keys of dict(pairs), each once -/
def nub {α : Type} [DecidableEq α] (xs : List α) : List α := xs.foldl (fun acc x => if x ∈ acc then acc else acc ++ [x]) []
theorem mergeG_map {α κ : Type} [DecidableEq α] [DecidableEq κ] {f : α → κ} (hf : ∀ x y, f x = f y → x = y) (d : PyData) (xs : List α) : mergeG [] (xs.map fun x => (f x, d)) = (nub xs).map fun x => (f x, d) := by
  have key : ∀ (xs acc : List α), mergeG (acc.map fun x => (f x, d)) (xs.map fun x => (f x, d)) = (xs.foldl (fun acc x => if x ∈ acc then acc else acc ++ [x]) acc).map fun x => (f x, d) := by
    intro xs
    induction xs with
    | nil => intro acc; rfl
    | cons x xs ih =>
      intro acc
      unfold mergeG
      rw [List.map_cons, List.foldl_cons, List.foldl_cons]
      have e : putG (acc.map fun x => (f x, d)) (f x) d = (if x ∈ acc then acc else acc ++ [x]).map fun x => (f x, d) := by
        unfold putG
        have hany : ((acc.map fun x => (f x, d)).any fun e => decide (e.1 = f x)) = decide (x ∈ acc) := by
          rw [List.any_map]
          induction acc with
          | nil => rfl
          | cons y acc ih2 =>
            rw [List.any_cons, ih2]
            by_cases hxy : x = y
            · subst hxy; simp
            · have h2 : ¬ f y = f x := fun h => hxy (hf _ _ h).symm
              simp [hxy, h2]
        rw [hany]
        by_cases hx : x ∈ acc
        · rw [if_pos (decide_eq_true hx), if_pos hx, List.map_map]
          refine List.map_congr_left fun y _ => ?_
          show (if f y = f x then (f y, d) else (f y, d)) = _
          split <;> rfl
        · rw [if_neg (by simpa using hx), if_neg hx]; simp
      dsimp only
      rw [e]
      exact ih _
  exact key xs []
theorem mem_nub {α : Type} [DecidableEq α] {x : α} (xs : List α) : x ∈ nub xs ↔ x ∈ xs := by
  have key : ∀ (xs acc : List α), x ∈ xs.foldl (fun acc x => if x ∈ acc then acc else acc ++ [x]) acc ↔ x ∈ acc ∨ x ∈ xs := by
    intro xs
    induction xs with
    | nil => intro acc; simp
    | cons y xs ih =>
      intro acc
      rw [List.foldl_cons, ih]
      by_cases hy : y ∈ acc
      · rw [if_pos hy]
        constructor
        · rintro (h | h)
          · exact .inl h
          · exact .inr (List.mem_cons_of_mem _ h)
        · rintro (h | h)
          · exact .inl h
          · rcases List.mem_cons.mp h with rfl | h
            · exact .inl hy
            · exact .inr h
      · rw [if_neg hy]
        simp only [List.mem_append, List.mem_singleton, List.mem_cons, List.not_mem_nil, or_false, or_assoc]
  rw [nub, key]; simp
theorem nub_nodup {α : Type} [DecidableEq α] (xs : List α) : (nub xs).Nodup := by
  have key : ∀ (xs acc : List α), acc.Nodup → (xs.foldl (fun acc x => if x ∈ acc then acc else acc ++ [x]) acc).Nodup := by
    intro xs
    induction xs with
    | nil => intro acc h; exact h
    | cons y xs ih =>
      intro acc h
      rw [List.foldl_cons]
      refine ih _ ?_
      split
      · exact h
      · rename_i hy
        rw [List.nodup_append]
        exact ⟨h, by simp, fun a ha b hb => by simp at hb; subst hb; exact fun z => hy (z ▸ ha)⟩
  exact key xs [] List.nodup_nil
theorem nub_len {α : Type} [DecidableEq α] (xs : List α) : (nub xs).length ≤ xs.length := by
  have key : ∀ (xs acc : List α), (xs.foldl (fun acc x => if x ∈ acc then acc else acc ++ [x]) acc).length ≤ acc.length + xs.length := by
    intro xs
    induction xs with
    | nil => intro acc; simp
    | cons y xs ih =>
      intro acc
      rw [List.foldl_cons]
      refine Nat.le_trans (ih _) ?_
      split <;> simp <;> omega
  simpa [nub] using key xs []
def keyR (r : List Int) : List Key := r.map Sum.inl
theorem keyR_inj (x y : List Int) (h : keyR x = keyR y) : x = y := by
  unfold keyR at h
  exact (map_inj (fun _ _ h => Sum.inl.inj h)).mp h
theorem tkey_R (r : List Int) : tkey (keyR r) = rowT r := by
  unfold tkey keyR rowT
  rw [List.map_map]
  rfl
end

/-! ### arguments of a call -/
theorem cv1 {Γ : List As} {A P : As} (h : ∀ v, Cv Γ v A P) : ∀ vs : List V, vs.length = [A].length → CvL Γ vs [A] [P] := fun vs hv => by
  match vs, hv with
  | [v], _ => exact .cons (h v) .nil
theorem cv2 {Γ : List As} {A P A' P' : As} (h : ∀ v, Cv Γ v A P) (h' : ∀ v, Cv Γ v A' P') : ∀ vs : List V, vs.length = [A, A'].length → CvL Γ vs [A, A'] [P, P'] := fun vs hv => by
  match vs, hv with
  | [v, v'], _ => exact .cons (h v) (.cons (h' v') .nil)
theorem cv3 {Γ : List As} {A P A' P' A2 P2 : As} (h : ∀ v, Cv Γ v A P) (h' : ∀ v, Cv Γ v A' P') (h2 : ∀ v, Cv Γ v A2 P2) : ∀ vs : List V, vs.length = [A, A', A2].length → CvL Γ vs [A, A', A2] [P, P', P2] := fun vs hv => by
  match vs, hv with
  | [v, v', v2], _ => exact .cons (h v) (.cons (h' v') (.cons (h2 v2) .nil))
end PL

/-! PL14: the script, the source's making. -/
namespace PL
open PySem PySem.Spec PyProof.Rows L2

/-- a def that asks something of the heap beside -/
def spC {ξ : Type _} (cond : ξ → Hp → Prop) (pre : ξ → List As) (ret : ξ → As) : Sp := fun vs H Q _ => ∃ x : ξ, cond x H ∧ Sat H [] (pre x) (vs.map some) H ∧ ∀ v H', Sat H [] [ret x] [some v] H' → Q v H'
section
variable {X : Cx} {B : Hp} {M : List Addr} {N : List Str} {ks : List Nat} {gs ns : List Str} {sc : Scope} {Γ Γ1 Γ2 Γ3 Tn : List As} {A A1 A2 A3 : As} {a b c e elt tg iter : Expr} {es elts ifs : List Expr} {pos p tpos : Pos} {ds fs out : List PyData} {d : PyData} {kk : Nat} {D : En} {σ : List (Option V)} {H : Hp} {sts : List Stmt} {scope : Scope} {own : List (Str × Nat)} {Ok : List As → Prop}
theorem fn_pureC {P : Program} {w : World} {K : PySem.W.Frag} {mg : Str → Option Value} {base : Heap} {ξ : Type _} {cond : ξ → Hp → Prop} {pre : ξ → List As} {ret : ξ → As} {x qual : Str} {st : Stmt} {f : Addr} {fd : FuncData} {N ps : List Str} {k : Nat} {ks : List Nat} {gs : List Str}
    (F : Fun K x qual st f fd) (S : FnScope N ps (defScope st)) (hfr : frC N ks gs (defScope st) = true) (hpre : ∀ x, (pre x).length = ps.length)
    (body : ∀ (X : Cx) (B : Hp) (x : ξ), cond x B → Fx X N ks gs (defScope st) → X.prog = P → X.w = w → X.K = K → X.mg = mg → X.base = base → Room k X.A → Ss X B [] (defBody st) (entry N (pre x)) { nx := fun _ => ret x = .imm .none, rt := fun _ A => A = ret x }) :
    FnOk P w K mg base CX0 (k + 1) f fd ps (spC cond pre ret) := by
  refine F.ok S (fun vs H Q E ⟨x, _, q, _⟩ => ?_) (fun cdv A outer s H vs Q E hr ⟨x, hc, q, k2⟩ => ?_)
  · have := q.len
    rw [hpre] at this
    simpa using this.symm
  · refine ⟨_, pss_wss, ?_⟩
    have e := body (cxOf CX0 P w K mg base N qual (defScope st) f cdv A outer s H E).nox H x hc (Fx.ofDef S hfr hr) rfl rfl rfl rfl rfl hr [] (L2.start N vs) [] H (by
      have := (Sat.toEntry (N := N) q).len
      exact this.symm) (by simpa using Sat.toEntry (N := N) q)
    refine e.mono (fun σ' H' ⟨Γ', hx, _, S'⟩ => k2 _ _ ?_) (fun v H' ⟨Γ', σ', A', hA, _, S'⟩ => k2 _ _ ?_) (fun _ _ ⟨_, z, _⟩ => z.elim) (fun _ _ ⟨_, z, _⟩ => z.elim)
    · rw [hx]
      exact (show Sat H [] [] [] H' from ⟨rfl, S'.keep, fun _ => [], fun i A q => by simp at q, fun i A q => by simp at q⟩).imm .none
    · subst hA
      rw [List.append_nil, List.append_nil] at S'
      refine S'.sub (fun i => i + Γ'.length) rfl (fun i j _ _ _ _ _ _ e => by omega) fun i A q => .inr ⟨A, ?_, fun h => h, fun h => h, fun F h => h.to ?_⟩
      · rw [List.getElem?_append_right (by omega), Nat.add_sub_cancel]; exact q
      · have hll : Γ'.length = σ'.length := by have := S'.len; simpa using this
        rw [hll, List.getElem?_append_right (by omega), Nat.add_sub_cancel]
/-- a call of such a def with a value that is known -/
theorem E_callC {ξ : Type _} {cond : ξ → Hp → Prop} {pre : ξ → List As} {ret : ξ → As} {x : Str} {p : Pos} {v0 : V} (F : Fx X N ks gs sc) (C : Cal X x (spC cond pre ret)) (x0 : ξ) (h : Ea X B M (e :: es) Γ Γ1 [.val v0]) (hp : pre x0 = [.val v0]) (hc : ∀ H', (∀ a o, B a = some o → a ∉ M → H' a = some o) → cond x0 H') (hr : ret x0 = A)
    (hR : (∃ d, A = .imm d) ∨ ∃ o, A = .new o := by first | exact Or.inl ⟨_, rfl⟩ | exact Or.inr ⟨_, rfl⟩) (g : Nat := gs.idxOf x) (hg : gs[g]? = some x := by rfl) (hdb : (x == ("__debug__" : Str)) = false := by decide) (he : starEach (e :: es) X.env = (false, eval e X.env) :: starEach es X.env := by rfl) (hpl : (backTo pos (starEach es X.env)).any (·.1) = false := by rfl) :
    Ee X B M (.Call (.Name x p) (e :: es) [] pos) Γ Γ1 A := fun T σ τ H Q hl S k => by
  obtain ⟨lv, f, fd, ps, FO, hroom, hmg, hkp, hbd⟩ := C
  refine WE.of (pe_call FO hroom (F.gl g x hg) hmg hkp hbd .nil pass0 pa_wa hdb he hpl) (h T σ τ H _ hl S fun vs H1 hv S1 => ?_)
  match vs, hv with
  | [v], _ =>
    have S1 : Sat B M ((Γ1 ++ T) ++ [.val v0]) ((σ ++ τ) ++ [some v]) H1 := S1
    obtain ⟨F', e⟩ := S1.last
    have e : v = v0 := by
      have e' : [some v][0]? = some (some v0) := e
      simpa using e'
    subst e
    refine ⟨x0, hc H1 S1.keep, ?_, fun w H' S2 => k w H' ?_⟩
    · rw [hp]
      exact Sat.args rfl fun i P q => by
        have hi := lt_of_get q
        have hi0 : i = 0 := by simp at hi; omega
        subst hi0
        cases q
        exact ⟨rfl, [], rfl⟩
    · rw [hr] at S2
      exact S1.pop.ret S2 hR
/-- over a list that stood at the entry -/
theorem I_seq (i : Nat) {x : Str} {a0 : Addr} {ns' : List Int} {p0 : Pos} (F : Fx X N ks gs sc) (hB : SqL X.K B a0 (ns'.map V.int)) (hg : Γ[i]? = some (.val (.ref a0)) := by rfl) (hi : N[i]? = some x := by rfl) (hm : visK (ks[i]?) = true := by rfl)
    (hd : (x == ("__debug__" : Str)) = false := by decide) (hcd : (x == ("__classdict__" : Str)) = false := by decide) : Ii X B [] tg (.Name x p0) Γ Γ [] (ns'.map .int) (fun _ => True) := fun T σ τ H R hl S k => by
  have seq : ∀ {H' : Hp}, (∀ a o, B a = some o → a ∉ ([] : List Addr) → H' a = some o) → SqL X.K H' a0 (ns'.map V.int) := fun {H'} kp => by
    rcases hB with (h | ⟨o, h⟩) | h
    · exact .inl (.inl (kp _ _ h (by simp)))
    · exact .inl (.inr ⟨o, kp _ _ h (by simp)⟩)
    · exact .inr h
  refine WI.of (pi_list pe_we) (E_ref (v := .ref a0) F i (.inr (.inr hg)) hi hm hd hcd T σ τ H _ hl S fun w H' S' => ?_)
  obtain ⟨F', e⟩ := S'.last
  have e : w = .ref a0 := by
    have e' : [some w][0]? = some (some (.ref a0)) := e
    simpa using e'
  subst e
  have S2 := S'.pop
  refine ⟨a0, rfl, ⟨_, seq S2.keep⟩, k _ [] H' rfl hl (by simpa using S2) fun j Γk σk W ω Hk _ hk Sk => ?_⟩
  have hs := seq Sk.keep
  refine ⟨fun d e => ?_, fun e => ⟨_, hs, by rw [e]; simp⟩⟩
  rw [List.getElem?_map] at e
  obtain ⟨n, e1, rfl⟩ := Option.map_eq_some_iff.mp e
  refine ⟨⟨_, .int n, hs, by rw [List.getElem?_map, e1]; rfl⟩, fun x H' y => ?_⟩
  obtain ⟨rfl, y⟩ := y
  have q := y _ hs
  rw [List.getElem?_map, e1] at q
  cases q
  exact ⟨Ext.refl _, .int n⟩
theorem mid1 {α : Type} {G : List α} {x y : α} : ((G ++ [x]) ++ [y])[G.length]? = some x := by
  rw [List.append_assoc, List.getElem?_append_right (Nat.le_refl _), Nat.sub_self]; rfl
theorem mid2 {α : Type} {G : List α} {x y : α} : ((G ++ [x]) ++ [y])[G.length + 1]? = some y := by
  rw [List.append_assoc, List.getElem?_append_right (Nat.le_succ _), Nat.succ_sub (Nat.le_refl _), Nat.sub_self]; rfl
/-- {"cells": .., "left": .., "mixed": .., "turn": ..} -/
theorem E_srcDict {cells : List Int} {l m t : Int} {e1 e2 e3 e4 : Expr} {p1 p2 p3 p4 : Pos} {k1 k2 k3 k4 : Nat} (h1 : Ee X B M e1 Γ Γ (.new (oL (cells.map .int)))) (h2 : Ee X B M e2 Γ Γ (.imm (.int l))) (h3 : Ee X B M e3 Γ Γ (.imm (.int m))) (h4 : Ee X B M e4 Γ Γ (.imm (.int t))) :
    Ee X B M (.Dict [some (.Constant (.str "cells") k1 p1), some (.Constant (.str "left") k2 p2), some (.Constant (.str "mixed") k3 p3), some (.Constant (.str "turn") k4 p4)] [e1, e2, e3, e4] pos) Γ Γ (.new (oSrc ⟨cells.reverse, l, m, t⟩)) := fun T σ τ H Q hl S q => by
  refine WE.of (pe_disp (pps_cons pe_we pe_we (pps_cons pe_we pe_we (pps_cons pe_we pe_we (pps_cons pe_we pe_we pps_nil)))) rfl rfl (by simp) (by simp)) ?_
  intro D hD
  have S0 : Sat B M (Γ ++ (T ++ [.new (oK [])])) (σ ++ (τ ++ [some (.ref D)])) (upd H D (.dK [])) := by
    have := newO (w := oK []) (o := .dK []) S hD fun _ => ⟨D, [], rfl, rfl, upd_same, .nil⟩
    rw [List.append_assoc, List.append_assoc] at this
    exact this
  refine E_str (x := "cells") (j := k1) (pos := p1) _ σ _ _ _ hl S0 fun y1 H1 S1 => ?_
  obtain ⟨r1, S1'⟩ := one_imm S1
  cases r1
  refine h1 _ σ _ _ _ hl S1' fun c H2 S2 => ?_
  rw [List.append_assoc, List.append_assoc σ] at S2
  refine E_str (x := "left") (j := k2) (pos := p2) _ σ _ _ _ hl S2 fun y3 H3 S3 => ?_
  obtain ⟨r3, S3'⟩ := one_imm S3
  cases r3
  refine h2 _ σ _ _ _ hl S3' fun u2 H4 S4 => ?_
  obtain ⟨r4, S4'⟩ := one_imm S4
  cases r4
  refine E_str (x := "mixed") (j := k3) (pos := p3) _ σ _ _ _ hl S4' fun y5 H5 S5 => ?_
  obtain ⟨r5, S5'⟩ := one_imm S5
  cases r5
  refine h3 _ σ _ _ _ hl S5' fun u3 H6 S6 => ?_
  obtain ⟨r6, S6'⟩ := one_imm S6
  cases r6
  refine E_str (x := "turn") (j := k4) (pos := p4) _ σ _ _ _ hl S6' fun y7 H7 S7 => ?_
  obtain ⟨r7, S7'⟩ := one_imm S7
  cases r7
  refine h4 _ σ _ _ _ hl S7' fun u4 H8 S8 => ?_
  obtain ⟨r8, S8'⟩ := one_imm S8
  cases r8
  -- the dict and the list
  have S9 : Sat B M (((Γ ++ T) ++ [.new (oK [])]) ++ [.new (oL (cells.map .int))]) (((σ ++ τ) ++ [some (.ref D)]) ++ [some c]) H8 := by simpa using S8'
  obtain ⟨hlen, hkp, F, q1, q2⟩ := id S9
  have hn : (Γ ++ T).length = (σ ++ τ).length := by simp at hlen ⊢; omega
  have g0 : (((Γ ++ T) ++ [As.new (oK [])]) ++ [As.new (oL (cells.map .int))])[(Γ ++ T).length]? = some (.new (oK [])) := mid1
  have g1 : (((Γ ++ T) ++ [As.new (oK [])]) ++ [As.new (oL (cells.map .int))])[(Γ ++ T).length + 1]? = some (.new (oL (cells.map .int))) := mid2
  have s0 : (((σ ++ τ) ++ [some (V.ref D)]) ++ [some c])[(Γ ++ T).length]? = some (some (.ref D)) := by
    rw [hn]; exact mid1
  have s1 : (((σ ++ τ) ++ [some (V.ref D)]) ++ [some c])[(Γ ++ T).length + 1]? = some (some c) := by
    rw [hn]; exact mid2
  obtain ⟨w0, ew0, d0, kvs, ed, eF0, hd0, pr0⟩ := q1 _ _ g0
  rw [s0] at ew0
  cases ew0
  cases ed
  cases pr0
  obtain ⟨w1, ew1, lc, vs, elc, eF1, hlc, rlc⟩ := q1 _ _ g1
  rw [s1] at ew1
  cases ew1
  subst elc
  have ev := rlc.ints
  subst ev
  have own0 := q2 _ _ g0 rfl
  have own1 := q2 _ _ g1 rfl
  have hne : D ≠ lc := fun z => by
    have := own0.2 _ _ (by omega) g1 rfl D (by rw [eF0]; simp)
    rw [eF1] at this
    exact this (by simp [z])
  refine ⟨hd0, [(.inr "cells", .ref lc), (.inr "left", .int l), (.inr "mixed", .int m), (.inr "turn", .int t)], rfl, show 4 ≤ 15 by decide, q _ _ ?_⟩
  have Sb : Sat B M (Γ ++ T) (σ ++ τ) H8 := S9.pop.pop
  -- the dict is written: no other object has its address
  have keep8 : ∀ x o, x ≠ D → H8 x = some o → upd H8 D (.dK (mergeK [] [(.inr "cells", .ref lc), (.inr "left", .int l), (.inr "mixed", .int m), (.inr "turn", .int t)])) x = some o := fun x o hx e => by rw [upd_ne hx]; exact e
  have emk : mergeK [] [((.inr "cells" : Key), V.ref lc), (.inr "left", .int l), (.inr "mixed", .int m), (.inr "turn", .int t)] = kvS lc l m t := by rfl
  rw [emk]
  have oth : ∀ {i A'}, i < (Γ ++ T).length → (Γ ++ T)[i]? = some A' → A'.has = true → D ∉ F i ∧ lc ∉ F i := fun {i A'} hi e hA => by
    have e' : (((Γ ++ T) ++ [As.new (oK [])]) ++ [As.new (oL (cells.map .int))])[i]? = some A' := by
      rw [List.append_assoc, List.getElem?_append_left hi]; exact e
    refine ⟨own0.2 i A' (by omega) e' hA D (by rw [eF0]; simp), own1.2 i A' (by omega) e' hA lc (by rw [eF1]; simp)⟩
  have stp : Stp H8 (upd H8 D (.dK (kvS lc l m t))) := Stp.upd fun xs e => by rw [hd0] at e; cases e
  have hBD : B D = none ∨ D ∈ M := own0.1 D (by rw [eF0]; simp)
  have hBl : B lc = none ∨ lc ∈ M := own1.1 lc (by rw [eF1]; simp)
  refine ⟨by simp at hn ⊢; omega, fun x o e hx => ?_, fun i => if i < (Γ ++ T).length then F i else [D, lc], fun i A' e => ?_, fun i A' e hA => ?_⟩ <;> (try dsimp only)
  · have hxD : x ≠ D := fun z => by
      subst z
      rcases hBD with z | z
      · rw [e] at z; cases z
      · exact hx z
    rw [upd_ne hxD]; exact hkp x o e hx
  · rcases get_snocA e with ⟨hi, e⟩ | ⟨rfl, rfl⟩
    · rw [if_pos hi]
      have e' : (((Γ ++ T) ++ [As.new (oK [])]) ++ [As.new (oL (cells.map .int))])[i]? = some A' := by
        rw [List.append_assoc, List.getElem?_append_left hi]; exact e
      refine ((q1 i A' e').stay stp fun hA x hx => upd_ne fun z => ?_).to ?_
      · subst z; exact (oth hi e hA).1 hx
      · have hi2 : i < (σ ++ τ).length := by rw [← hn]; exact hi
        rw [List.append_assoc (σ ++ τ), List.getElem?_append_left hi2, List.getElem?_append_left hi2]
    · rw [if_neg (Nat.lt_irrefl _)]
      refine ⟨.ref D, by rw [hn]; simp, lc, D, rfl, rfl, hne, upd_same, ?_⟩
      rw [upd_ne (Ne.symm hne), List.reverse_reverse]; exact hlc
  · rcases get_snocA e with ⟨hi, e⟩ | ⟨rfl, ee⟩
    · rw [if_pos hi]
      have up : ∀ {j A''}, j < (Γ ++ T).length → (Γ ++ T)[j]? = some A'' → (((Γ ++ T) ++ [As.new (oK [])]) ++ [As.new (oL (cells.map .int))])[j]? = some A'' := fun {j A''} hj e => by
        rw [List.append_assoc, List.getElem?_append_left hj]; exact e
      refine ⟨(q2 i A' (up hi e) hA).1, fun j A2 hj e2 hA2 x hx => ?_⟩
      rcases get_snocA e2 with ⟨hj', e2⟩ | ⟨rfl, _⟩
      · rw [if_pos hj']; exact (q2 i A' (up hi e) hA).2 j A2 hj (up hj' e2) hA2 x hx
      · rw [if_neg (Nat.lt_irrefl _)]
        intro z
        have o := oth hi e (As.has_of hA)
        rcases List.mem_cons.mp z with z | z
        · subst z; exact o.1 hx
        · rw [List.mem_singleton] at z; subst z; exact o.2 hx
    · rw [if_neg (Nat.lt_irrefl _)]
      subst ee
      refine ⟨fun x hx => ?_, fun j A2 hj e2 hA2 x hx => ?_⟩
      · rcases List.mem_cons.mp hx with z | z
        · subst z; exact hBD
        · rw [List.mem_singleton] at z; subst z; exact hBl
      · rcases get_snocA e2 with ⟨hj', e2⟩ | ⟨rfl, _⟩
        · rw [if_pos hj']
          have o := oth hj' e2 hA2
          rcases List.mem_cons.mp hx with z | z
          · subst z; exact o.1
          · rw [List.mem_singleton] at z; subst z; exact o.2
        · exact absurd rfl hj
end
end PL

/-! PL15: the source's dict read, great products and quotients. -/
namespace PL
open PySem PySem.Spec PyProof.Rows L2
section
variable {X : Cx} {B : Hp} {M : List Addr} {N : List Str} {ks : List Nat} {gs ns : List Str} {sc : Scope} {Γ Γ1 Γ2 Γ3 Tn : List As} {A A1 A2 A3 : As} {a b c e elt tg iter : Expr} {es elts ifs : List Expr} {pos p tpos : Pos} {ds fs out : List PyData} {d : PyData} {kk : Nat} {D : En} {σ : List (Option V)} {H : Hp} {sts : List Stmt} {scope : Scope} {own : List (Str × Nat)} {Ok : List As → Prop} {i j : Int}
theorem op_mulOk : OpR X (binaryOp .Mult) (rI IntMulOk fun i j => .int (i * j)) := opI fun _ _ _ _ _ _ _ hc q => PyProof.Rows.mul_int q hc
theorem E_mulOk (h1 : Ee X B M a Γ Γ1 (.imm (.int i))) (h2 : Ee X B M b Γ1 Γ2 (.imm (.int j))) (hc : IntMulOk i j) : Ee X B M (.BinOp a .Mult b pos) Γ Γ2 (.imm (.int (i * j))) := opInt op_mulOk h1 h2 hc
theorem E_fdivW (h1 : Ee X B M a Γ Γ1 (.imm (.int i))) (h2 : Ee X B M b Γ1 Γ2 (.imm (.int j))) (hc : CDivW i j) : Ee X B M (.BinOp a .FloorDiv b pos) Γ Γ2 (.imm (.int (i / j))) := opInt op_fdivW h1 h2 hc
theorem bits_small {i : Int} (h : i.natAbs < 2 ^ 60) : Builtin.Int.intBits i ≤ 64 := by
  have h2 : i.natAbs.log2 < 60 := PySem.Flt.log2_lt_of (by decide) h
  unfold Builtin.Int.intBits
  split <;> omega
theorem mulOk_r {i j : Int} (h : j.natAbs < 2 ^ 60) : IntMulOk i j := .of_right (bits_small h)
theorem mulOk_l {i j : Int} (h : i.natAbs < 2 ^ 60) : IntMulOk i j := .of_left (bits_small h)
theorem divW_small {i j : Int} (h0 : 0 < j) (h : j < 2 ^ 60) : CDivW i j := wide_div (b := 60) h0 (by omega) (by decide) (by decide)
/-- source["left"], ["mixed"], ["turn"] -/
theorem E_sd {n : Nat} {v : V} {c0 : Addr} {l m t z : Int} {x key : Str} {p1 p2 : Pos} {kc : Nat} (F : Fx X N ks gs sc) (hv : valV (kvS c0 l m t) (.inr key) = some (.int z)) (hg : Γ[n]? = some (.own v (oSd c0 l m t)) := by rfl)
    (hi : N[n]? = some x := by rfl) (hm : visK (ks[n]?) = true := by rfl) (hd : (x == ("__debug__" : Str)) = false := by decide) (hcd : (x == ("__classdict__" : Str)) = false := by decide) : Ee X B M (.Subscript (.Name x p1) (.Constant (.str key) kc p2) pos) Γ Γ (.imm (.int z)) :=
  E_dgetC (i := n) F (.inl hg) (fun H F ⟨a, e1, _, e2⟩ => ⟨a, _, _, e1, e2, hv, fun G s S => S.imm (.int z)⟩) hi hm hd hcd
/-- source["cells"] -/
theorem E_sc {n : Nat} {v : V} {c0 : Addr} {s : Src} {x : Str} {p1 p2 : Pos} {kc : Nat} (F : Fx X N ks gs sc) (hg : Γ[n]? = some (.own v (oSrcC c0 s)) := by rfl)
    (hi : N[n]? = some x := by rfl) (hm : visK (ks[n]?) = true := by rfl) (hd : (x == ("__debug__" : Str)) = false := by decide) (hcd : (x == ("__classdict__" : Str)) = false := by decide) : Ee X B M (.Subscript (.Name x p1) (.Constant (.str "cells") kc p2) pos) Γ Γ (.val (.ref c0)) :=
  E_dgetC (i := n) F (.inl hg) (fun H F ⟨a, e1, _, _, e2, _⟩ => ⟨a, _, .ref c0, e1, e2, rfl, fun G s S => S.val⟩) hi hm hd hcd
theorem LcOk.cv {out' : List PyData} {Γ2' : List As} (h : LcOk X B M elt tg iter ifs scope own Γ Γ2 out) (e1 : Γ2 = Γ2') (e2 : out = out') : LcOk X B M elt tg iter ifs scope own Γ Γ2' out' := by
  subst e1 e2; exact h
end

/-! ### the numbers drawn -/
def absI (i : Int) : Int := if i < 0 then -i else i
def mixF (ns : List Int) : Int := ns.foldl (fun st c => (st * 69069 + c * 31 + 5) % 2147483629) 11
def openS (ns : List Int) : Src := ⟨ns.map absI, 1, mixF ns, 0⟩
def fillS : List Int → Int → List Int × Int
  | [], l => ([], l)
  | c :: r, l => if l < 2 then fillS r c else (c :: r, l)
def lapA (s : Src) : Int := (s.mixed + (s.turn + 1) * 104729) % 998244353
def lapB (s : Src) : Int := (lapA s * lapA s + (s.turn + 1) * 17) % 2147483647
def pickS (s : Src) (m : Int) : Src × Int :=
  if m < 2 then (s, 0)
  else if (fillS s.cells s.left).2 > 1 then (⟨(fillS s.cells s.left).1, (fillS s.cells s.left).2 / m, s.mixed, s.turn⟩, (fillS s.cells s.left).2 % m)
  else (⟨(fillS s.cells s.left).1, (fillS s.cells s.left).2, s.mixed, s.turn + 1⟩, lapB s / 16 % m)
theorem pick_ge (s : Src) {m : Int} (h : 0 < m) : 0 ≤ (pickS s m).2 ∧ (pickS s m).2 < m := by
  unfold pickS
  split
  · exact ⟨Int.le_refl _, h⟩
  · split
    · exact ⟨Int.emod_nonneg _ (by omega), Int.emod_lt_of_pos _ h⟩
    · exact ⟨Int.emod_nonneg _ (by omega), Int.emod_lt_of_pos _ h⟩
theorem pick_nat (s : Src) {m : Nat} (h : 0 < m) : ∃ r : Nat, (pickS s (m : Int)).2 = (r : Int) ∧ r < m := by
  have q := pick_ge s (m := (m : Int)) (by omega)
  exact ⟨(pickS s (m : Int)).2.toNat, by omega, by omega⟩
end PL

namespace K71
open PySem PySem.Spec PyProof.Rows L2 PL
def topS (i : Nat) : Stmt := PySem.Challenge.pw_sortedbynets_k71_whole_next_nets_told_by.main.body.getD i (.Pass ⟨0, 0, 0, 0⟩)
def swD (p : Nat × Nat) : PyData := .tuple [.int p.1, .int p.2]
def swsD (s : List (Nat × Nat)) : PyData := .tuple (s.map swD)
def netD (x : Nat × List (Nat × Nat)) : PyData := .tuple [.int x.1, swsD x.2]
def rowD (r : List Int) : PyData := .tuple (r.map .int)
abbrev nsL : List Str := ["sorted", "dict", "len", "any", "all", "tuple", "range", "list", "min", "max", "enumerate", "sum", "int", "abs"]
section
variable {P : Program} {w : World} {K : PySem.W.Frag} {mg : Str → Option Value} {base : Heap} {f : Addr} {fd : FuncData} {k : Nat}

/-! is_next_net -/
theorem sc5 : FnScope ["net", "i", "j"] ["net"] (defScope (topS 5)) := ⟨rfl, rfl, rfl, by decide +kernel, rfl, by decide +kernel, by decide +kernel⟩
def isNext (s : List (Nat × Nat)) : Bool := s.all fun p => decide ((p.2 : Int) = (p.1 : Int) + 1)
theorem ok5 (nb : ∀ (i : Nat) (x : Str), nsL[i]? = some x → mg x = none) (F : Fun K "is_next_net" "is_next_net" (topS 5) f fd) :
    FnOk P w K mg base CX0 (k + 1) f fd ["net"] (spP (fun x : { x : Nat × List (Nat × Nat) // x.2.length ≤ 100 } => [.imm (netD x.1)]) (fun x => .imm (.bool (isNext x.1.2)))) := by
  refine fn_pure (ks := [1, 0, 0]) (gs := ["all"]) F sc5 rfl (fun _ => rfl) ?_
  rintro X B ⟨⟨n, s⟩, hz⟩ F0 hP hw hK hmg hbase hr
  have nbX : Nb X nsL := fun i x e => by rw [hmg]; exact nb i x e
  refine S_one (X_ret (E_cv (E_all (bs := s.map fun p => decide ((p.2 : Int) = (p.1 : Int) + 1)) F0 nbX (E_lcO (own := [("i", 1), ("j", 2)]) F0 rfl
    (LcOk.map (enc := swD) (xs := s) (fun p => .bool (decide ((p.2 : Int) = (p.1 : Int) + 1))) (I_tup (E_ixT (ds := [.int n, swsD s]) (k := 1) (E_var F0 0) E_int rfl)) rfl trivial (Nat.lt_of_le_of_lt hz (by decide)) fun p _ => ?_)) ?_) ?_) rfl)
  · exact ⟨_, _, _, fun X' b =>
      have F1 := F0.ofBlk (ks' := [0, 1, 1]) (gs' := []) rfl b
      ⟨G_tup F1 (G_cons (G_name F1 1) (G_cons (G_name F1 2) G_nil)), E_eqI (E_var F1 2) (E_add (E_var F1 1) E_int)⟩, by decide, rfl⟩
  · left
    rw [List.map_map]
    rfl
  · simp [isNext]

theorem nbOf {X : Cx} (nb : ∀ (i : Nat) (x : Str), nsL[i]? = some x → mg x = none) (h : X.mg = mg) : Nb X nsL := fun i x e => by rw [h]; exact nb i x e

/-! led_by_swaps -/
def ledStep (r : List Int) (p : Nat × Nat) : List Int := (r.set p.1 (if r.getD p.2 0 < r.getD p.1 0 then r.getD p.2 0 else r.getD p.1 0)).set p.2 (if r.getD p.2 0 > r.getD p.1 0 then r.getD p.2 0 else r.getD p.1 0)
def ledP (s : List (Nat × Nat)) (r : List Int) : List Int := s.foldl ledStep r
theorem ledStep_len (r : List Int) (p : Nat × Nat) : (ledStep r p).length = r.length := by simp [ledStep]
theorem sc6 : FnScope ["swaps", "row", "late", "i", "j", "low", "high"] ["swaps", "row"] (defScope (topS 6)) := ⟨rfl, rfl, rfl, by decide +kernel, rfl, by decide +kernel, by decide +kernel⟩
structure LedIn where
  s : List (Nat × Nat)
  r : List Int
  hs : ∀ p ∈ s, p.1 < r.length ∧ p.2 < r.length
theorem ok6 (nb : ∀ (i : Nat) (x : Str), nsL[i]? = some x → mg x = none) (F : Fun K "led_by_swaps" "led_by_swaps" (topS 6) f fd) :
    FnOk P w K mg base CX0 (k + 1) f fd ["swaps", "row"] (spP (fun x : LedIn => [.imm (swsD x.s), .imm (rowD x.r)]) (fun x => .imm (rowD (ledP x.s x.r)))) := by
  refine fn_pure (ks := [1, 1, 1, 1, 1, 1, 1]) (gs := ["list", "min", "max", "tuple"]) F sc6 rfl (fun _ => rfl) ?_
  rintro X B ⟨s, r, hs⟩ F0 hP hw hK hmg hbase hr
  have nbX := nbOf nb hmg
  refine S_cons (X_asg F0 2 (E_list F0 nbX (E_var F0 1) (.inl rfl)) fun v => ?_)
  refine S_cons (X_fold F0 (enc := swD) (xs := s) ledStep r (I := fun r' Γ => r'.length = r.length ∧ ∃ A3 A4 A5 A6, Γ = [.imm (swsD s), .imm (rowD r), .own v (oL (r'.map .int)), A3, A4, A5, A6]) (I_tup (E_var F0 0)) ⟨rfl, _, _, _, _, rfl⟩ (fun _ _ _ => trivial) (fun pre p post Γk e hI => ?_) (fun Γk hI => ?_))
  · obtain ⟨hl, A3, A4, A5, A6, rfl⟩ := hI
    obtain ⟨h1, h2⟩ := hs p (by rw [e]; simp)
    rw [← hl] at h1 h2
    generalize pre.foldl ledStep r = r1 at *
    refine ⟨_, _, G_tup F0 (G_cons (G_name F0 3) (G_cons (G_name F0 4) G_nil)), ?_⟩
    refine S_cons (X_par F0 5 6 (A_cons (E_min2 F0 nbX (A_cons (E_ixLx (enc := .int) 0 (E_ref F0 2) (E_var F0 3) (.at 2) h1) (A_cons (E_ixLx (enc := .int) 0 (E_ref F0 2) (E_var F0 4) (.at 2) h2) A_nil)))
      (A_cons (E_max2 F0 nbX (A_cons (E_ixLx (enc := .int) 0 (E_ref F0 2) (E_var F0 3) (.at 2) h1) (A_cons (E_ixLx (enc := .int) 0 (E_ref F0 2) (E_var F0 4) (.at 2) h2) A_nil))) A_nil)) fun _ _ => ?_)
    refine S_cons (X_asgT (E_var F0 5) (G_subx (enc := .int) F0 2 (E_var F0 3) h1) ?_)
    refine S_one (X_asgT (E_var F0 6) (G_subx (enc := .int) (xs := r1.set p.1 _) F0 2 (E_var F0 4) (Nat.lt_of_lt_of_eq h2 List.length_set.symm)) ?_)
    exact ⟨by rw [ledStep_len]; exact hl, _, _, _, _, rfl⟩
  · obtain ⟨hl, A3, A4, A5, A6, rfl⟩ := hI
    exact S_one (X_ret (E_tupleL F0 nbX (E_ref F0 2) (.at 2)) rfl)

/-! turned_members -/
def downRow (n : Nat) : List Int := (List.range n).map fun (m : Nat) => (n : Int) - 1 - (m : Int)
theorem sc7 : FnScope ["n"] ["n"] (defScope (topS 7)) := ⟨rfl, rfl, rfl, by decide +kernel, rfl, by decide +kernel, by decide +kernel⟩
theorem ok7 (nb : ∀ (i : Nat) (x : Str), nsL[i]? = some x → mg x = none) (F : Fun K "turned_members" "turned_members" (topS 7) f fd) :
    FnOk P w K mg base CX0 (k + 1) f fd ["n"] (spP (fun x : { n : Nat // n ≤ 100 } => [.imm (.int x.1)]) (fun x => .imm (rowD (downRow x.1)))) := by
  refine fn_pure (ks := [1]) (gs := ["tuple", "range"]) F sc7 rfl (fun _ => rfl) ?_
  rintro X B ⟨n, hn⟩ F0 hP hw hK hmg hbase hr
  have nbX := nbOf nb hmg
  refine S_one (X_ret (E_tupDown (i := (n : Int) - 1) (j := -1) F0 nbX (A_cons (E_sub (E_var F0 0) E_int) (A_cons (E_neg E_int) (A_cons (E_neg E_int) A_nil))) (by omega) (by omega)) ?_)
  show As.imm _ = As.imm _
  congr 1
  show PyData.tuple _ = PyData.tuple _
  congr 1
  rw [show ((n : Int) - 1 - -1).toNat = n by omega]
  unfold downRow
  rw [List.map_map]
  rfl

/-! working_swaps -/
def workStep (a : List Int × List Nat) (q : (Nat × Nat) × Nat) : List Int × List Nat :=
  if a.1.getD q.1.1 0 > a.1.getD q.1.2 0 then ((a.1.set q.1.2 (a.1.getD q.1.1 0)).set q.1.1 (a.1.getD q.1.2 0), a.2 ++ [q.2]) else a
def workP (s : List (Nat × Nat)) (r : List Int) : List Int × List Nat := s.zipIdx.foldl workStep (r, [])
theorem workStep_len (a : List Int × List Nat) (q : (Nat × Nat) × Nat) : (workStep a q).1.length = a.1.length := by
  unfold workStep; split <;> simp
theorem workStep_le (a : List Int × List Nat) (q : (Nat × Nat) × Nat) : (workStep a q).2.length ≤ a.2.length + 1 := by
  unfold workStep; split <;> simp
theorem enumD_map {α : Type} (enc : α → PyData) (xs : List α) : enumD (xs.map enc) = xs.zipIdx.map fun q => .tuple [.int (q.2 : Int), enc q.1] := by
  unfold enumD
  refine List.ext_getElem? fun i => ?_
  simp [List.getElem?_mapIdx, List.getElem?_map, List.getElem?_zipIdx, Option.map_map, Function.comp_def]
theorem sc8 : FnScope ["net", "row", "found", "k", "i", "j", "low"] ["net"] (defScope (topS 8)) := ⟨rfl, rfl, rfl, by decide +kernel, rfl, by decide +kernel, by decide +kernel⟩
structure NetIn where
  n : Nat
  s : List (Nat × Nat)
  hs : ∀ p ∈ s, p.1 < n ∧ p.2 < n
  hn : n ≤ 10
  hz : s.length ≤ 100
def NetIn.d (x : NetIn) : PyData := netD (x.n, x.s)
theorem downRow_len (n : Nat) : (downRow n).length = n := by simp [downRow]
theorem ok8 (nb : ∀ (i : Nat) (x : Str), nsL[i]? = some x → mg x = none) (F : Fun K "working_swaps" "working_swaps" (topS 8) f fd) {f7 : Addr} {fd7 : FuncData} (O7 : FnOk P w K mg base CX0 k f7 fd7 ["n"] (spP (fun x : { n : Nat // n ≤ 100 } => [.imm (.int x.1)]) (fun x => .imm (rowD (downRow x.1)))))
    (m7 : mg "turned_members" = some (.ref f7)) (k7 : PySem.W.keepIn K (.ref f7) = true) (b7 : Binds K fd7 ["n"] []) :
    FnOk P w K mg base CX0 (k + 1) f fd ["net"] (spP (fun x : NetIn => [.imm x.d]) (fun x => .imm (.tuple ((workP x.s (downRow x.n)).2.map natI)))) := by
  refine fn_pure (ks := [1, 1, 1, 1, 1, 1, 1]) (gs := ["list", "turned_members", "enumerate", "tuple"]) F sc8 rfl (fun _ => rfl) ?_
  rintro X B ⟨n, s, hs, hn, hz⟩ F0 hP hw hK hmg hbase hr
  have nbX := nbOf nb hmg
  have C7 : Cal X "turned_members" (spP (fun x : { n : Nat // n ≤ 100 } => [.imm (.int x.1)]) (fun x => .imm (rowD (downRow x.1)))) := by
    subst hP hw hK hmg hbase
    exact ⟨k, f7, fd7, _, O7, hr, m7, k7, b7⟩
  refine S_cons (X_par F0 1 2 (A_cons (E_list (ds := (downRow n).map .int) F0 nbX (E_call F0 C7 (fun _ => ⟨n, by omega⟩) (A_cons (E_ixT (ds := [.int n, swsD s]) (k := 0) (d := .int n) (E_var F0 0) E_int rfl) A_nil) (cv1 fun _ => .imm) (fun _ _ => rfl)) (.inl rfl)) (A_cons (E_lst (ds := []) A_nil (by decide)) A_nil)) fun v v2 => ?_)
  refine S_cons (X_fold F0 (enc := fun q : (Nat × Nat) × Nat => .tuple [.int (q.2 : Int), swD q.1]) (xs := s.zipIdx) workStep (downRow n, []) (I := fun a Γ => a.1.length = n ∧ a.2.length ≤ 100 ∧ ∃ A3 A4 A5 A6, Γ = [.imm (netD (n, s)), .own v (oL (a.1.map .int)), .own v2 (oL (a.2.map natI)), A3, A4, A5, A6])
    (I_cv (I_enumT F0 nbX (E_ixT (ds := [.int n, swsD s]) (k := 1) (E_var F0 0) E_int rfl)) (enumD_map swD s)) ⟨downRow_len n, by simp, _, _, _, _, rfl⟩ (fun _ _ _ => trivial) (fun pre q post Γk e hI => ?_) (fun Γk hI => ?_))
  · obtain ⟨hl, hl2, A3, A4, A5, A6, rfl⟩ := hI
    obtain ⟨⟨i, j⟩, m⟩ := q
    have hm : (i, j) ∈ s := by
      have h0 : ((i, j), m) ∈ s.zipIdx := by rw [e]; simp
      have h1 := List.mem_zipIdx h0
      simp at h1
      rw [h1.2]
      exact List.getElem_mem _
    obtain ⟨h1, h2⟩ := hs _ hm
    rw [← hl] at h1 h2
    have hlen : (pre.foldl workStep (downRow n, [])).2.length < 100 := by
      have key : ∀ (l : List ((Nat × Nat) × Nat)) (a : List Int × List Nat), (l.foldl workStep a).2.length ≤ a.2.length + l.length := by
        intro l
        induction l with
        | nil => intro a; simp
        | cons x l ih =>
          intro a
          rw [List.foldl_cons]
          have := ih (workStep a x)
          have := workStep_le a x
          simp only [List.length_cons]
          omega
      have := key pre (downRow n, [])
      have hh := congrArg List.length e
      simp at hh this
      omega
    generalize pre.foldl workStep (downRow n, []) = a at *
    obtain ⟨r1, fd1⟩ := a
    dsimp only at h1 h2 hl hlen ⊢
    refine ⟨_, _, G_tup F0 (G_cons (G_name F0 3) (G_cons (G_tup F0 (G_cons (G_name F0 4) (G_cons (G_name F0 5) G_nil))) G_nil)), ?_⟩
    refine S_one (X_if (T_gt (E_ixLx (enc := .int) 0 (E_ref F0 1) (E_var F0 4) (.at 1) h1) (E_ixLx (enc := .int) 0 (E_ref F0 1) (E_var F0 5) (.at 1) h2)) (fun t => ?_) (fun t => ?_))
    · have t' : r1.getD i 0 > r1.getD j 0 := of_decide_eq_true t
      refine S_cons (X_expr (M_appx (enc := natI) (y := m) F0 2 (E_var F0 3) (Nat.lt_of_lt_of_le hlen (by decide))) ?_)
      refine S_cons (X_asg F0 6 (E_ixLx (enc := .int) 0 (E_ref F0 1) (E_var F0 5) (.at 1) h2) fun _ => ?_)
      refine S_cons (X_asgT (E_ixLx (enc := .int) 0 (E_ref F0 1) (E_var F0 4) (.at 1) h1) (G_subx (enc := .int) F0 1 (E_var F0 5) h2) ?_)
      refine S_one (X_asgT (E_var F0 6) (G_subx (enc := .int) (xs := r1.set j _) F0 1 (E_var F0 4) (Nat.lt_of_lt_of_eq h1 List.length_set.symm)) ?_)
      have ew : workStep (r1, fd1) ((i, j), m) = ((r1.set j (r1.getD i 0)).set i (r1.getD j 0), fd1 ++ [m]) := if_pos t'
      rw [ew]
      exact ⟨by simpa using hl, by simp; omega, _, _, _, _, rfl⟩
    · have t' : ¬ r1.getD i 0 > r1.getD j 0 := of_decide_eq_false t
      have ew : workStep (r1, fd1) ((i, j), m) = (r1, fd1) := if_neg t'
      refine S_nil ?_
      rw [ew]
      exact ⟨hl, Nat.le_of_lt hlen, _, _, _, _, rfl⟩
  · obtain ⟨hl, _, A3, A4, A5, A6, rfl⟩ := hI
    exact S_one (X_ret (E_tupleL F0 nbX (E_ref F0 2) (.at 2)) rfl)

/-! working_net -/
def workN (x : Nat × List (Nat × Nat)) : List Nat := (workP x.2 (downRow x.1)).2
def fewP (x : Nat × List (Nat × Nat)) : Nat × List (Nat × Nat) := (x.1, (workN x).map fun k => x.2.getD k (0, 0))
theorem work_mem : ∀ (l : List ((Nat × Nat) × Nat)) (a : List Int × List Nat) {m : Nat}, m ∈ (l.foldl workStep a).2 → m ∈ a.2 ∨ ∃ p, (p, m) ∈ l
  | [], a, m, h => .inl h
  | q :: l, a, m, h => by
    rcases work_mem l (workStep a q) h with h | ⟨p, h⟩
    · unfold workStep at h
      split at h
      · rcases List.mem_append.mp h with h | h
        · exact .inl h
        · exact .inr ⟨q.1, by rw [List.mem_singleton] at h; subst h; simp⟩
      · exact .inl h
    · exact .inr ⟨p, List.mem_cons_of_mem _ h⟩
theorem workN_lt {x : Nat × List (Nat × Nat)} {m : Nat} (h : m ∈ workN x) : m < x.2.length := by
  rcases work_mem _ _ h with h | ⟨p, h⟩
  · simp at h
  · have := List.mem_zipIdx h
    simp at this
    exact this.1
theorem work_len : ∀ (l : List ((Nat × Nat) × Nat)) (a : List Int × List Nat), (l.foldl workStep a).2.length ≤ a.2.length + l.length
  | [], a => by simp
  | x :: l, a => by
    rw [List.foldl_cons]
    have := work_len l (workStep a x)
    have := workStep_le a x
    simp only [List.length_cons]
    omega
theorem workN_len (x : Nat × List (Nat × Nat)) : (workN x).length ≤ x.2.length := by
  have := work_len x.2.zipIdx (downRow x.1, [])
  simpa [workN, workP] using this
theorem sc9 : FnScope ["net", "k"] ["net"] (defScope (topS 9)) := ⟨rfl, rfl, rfl, by decide +kernel, rfl, by decide +kernel, by decide +kernel⟩
theorem ok9 (nb : ∀ (i : Nat) (x : Str), nsL[i]? = some x → mg x = none) (F : Fun K "working_net" "working_net" (topS 9) f fd) {f8 : Addr} {fd8 : FuncData} (O8 : FnOk P w K mg base CX0 k f8 fd8 ["net"] (spP (fun x : NetIn => [.imm x.d]) (fun x => .imm (.tuple ((workP x.s (downRow x.n)).2.map natI)))))
    (m8 : mg "working_swaps" = some (.ref f8)) (k8 : PySem.W.keepIn K (.ref f8) = true) (b8 : Binds K fd8 ["net"] []) :
    FnOk P w K mg base CX0 (k + 1) f fd ["net"] (spP (fun x : NetIn => [.imm x.d]) (fun x => .imm (netD (fewP (x.n, x.s))))) := by
  refine fn_pure (ks := [2, 0]) (gs := ["tuple", "working_swaps"]) F sc9 rfl (fun _ => rfl) ?_
  rintro X B ⟨n, s, hs, hn, hz⟩ F0 hP hw hK hmg hbase hr
  have nbX := nbOf nb hmg
  have C8 : Cal X "working_swaps" (spP (fun x : NetIn => [.imm x.d]) (fun x => .imm (.tuple ((workP x.s (downRow x.n)).2.map natI)))) := by
    subst hP hw hK hmg hbase
    exact ⟨k, f8, fd8, _, O8, hr, m8, k8, b8⟩
  refine S_one (X_ret (E_tup (ds := [.int n, swsD (fewP (n, s)).2]) (A_cons (E_ixT (ds := [.int n, swsD s]) (k := 0) (d := .int n) (E_var F0 0) E_int rfl) (A_cons (E_tupleL F0 nbX (E_lcO (own := [("k", 1)]) F0 rfl
    (LcOk.map (enc := natI) (xs := workN (n, s)) (fun k => swD (s.getD k (0, 0))) (I_tup (E_call F0 C8 (fun _ => ⟨n, s, hs, hn, hz⟩) (A_cons (E_var F0 0) A_nil) (cv1 fun _ => .imm) (fun _ _ => rfl))) rfl trivial ?_ fun m hm => ?_)) ?_) A_nil)) (show 2 ≤ sizeLine by decide)) rfl)
  · exact Nat.lt_of_le_of_lt (Nat.le_trans (workN_len _) hz) (by decide)
  · exact ⟨_, _, _, fun X' b =>
      have F1 := F0.ofBlk (ks' := [3, 1]) (gs' := []) rfl b
      ⟨G_name F1 1, E_ixTx (enc := swD) (xs := s) (0, 0) (E_ixT (ds := [.int n, swsD s]) (k := 1) (E_var F1 0) E_int rfl) (E_var F1 1) (workN_lt hm)⟩, by decide, rfl⟩
  · left
    simp only [fewP, List.map_map]
    rfl

/-! pairs_against -/
def pairsP (r : List Int) : Int := (r.zipIdx.map fun q => (((r.take q.2).filter fun x => decide (x > q.1)).length : Int)).sum
theorem sc11 : FnScope ["row", "j", "y", "x"] ["row"] (defScope (topS 11)) := ⟨rfl, rfl, rfl, by decide +kernel, rfl, by decide +kernel, by decide +kernel⟩
theorem cut_to {α : Type} (enc : α → PyData) (r : List α) (j : Nat) (h : j ≤ r.length) : PL.cutD (r.map enc) none (some (j : Int)) = (r.take j).map enc := by
  unfold PL.cutD
  have e1 : HT.sIx (r.map enc).length 0 none = 0 := rfl
  have e2 : HT.sIx (r.map enc).length (r.map enc).length (some (j : Int)) = j := by
    simp only [HT.sIx, List.length_map]
    rw [if_neg (by omega)]
    omega
  rw [e1, e2, List.drop_zero, Nat.sub_zero, List.map_take]
theorem ok11 (nb : ∀ (i : Nat) (x : Str), nsL[i]? = some x → mg x = none) (F : Fun K "pairs_against" "pairs_against" (topS 11) f fd) :
    FnOk P w K mg base CX0 (k + 1) f fd ["row"] (spP (fun r : { r : List Int // r.length ≤ 100 } => [.imm (rowD r.1)]) (fun r => .imm (.int (pairsP r.1)))) := by
  refine fn_pure (ks := [2, 0, 0, 0]) (gs := ["sum", "enumerate"]) F sc11 rfl (fun _ => rfl) ?_
  rintro X B ⟨r, hz⟩ F0 hP hw hK hmg hbase hr
  have nbX := nbOf nb hmg
  refine S_one (X_ret (E_sum F0 nbX (E_lcO (own := [("j", 1), ("y", 2)]) F0 rfl (LcOk.map (enc := fun q : Int × Nat => .tuple [.int (q.2 : Int), .int q.1]) (xs := r.zipIdx) (fun q => .int (((r.take q.2).filter fun x => decide (x > q.1)).length : Int))
    (I_cv (I_enumT F0 nbX (E_var F0 0)) (enumD_map .int r)) rfl trivial ?_ fun q hq => ?_)) ?_) rfl)
  · rw [List.length_zipIdx]; exact Nat.lt_of_le_of_lt hz (by decide)
  · obtain ⟨y, j⟩ := q
    have hj : j < r.length := by have := List.mem_zipIdx hq; simp at this; exact this.1
    refine ⟨_, _, _, fun X' b =>
      have F1 := F0.ofBlk (ks' := [3, 1, 2, 0]) (gs' := ["len"]) rfl b
      have nb1 := nbX.blk b
      ⟨G_tup F1 (G_cons (G_name F1 1) (G_cons (G_name F1 2) G_nil)), E_cv (E_len F1 nb1 (E_lcO (own := [("x", 3)]) F1 rfl (LcOk.filt (enc := .int) (xs := r.take j) (fun x => decide (x > y)) (fun x => .int x)
        (I_cv (I_tup (E_slT (E_var F1 0) .none (.some (E_var F1 1)))) (cut_to .int r j (Nat.le_of_lt hj))) rfl trivial (Nat.lt_of_le_of_lt (by rw [List.length_take]; omega) (show 100 < sizeLine by decide)) fun x hx => ?_)) (.inr .new)) ?_⟩, by decide, rfl⟩
    · exact ⟨_, _, _, _, fun X2 b2 =>
        have F2 := F1.ofBlk (ks' := [0, 0, 3, 1]) (gs' := []) rfl b2
        ⟨G_name F2 3, T_gt (E_var F2 3) (E_var F2 2), fun _ => E_var F2 3⟩, by decide, fun _ => rfl, rfl⟩
    · simp
  · left
    rw [List.map_map]
    rfl
end
end K71

namespace K71
open PySem PySem.Spec PyProof.Rows L2 PL
section
variable {P : Program} {w : World} {K : PySem.W.Frag} {mg : Str → Option Value} {base : Heap} {f : Addr} {fd : FuncData} {k : Nat}

/-! _law_led -/
def lawStep (r : List Int) (p : Nat × Nat) : List Int := if r.getD p.1 0 > r.getD p.2 0 then (r.set p.1 (r.getD p.2 0)).set p.2 (r.getD p.1 0) else r
def lawLed (s : List (Nat × Nat)) (r : List Int) : List Int := s.foldl lawStep r
theorem lawStep_len (r : List Int) (p : Nat × Nat) : (lawStep r p).length = r.length := by unfold lawStep; split <;> simp
theorem sc15 : FnScope ["swaps", "row", "late", "i", "j"] ["swaps", "row"] (defScope (topS 15)) := ⟨rfl, rfl, rfl, by decide +kernel, rfl, by decide +kernel, by decide +kernel⟩
theorem ok15 (nb : ∀ (i : Nat) (x : Str), nsL[i]? = some x → mg x = none) (F : Fun K "_law_led" "_law_led" (topS 15) f fd) :
    FnOk P w K mg base CX0 (k + 1) f fd ["swaps", "row"] (spP (fun x : LedIn => [.imm (swsD x.s), .imm (rowD x.r)]) (fun x => .imm (rowD (lawLed x.s x.r)))) := by
  refine fn_pure (ks := [1, 1, 1, 1, 1]) (gs := ["list", "tuple"]) F sc15 rfl (fun _ => rfl) ?_
  rintro X B ⟨s, r, hs⟩ F0 hP hw hK hmg hbase hr
  have nbX := nbOf nb hmg
  refine S_cons (X_asg F0 2 (E_list F0 nbX (E_var F0 1) (.inl rfl)) fun v => ?_)
  refine S_cons (X_fold F0 (enc := swD) (xs := s) lawStep r (I := fun r' Γ => r'.length = r.length ∧ ∃ A3 A4, Γ = [.imm (swsD s), .imm (rowD r), .own v (oL (r'.map .int)), A3, A4]) (I_tup (E_var F0 0)) ⟨rfl, _, _, rfl⟩ (fun _ _ _ => trivial) (fun pre p post Γk e hI => ?_) (fun Γk hI => ?_))
  · obtain ⟨hl, A3, A4, rfl⟩ := hI
    obtain ⟨h1, h2⟩ := hs p (by rw [e]; simp)
    rw [← hl] at h1 h2
    generalize pre.foldl lawStep r = r1 at *
    refine ⟨_, _, G_tup F0 (G_cons (G_name F0 3) (G_cons (G_name F0 4) G_nil)), ?_⟩
    refine S_one (X_if (T_gt (E_ixLx (enc := .int) 0 (E_ref F0 2) (E_var F0 3) (.at 2) h1) (E_ixLx (enc := .int) 0 (E_ref F0 2) (E_var F0 4) (.at 2) h2)) (fun t => ?_) (fun t => ?_))
    · have t' : r1.getD p.1 0 > r1.getD p.2 0 := of_decide_eq_true t
      refine S_one (X_asgS (E_tup (ds := [.int (r1.getD p.2 0), .int (r1.getD p.1 0)]) (A_cons (E_ixLx (enc := .int) 0 (E_ref F0 2) (E_var F0 4) (.at 2) h2) (A_cons (E_ixLx (enc := .int) 0 (E_ref F0 2) (E_var F0 3) (.at 2) h1) A_nil)) (show 2 ≤ sizeLine by decide))
        (G_tup F0 (G_cons (G_subx (enc := .int) F0 2 (E_var F0 3) h1) (G_cons (G_subx (enc := .int) (xs := r1.set p.1 _) F0 2 (E_var F0 4) (Nat.lt_of_lt_of_eq h2 List.length_set.symm)) G_nil))) ?_)
      have ew : lawStep r1 p = (r1.set p.1 (r1.getD p.2 0)).set p.2 (r1.getD p.1 0) := if_pos t'
      rw [ew]
      exact ⟨by simpa using hl, _, _, rfl⟩
    · have t' : ¬ r1.getD p.1 0 > r1.getD p.2 0 := of_decide_eq_false t
      have ew : lawStep r1 p = r1 := if_neg t'
      refine S_nil ?_
      rw [ew]
      exact ⟨hl, _, _, rfl⟩
  · obtain ⟨hl, A3, A4, rfl⟩ := hI
    exact S_one (X_ret (E_tupleL F0 nbX (E_ref F0 2) (.at 2)) rfl)

/-! _law_words -/
def wordStep (ws : List (List Int)) : List (List Int) := (ws.map fun r => r ++ [0]) ++ ws.map fun r => r ++ [1]
def wordsP (n : Nat) : List (List Int) := (List.range n).foldl (fun ws _ => wordStep ws) [[]]
theorem wordsP_succ (n : Nat) : wordsP (n + 1) = wordStep (wordsP n) := by
  unfold wordsP
  rw [List.range_succ, List.foldl_append]
  rfl
theorem wordsP_len : ∀ n, (wordsP n).length = 2 ^ n ∧ ∀ r ∈ wordsP n, r.length = n
  | 0 => by
    refine ⟨rfl, fun r hr => ?_⟩
    have : r = [] := by simpa [wordsP] using hr
    rw [this]; rfl
  | n + 1 => by
    obtain ⟨h1, h2⟩ := wordsP_len n
    rw [wordsP_succ]
    refine ⟨by simp [wordStep, h1]; omega, fun r hr => ?_⟩
    unfold wordStep at hr
    rcases List.mem_append.mp hr with hr | hr
    · obtain ⟨x, hx, rfl⟩ := List.mem_map.mp hr
      simp [h2 x hx]
    · obtain ⟨x, hx, rfl⟩ := List.mem_map.mp hr
      simp [h2 x hx]
theorem sc18 : FnScope ["n", "rows", "turn", "row"] ["n"] (defScope (topS 18)) := ⟨rfl, rfl, rfl, by decide +kernel, rfl, by decide +kernel, by decide +kernel⟩
theorem fold_const {β : Type} (g : β → β) (b : β) : ∀ (l m : List Nat), l.length = m.length → l.foldl (fun a _ => g a) b = m.foldl (fun a _ => g a) b
  | [], [], _ => rfl
  | [], _ :: _, h => by simp at h
  | _ :: _, [], h => by simp at h
  | _ :: l, _ :: m, h => fold_const g (g b) l m (by simpa using h)
theorem fold_words (l : List Nat) : l.foldl (fun ws _ => wordStep ws) [[]] = wordsP l.length := fold_const wordStep [[]] l (List.range l.length) (by simp)
theorem ok18 (nb : ∀ (i : Nat) (x : Str), nsL[i]? = some x → mg x = none) (F : Fun K "_law_words" "_law_words" (topS 18) f fd) :
    FnOk P w K mg base CX0 (k + 1) f fd ["n"] (spP (fun x : { n : Nat // n ≤ 10 } => [.imm (.int x.1)]) (fun x => .new (oL ((wordsP x.1).map rowD)))) := by
  refine fn_pure (ks := [1, 1, 1, 0]) (gs := ["range"]) F sc18 rfl (fun _ => rfl) ?_
  rintro X B ⟨n, hn⟩ F0 hP hw hK hmg hbase hr
  have nbX := nbOf nb hmg
  refine S_cons (X_asg F0 1 (E_lst (ds := [rowD []]) (A_cons (E_tup (ds := []) A_nil (by decide)) A_nil) (show 1 ≤ sizeLine by decide)) fun v => ?_)
  refine S_cons (X_fold F0 (enc := natI) (xs := List.range n) (fun ws _ => wordStep ws) [[]] (I := fun ws Γ => ∃ v A2, Γ = [.imm (.int n), .own v (oL (ws.map rowD)), A2, .any]) (I_rgN F0 nbX (A_cons (E_var F0 0) A_nil) (by omega)) ⟨_, _, rfl⟩ (fun _ _ _ => trivial) (fun pre p post Γk e hI => ?_) (fun Γk hI => ?_))
  · obtain ⟨v1, A2, rfl⟩ := hI
    have hlen : pre.length < 10 := by
      have hh := congrArg List.length e
      simp at hh; omega
    rw [fold_words pre]
    obtain ⟨w1, w2⟩ := wordsP_len pre.length
    generalize wordsP pre.length = ws at *
    have hz : ws.length ≤ 512 := by
      rw [w1]
      exact Nat.le_trans (Nat.pow_le_pow_right (by decide) (by omega : pre.length ≤ 9)) (by decide)
    refine ⟨_, _, G_name F0 2, ?_⟩
    refine S_one (X_asg F0 1 (E_catL
      (E_lcO (own := [("row", 3)]) F0 rfl (LcOk.map (enc := rowD) (xs := ws) (fun r => rowD (r ++ [0])) (I_own (i := 1) (E_ref F0 1)) rfl (.inl rfl) (Nat.lt_of_le_of_lt hz (by decide)) fun r hr => ?_))
      (E_lcO (own := [("row", 3)]) F0 rfl (LcOk.map (enc := rowD) (xs := ws) (fun r => rowD (r ++ [1])) (I_own (i := 1) (E_ref F0 1)) rfl (.inl rfl) (Nat.lt_of_le_of_lt hz (by decide)) fun r hr => ?_)) .new .new ?_) fun v2 => ?_)
    · exact ⟨_, _, _, fun X' b =>
        have F1 := F0.ofBlk (ks' := [0, 0, 0, 1]) (gs' := []) rfl b
        ⟨G_name F1 3, E_cv (E_catT (ds := r.map .int) (fs := [.int 0]) (E_var F1 3) (E_tup (ds := [.int 0]) (A_cons E_int A_nil) (show 1 ≤ sizeLine by decide)) (by rw [List.length_map, w2 r hr]; exact Nat.le_trans (show pre.length + 1 ≤ 20 by omega) (by decide))) (by simp [rowD])⟩, by decide, rfl⟩
    · exact ⟨_, _, _, fun X' b =>
        have F1 := F0.ofBlk (ks' := [0, 0, 0, 1]) (gs' := []) rfl b
        ⟨G_name F1 3, E_cv (E_catT (ds := r.map .int) (fs := [.int 1]) (E_var F1 3) (E_tup (ds := [.int 1]) (A_cons E_int A_nil) (show 1 ≤ sizeLine by decide)) (by rw [List.length_map, w2 r hr]; exact Nat.le_trans (show pre.length + 1 ≤ 20 by omega) (by decide))) (by simp [rowD])⟩, by decide, rfl⟩
    · rw [List.length_map, List.length_map]; exact Nat.le_trans (show ws.length + ws.length ≤ 1024 by omega) (by decide)
    · have ew : (wordStep ws).map rowD = (ws.map fun r => rowD (r ++ [0])) ++ ws.map fun r => rowD (r ++ [1]) := by simp [wordStep, Function.comp_def]
      exact ⟨v2, .imm (natI p), by rw [ew]; rfl⟩
  · obtain ⟨v1, A2, rfl⟩ := hI
    exact S_one (X_ret (E_take F0 1) rfl)

/-! least_of_lots -/
def selStep (fd : List (List Int)) (lot : List Int) : List (List Int) := if fd.any (fun one => one.all fun l => decide (l ∈ lot)) then fd else fd ++ [lot]
def leastP (lots : List (List Int)) : List (List Int) := (((nub lots).mergeSort fun a b => decide (a.length ≤ b.length)).foldl selStep []).mergeSort fun a b => decide (a ≤ b)
def lotsD (lots : List (List Int)) : PyData := .tuple (lots.map rowT)
structure LotsIn where
  v : Option V
  lots : List (List Int)
  hne : ∀ l ∈ lots, l ≠ [] ∧ l.length ≤ 100
  hz : lots.length ≤ 5000
def LotsIn.pre (x : LotsIn) : List As := match x.v with
  | none => [.imm (lotsD x.lots)]
  | some v => [.frz v (oL (x.lots.map rowT))]
theorem sel_mem : ∀ (l fd : List (List Int)) {x : List Int}, x ∈ l.foldl selStep fd → x ∈ fd ∨ x ∈ l
  | [], fd, x, h => .inl h
  | y :: l, fd, x, h => by
    rcases sel_mem l _ h with h | h
    · unfold selStep at h
      split at h
      · exact .inl h
      · rcases List.mem_append.mp h with h | h
        · exact .inl h
        · rw [List.mem_singleton] at h
          exact .inr (by rw [h]; simp)
    · exact .inr (List.mem_cons_of_mem _ h)
theorem sel_len : ∀ (l fd : List (List Int)), (l.foldl selStep fd).length ≤ fd.length + l.length
  | [], fd => by simp
  | y :: l, fd => by
    rw [List.foldl_cons]
    have h := sel_len l (selStep fd y)
    have h2 : (selStep fd y).length ≤ fd.length + 1 := by unfold selStep; split <;> simp
    simp only [List.length_cons]
    omega
theorem sc1 : FnScope ["lots", "found", "lot", "one", "line"] ["lots"] (defScope (topS 1)) := ⟨rfl, rfl, rfl, by decide +kernel, rfl, by decide +kernel, by decide +kernel⟩
theorem ok1 (nb : ∀ (i : Nat) (x : Str), nsL[i]? = some x → mg x = none) (F : Fun K "least_of_lots" "least_of_lots" (topS 1) f fd) :
    FnOk P w K mg base CX0 (k + 1) f fd ["lots"] (spP LotsIn.pre (fun x => .imm (lotsD (leastP x.lots)))) := by
  refine fn_pure (ks := [1, 1, 2, 0, 0]) (gs := ["sorted", "dict", "len", "any", "tuple"]) F sc1 rfl (fun x => by cases x with | mk v lots hne hz => cases v <;> rfl) ?_
  rintro X B ⟨vo, lots, hne, hz⟩ F0 hP hw hK hmg hbase hr
  have nbX := nbOf nb hmg
  obtain ⟨A0, hA0, hlc⟩ : ∃ A0, entry ["lots", "found", "lot", "one", "line"] (LotsIn.pre ⟨vo, lots, hne, hz⟩) = [A0, .any, .any, .any, .any] ∧ ∀ {A1 : As} {p : Pos} {elt tg : Expr} {scope : Scope} {own : List (Str × Nat)} (f : List Int → PyData),
      anyAt [A0, A1, .any, .any, .any] (own.map (·.2)) = [A0, A1, .any, .any, .any] →
      (∀ x ∈ lots, ∃ Γ' Γ3 L, (∀ X', Bk X X' scope → Tg X' B [] tg [A0, A1, .any, .any, .any] (rowT x) Γ' L ∧ Ee X' B [] elt Γ' Γ3 (.imm (f x))) ∧ (∀ i ∈ L, i ∈ own.map (·.2)) ∧ anyAt Γ3 (own.map (·.2)) = [A0, A1, .any, .any, .any]) →
      LcOk X B [] elt tg (.Name "lots" p) [] scope own [A0, A1, .any, .any, .any] [A0, A1, .any, .any, .any] (lots.map f) := by
    cases vo with
    | none => exact ⟨_, rfl, fun {A1 p elt tg scope own} f h1 h2 => LcOk.map f (I_tup (E_var F0 0)) h1 trivial (Nat.lt_of_le_of_lt hz (by decide)) h2⟩
    | some v => exact ⟨_, rfl, fun {A1 p elt tg scope own} f h1 h2 => LcOk.map f (I_own (i := 0) (E_ref F0 0)) h1 (.inr rfl) (Nat.lt_of_le_of_lt hz (by decide)) h2⟩
  rw [hA0]
  have hsz : ((nub lots).mergeSort fun a b => decide (a.length ≤ b.length)).length ≤ 5000 := by
    rw [List.length_mergeSort]; exact Nat.le_trans (nub_len lots) hz
  have hne2 : ∀ l ∈ (nub lots).mergeSort fun a b => decide (a.length ≤ b.length), l ≠ [] := fun l hl => (hne l ((mem_nub lots).mp (List.mem_mergeSort.mp hl))).1
  refine S_cons (X_asg F0 1 (E_lst (ds := []) A_nil (by decide)) fun v1 => ?_)
  refine S_cons (X_fold F0 (enc := rowT) (xs := (nub lots).mergeSort fun a b => decide (a.length ≤ b.length)) selStep [] (I := fun fd Γ => fd.length ≤ 5000 ∧ ∃ A2, Γ = [A0, .own v1 (oL (fd.map rowT)), A2, .any, .any])
    (I_cv (I_new (E_sortedTLen F0 nbX (E_dictT (ps := lots.map fun l => (keyR l, .bool true)) F0 nbX (E_lcO (own := [("lot", 2)]) F0 rfl (hlc (fun l => .tuple [rowT l, .bool true]) rfl fun l _ => ?_)) ?_) .new)) ?_) ⟨by simp, .any, rfl⟩ (fun _ _ _ => trivial) (fun pre lot post Γk e hI => ?_) (fun Γk hI => ?_))
  · exact ⟨_, _, _, fun X' b =>
      have F1 := F0.ofBlk (ks' := [0, 0, 1, 0, 0]) (gs' := []) rfl b
      ⟨G_name F1 2, E_tup (ds := [rowT l, .bool true]) (A_cons (E_var F1 2) (A_cons E_bool A_nil)) (show 2 ≤ sizeLine by decide)⟩, by decide, rfl⟩
  · left
    rw [List.map_map]
    congr 2
    refine List.map_congr_left fun l _ => ?_
    show _ = PyData.tuple [tkey (keyR l), _]
    rw [tkey_R]
  · rw [mergeG_map keyR_inj, List.map_map]
    rw [show ((fun e : List Key × PyData => tkey e.1) ∘ fun x : List Int => (keyR x, PyData.bool true)) = rowT from funext fun l => tkey_R l]
    rw [srtLen_map, le_rowLen]
  · obtain ⟨_, A2, rfl⟩ := hI
    have hlen : (pre.foldl selStep []).length < 5000 := by
      have h1 := sel_len pre []
      have hh := congrArg List.length e
      simp only [List.length_append, List.length_cons, List.length_nil] at h1 hh
      omega
    have hmem : ∀ x ∈ pre.foldl selStep [], x.length ≤ 100 := fun x hx => by
      rcases sel_mem _ _ hx with h | h
      · simp at h
      · exact (hne x ((mem_nub lots).mp (List.mem_mergeSort.mp (by rw [e]; exact List.mem_append_left _ h)))).2
    generalize pre.foldl selStep [] = found at *
    refine ⟨_, _, G_name F0 2, ?_⟩
    refine S_one (X_if (T_not (T_val (x := found.any fun one => one.all fun l => decide (l ∈ lot)) (E_cv (E_any (bs := found.map fun one => one.all fun l => decide (l ∈ lot)) F0 nbX (E_lcO (own := [("one", 3)]) F0 rfl
      (LcOk.map (enc := rowT) (xs := found) (fun one => .bool (one.all fun l => decide (l ∈ lot))) (I_own (i := 1) (E_ref F0 1)) rfl (.inl rfl) (Nat.lt_trans hlen (by decide)) fun one hone => ?_)) ?_) ?_))) (fun t => ?_) (fun t => ?_))
    · refine ⟨_, _, _, fun X' b =>
        have F1 := F0.ofBlk (ks' := [0, 0, 3, 1, 0]) (gs' := ["all"]) rfl b
        ⟨G_name F1 3, E_cv (E_all (bs := one.map fun l => decide (l ∈ lot)) F1 (nbX.blk b) (E_lcO (own := [("line", 4)]) F1 rfl
          (LcOk.map (enc := .int) (xs := one) (fun l => .bool (decide (l ∈ lot))) (I_tup (E_var F1 3)) rfl trivial (Nat.lt_of_le_of_lt (hmem one hone) (by decide)) fun l _ => ⟨_, _, _, fun X2 b2 =>
            have F2 := F1.ofBlk (ks' := [0, 0, 3, 0, 1]) (gs' := []) rfl b2
            ⟨G_name F2 4, E_in (E_var F2 4) (E_var F2 2)⟩, by decide, rfl⟩)) ?_) ?_⟩, by decide, rfl⟩
      · left
        rw [List.map_map]
        rfl
      · rw [List.all_map]; rfl
    · left
      rw [List.map_map]
      rfl
    · rw [List.any_map]; rfl
    · have ew : selStep found lot = found ++ [lot] := by
        unfold selStep
        rw [if_neg (by simpa using t)]
      refine S_one (X_expr (M_appx (enc := rowT) (y := lot) F0 1 (E_var F0 2) (Nat.lt_trans hlen (by decide))) ?_)
      rw [ew]
      exact ⟨by simp; omega, _, rfl⟩
    · have ew : selStep found lot = found := by
        unfold selStep
        rw [if_pos (by simpa using t)]
      refine S_nil ?_
      rw [ew]
      exact ⟨Nat.le_of_lt hlen, _, rfl⟩
  · obtain ⟨_, A2, rfl⟩ := hI
    refine S_one (X_ret (E_tupleL F0 nbX (E_sortedL F0 nbX (E_ref F0 1) (.at 1) (srtOk_rows ?_)) .new) ?_)
    · intro x hx
      rcases sel_mem _ _ hx with h | h
      · simp at h
      · exact hne2 x h
    · rw [srt_map, le_rowT]
      rfl
end
end K71

namespace K71
open PySem PySem.Spec PyProof.Rows L2 PL

/-! ### lots: ascending lists of lines -/
theorem nodup_le {α : Type} [DecidableEq α] : ∀ {xs ys : List α}, xs.Nodup → (∀ x ∈ xs, x ∈ ys) → xs.length ≤ ys.length
  | [], _, _, _ => Nat.zero_le _
  | x :: xs, ys, hn, h => by
    rw [List.nodup_cons] at hn
    have hx := h x (by simp)
    have ih := nodup_le (xs := xs) (ys := ys.erase x) hn.2 fun y hy => (List.mem_erase_of_ne (fun e => hn.1 (by rw [← e]; exact hy))).mpr (h y (List.mem_cons_of_mem _ hy))
    rw [List.length_erase_of_mem hx] at ih
    have := List.length_pos_of_mem hx
    simp only [List.length_cons]
    omega
def allLots : Nat → List (List Int)
  | 0 => [[]]
  | n + 1 => allLots n ++ (allLots n).map fun l => l ++ [(n : Int)]
theorem allLots_len : ∀ n, (allLots n).length = 2 ^ n
  | 0 => rfl
  | n + 1 => by simp [allLots, allLots_len n]; omega
structure Lot (n : Nat) (l : List Int) : Prop where
  asc : l.Pairwise (· < ·)
  rg : ∀ x ∈ l, 0 ≤ x ∧ x < n
theorem lot_mem : ∀ {n : Nat} {l : List Int}, Lot n l → l ∈ allLots n
  | 0, l, h => by
    cases l with
    | nil => simp [allLots]
    | cons x l => have := h.rg x (by simp); omega
  | n + 1, l, h => by
    unfold allLots
    rw [List.mem_append, List.mem_map]
    by_cases hn : (n : Int) ∈ l
    · right
      -- it is the last one
      obtain ⟨a, b, rfl⟩ := List.append_of_mem hn
      have hb : b = [] := by
        cases b with
        | nil => rfl
        | cons y b =>
          have h1 := h.asc
          rw [List.pairwise_append] at h1
          have h2 := (List.pairwise_cons.mp h1.2.1).1 y (by simp)
          have h3 := h.rg y (by simp)
          omega
      subst hb
      refine ⟨a, lot_mem ⟨(List.pairwise_append.mp h.asc).1, fun x hx => ?_⟩, rfl⟩
      have h1 := (List.pairwise_append.mp h.asc).2.2 x hx n (by simp)
      have h2 := h.rg x (by simp [hx])
      omega
    · left
      refine lot_mem ⟨h.asc, fun x hx => ?_⟩
      have h2 := h.rg x hx
      have h3 : x ≠ n := fun e => hn (e ▸ hx)
      omega
/-- what a line tells: lots, each once -/
structure Tel (n : Nat) (t : List (List Int)) : Prop where
  nd : t.Nodup
  lot : ∀ l ∈ t, Lot n l ∧ l ≠ []
theorem Tel.len {n : Nat} {t : List (List Int)} (h : Tel n t) : t.length ≤ 2 ^ n := by
  rw [← allLots_len]
  exact nodup_le h.nd fun l hl => lot_mem (h.lot l hl).1
theorem Lot.len {n : Nat} {l : List Int} (h : Lot n l) : l.length ≤ n := by
  have hnd : l.Nodup := h.asc.imp fun {a b} hab => by omega
  have := nodup_le (ys := (List.range n).map fun (i : Nat) => (i : Int)) hnd fun x hx => by
    have := h.rg x hx
    exact List.mem_map.mpr ⟨x.toNat, List.mem_range.mpr (by omega), by omega⟩
  simpa using this
theorem leI_trans (a b c : Int) (h1 : decide (a ≤ b) = true) (h2 : decide (b ≤ c) = true) : decide (a ≤ c) = true := by
  simp only [decide_eq_true_eq] at *; omega
theorem leI_total (a b : Int) : (decide (a ≤ b) || decide (b ≤ a)) = true := by
  simp only [Bool.or_eq_true, decide_eq_true_eq]; omega
def unionP (one other : List Int) : List Int := (nub (one ++ other)).mergeSort fun a b => decide (a ≤ b)
theorem mem_unionP {one other : List Int} {x : Int} : x ∈ unionP one other ↔ x ∈ one ∨ x ∈ other := by
  unfold unionP
  rw [List.mem_mergeSort, mem_nub, List.mem_append]
theorem unionP_asc (one other : List Int) : (unionP one other).Pairwise (· < ·) := by
  have h1 : (unionP one other).Pairwise fun a b => decide (a ≤ b) = true := List.pairwise_mergeSort leI_trans leI_total _
  have h2 : (unionP one other).Nodup := (List.mergeSort_perm _ _).nodup_iff.mpr (nub_nodup _)
  have h3 := List.Pairwise.and h1 h2
  exact h3.imp fun {a b} h => by
    have := of_decide_eq_true h.1
    have := h.2
    omega
theorem unionP_lot {n : Nat} {one other : List Int} (h1 : Lot n one) (h2 : Lot n other) (h3 : one ≠ []) : Lot n (unionP one other) ∧ unionP one other ≠ [] := by
  refine ⟨⟨unionP_asc _ _, fun x hx => ?_⟩, fun e => ?_⟩
  · rcases mem_unionP.mp hx with h | h
    · exact h1.rg x h
    · exact h2.rg x h
  · cases one with
    | nil => exact h3 rfl
    | cons x l =>
      have : x ∈ unionP (x :: l) other := mem_unionP.mpr (.inl (by simp))
      rw [e] at this
      simp at this
theorem sel_nodup : ∀ (l fd : List (List Int)), fd.Nodup → (∀ x ∈ l, x ∉ fd) → l.Nodup → (l.foldl selStep fd).Nodup
  | [], fd, h, _, _ => h
  | y :: l, fd, h, hd, hl => by
    rw [List.nodup_cons] at hl
    rw [List.foldl_cons]
    by_cases c : fd.any (fun one => one.all fun z => decide (z ∈ y)) = true
    · have e : selStep fd y = fd := if_pos c
      rw [e]
      exact sel_nodup l fd h (fun x hx => hd x (List.mem_cons_of_mem _ hx)) hl.2
    · have e : selStep fd y = fd ++ [y] := if_neg c
      rw [e]
      refine sel_nodup l _ ?_ (fun x hx => ?_) hl.2
      · rw [List.nodup_append]
        exact ⟨h, by simp, fun a ha b hb => by simp at hb; subst hb; exact fun z => hd _ (by simp) (z ▸ ha)⟩
      · rw [List.mem_append, List.mem_singleton, not_or]
        exact ⟨hd x (List.mem_cons_of_mem _ hx), fun z => hl.1 (z ▸ hx)⟩
theorem leastP_mem {lots : List (List Int)} {x : List Int} (h : x ∈ leastP lots) : x ∈ lots := by
  unfold leastP at h
  rw [List.mem_mergeSort] at h
  rcases sel_mem _ _ h with h | h
  · simp at h
  · exact (mem_nub lots).mp (List.mem_mergeSort.mp h)
theorem leastP_nodup (lots : List (List Int)) : (leastP lots).Nodup := by
  unfold leastP
  refine (List.mergeSort_perm _ _).nodup_iff.mpr (sel_nodup _ _ List.nodup_nil (by simp) ?_)
  exact (List.mergeSort_perm _ _).nodup_iff.mpr (nub_nodup _)
theorem leastP_tel {n : Nat} {lots : List (List Int)} (h : ∀ l ∈ lots, Lot n l ∧ l ≠ []) : Tel n (leastP lots) := ⟨leastP_nodup lots, fun l hl => h l (leastP_mem hl)⟩
def unionsP (t u : List (List Int)) : List (List Int) := t.foldl (fun acc one => acc ++ u.map (unionP one)) []
theorem fold_app {α β : Type} (g : α → List β) : ∀ (l : List α) (acc : List β), l.foldl (fun acc x => acc ++ g x) acc = acc ++ l.flatMap g
  | [], acc => by simp
  | x :: l, acc => by rw [List.foldl_cons, fold_app g l, List.flatMap_cons, List.append_assoc]
theorem unionsP_eq (t u : List (List Int)) : unionsP t u = t.flatMap fun one => u.map (unionP one) := by
  unfold unionsP
  rw [fold_app fun one => u.map (unionP one)]
  simp
theorem mem_unionsP {t u : List (List Int)} {x : List Int} : x ∈ unionsP t u ↔ ∃ one ∈ t, ∃ other ∈ u, x = unionP one other := by
  rw [unionsP_eq]
  simp only [List.mem_flatMap, List.mem_map]
  exact ⟨fun ⟨a, h1, b, h2, e⟩ => ⟨a, h1, b, h2, e.symm⟩, fun ⟨a, h1, b, h2, e⟩ => ⟨a, h1, b, h2, e.symm⟩⟩
theorem unionsP_len (t u : List (List Int)) : (unionsP t u).length = t.length * u.length := by
  rw [unionsP_eq]
  induction t with
  | nil => simp
  | cons x t ih => rw [List.flatMap_cons, List.length_append, ih, List.length_map, List.length_cons, Nat.succ_mul, Nat.add_comm]
def tellStep (ts : List (List (List Int))) (p : Nat × Nat) : List (List (List Int)) :=
  (ts.set p.1 (leastP (unionsP (ts.getD p.1 []) (ts.getD p.2 [])))).set p.2 (leastP (ts.getD p.1 [] ++ ts.getD p.2 []))
def tell0 (n : Nat) : List (List (List Int)) := (List.range n).map fun (l : Nat) => [[(l : Int)]]
def tellP (x : Nat × List (Nat × Nat)) : List (List (List Int)) := x.2.foldl tellStep (tell0 x.1)
structure Tels (n : Nat) (ts : List (List (List Int))) : Prop where
  len : ts.length = n
  tel : ∀ t ∈ ts, Tel n t
theorem Tels.at {n : Nat} {ts : List (List (List Int))} (h : Tels n ts) {i : Nat} (hi : i < n) : Tel n (ts.getD i []) := by
  have hi' : i < ts.length := by rw [h.len]; exact hi
  have e : ts.getD i [] = ts[i] := by simp [List.getD, List.getElem?_eq_getElem hi']
  rw [e]
  exact h.tel _ (List.getElem_mem _)
theorem tell0_ok (n : Nat) : Tels n (tell0 n) := by
  refine ⟨by simp [tell0], fun t ht => ?_⟩
  obtain ⟨l, hl, rfl⟩ := List.mem_map.mp ht
  have hl := List.mem_range.mp hl
  refine ⟨by simp, fun x hx => ?_⟩
  have : x = [(l : Int)] := by simpa using hx
  subst this
  exact ⟨⟨by simp, fun y hy => by simp at hy; omega⟩, by simp⟩
theorem tellStep_ok {n : Nat} {ts : List (List (List Int))} (h : Tels n ts) {p : Nat × Nat} (h1 : p.1 < n) (h2 : p.2 < n) : Tels n (tellStep ts p) := by
  refine ⟨by simp [tellStep, h.len], fun t ht => ?_⟩
  have t1 := h.at h1
  have t2 := h.at h2
  rcases List.mem_or_eq_of_mem_set ht with ht | rfl
  · rcases List.mem_or_eq_of_mem_set ht with ht | rfl
    · exact h.tel t ht
    · refine leastP_tel fun l hl => ?_
      obtain ⟨a, ha, b, hb, rfl⟩ := mem_unionsP.mp hl
      exact unionP_lot (t1.lot a ha).1 (t2.lot b hb).1 (t1.lot a ha).2
  · refine leastP_tel fun l hl => ?_
    rcases List.mem_append.mp hl with hl | hl
    · exact t1.lot l hl
    · exact t2.lot l hl
theorem tellP_ok {n : Nat} : ∀ {s : List (Nat × Nat)} {ts : List (List (List Int))}, Tels n ts → (∀ p ∈ s, p.1 < n ∧ p.2 < n) → Tels n (s.foldl tellStep ts)
  | [], _, h, _ => h
  | p :: s, ts, h, hs => tellP_ok (s := s) (ts := tellStep ts p) (tellStep_ok h (hs p (by simp)).1 (hs p (by simp)).2) fun q hq => hs q (List.mem_cons_of_mem _ hq)

theorem unionD (one other : List Int) : srt ((mergeG [] ((one ++ other).map fun x => ((Sum.inl x : Key), PyData.bool true))).map fun e => dkey e.1) = (unionP one other).map .int := by
  rw [mergeG_map (fun _ _ h => Sum.inl.inj h), List.map_map]
  rw [show ((fun e : Key × PyData => dkey e.1) ∘ fun x : Int => ((Sum.inl x : Key), PyData.bool true)) = PyData.int from rfl]
  rw [srt_map, PL.le_int]
  rfl
theorem keysD (one other : List Int) : ((mergeG [] ((one ++ other).map fun x => ((Sum.inl x : Key), PyData.bool true))).map fun e => dkey e.1) = (nub (one ++ other)).map .int := by
  rw [mergeG_map (fun _ _ h => Sum.inl.inj h), List.map_map]
  rfl
section
variable {P : Program} {w : World} {K : PySem.W.Frag} {mg : Str → Option Value} {base : Heap} {f : Addr} {fd : FuncData} {k : Nat}
/-! telling_lots -/
def tellsD (ts : List (List (List Int))) : PyData := .tuple (ts.map lotsD)
structure Net6 where
  n : Nat
  s : List (Nat × Nat)
  hs : ∀ p ∈ s, p.1 < n ∧ p.2 < n
  hn : n ≤ 6
theorem sc2 : FnScope ["net", "tells", "i", "j", "unions", "one", "line", "other"] ["net"] (defScope (topS 2)) := ⟨rfl, rfl, rfl, by decide +kernel, rfl, by decide +kernel, by decide +kernel⟩
theorem ok2 (nb : ∀ (i : Nat) (x : Str), nsL[i]? = some x → mg x = none) (F : Fun K "telling_lots" "telling_lots" (topS 2) f fd) {f1 : Addr} {fd1 : FuncData} (O1 : FnOk P w K mg base CX0 k f1 fd1 ["lots"] (spP LotsIn.pre (fun x => .imm (lotsD (leastP x.lots)))))
    (m1 : mg "least_of_lots" = some (.ref f1)) (k1 : PySem.W.keepIn K (.ref f1) = true) (b1 : Binds K fd1 ["lots"] []) :
    FnOk P w K mg base CX0 (k + 1) f fd ["net"] (spP (fun x : Net6 => [.imm (netD (x.n, x.s))]) (fun x => .imm (tellsD (tellP (x.n, x.s))))) := by
  refine fn_pure (ks := [1, 1, 1, 1, 1, 2, 0, 0]) (gs := ["range", "least_of_lots", "tuple"]) F sc2 rfl (fun _ => rfl) ?_
  rintro X B ⟨n, s, hs, hn⟩ F0 hP hw hK hmg hbase hr
  have nbX := nbOf nb hmg
  have C1 : Cal X "least_of_lots" (spP LotsIn.pre (fun x => .imm (lotsD (leastP x.lots)))) := by
    subst hP hw hK hmg hbase
    exact ⟨k, f1, fd1, _, O1, hr, m1, k1, b1⟩
  refine S_cons (X_lcO F0 1 (own := [("line", 6)]) rfl (LcOk.map (enc := natI) (xs := List.range n) (fun (l : Nat) => lotsD [[(l : Int)]]) (I_rgN F0 nbX (A_cons (E_ixT (ds := [.int n, swsD s]) (k := 0) (d := .int n) (E_var F0 0) E_int rfl) A_nil) (by omega)) rfl trivial (by rw [List.length_range]; exact Nat.lt_of_le_of_lt hn (by decide)) fun l _ => ?_) fun v1 => ?_)
  · exact ⟨_, _, _, fun X' b =>
      have F1 := F0.ofBlk (ks' := [0, 0, 0, 0, 0, 0, 1, 0]) (gs' := []) rfl b
      ⟨G_name F1 6, E_tup (ds := [rowT [(l : Int)]]) (A_cons (E_tup (ds := [.int (l : Int)]) (A_cons (E_var F1 6) A_nil) (show 1 ≤ sizeLine by decide)) A_nil) (show 1 ≤ sizeLine by decide)⟩, by decide, rfl⟩
  rw [show ((List.range n).map fun (l : Nat) => lotsD [[(l : Int)]]) = (tell0 n).map lotsD by simp [tell0, Function.comp_def]]
  refine S_cons (X_fold F0 (enc := swD) (xs := s) tellStep (tell0 n) (I := fun ts Γ => Tels n ts ∧ ∃ A2 A3 A4 A5, Γ = [.imm (netD (n, s)), .own v1 (oL (ts.map lotsD)), A2, A3, A4, A5, .any, .any]) (I_tup (E_ixT (ds := [.int n, swsD s]) (k := 1) (E_var F0 0) E_int rfl)) ⟨tell0_ok n, _, _, _, _, rfl⟩ (fun _ _ _ => trivial) (fun pre p post Γk e hI => ?_) (fun Γk hI => ?_))
  · obtain ⟨ht, A2, A3, A4, A5, rfl⟩ := hI
    obtain ⟨h1, h2⟩ := hs p (by rw [e]; simp)
    generalize pre.foldl tellStep (tell0 n) = ts at *
    have t1 := ht.at h1
    have t2 := ht.at h2
    have q1 : p.1 < ts.length := by rw [ht.len]; exact h1
    have q2 : p.2 < ts.length := by rw [ht.len]; exact h2
    have h64 : (2 : Nat) ^ n ≤ 64 := Nat.le_trans (Nat.pow_le_pow_right (by decide) hn) (by decide)
    have z1 : (ts.getD p.1 []).length ≤ 64 := Nat.le_trans t1.len h64
    have z2 : (ts.getD p.2 []).length ≤ 64 := Nat.le_trans t2.len h64
    refine ⟨_, _, G_tup F0 (G_cons (G_name F0 2) (G_cons (G_name F0 3) G_nil)), ?_⟩
    refine S_cons (X_asg F0 4 (E_lst (ds := []) A_nil (by decide)) fun v4 => ?_)
    refine S_cons (X_fold F0 (enc := rowT) (xs := ts.getD p.1 []) (fun acc one => acc ++ (ts.getD p.2 []).map (unionP one)) [] (I := fun acc Γ => ∃ A5, Γ = [.imm (netD (n, s)), .own v1 (oL (ts.map lotsD)), .imm (.int p.1), .imm (.int p.2), .own v4 (oL (acc.map rowT)), A5, .any, .any])
      (I_tup (E_ixLx (enc := lotsD) [] (E_ref F0 1) (E_var F0 2) (.at 1) q1)) ⟨_, rfl⟩ (fun _ _ _ => trivial) (fun pre2 one post2 Γk2 e2 hI2 => ?_) (fun Γk2 hI2 => ?_))
    · obtain ⟨A5, rfl⟩ := hI2
      have hone := t1.lot one (by rw [e2]; simp)
      have zo : one.length ≤ 6 := Nat.le_trans hone.1.len hn
      have zacc : (pre2.foldl (fun acc one => acc ++ (ts.getD p.2 []).map (unionP one)) []).length ≤ 63 * 64 := by
        have e3 : (pre2.foldl (fun acc one => acc ++ (ts.getD p.2 []).map (unionP one)) []).length = pre2.length * (ts.getD p.2 []).length := unionsP_len pre2 _
        have hh := congrArg List.length e2
        simp only [List.length_append, List.length_cons] at hh
        rw [e3]
        exact Nat.mul_le_mul (by omega) z2
      generalize pre2.foldl (fun acc one => acc ++ (ts.getD p.2 []).map (unionP one)) [] = acc at *
      have eout : (acc.map rowT) ++ ((ts.getD p.2 []).map fun other => rowT (unionP one other)) = (acc ++ (ts.getD p.2 []).map (unionP one)).map rowT := by
        rw [List.map_append, List.map_map]; rfl
      refine ⟨_, _, G_name F0 5, ?_⟩
      refine S_one (X_expr (M_extend F0 4 (E_lcO (own := [("other", 7)]) F0 rfl (LcOk.map (enc := rowT) (xs := ts.getD p.2 []) (fun other => rowT (unionP one other))
        (I_tup (E_ixLx (enc := lotsD) [] (E_ref F0 1) (E_var F0 3) (.at 1) q2)) rfl trivial (Nat.lt_of_le_of_lt z2 (by decide)) fun other ho => ?_)) .new ?_) ?_)
      · have hoth := t2.lot other ho
        have zt : other.length ≤ 6 := Nat.le_trans hoth.1.len hn
        have zc : (one ++ other).length ≤ 12 := by rw [List.length_append]; omega
        refine ⟨_, _, _, fun X' b =>
          have F1 := F0.ofBlk (ks' := [0, 0, 0, 0, 0, 3, 0, 1]) (gs' := ["tuple", "sorted", "dict"]) rfl b
          have nb1 := nbX.blk b
          ⟨G_name F1 7, E_cv (E_tupleL F1 nb1 (E_sortedK F1 nb1 (E_dictK (ps := (one ++ other).map fun x => ((Sum.inl x : Key), PyData.bool true)) F1 nb1 (E_lcO (own := [("line", 6)]) F1 rfl
            (LcOk.map (enc := .int) (xs := one ++ other) (fun x => .tuple [.int x, .bool true]) (I_tup (E_cv (E_catT (ds := one.map .int) (fs := other.map .int) (E_var F1 5) (E_var F1 7) ?_) ?_)) rfl trivial (Nat.lt_of_le_of_lt zc (by decide)) fun x _ => ⟨_, _, _, fun X2 b2 =>
              have F2 := F1.ofBlk (ks' := [0, 0, 0, 0, 0, 0, 1, 0]) (gs' := []) rfl b2
              ⟨G_name F2 6, E_tup (ds := [.int x, .bool true]) (A_cons (E_var F2 6) (A_cons E_bool A_nil)) (show 2 ≤ sizeLine by decide)⟩, by decide, rfl⟩)) ?_) .new ?_) .new) ?_⟩, by decide, rfl⟩
        · rw [List.length_map, List.length_map, ← List.length_append]; exact Nat.le_trans zc (by decide)
        · rw [← List.map_append]
        · left
          rw [List.map_map]
          rfl
        · rw [keysD]; exact srtOk_ints _
        · rw [unionD]; rfl
      · rw [List.length_map, List.length_map]
        exact Nat.le_trans (show acc.length + (ts.getD p.2 []).length ≤ 63 * 64 + 64 by omega) (by decide)
      · refine ⟨.imm (rowT one), ?_⟩
        rw [← eout]
        rfl
    · obtain ⟨A5, rfl⟩ := hI2
      have eu : (ts.getD p.1 []).foldl (fun acc one => acc ++ (ts.getD p.2 []).map (unionP one)) [] = unionsP (ts.getD p.1 []) (ts.getD p.2 []) := rfl
      rw [eu]
      have hU : ∀ l ∈ unionsP (ts.getD p.1 []) (ts.getD p.2 []), l ≠ [] ∧ l.length ≤ 100 := fun l hl => by
        obtain ⟨a, ha, b, hb, rfl⟩ := mem_unionsP.mp hl
        obtain ⟨q, r⟩ := unionP_lot (t1.lot a ha).1 (t2.lot b hb).1 (t1.lot a ha).2
        exact ⟨r, Nat.le_trans q.len (by omega)⟩
      have hV : ∀ l ∈ ts.getD p.1 [] ++ ts.getD p.2 [], l ≠ [] ∧ l.length ≤ 100 := fun l hl => by
        rcases List.mem_append.mp hl with hl | hl
        · exact ⟨(t1.lot l hl).2, Nat.le_trans (t1.lot l hl).1.len (by omega)⟩
        · exact ⟨(t2.lot l hl).2, Nat.le_trans (t2.lot l hl).1.len (by omega)⟩
      have zU : (unionsP (ts.getD p.1 []) (ts.getD p.2 [])).length ≤ 5000 := by
        rw [unionsP_len]
        exact Nat.le_trans (Nat.mul_le_mul z1 z2) (by decide)
      have zV : (ts.getD p.1 [] ++ ts.getD p.2 []).length ≤ 5000 := by rw [List.length_append]; omega
      refine S_one (X_asgS (E_tup (ds := [lotsD (leastP (unionsP (ts.getD p.1 []) (ts.getD p.2 []))), lotsD (leastP (ts.getD p.1 [] ++ ts.getD p.2 []))])
        (A_cons (E_call F0 C1 (fun _ => ⟨some v4, _, hU, zU⟩) (A_cons (E_ref F0 4) A_nil) (cv1 fun _ => .val 4) (fun _ _ => rfl))
        (A_cons (E_call F0 C1 (fun _ => ⟨none, _, hV, zV⟩) (A_cons (E_cv (E_catT (ds := (ts.getD p.1 []).map rowT) (fs := (ts.getD p.2 []).map rowT) (E_ixLx (enc := lotsD) [] (E_ref F0 1) (E_var F0 2) (.at 1) q1) (E_ixLx (enc := lotsD) [] (E_ref F0 1) (E_var F0 3) (.at 1) q2) ?_) ?_) A_nil) (cv1 fun _ => .imm) (fun _ _ => rfl)) A_nil)) (show 2 ≤ sizeLine by decide))
        (G_tup F0 (G_cons (G_subx (enc := lotsD) F0 1 (E_var F0 2) q1) (G_cons (G_subx (enc := lotsD) (xs := ts.set p.1 _) F0 1 (E_var F0 3) (Nat.lt_of_lt_of_eq q2 List.length_set.symm)) G_nil))) ?_)
      · rw [List.length_map, List.length_map]
        exact Nat.le_trans (show (ts.getD p.1 []).length + (ts.getD p.2 []).length ≤ 128 by omega) (by decide)
      · rw [← List.map_append]; rfl
      · exact ⟨tellStep_ok ht h1 h2, _, _, _, _, rfl⟩
  · obtain ⟨ht, A2, A3, A4, A5, rfl⟩ := hI
    exact S_one (X_ret (E_tupleL F0 nbX (E_ref F0 1) (.at 1)) rfl)

/-! are_alike_nets -/
theorem sc3 : FnScope ["one", "other"] ["one", "other"] (defScope (topS 3)) := ⟨rfl, rfl, rfl, by decide +kernel, rfl, by decide +kernel, by decide +kernel⟩
theorem tells_dp (ts : List (List (List Int))) : Dp 3 (tellsD ts) := Dp.tup (Dp.map fun t _ => Dp.tup (Dp.map fun l _ => Dp.tup (Dp.map fun i _ => Dp.int i)))
theorem rowT_inj (x y : List Int) (h : rowT x = rowT y) : x = y := (map_inj (fun _ _ h => PyData.int.inj h)).mp (PyData.tuple.inj h)
theorem tells_inj {x y : List (List (List Int))} : tellsD x = tellsD y ↔ x = y := by
  refine ⟨fun h => (map_inj (fun a b h => ?_)).mp (PyData.tuple.inj h), fun h => h ▸ rfl⟩
  exact (map_inj rowT_inj).mp (PyData.tuple.inj h)
theorem ok3 (F : Fun K "are_alike_nets" "are_alike_nets" (topS 3) f fd) {f2 : Addr} {fd2 : FuncData} (O2 : FnOk P w K mg base CX0 k f2 fd2 ["net"] (spP (fun x : Net6 => [.imm (netD (x.n, x.s))]) (fun x => .imm (tellsD (tellP (x.n, x.s))))))
    (m2 : mg "telling_lots" = some (.ref f2)) (k2 : PySem.W.keepIn K (.ref f2) = true) (b2 : Binds K fd2 ["net"] []) :
    FnOk P w K mg base CX0 (k + 1) f fd ["one", "other"] (spP (fun x : Net6 × Net6 => [.imm (netD (x.1.n, x.1.s)), .imm (netD (x.2.n, x.2.s))]) (fun x => .imm (.bool (decide (tellP (x.1.n, x.1.s) = tellP (x.2.n, x.2.s)))))) := by
  refine fn_pure (ks := [1, 1]) (gs := ["telling_lots"]) F sc3 rfl (fun _ => rfl) ?_
  rintro X B ⟨x, y⟩ F0 hP hw hK hmg hbase hr
  have C2 : Cal X "telling_lots" (spP (fun x : Net6 => [.imm (netD (x.n, x.s))]) (fun x => .imm (tellsD (tellP (x.n, x.s))))) := by
    subst hP hw hK hmg hbase
    exact ⟨k, f2, fd2, _, O2, hr, m2, k2, b2⟩
  exact S_one (X_ret (E_eqD F0 (E_call F0 C2 (fun _ => x) (A_cons (E_var F0 0) A_nil) (cv1 fun _ => .imm) (fun _ _ => rfl)) (E_call F0 C2 (fun _ => y) (A_cons (E_var F0 1) A_nil) (cv1 fun _ => .imm) (fun _ _ => rfl))
    .imm .imm ((tells_dp _).shaped (by decide)) ((tells_dp _).shaped (by decide)) (eqv_dec (tells_dp _) (tells_dp _) tells_inj)) rfl)
end
end K71

namespace K71
open PySem PySem.Spec PyProof.Rows L2 PL
section
variable {P : Program} {w : World} {K : PySem.W.Frag} {mg : Str → Option Value} {base : Heap} {f : Addr} {fd : FuncData} {k : Nat}

/-! _law_open_cells -/
theorem sc13 : FnScope ["script", "stirred", "cell", "cells"] ["script"] (defScope (topS 13)) := ⟨rfl, rfl, rfl, by decide +kernel, rfl, by decide +kernel, by decide +kernel⟩
structure ScIn where
  a : Addr
  ns : List Int
  hz : ns.length ≤ 63
def ScIn.cond (K : PySem.W.Frag) (x : ScIn) (H : Hp) : Prop := SqL K H x.a (x.ns.map V.int)
theorem ok13 (nb : ∀ (i : Nat) (x : Str), nsL[i]? = some x → mg x = none) (F : Fun K "_law_open_cells" "_law_open_cells" (topS 13) f fd) :
    FnOk P w K mg base CX0 (k + 1) f fd ["script"] (spC (ScIn.cond K) (fun x => [.val (.ref x.a)]) (fun x => .new (oSrc (openS x.ns)))) := by
  refine fn_pureC (ks := [1, 1, 1, 1]) (gs := ["int"]) F sc13 rfl (fun _ => rfl) ?_
  rintro X B ⟨a, ns, hz⟩ hB F0 hP hw hK hmg hbase hr
  have nbX := nbOf nb hmg
  have hB : SqL X.K B a (ns.map V.int) := by rw [hK]; exact hB
  refine S_cons (X_asg F0 1 E_int fun _ => ?_)
  refine S_cons (X_fold F0 (enc := .int) (xs := ns) (fun st c => (st * 69069 + c * 31 + 5) % 2147483629) 11 (I := fun st Γ => ∃ A2, Γ = [.val (.ref a), .imm (.int st), A2, .any]) (I_seq 0 F0 hB) ⟨_, rfl⟩ (fun _ _ _ => trivial) (fun pre c post Γk e hI => ?_) (fun Γk hI => ?_))
  · obtain ⟨A2, rfl⟩ := hI
    refine ⟨_, _, G_name F0 2, ?_⟩
    refine S_one (X_asg F0 1 (E_mod (E_int1 F0 nbX (E_add (E_add (E_mulOk (E_var F0 1) E_int (mulOk_r (by decide))) (E_mulOk (E_var F0 2) E_int (mulOk_r (by decide)))) E_int)) E_int (by decide)) fun _ => ?_)
    exact ⟨_, rfl⟩
  · obtain ⟨A2, rfl⟩ := hI
    refine S_cons (X_lcO F0 3 (own := [("cell", 2)]) rfl (LcOk.map (enc := .int) (xs := ns) (fun c => .int (absI c)) (I_seq 0 F0 hB) rfl trivial (Nat.lt_of_le_of_lt hz (by decide)) fun c _ => ?_) fun v => ?_)
    · exact ⟨_, _, _, fun X' b =>
        have F1 := F0.ofBlk (ks' := [0, 0, 1, 0]) (gs' := ["abs"]) rfl b
        ⟨G_name F1 2, E_abs F1 (nbX.blk b) (E_var F1 2)⟩, by decide, rfl⟩
    · rw [show (ns.map fun c => PyData.int (absI c)) = (ns.map absI).map .int by rw [List.map_map]; rfl]
      refine S_one (X_ret (E_srcDict (cells := (ns.map absI).reverse) (E_cv (E_revL (E_ref F0 3) (.at 3)) ?_) E_int (E_var F0 1) E_int) ?_)
      · rw [← List.map_reverse]
      · rw [List.reverse_reverse]; rfl

/-! _law_pick -/
theorem sc14 : FnScope ["source", "most", "cells", "others", "lap", "stirred"] ["source", "most"] (defScope (topS 14)) := ⟨rfl, rfl, rfl, by decide +kernel, rfl, by decide +kernel, by decide +kernel⟩
structure PickIn where
  s : Src
  m : Int
  hm : m ≤ 1000000
theorem ok14 (nb : ∀ (i : Nat) (x : Str), nsL[i]? = some x → mg x = none) (F : Fun K "_law_pick" "_law_pick" (topS 14) f fd) :
    FnOk P w K mg base CX0 (k + 1) f fd ["source", "most"] (spIO (fun (x : PickIn) v => [.own v (oSrc x.s), .imm (.int x.m)]) (fun x => oSrc (pickS x.s x.m).1) (fun x => .imm (.int (pickS x.s x.m).2))) := by
  refine fn_io (kp := 0) (ks := [1, 1, 1, 1, 1, 1]) (gs := ["len", "int"]) F sc14 rfl (fun _ _ => rfl) ?_
  rintro X B M ⟨s, m, hm⟩ v F0 hP hw hK hmg hbase hr
  have nbX := nbOf nb hmg
  refine S_cons (X_if (T_lt (E_var F0 1) E_int) (fun t => S_one (X_ret E_int ?_)) (fun t => S_nil ?_))
  · have t' : m < 2 := of_decide_eq_true t
    have e : pickS s m = (s, 0) := if_pos t'
    dsimp only
    rw [e]
    exact ⟨rfl, rfl⟩
  have t' : ¬ m < 2 := of_decide_eq_false t
  refine S_known 0 (os := fun c => oSrcC c s) rfl (fun H F h => h) fun c => ?_
  refine S_cons (X_asgV F0 2 (E_sc (n := 0) F0) ?_)
  refine S_split 0 2 rfl rfl oSrc_split ?_
  refine S_cons (X_while F0 (fun (b : List Int × Int) Γ => fillS b.1 b.2 = fillS s.cells s.left ∧ Γ = [.own v (oSd c b.2 s.mixed s.turn), .imm (.int m), .own (.ref c) (oL (b.1.reverse.map .int)), .any, .any, .any]) (fun b => b.1.length) (b0 := (s.cells, s.left)) ⟨rfl, rfl⟩ fun b Γk hI => ?_)
  obtain ⟨r, l⟩ := b
  obtain ⟨hf, rfl⟩ := hI
  dsimp only at hf ⊢
  refine ⟨_, _, T_w (W_and (T_lt (E_sd (n := 0) F0 rfl) E_int) fun _ => W_and1 (T_gt (E_len F0 nbX (E_ref F0 2) (.inr (.at 2))) E_int)), fun t => ?_, fun t => ?_⟩
  · rw [Bool.and_eq_true] at t
    have h1 : l < 2 := of_decide_eq_true t.1
    cases r with
    | nil => simp at t
    | cons c1 r1 =>
      rw [show (c1 :: r1).reverse.map PyData.int = r1.reverse.map PyData.int ++ [.int c1] by simp]
      refine S_one (X_sdPut (i := 0) F0 (M_pop F0 2) ?_ rfl)
      refine ⟨(r1, c1), by simp, ?_, rfl⟩
      rw [← hf]
      exact (if_pos h1).symm
  · have hq : fillS s.cells s.left = (r, l) := by
      rw [← hf]
      cases r with
      | nil => rfl
      | cons c1 r1 =>
        refine if_neg fun h => ?_
        rw [decide_eq_true h] at t
        simp at t
    refine S_cons (X_asg F0 3 (E_sd (n := 0) F0 rfl) fun _ => ?_)
    refine S_cons (X_if (T_gt (E_var F0 3) E_int) (fun t2 => ?_) (fun t2 => S_nil ?_))
    · have h2 : l > 1 := of_decide_eq_true t2
      have ep : pickS s m = (⟨r, l / m, s.mixed, s.turn⟩, l % m) := by
        unfold pickS
        rw [if_neg t', hq, if_pos h2]
      refine S_cons (X_sdPut (i := 0) F0 (E_fdivW (E_var F0 3) (E_var F0 1) (divW_small (by omega) (by omega))) ?_ rfl)
      refine S_join 0 2 rfl rfl (by decide) oSrc_join (S_one (X_ret (E_mod (E_int1 F0 nbX (E_var F0 3)) (E_var F0 1) (by omega)) ?_))
      dsimp only
      rw [ep, List.reverse_reverse]
      exact ⟨rfl, rfl⟩
    · have h2 : ¬ l > 1 := of_decide_eq_false t2
      have ep : pickS s m = (⟨r, l, s.mixed, s.turn + 1⟩, lapB s / 16 % m) := by
        unfold pickS
        rw [if_neg t', hq, if_neg h2]
      have b1 : 0 ≤ lapA s ∧ lapA s < 998244353 := ⟨Int.emod_nonneg _ (by decide), Int.emod_lt_of_pos _ (by decide)⟩
      refine S_cons (X_sdPut (i := 0) F0 (E_add (E_sd (n := 0) F0 rfl) E_int) ?_ rfl)
      refine S_cons (X_asg F0 4 (E_sd (n := 0) F0 rfl) fun _ => ?_)
      refine S_cons (X_asg F0 5 (E_mod (E_int1 F0 nbX (E_add (E_sd (n := 0) F0 rfl) (E_mulOk (E_var F0 4) E_int (mulOk_r (by decide))))) E_int (by decide)) fun _ => ?_)
      refine S_cons (X_asg F0 5 (E_mod (E_int1 F0 nbX (E_add (E_mulOk (i := lapA s) (j := lapA s) (E_var F0 5) (E_var F0 5) (mulOk_r (by omega))) (E_mulOk (E_var F0 4) E_int (mulOk_r (by decide))))) E_int (by decide)) fun _ => ?_)
      refine S_join 0 2 rfl rfl (by decide) oSrc_join (S_one (X_ret (E_mod (E_int1 F0 nbX (E_fdivW (i := lapB s) (E_var F0 5) E_int (divW_small (by decide) (by decide)))) (E_var F0 1) (by omega)) ?_))
      dsimp only
      rw [ep, List.reverse_reverse]
      exact ⟨rfl, rfl⟩
end
end K71

namespace K71
open PySem PySem.Spec PyProof.Rows L2 PL
abbrev spPick : Sp := spIO (fun (x : PickIn) v => [.own v (oSrc x.s), .imm (.int x.m)]) (fun x => oSrc (pickS x.s x.m).1) (fun x => .imm (.int (pickS x.s x.m).2))
theorem E_pick {X : Cx} {B : Hp} {M : List Addr} {N : List Str} {ks : List Nat} {gs : List Str} {sc : Scope} {Γ : List As} {e : Expr} {pos p p' : Pos} {x : Str} {v : V} {s : Src} {m : Int} (F : Fx X N ks gs sc) (C : Cal X "_law_pick" spPick) (i : Nat) (h : Ee X B M e Γ Γ (.imm (.int m))) (hm : m ≤ 1000000)
    (hg : Γ[i]? = some (.own v (oSrc s)) := by rfl) (hi : N[i]? = some x := by rfl) (hk : visK (ks[i]?) = true := by rfl) (hd : (x == ("__debug__" : Str)) = false := by decide) (hcd : (x == ("__classdict__" : Str)) = false := by decide) (hgl : gs[gs.idxOf ("_law_pick" : Str)]? = some ("_law_pick" : Str) := by rfl)
    (he : starEach [Expr.Name x p', e] X.env = (false, eval (.Name x p') X.env) :: starEach [e] X.env := by rfl) (he2 : starEach [e] X.env = (false, eval e X.env) :: starEach [] X.env := by rfl) (hpl : (backTo pos (starEach [e] X.env)).any (·.1) = false := by rfl) :
    Ee X B M (.Call (.Name "_law_pick" p) [.Name x p', e] [] pos) Γ (Γ.set i (.own v (oSrc (pickS s m).1))) (.imm (.int (pickS s m).2)) :=
  E_callIO (o := oSrc s) (v0 := v) F C i (fun _ => ⟨s, m, hm⟩) (A_cons (E_ref F i (.inl ⟨_, hg⟩) hi hk hd hcd) (A_cons h A_nil he2) he) (fun vs hv => by
    match vs, hv with
    | [a, b], _ => exact .io (.cons .imm .nil)) (fun _ _ => ⟨rfl, rfl⟩) hg (.inl ⟨_, rfl⟩) _ hgl (by decide) he hpl
theorem runSt_enc {β α γ : Type} (g : β → α → β) (c : β → α → Bool) (f : β → α → γ) (enc : γ → PyData) : ∀ (xs : List α) (b : β), (runSt g c (fun b x => enc (f b x)) b xs).1 = (runSt g c f b xs).1 ∧ (runSt g c (fun b x => enc (f b x)) b xs).2 = (runSt g c f b xs).2.map enc
  | [], _ => ⟨rfl, rfl⟩
  | x :: xs, b => by
    obtain ⟨h1, h2⟩ := runSt_enc g c f enc xs (g b x)
    simp only [runSt, h1, h2]
    refine ⟨trivial, ?_⟩
    split <;> rfl
def drawN (s : Src) (n many : Nat) : Src × List Nat := runSt (fun s (_ : Nat) => (pickS s ((n : Int) - 1)).1) (fun _ _ => true) (fun s _ => (pickS s ((n : Int) - 1)).2.toNat) s (List.range many)
def netS (s : Src) (n many : Nat) : Src × List (Nat × Nat) := ((drawN s n many).1, (drawN s n many).2.map fun i => (i, i + 1))
theorem draw_lt {n : Nat} (hn : 2 ≤ n) : ∀ (l : List Nat) (s : Src), ∀ i ∈ (runSt (fun s (_ : Nat) => (pickS s ((n : Int) - 1)).1) (fun _ _ => true) (fun s _ => (pickS s ((n : Int) - 1)).2.toNat) s l).2, i + 1 < n
  | [], s, i, h => by simp [runSt] at h
  | x :: l, s, i, h => by
    simp only [runSt, if_true, List.mem_cons] at h
    rcases h with rfl | h
    · have := pick_ge s (m := (n : Int) - 1) (by omega)
      omega
    · exact draw_lt hn l _ i h
theorem draw_len {n : Nat} : ∀ (l : List Nat) (s : Src), (runSt (fun s (_ : Nat) => (pickS s ((n : Int) - 1)).1) (fun _ _ => true) (fun s _ => (pickS s ((n : Int) - 1)).2.toNat) s l).2.length = l.length
  | [], s => rfl
  | x :: l, s => by simp [runSt, draw_len l]
structure NextNet (n : Nat) (s : List (Nat × Nat)) : Prop where
  nx : ∀ p ∈ s, p.2 = p.1 + 1 ∧ p.2 < n
  len : s.length ≤ 18
theorem netS_ok {s : Src} {n many : Nat} (hn : 2 ≤ n) (hm : many ≤ 18) : NextNet n (netS s n many).2 := by
  refine ⟨fun p hp => ?_, ?_⟩
  · obtain ⟨i, hi, rfl⟩ := List.mem_map.mp hp
    exact ⟨rfl, draw_lt hn _ _ i hi⟩
  · unfold netS drawN
    rw [List.length_map, draw_len]
    simpa using hm
section
variable {P : Program} {w : World} {K : PySem.W.Frag} {mg : Str → Option Value} {base : Heap} {f : Addr} {fd : FuncData} {k : Nat}
/-! _law_net -/
theorem sc16 : FnScope ["source", "n", "many", "turn", "i"] ["source", "n", "many"] (defScope (topS 16)) := ⟨rfl, rfl, rfl, by decide +kernel, rfl, by decide +kernel, by decide +kernel⟩
structure MkIn where
  s : Src
  n : Nat
  many : Nat
  hn : 2 ≤ n ∧ n ≤ 10
  hm : many ≤ 18
theorem ok16 (nb : ∀ (i : Nat) (x : Str), nsL[i]? = some x → mg x = none) (F : Fun K "_law_net" "_law_net" (topS 16) f fd) {f14 : Addr} {fd14 : FuncData} (O14 : FnOk P w K mg base CX0 k f14 fd14 ["source", "most"] spPick) (m14 : mg "_law_pick" = some (.ref f14)) (k14 : PySem.W.keepIn K (.ref f14) = true) (b14 : Binds K fd14 ["source", "most"] []) :
    FnOk P w K mg base CX0 (k + 1) f fd ["source", "n", "many"] (spIO (fun (x : MkIn) v => [.own v (oSrc x.s), .imm (.int x.n), .imm (.int x.many)]) (fun x => oSrc (netS x.s x.n x.many).1) (fun x => .imm (netD (x.n, (netS x.s x.n x.many).2)))) := by
  refine fn_io (kp := 0) (ks := [2, 2, 1, 0, 0]) (gs := ["tuple", "range"]) F sc16 rfl (fun _ _ => rfl) ?_
  rintro X B M ⟨s, n, many, hn, hm⟩ v F0 hP hw hK hmg hbase hr
  have nbX := nbOf nb hmg
  have C14 : Cal X "_law_pick" spPick := by
    subst hP hw hK hmg hbase
    exact ⟨k, f14, fd14, _, O14, hr, m14, k14, b14⟩
  have e1 := runSt_enc (fun s (_ : Nat) => (pickS s ((n : Int) - 1)).1) (fun _ _ => true) (fun s _ => (pickS s ((n : Int) - 1)).2.toNat) natI (List.range many) s
  refine S_one (X_ret (Γ1 := [.own v (oSrc (netS s n many).1), .imm (.int n), .imm (.int many), .any, .any]) (E_tup (ds := [.int n, swsD (netS s n many).2]) (A_cons (E_var F0 1) (A_cons (E_tupleL F0 nbX (E_lcO (own := [("i", 4)]) F0 rfl
    (LcOk.map (enc := natI) (xs := (drawN s n many).2) (fun i => swD (i, i + 1)) (I_new (Γ1 := [.own v (oSrc (netS s n many).1), .imm (.int n), .imm (.int many), .any, .any]) (E_lcO (own := [("turn", 3)]) F0 rfl
      (LcOk.cv (LcOk.go (enc := natI) (xs := List.range many) (G := fun s' => [.own v (oSrc s'), .imm (.int n), .imm (.int many), .any, .any]) s (fun s _ => (pickS s ((n : Int) - 1)).1) (fun _ _ => true) (fun s _ => natI (pickS s ((n : Int) - 1)).2.toNat)
        (I_rgN F0 nbX (A_cons (E_var F0 2) A_nil) (by omega)) rfl (fun _ => trivial) (by rw [List.length_range]; exact Nat.lt_of_le_of_lt hm (by decide)) fun pre x post e => ?_) ?_ ?_))) rfl trivial ?_ fun i hi => ?_)) ?_) A_nil)) (show 2 ≤ sizeLine by decide)) ?_)
  · generalize (runSt (fun s (_ : Nat) => (pickS s ((n : Int) - 1)).1) (fun _ _ => true) (fun s _ => natI (pickS s ((n : Int) - 1)).2.toNat) s pre).1 = s1
    exact ⟨_, _, _, _, fun X' b =>
      have F1 := F0.ofBlk (ks' := [3, 3, 0, 1, 0]) (gs' := ["_law_pick"]) rfl b
      ⟨G_name F1 3, C_nil, fun _ => E_cv (E_pick (s := s1) F1 (C14.blk b) 0 (E_sub (E_var F1 1) E_int) (by omega)) (by
        have := pick_ge s1 (m := (n : Int) - 1) (by omega)
        show As.imm (.int _) = As.imm (.int _)
        congr 2
        omega)⟩, by decide, fun _ => rfl, fun t => by cases t⟩
  · rw [e1.1]; rfl
  · rw [e1.2]; rfl
  · unfold drawN
    rw [draw_len]
    simpa using Nat.lt_of_le_of_lt hm (by decide)
  · exact ⟨_, _, _, fun X' b =>
      have F1 := F0.ofBlk (ks' := [0, 0, 0, 0, 1]) (gs' := []) rfl b
      ⟨G_name F1 4, E_cv (E_tup (ds := [.int (i : Int), .int ((i : Int) + 1)]) (A_cons (E_var F1 4) (A_cons (E_add (E_var F1 4) E_int) A_nil)) (show 2 ≤ sizeLine by decide)) (by simp [swD])⟩, by decide, rfl⟩
  · left
    simp only [netS, List.map_map]
    rfl
  · exact ⟨rfl, rfl⟩

/-! _law_turned -/
theorem erase_mapx {α β : Type} (f : α → β) : ∀ (l : List α) (j : Nat), (l.map f).eraseIdx j = (l.eraseIdx j).map f
  | [], j => by simp
  | x :: l, 0 => rfl
  | x :: l, j + 1 => by
    show f x :: (l.map f).eraseIdx j = f x :: (l.eraseIdx j).map f
    rw [erase_mapx f l j]
def cut3 (sw : List (Nat × Nat)) (k : Nat) : List Nat := ((sw.drop k).take 3).map fun p => p.1
def gap (sw : List (Nat × Nat)) (k : Nat) : Int := absI (((sw.getD k (0, 0)).1 : Int) - ((cut3 sw k).getD 1 0 : Int))
def turnSw (sw : List (Nat × Nat)) (k : Nat) : List (Nat × Nat) :=
  if (1 < (cut3 sw k).length) ∧ gap sw k > 1 then sw.take k ++ [sw.getD (k + 1) (0, 0), sw.getD k (0, 0)] ++ sw.drop (k + 2)
  else if (cut3 sw k).length = 3 ∧ (sw.getD k (0, 0)).1 = (cut3 sw k).getD 2 0 ∧ gap sw k = 1 then sw.take k ++ [sw.getD (k + 1) (0, 0), sw.getD k (0, 0), sw.getD (k + 1) (0, 0)] ++ sw.drop (k + 3)
  else if 1 < (cut3 sw k).length ∧ (cut3 sw k).getD 1 0 = (sw.getD k (0, 0)).1 then sw.eraseIdx k
  else if sw.length < 18 then sw.take k ++ [sw.getD k (0, 0)] ++ sw.drop k
  else sw
def turnStep (a : Src × List (Nat × Nat)) : Src × List (Nat × Nat) :=
  if a.2 = [] then a else ((pickS a.1 (a.2.length : Int)).1, turnSw a.2 (pickS a.1 (a.2.length : Int)).2.toNat)
def turnP (s : Src) (sw : List (Nat × Nat)) (often : Nat) : Src × List (Nat × Nat) := (List.range often).foldl (fun a _ => turnStep a) (s, sw)
theorem cut3_len (sw : List (Nat × Nat)) (k : Nat) : (cut3 sw k).length = min 3 (sw.length - k) := by simp [cut3]
theorem cut3_get {sw : List (Nat × Nat)} {k j : Nat} (hj : j < 3) : (cut3 sw k).getD j 0 = (sw.getD (k + j) (0, 0)).1 := by
  unfold cut3
  simp only [List.getD_eq_getElem?_getD, List.getElem?_map, List.getElem?_take, List.getElem?_drop, hj, if_true]
  cases sw[k + j]? <;> rfl
theorem mem_getD {sw : List (Nat × Nat)} {k : Nat} (h : k < sw.length) : sw.getD k (0, 0) ∈ sw := by
  simp [List.getD, List.getElem?_eq_getElem h]
theorem turnSw_mem {sw : List (Nat × Nat)} {k : Nat} (hk : k < sw.length) {p : Nat × Nat} (h : p ∈ turnSw sw k) : p ∈ sw := by
  unfold turnSw at h
  have tk : ∀ {m : Nat}, p ∈ sw.take m → p ∈ sw := fun h => List.mem_of_mem_take h
  have dk : ∀ {m : Nat}, p ∈ sw.drop m → p ∈ sw := fun h => List.mem_of_mem_drop h
  split at h
  · rename_i c
    have hl := cut3_len sw k
    have h2 : k + 1 < sw.length := by omega
    simp only [List.mem_append, List.mem_cons, List.not_mem_nil, or_false] at h
    rcases h with (h | h | h) | h
    · exact tk h
    · rw [h]; exact mem_getD h2
    · rw [h]; exact mem_getD hk
    · exact dk h
  · split at h
    · rename_i c
      have hl := cut3_len sw k
      have h2 : k + 1 < sw.length := by omega
      simp only [List.mem_append, List.mem_cons, List.not_mem_nil, or_false] at h
      rcases h with (h | h | h | h) | h
      · exact tk h
      · rw [h]; exact mem_getD h2
      · rw [h]; exact mem_getD hk
      · rw [h]; exact mem_getD h2
      · exact dk h
    · split at h
      · exact List.mem_of_mem_eraseIdx h
      · split at h
        · simp only [List.mem_append, List.mem_cons, List.not_mem_nil, or_false] at h
          rcases h with (h | h) | h
          · exact tk h
          · rw [h]; exact mem_getD hk
          · exact dk h
        · exact h
theorem turnSw_len {sw : List (Nat × Nat)} {k : Nat} (hk : k < sw.length) (hz : sw.length ≤ 18) : (turnSw sw k).length ≤ 18 ∧ turnSw sw k ≠ [] := by
  unfold turnSw
  have hl := cut3_len sw k
  split
  · rename_i c
    refine ⟨?_, by simp⟩
    simp only [List.length_append, List.length_take, List.length_drop, List.length_cons, List.length_nil]
    omega
  · split
    · rename_i c
      refine ⟨?_, by simp⟩
      simp only [List.length_append, List.length_take, List.length_drop, List.length_cons, List.length_nil]
      omega
    · split
      · rename_i c
        refine ⟨?_, fun e => ?_⟩
        · rw [List.length_eraseIdx]; split <;> omega
        · have := congrArg List.length e
          rw [List.length_eraseIdx, if_pos hk] at this
          simp at this
          omega
      · split
        · refine ⟨?_, by simp⟩
          simp only [List.length_append, List.length_take, List.length_drop, List.length_cons, List.length_nil]
          omega
        · exact ⟨hz, fun e => by rw [e] at hk; simp at hk⟩
theorem sc17 : FnScope ["source", "net", "often", "swaps", "turn", "k", "here", "more", "swap"] ["source", "net", "often"] (defScope (topS 17)) := ⟨rfl, rfl, rfl, by decide +kernel, rfl, by decide +kernel, by decide +kernel⟩
structure TurnIn where
  s : Src
  n : Nat
  sw : List (Nat × Nat)
  often : Nat
  hn : n ≤ 10
  hsw : NextNet n sw
  ho : often ≤ 100
theorem cut_mid {α : Type} (enc : α → PyData) (r : List α) (j m : Nat) (h : j ≤ r.length) : PL.cutD (r.map enc) (some (j : Int)) (some ((j : Int) + (m : Int))) = ((r.drop j).take m).map enc := by
  unfold PL.cutD
  have e1 : HT.sIx (r.map enc).length 0 (some (j : Int)) = j := by
    simp only [HT.sIx, List.length_map]
    rw [if_neg (by omega)]
    omega
  have e2 : HT.sIx (r.map enc).length (r.map enc).length (some ((j : Int) + (m : Int))) = min (j + m) r.length := by
    simp only [HT.sIx, List.length_map]
    rw [if_neg (by omega)]
    omega
  rw [e1, e2, ← List.map_drop, ← List.map_take]
  congr 1
  refine List.ext_getElem? fun i => ?_
  rw [List.getElem?_take, List.getElem?_take, List.getElem?_drop]
  by_cases h1 : i < m
  · rw [if_pos h1]
    by_cases h2 : i < min (j + m) r.length - j
    · rw [if_pos h2]
    · rw [if_neg h2, List.getElem?_eq_none (by omega)]
  · rw [if_neg h1, if_neg (by omega)]
theorem sw_inj {a b : Nat × Nat} (h : swD a = swD b) : a = b := by
  unfold swD at h
  have h1 := PyData.tuple.inj h
  simp at h1
  exact Prod.ext (by have := h1.1; omega) (by have := h1.2; omega)
theorem sw_dp (p : Nat × Nat) : Dp 1 (swD p) := Dp.tup (n := 0) fun d hd => by
  simp at hd
  rcases hd with rfl | rfl <;> exact Dp.int _
theorem ok17 (nb : ∀ (i : Nat) (x : Str), nsL[i]? = some x → mg x = none) (F : Fun K "_law_turned" "_law_turned" (topS 17) f fd) {f14 : Addr} {fd14 : FuncData} (O14 : FnOk P w K mg base CX0 k f14 fd14 ["source", "most"] spPick) (m14 : mg "_law_pick" = some (.ref f14)) (k14 : PySem.W.keepIn K (.ref f14) = true) (b14 : Binds K fd14 ["source", "most"] []) :
    FnOk P w K mg base CX0 (k + 1) f fd ["source", "net", "often"] (spIO (fun (x : TurnIn) v => [.own v (oSrc x.s), .imm (netD (x.n, x.sw)), .imm (.int x.often)]) (fun x => oSrc (turnP x.s x.sw x.often).1) (fun x => .imm (netD (x.n, (turnP x.s x.sw x.often).2)))) := by
  refine fn_io (kp := 0) (ks := [1, 1, 1, 1, 1, 1, 1, 1, 0]) (gs := ["list", "range", "_law_pick", "len", "abs", "tuple"]) F sc17 rfl (fun _ _ => rfl) ?_
  rintro X B M ⟨s, n, sw, often, hn, hsw, ho⟩ v F0 hP hw hK hmg hbase hr
  have nbX := nbOf nb hmg
  have C14 : Cal X "_law_pick" spPick := by
    subst hP hw hK hmg hbase
    exact ⟨k, f14, fd14, _, O14, hr, m14, k14, b14⟩
  refine S_cons (X_asg F0 3 (E_list (ds := sw.map swD) F0 nbX (E_ixT (ds := [.int n, swsD sw]) (k := 1) (d := swsD sw) (E_var F0 1) E_int rfl) (.inl rfl)) fun v3 => ?_)
  refine S_cons (X_fold F0 (enc := natI) (xs := List.range often) (fun a _ => turnStep a) (s, sw) (I := fun a Γ => (a.2.length ≤ 18 ∧ (a.2 = [] → a = (s, sw))) ∧ ∃ A4 A5 A6 A7, Γ = [.own v (oSrc a.1), .imm (netD (n, sw)), .imm (.int often), .own v3 (oL (a.2.map swD)), A4, A5, A6, A7, .any]) (I_rgN F0 nbX (A_cons (E_var F0 2) A_nil) (by omega)) ⟨⟨hsw.len, fun _ => rfl⟩, _, _, _, _, rfl⟩ (fun _ _ _ => trivial) (fun pre t post Γk e hI => ?_) (fun Γk hI => ?_))
  · obtain ⟨⟨hz, hem⟩, A4, A5, A6, A7, rfl⟩ := hI
    have hempty : sw = [] → turnP s sw often = (s, sw) := fun e0 => by
      have key : ∀ l : List Nat, l.foldl (fun a _ => turnStep a) (s, sw) = (s, sw) := by
        intro l
        induction l with
        | nil => rfl
        | cons x l ih =>
          rw [List.foldl_cons]
          have : turnStep (s, sw) = (s, sw) := if_pos e0
          rw [this]; exact ih
      exact key _
    generalize pre.foldl (fun a _ => turnStep a) (s, sw) = a at *
    obtain ⟨s1, w1⟩ := a
    dsimp only at hz hem ⊢
    refine ⟨_, _, G_name F0 4, ?_⟩
    refine S_cons (X_if (T_cv (T_eqD F0 (E_ref F0 3) (E_lst (ds := []) A_nil (by decide)) (.at 3) .new ?_ ?_ (eqv_dec (n := 2) (m := 2) (P := w1 = []) ?_ ?_ ?_)) rfl) (fun t => ?_) (fun t => S_nil ?_))
    · exact (Dp.lst (Dp.map fun p _ => sw_dp p)).shaped (by decide)
    · exact (Dp.lst (n := 1) (fun d hd => by simp at hd)).shaped (by decide)
    · exact Dp.lst (Dp.map fun p _ => sw_dp p)
    · exact Dp.lst (n := 1) (fun d hd => by simp at hd)
    · constructor
      · intro h
        have := PyData.list.inj h
        simpa using this
      · rintro rfl; rfl
    · have e0 : w1 = [] := of_decide_eq_true t
      have e1 := hem e0
      have e2 : s1 = s ∧ w1 = sw := ⟨congrArg Prod.fst e1, congrArg Prod.snd e1⟩
      obtain ⟨rfl, rfl⟩ := e2
      refine S_one (X_ret (E_var F0 1) ?_)
      rw [hempty e0]
      exact ⟨rfl, rfl⟩
    · have e0 : w1 ≠ [] := of_decide_eq_false t
      have hpos : 0 < w1.length := List.length_pos_iff.mpr e0
      obtain ⟨r, hr1, hlt⟩ := pick_nat s1 (m := w1.length) hpos
      have es : turnStep (s1, w1) = ((pickS s1 (w1.length : Int)).1, turnSw w1 r) := by
        unfold turnStep
        rw [if_neg e0, hr1]
        rfl
      have fin : ∀ {ds' : List PyData} {G : List As}, ds' = (turnSw w1 r).map swD → (∃ A4 A5 A6 A7, G = [.own v (oSrc (pickS s1 (w1.length : Int)).1), .imm (netD (n, sw)), .imm (.int often), .own v3 (oL ds'), A4, A5, A6, A7, .any]) →
          ((turnStep (s1, w1)).2.length ≤ 18 ∧ ((turnStep (s1, w1)).2 = [] → turnStep (s1, w1) = (s, sw))) ∧ ∃ A4 A5 A6 A7, G = [.own v (oSrc (turnStep (s1, w1)).1), .imm (netD (n, sw)), .imm (.int often), .own v3 (oL ((turnStep (s1, w1)).2.map swD)), A4, A5, A6, A7, .any] := fun {ds' G} hds h => by
        subst hds
        rw [es]
        obtain ⟨q1, q2⟩ := turnSw_len hlt hz
        exact ⟨⟨q1, fun e => absurd e q2⟩, h⟩
      refine S_cons (X_asg F0 5 (E_cv (E_pick (m := (w1.length : Int)) F0 C14 0 (E_cv (E_len F0 nbX (E_ref F0 3) (.inr (.at 3))) (by rw [List.length_map])) (by omega)) (by rw [hr1])) fun _ => ?_)
      have hc3 := cut3_len w1 r
      refine S_cons (X_par F0 6 7 (A_cons (E_ixT (ds := [.int ((w1.getD r (0, 0)).1 : Int), .int ((w1.getD r (0, 0)).2 : Int)]) (k := 0) (d := .int ((w1.getD r (0, 0)).1 : Int)) (E_ixLx (enc := swD) (0, 0) (E_ref F0 3) (E_var F0 5) (.at 3) hlt) E_int rfl)
        (A_cons (E_lcO (own := [("swap", 8)]) F0 rfl (LcOk.cv (out' := (cut3 w1 r).map natI) (LcOk.map (enc := swD) (xs := (w1.drop r).take 3) (fun p => natI p.1) (I_cv (I_new (E_slL (E_ref F0 3) (.some (E_var F0 5)) (.some (E_add (E_var F0 5) E_int)) (.at 3))) (cut_mid swD w1 r 3 (Nat.le_of_lt hlt))) rfl trivial ?_ fun p _ => ?_) rfl ?_)) A_nil)) fun v6 v7 => ?_)
      · rw [List.length_take]; exact Nat.lt_of_le_of_lt (Nat.min_le_left _ _) (by decide)
      · exact ⟨_, _, _, fun X' b =>
          have F1 := F0.ofBlk (ks' := [0, 0, 0, 0, 0, 0, 0, 0, 1]) (gs' := []) rfl b
          ⟨G_name F1 8, E_ixT (ds := [.int (p.1 : Int), .int (p.2 : Int)]) (k := 0) (d := .int (p.1 : Int)) (E_var F1 8) E_int rfl⟩, by decide, rfl⟩
      · rw [cut3, List.map_map]; rfl
      -- the four ways
      have ln : ∀ {j : Nat}, decide ((j : Int) < ((List.map natI (cut3 w1 r)).length : Int)) = decide (j < (cut3 w1 r).length) := fun {j} => by
        rw [List.length_map]
        by_cases h : j < (cut3 w1 r).length
        · rw [decide_eq_true h, decide_eq_true (by omega)]
        · rw [decide_eq_false h, decide_eq_false (by omega)]
      have k1 : ∀ {b : Bool}, (decide ((1 : Int) < ((List.map natI (cut3 w1 r)).length : Int))) = true → 1 < (cut3 w1 r).length := fun h => of_decide_eq_true ((ln (j := 1)).symm.trans h)
      refine S_one (X_if (x := decide ((1 < (cut3 w1 r).length) ∧ gap w1 r > 1)) (T_cv (T_w (W_and (T_gt (E_len F0 nbX (E_ref F0 7) (.inr (.at 7))) E_int) fun h => W_and1 (T_gt (E_abs F0 nbX (E_sub (E_var F0 6) (E_ixLx (enc := natI) (k := 1) 0 (E_ref F0 7) E_int (.at 7) (k1 (b := true) h)))) E_int))) ?_) (fun t1 => ?_) (fun t1 => ?_))
      · rw [Bool.decide_and]
        exact congr (congrArg _ (ln (j := 1))) rfl
      · have c1 := of_decide_eq_true t1
        have h2 : r + 1 < w1.length := by omega
        have ew : turnSw w1 r = w1.take r ++ [w1.getD (r + 1) (0, 0), w1.getD r (0, 0)] ++ w1.drop (r + 2) := if_pos c1
        refine S_one (X_asgSl (ds := w1.map swD) (m := r) (j := r + 2) F0 3 (E_lst (ds := [swD (w1.getD (r + 1) (0, 0)), swD (w1.getD r (0, 0))]) (A_cons (E_ixLx (enc := swD) (k := r + 1) (0, 0) (E_ref F0 3) (E_cv (E_add (E_var F0 5) E_int) (by rfl)) (.at 3) h2) (A_cons (E_ixLx (enc := swD) (0, 0) (E_ref F0 3) (E_var F0 5) (.at 3) hlt) A_nil)) (show 2 ≤ sizeLine by decide))
          (E_var F0 5) (E_cv (E_add (E_var F0 5) E_int) (by rfl)) (by omega) (by rw [List.length_map]; omega) (by rw [List.length_map]; exact Nat.le_trans (show w1.length + 2 ≤ 20 by omega) (by decide)) ?_)
        exact fin (by rw [ew]; simp [List.map_append, List.map_take, List.map_drop]) ⟨_, _, _, _, rfl⟩
      · have c1 := of_decide_eq_false t1
        have ln3 : decide (((List.map natI (cut3 w1 r)).length : Int) = 3) = decide ((cut3 w1 r).length = 3) := by
          rw [List.length_map]
          by_cases h : (cut3 w1 r).length = 3
          · rw [decide_eq_true h, decide_eq_true (by omega)]
          · rw [decide_eq_false h, decide_eq_false (by omega)]
        have k3 : ∀ {b : Bool}, decide (((List.map natI (cut3 w1 r)).length : Int) = 3) = true → (cut3 w1 r).length = 3 := fun h => of_decide_eq_true (ln3.symm.trans h)
        refine S_one (X_if (x := decide ((cut3 w1 r).length = 3 ∧ (w1.getD r (0, 0)).1 = (cut3 w1 r).getD 2 0 ∧ gap w1 r = 1)) (T_cv (T_w (W_and (T_eqI (E_len F0 nbX (E_ref F0 7) (.inr (.at 7))) E_int) fun h => W_and (T_eqI (E_var F0 6) (E_ixLx (enc := natI) (k := 2) 0 (E_ref F0 7) E_int (.at 7) (by have := k3 (b := true) h; omega)))
          fun _ => W_and1 (T_eqI (E_abs F0 nbX (E_sub (E_var F0 6) (E_ixLx (enc := natI) (k := 1) 0 (E_ref F0 7) E_int (.at 7) (by have := k3 (b := true) h; omega)))) E_int))) ?_) (fun t2 => ?_) (fun t2 => ?_))
        · rw [Bool.decide_and, Bool.decide_and]
          refine congr (congrArg _ ln3) (congr (congrArg _ ?_) rfl)
          by_cases h : (w1.getD r (0, 0)).1 = (cut3 w1 r).getD 2 0
          · rw [decide_eq_true h, decide_eq_true (by omega)]
          · rw [decide_eq_false h, decide_eq_false (by omega)]
        · have c2 := of_decide_eq_true t2
          have h2 : r + 1 < w1.length := by omega
          have ew : turnSw w1 r = w1.take r ++ [w1.getD (r + 1) (0, 0), w1.getD r (0, 0), w1.getD (r + 1) (0, 0)] ++ w1.drop (r + 3) := (if_neg c1).trans (if_pos c2)
          refine S_one (X_asgSl (ds := w1.map swD) (m := r) (j := r + 3) F0 3 (E_lst (ds := [swD (w1.getD (r + 1) (0, 0)), swD (w1.getD r (0, 0)), swD (w1.getD (r + 1) (0, 0))]) (A_cons (E_ixLx (enc := swD) (k := r + 1) (0, 0) (E_ref F0 3) (E_cv (E_add (E_var F0 5) E_int) (by rfl)) (.at 3) h2) (A_cons (E_ixLx (enc := swD) (0, 0) (E_ref F0 3) (E_var F0 5) (.at 3) hlt) (A_cons (E_ixLx (enc := swD) (k := r + 1) (0, 0) (E_ref F0 3) (E_cv (E_add (E_var F0 5) E_int) (by rfl)) (.at 3) h2) A_nil))) (show 3 ≤ sizeLine by decide))
            (E_var F0 5) (E_cv (E_add (E_var F0 5) E_int) (by rfl)) (by omega) (by rw [List.length_map]; omega) (by rw [List.length_map]; exact Nat.le_trans (show w1.length + 3 ≤ 30 by omega) (by decide)) ?_)
          exact fin (by rw [ew]; simp [List.map_append, List.map_take, List.map_drop]) ⟨_, _, _, _, rfl⟩
        · have c2 := of_decide_eq_false t2
          refine S_one (X_if (x := decide (1 < (cut3 w1 r).length ∧ (cut3 w1 r).getD 1 0 = (w1.getD r (0, 0)).1)) (T_cv (T_w (W_and (T_gt (E_len F0 nbX (E_ref F0 7) (.inr (.at 7))) E_int) fun h => W_and1 (T_eqI (E_ixLx (enc := natI) (k := 1) 0 (E_ref F0 7) E_int (.at 7) (k1 (b := true) h)) (E_var F0 6)))) ?_) (fun t3 => ?_) (fun t3 => ?_))
          · rw [Bool.decide_and]
            refine congr (congrArg _ (ln (j := 1))) ?_
            by_cases h : (cut3 w1 r).getD 1 0 = (w1.getD r (0, 0)).1
            · rw [decide_eq_true h, decide_eq_true (by omega)]
            · rw [decide_eq_false h, decide_eq_false (by omega)]
          · have c3 := of_decide_eq_true t3
            have ew : turnSw w1 r = w1.eraseIdx r := (if_neg c1).trans ((if_neg c2).trans (if_pos c3))
            refine S_one (X_expr (M_popAt (d := swD (w1.getD r (0, 0))) F0 3 (E_var F0 5) (by omega) ?_ ?_) ?_)
            · rw [Int.toNat_natCast, List.getElem?_map]
              simp [List.getD, List.getElem?_eq_getElem hlt]
            · rw [List.length_map]; omega
            · exact fin (by rw [ew, Int.toNat_natCast, erase_mapx]) ⟨_, _, _, _, rfl⟩
          · have c3 := of_decide_eq_false t3
            refine S_one (X_if (x := decide (w1.length < 18)) (T_cv (T_lt (E_len F0 nbX (E_ref F0 3) (.inr (.at 3))) E_int) ?_) (fun t4 => ?_) (fun t4 => S_nil ?_))
            · rw [List.length_map]
              by_cases h : w1.length < 18
              · rw [decide_eq_true h, decide_eq_true (by omega)]
              · rw [decide_eq_false h, decide_eq_false (by omega)]
            · have c4 := of_decide_eq_true t4
              have ew : turnSw w1 r = w1.take r ++ [w1.getD r (0, 0)] ++ w1.drop r := (if_neg c1).trans ((if_neg c2).trans ((if_neg c3).trans (if_pos c4)))
              refine S_one (X_expr (M_insert (d := swD (w1.getD r (0, 0))) F0 3 (A_cons (E_var F0 5) (A_cons (E_ixLx (enc := swD) (0, 0) (E_ref F0 3) (E_var F0 5) (.at 3) hlt) A_nil)) (by omega) (by omega) ?_) ?_)
              · rw [List.length_map]; exact Nat.lt_of_le_of_lt hz (by decide)
              · exact fin (by rw [ew, Int.toNat_natCast]; simp [List.map_append, List.map_take, List.map_drop]) ⟨_, _, _, _, rfl⟩
            · have c4 := of_decide_eq_false t4
              have ew : turnSw w1 r = w1 := (if_neg c1).trans ((if_neg c2).trans ((if_neg c3).trans (if_neg c4)))
              exact fin (by rw [ew]) ⟨_, _, _, _, rfl⟩
  · obtain ⟨_, A4, A5, A6, A7, rfl⟩ := hI
    exact S_one (X_ret (E_tup (ds := [.int n, swsD (turnP s sw often).2]) (A_cons (E_ixT (ds := [.int n, swsD sw]) (k := 0) (d := .int n) (E_var F0 1) E_int rfl) (A_cons (E_tupleL F0 nbX (E_ref F0 3) (.at 3)) A_nil)) (show 2 ≤ sizeLine by decide)) ⟨rfl, rfl⟩)
end
end K71

namespace K71
open PySem PySem.Spec PyProof.Rows L2 PL

/-- what is true of nets of next lines -/
def Nx (n : Nat) (s : List (Nat × Nat)) : Prop := ∀ p ∈ s, p.2 = p.1 + 1 ∧ p.2 < n
structure MM : Prop where
  led : ∀ {n : Nat} {a : List (Nat × Nat)} {r : List Int}, Nx n a → r.length = n → ledP a r = lawLed a r
  words : ∀ {n : Nat} {a b : List (Nat × Nat)}, Nx n a → Nx n b → (lawLed b (downRow n) = lawLed a (downRow n) ↔ ∀ w ∈ wordsP n, lawLed a w = lawLed b w)
  tells : ∀ {n : Nat} {a b : List (Nat × Nat)}, Nx n a → Nx n b → (tellP (n, a) = tellP (n, b) ↔ lawLed b (downRow n) = lawLed a (downRow n))
  rows : ∀ {n : Nat} {a b : List (Nat × Nat)} {r : List Int}, Nx n a → Nx n b → r.length = n → lawLed b (downRow n) = lawLed a (downRow n) → lawLed a r = lawLed b r
  turned : ∀ {n : Nat} {a : List (Nat × Nat)} {s : Src} {often : Nat}, Nx n a → a.length ≤ 18 → lawLed (turnP s a often).2 (downRow n) = lawLed a (downRow n)
  count : ∀ {n : Nat} {a : List (Nat × Nat)}, Nx n a → ((workN (n, a)).length : Int) = (n : Int) * ((n : Int) - 1) / 2 - pairsP (lawLed a (downRow n))
  few : ∀ {n : Nat} {a : List (Nat × Nat)}, Nx n a → lawLed (fewP (n, a)).2 (downRow n) = lawLed a (downRow n)

theorem Nx.bd {n : Nat} {s : List (Nat × Nat)} (h : Nx n s) : ∀ p ∈ s, p.1 < n ∧ p.2 < n := fun p hp => by
  have := h p hp; omega
theorem turnP_ok {n : Nat} {s : Src} {sw : List (Nat × Nat)} {often : Nat} (h : NextNet n sw) : NextNet n (turnP s sw often).2 := by
  have step : ∀ a : Src × List (Nat × Nat), NextNet n a.2 → NextNet n (turnStep a).2 := fun a ha => by
    unfold turnStep
    split
    · exact ha
    · rename_i h0
      have hpos : 0 < a.2.length := List.length_pos_iff.mpr h0
      obtain ⟨r, hr, hlt⟩ := pick_nat a.1 (m := a.2.length) hpos
      rw [hr]
      refine ⟨fun p hp => ha.nx p (turnSw_mem (by simpa using hlt) hp), (turnSw_len (by simpa using hlt) ha.len).1⟩
  unfold turnP
  have key : ∀ (l : List Nat) (a : Src × List (Nat × Nat)), NextNet n a.2 → NextNet n (l.foldl (fun a _ => turnStep a) a).2 := by
    intro l
    induction l with
    | nil => exact fun a h => h
    | cons x l ih => exact fun a h => ih _ (step a h)
  exact key _ _ h
theorem few_ok {n : Nat} {a : List (Nat × Nat)} (h : Nx n a) : Nx n (fewP (n, a)).2 := fun p hp => by
  obtain ⟨m, hm, rfl⟩ := List.mem_map.mp hp
  exact h _ (mem_getD (workN_lt hm))
theorem lawLed_len (a : List (Nat × Nat)) (r : List Int) : (lawLed a r).length = r.length := by
  unfold lawLed
  induction a generalizing r with
  | nil => rfl
  | cons p a ih => rw [List.foldl_cons, ih, lawStep_len]
theorem ledP_len (a : List (Nat × Nat)) (r : List Int) : (ledP a r).length = r.length := by
  unfold ledP
  induction a generalizing r with
  | nil => rfl
  | cons p a ih => rw [List.foldl_cons, ih, ledStep_len]
def rowS (s : Src) (n : Nat) : Src × List Int := runSt (fun s (_ : Nat) => (pickS s 12).1) (fun _ _ => true) (fun s _ => (pickS s 12).2 - 5) s (List.range n)
theorem rowS_len (s : Src) (n : Nat) : (rowS s n).2.length = n := by
  have key : ∀ (l : List Nat) (s : Src), (runSt (fun s (_ : Nat) => (pickS s 12).1) (fun _ _ => true) (fun s _ => (pickS s 12).2 - 5) s l).2.length = l.length := by
    intro l
    induction l with
    | nil => intro s; rfl
    | cons x l ih => intro s; simp [runSt, ih]
  have q := key (List.range n) s
  rw [List.length_range] at q
  exact q
theorem row_dp (r : List Int) : Dp 1 (rowD r) := Dp.tup (Dp.map fun i _ => Dp.int i)
theorem row_inj {x y : List Int} : rowD x = rowD y ↔ x = y := ⟨fun h => rowT_inj x y h, fun h => h ▸ rfl⟩
def CalT (P : Program) (w : World) (K : PySem.W.Frag) (mg : Str → Option Value) (base : Heap) (k : Nat) (x : Str) (sp : Sp) : Prop := ∃ (j : Nat) (f : Addr) (fd : FuncData) (ps : List Str), j ≤ k ∧ FnOk P w K mg base CX0 j f fd ps sp ∧ mg x = some (.ref f) ∧ PySem.W.keepIn K (.ref f) = true ∧ Binds K fd ps []
theorem CalT.cal {P : Program} {w : World} {K : PySem.W.Frag} {mg : Str → Option Value} {base : Heap} {k : Nat} {x : Str} {sp : Sp} {X : Cx} (h : CalT P w K mg base k x sp) (hP : X.prog = P) (hw : X.w = w) (hK : X.K = K) (hmg : X.mg = mg) (hbase : X.base = base) (hr : Room k X.A) : Cal X x sp := by
  subst hP hw hK hmg hbase
  obtain ⟨j, f, fd, ps, hj, O, m, kp, b⟩ := h
  exact ⟨j, f, fd, ps, O, hr.mono hj, m, kp, b⟩
abbrev sp5 : Sp := spP (fun x : { x : Nat × List (Nat × Nat) // x.2.length ≤ 100 } => [.imm (netD x.1)]) (fun x => .imm (.bool (isNext x.1.2)))
abbrev sp6 : Sp := spP (fun x : LedIn => [.imm (swsD x.s), .imm (rowD x.r)]) (fun x => .imm (rowD (ledP x.s x.r)))
abbrev sp15 : Sp := spP (fun x : LedIn => [.imm (swsD x.s), .imm (rowD x.r)]) (fun x => .imm (rowD (lawLed x.s x.r)))
abbrev sp18 : Sp := spP (fun x : { n : Nat // n ≤ 10 } => [.imm (.int x.1)]) (fun x => .new (oL ((wordsP x.1).map rowD)))
abbrev sp3 : Sp := spP (fun x : Net6 × Net6 => [.imm (netD (x.1.n, x.1.s)), .imm (netD (x.2.n, x.2.s))]) (fun x => .imm (.bool (decide (tellP (x.1.n, x.1.s) = tellP (x.2.n, x.2.s)))))
abbrev sp8 : Sp := spP (fun x : NetIn => [.imm x.d]) (fun x => .imm (.tuple ((workP x.s (downRow x.n)).2.map natI)))
abbrev sp9 : Sp := spP (fun x : NetIn => [.imm x.d]) (fun x => .imm (netD (fewP (x.n, x.s))))
abbrev sp11 : Sp := spP (fun r : { r : List Int // r.length ≤ 100 } => [.imm (rowD r.1)]) (fun r => .imm (.int (pairsP r.1)))
abbrev sp13 (K : PySem.W.Frag) : Sp := spC (ScIn.cond K) (fun x => [.val (.ref x.a)]) (fun x => .new (oSrc (openS x.ns)))
abbrev sp16 : Sp := spIO (fun (x : MkIn) v => [.own v (oSrc x.s), .imm (.int x.n), .imm (.int x.many)]) (fun x => oSrc (netS x.s x.n x.many).1) (fun x => .imm (netD (x.n, (netS x.s x.n x.many).2)))
abbrev sp17 : Sp := spIO (fun (x : TurnIn) v => [.own v (oSrc x.s), .imm (netD (x.n, x.sw)), .imm (.int x.often)]) (fun x => oSrc (turnP x.s x.sw x.often).1) (fun x => .imm (netD (x.n, (turnP x.s x.sw x.often).2)))
section
variable {X : Cx} {B : Hp} {M : List Addr} {N : List Str} {ks : List Nat} {gs ns : List Str} {sc : Scope} {Γ Γ1 Γ2 : List As} {a b c e : Expr} {es : List Expr} {pos p : Pos} {D : En}
theorem E_n1 {n : Nat} {s : List (Nat × Nat)} {q : Pos} {j : Nat} (h : Ee X B M e Γ Γ1 (.imm (netD (n, s)))) : Ee X B M (.Subscript e (.Constant (.int 1) j q) pos) Γ Γ1 (.imm (swsD s)) := E_ixT (ds := [.int n, swsD s]) (k := 1) h E_int rfl
theorem E_lawled {s : List (Nat × Nat)} {r : List Int} (F : Fx X N ks gs sc) (C : Cal X "_law_led" sp15) (hs : ∀ p ∈ s, p.1 < r.length ∧ p.2 < r.length) (h1 : Ee X B M a Γ Γ1 (.imm (swsD s))) (h2 : Ee X B M b Γ1 Γ2 (.imm (rowD r))) (hg : gs[gs.idxOf ("_law_led" : Str)]? = some ("_law_led" : Str) := by rfl)
    (he : starEach [a, b] X.env = (false, eval a X.env) :: starEach [b] X.env := by rfl) (he2 : starEach [b] X.env = (false, eval b X.env) :: starEach [] X.env := by rfl) (hpl : (backTo pos (starEach [b] X.env)).any (·.1) = false := by rfl) : Ee X B M (.Call (.Name "_law_led" p) [a, b] [] pos) Γ Γ2 (.imm (rowD (lawLed s r))) :=
  E_call F C (fun _ => (⟨s, r, hs⟩ : LedIn)) (A_cons h1 (A_cons h2 A_nil he2) he) (cv2 (fun _ => .imm) (fun _ => .imm)) (fun _ _ => rfl) (.inl ⟨_, rfl⟩) _ hg (by decide) he hpl
theorem E_led {s : List (Nat × Nat)} {r : List Int} (F : Fx X N ks gs sc) (C : Cal X "led_by_swaps" sp6) (hs : ∀ p ∈ s, p.1 < r.length ∧ p.2 < r.length) (h1 : Ee X B M a Γ Γ1 (.imm (swsD s))) (h2 : Ee X B M b Γ1 Γ2 (.imm (rowD r))) (hg : gs[gs.idxOf ("led_by_swaps" : Str)]? = some ("led_by_swaps" : Str) := by rfl)
    (he : starEach [a, b] X.env = (false, eval a X.env) :: starEach [b] X.env := by rfl) (he2 : starEach [b] X.env = (false, eval b X.env) :: starEach [] X.env := by rfl) (hpl : (backTo pos (starEach [b] X.env)).any (·.1) = false := by rfl) : Ee X B M (.Call (.Name "led_by_swaps" p) [a, b] [] pos) Γ Γ2 (.imm (rowD (ledP s r))) :=
  E_call F C (fun _ => (⟨s, r, hs⟩ : LedIn)) (A_cons h1 (A_cons h2 A_nil he2) he) (cv2 (fun _ => .imm) (fun _ => .imm)) (fun _ _ => rfl) (.inl ⟨_, rfl⟩) _ hg (by decide) he hpl
theorem E_alike {n : Nat} {s t : List (Nat × Nat)} (F : Fx X N ks gs sc) (C : Cal X "are_alike_nets" sp3) (hn : n ≤ 6) (hs : ∀ p ∈ s, p.1 < n ∧ p.2 < n) (ht : ∀ p ∈ t, p.1 < n ∧ p.2 < n) (h1 : Ee X B M a Γ Γ1 (.imm (netD (n, s)))) (h2 : Ee X B M b Γ1 Γ2 (.imm (netD (n, t)))) (hg : gs[gs.idxOf ("are_alike_nets" : Str)]? = some ("are_alike_nets" : Str) := by rfl)
    (he : starEach [a, b] X.env = (false, eval a X.env) :: starEach [b] X.env := by rfl) (he2 : starEach [b] X.env = (false, eval b X.env) :: starEach [] X.env := by rfl) (hpl : (backTo pos (starEach [b] X.env)).any (·.1) = false := by rfl) : Ee X B M (.Call (.Name "are_alike_nets" p) [a, b] [] pos) Γ Γ2 (.imm (.bool (decide (tellP (n, s) = tellP (n, t))))) :=
  E_call F C (fun _ => ((⟨n, s, hs, hn⟩, ⟨n, t, ht, hn⟩) : Net6 × Net6)) (A_cons h1 (A_cons h2 A_nil he2) he) (cv2 (fun _ => .imm) (fun _ => .imm)) (fun _ _ => rfl) (.inl ⟨_, rfl⟩) _ hg (by decide) he hpl
/-- a test that is false: what stands behind goes on -/
theorem X_ifF {t : List Stmt} (h : Et X B M c Γ Γ1 false) (k : D.nx Γ1) : Sx X B M (.If c t [] pos) Γ D := X_if h (fun t => by cases t) (fun _ => S_nil k)
end
theorem sc19 : FnScope ["script", "source", "n", "turned", "one", "other", "same", "first", "late", "alike", "by_words", "turn", "row", "told", "few", "numbers", "both", "i", "word", "k"] ["script"] (defScope (topS 19)) := ⟨rfl, rfl, rfl, by decide +kernel, rfl, by decide +kernel, by decide +kernel⟩
end K71

namespace K71
open PySem PySem.Spec PyProof.Rows L2 PL
abbrev ksL : List Nat := [1, 2, 2, 1, 2, 1, 1, 1, 2, 1, 1, 1, 1, 1, 2, 1, 1, 0, 0, 0]
abbrev gsLaw : List Str := ["_law_open_cells", "_law_pick", "tuple", "range", "_law_net", "_law_turned", "led_by_swaps", "is_next_net", "_law_led", "_law_words", "are_alike_nets", "working_net", "working_swaps", "len", "pairs_against"]
abbrev NL : List Str := ["script", "source", "n", "turned", "one", "other", "same", "first", "late", "alike", "by_words", "turn", "row", "told", "few", "numbers", "both", "i", "word", "k"]
structure Cs (X : Cx) : Prop where
  c13 : Cal X "_law_open_cells" (sp13 X.K)
  c14 : Cal X "_law_pick" spPick
  c16 : Cal X "_law_net" sp16
  c17 : Cal X "_law_turned" sp17
  c6 : Cal X "led_by_swaps" sp6
  c5 : Cal X "is_next_net" sp5
  c15 : Cal X "_law_led" sp15
  c18 : Cal X "_law_words" sp18
  c3 : Cal X "are_alike_nets" sp3
  c9 : Cal X "working_net" sp9
  c8 : Cal X "working_swaps" sp8
  c11 : Cal X "pairs_against" sp11
abbrev DL : En := { nx := fun _ => (As.imm (.bool true) : As) = .imm .none, rt := fun _ A => A = .imm (.bool true) }
/-- the state behind `same = ..` -/
def GL (a : Addr) (v : V) (s : Src) (n : Nat) (one o sm : List (Nat × Nat)) (A7 A8 A9 A10 A11 A12 A13 A14 A15 A16 : As) : List As :=
  [.val (.ref a), .own v (oSrc s), .imm (.int (n : Int)), .imm (rowD (downRow n)), .imm (netD (n, one)), .imm (netD (n, o)), .imm (netD (n, sm)), A7, A8, A9, A10, A11, A12, A13, A14, A15, A16, .any, .any, .any]
theorem eqv_row (x y : List Int) : PyData.eqv (rowD x) (rowD y) = decide (x = y) := eqv_dec (row_dp _) (row_dp _) row_inj
theorem eqv_bool (x y : Bool) : PyData.eqv (.bool x) (.bool y) = (x == y) := by rw [PyData.eqv]
theorem shaped_bool (x : Bool) : PySem.SeqAt.shaped (.bool x) = true := rfl
/-- the stores aren't swapped where the first name is captured -/
theorem sw_cell {env : Env} {x y : Str} {px py pt : Pos} {kt : Nat} {value : Expr} (hx : env.scope.names.lookup x = some .cell) : swappedStores [.Tuple [.Name x px, .Name y py] kt pt] value env = pure none := by
  have kx : env.kindOf x = some .cell := hx
  unfold swappedStores
  cases value <;> first | rfl | skip
  dsimp only
  split
  · rfl
  · split
    · rfl
    · have hk : (env.kindOf x == some NameKind.local) = false := by rw [kx]; rfl
      simp only [List.filterMap_cons, List.filterMap_nil, hk, Bool.false_and, Bool.false_eq_true, if_false]
      refine (if_pos ?_).trans rfl
      split <;> rfl
theorem net_dp (x : Nat × List (Nat × Nat)) : Dp 3 (netD x) := Dp.tup (n := 2) fun d hd => by
  simp at hd
  rcases hd with rfl | rfl
  · exact (PL.Dp.int _).le (by decide)
  · exact PL.Dp.tup (n := 1) (Dp.map fun p _ => sw_dp p)
section
variable {X : Cx} {B : Hp}
theorem rest2 (mm : MM) (F0 : Fx X NL ksL gsLaw (defScope (topS 19))) (nbX : Nb X nsL) (C : Cs X) {a : Addr} {v : V} {s : Src} {n : Nat} {one o sm : List (Nat × Nat)} (hn : 2 ≤ n ∧ n ≤ 6) (h1 : NextNet n one) (h2 : NextNet n o) (h3 : NextNet n sm) (hsm : lawLed sm (downRow n) = lawLed one (downRow n)) :
    Ss X B [] ((defBody (topS 19)).drop 7) (GL a v s n one o sm .any .any .any .any .any .any .any .any .any .any) DL := by
  have x1 : Nx n one := h1.nx
  have x2 : Nx n o := h2.nx
  have x3 : Nx n sm := h3.nx
  have dl := downRow_len n
  have bdT : ∀ {t : List (Nat × Nat)}, Nx n t → ∀ {r : List Int}, r.length = n → ∀ p ∈ t, p.1 < r.length ∧ p.2 < r.length := fun ht r hr p hp => by rw [hr]; exact ht.bd p hp
  have el1 : ledP one (downRow n) = lawLed one (downRow n) := mm.led x1 dl
  refine S_cons (X_asg F0 7 (E_led F0 C.c6 (bdT x1 dl) (E_n1 (E_var F0 4)) (E_var F0 3)) fun _ => ?_)
  rw [el1]
  have lf : (lawLed one (downRow n)).length = n := by rw [lawLed_len]; exact dl
  refine S_cons (X_ifF (T_cv (T_w (W_or (T_notB (E_call F0 C.c5 (fun _ => ⟨(n, one), Nat.le_trans h1.len (by decide)⟩) (A_cons (E_var F0 4) A_nil) (cv1 fun _ => .imm) (fun _ _ => rfl)) E_bool) fun _ => W_or1 (T_neD (t := true) F0 (E_tupleT F0 nbX (E_var F0 7)) (E_lawled F0 C.c15 (bdT x1 dl) (E_n1 (E_var F0 4)) (E_var F0 3)) .imm .imm ((row_dp _).shaped (by decide)) ((row_dp _).shaped (by decide)) ?_))) ?_) ?_)
  · exact (eqv_row (lawLed one (downRow n)) (lawLed one (downRow n))).trans (decide_eq_true rfl)
  · have : isNext one = true := by
      unfold isNext
      rw [List.all_eq_true]
      intro p hp
      have := (x1 p hp).1
      simp [this]
    simp [this]
  have hz6 : (2 : Nat) ^ n ≤ 64 := Nat.le_trans (Nat.pow_le_pow_right (by decide) hn.2) (by decide)
  have wl := wordsP_len n
  have wz : (wordsP n).length < sizeLine := Nat.lt_of_le_of_lt (by rw [wl.1]; exact hz6) (by decide)
  -- the loop over (other, same)
  refine S_cons (X_fold F0 (enc := fun t => netD (n, t)) (xs := [o, sm]) (fun s _ => (List.range 3).foldl (fun s _ => (rowS s n).1) s) s (I := fun s Γ => ∃ A8 A9 A10 A11 A12 A13, Γ = GL a v s n one o sm (.imm (rowD (lawLed one (downRow n)))) A8 A9 A10 A11 A12 A13 .any .any .any)
    (I_tup (E_tup (ds := [netD (n, o), netD (n, sm)]) (A_cons (E_var F0 5) (A_cons (E_var F0 6) A_nil)) (show 2 ≤ sizeLine by decide))) ⟨_, _, _, _, _, _, rfl⟩ (fun _ _ _ => trivial) (fun pre t post Γk e hI => ?_) (fun Γk hI => ?_))
  · obtain ⟨A8, A9, A10, A11, A12, A13, rfl⟩ := hI
    have ht : NextNet n t := by
      have : t ∈ [o, sm] := by rw [e]; simp
      simp at this
      rcases this with rfl | rfl
      · exact h2
      · exact h3
    have xt : Nx n t := ht.nx
    generalize pre.foldl (fun s _ => (List.range 3).foldl (fun s _ => (rowS s n).1) s) s = s1
    refine ⟨_, _, G_name F0 8, ?_⟩
    refine S_cons (X_asg F0 9 (E_eqD F0 (E_lawled F0 C.c15 (bdT xt dl) (E_n1 (E_var F0 8)) (E_var F0 3)) (E_tupleT F0 nbX (E_var F0 7)) .imm .imm ((row_dp _).shaped (by decide)) ((row_dp _).shaped (by decide)) (eqv_row (lawLed t (downRow n)) (lawLed one (downRow n)))) fun _ => ?_)
    refine S_cons (X_asg F0 10 (E_eqD (t := decide ((wordsP n).filter (fun w => !decide (lawLed one w = lawLed t w)) = [])) F0 (E_lcO (own := [("word", 18)]) F0 rfl (LcOk.filt (enc := rowD) (xs := wordsP n) (fun w => !decide (lawLed one w = lawLed t w)) rowD
      (I_new (E_call F0 C.c18 (fun _ => ⟨n, by omega⟩) (A_cons (E_var F0 2) A_nil) (cv1 fun _ => .imm) (fun _ _ => rfl))) rfl trivial wz fun w hw => ?_)) (E_lst (ds := []) A_nil (by decide)) .new .new ?_ ?_ ?_) fun _ => ?_)
    · exact ⟨_, _, _, _, fun X' b =>
        have F1 := F0.ofBlk (ks' := [0, 0, 0, 0, 3, 0, 0, 0, 3, 0, 0, 0, 0, 0, 0, 0, 0, 0, 1, 0]) (gs' := ["_law_led"]) rfl b
        ⟨G_name F1 18, T_neD F1 (E_lawled F1 (C.c15.blk b) (bdT x1 (wl.2 w hw)) (E_n1 (E_var F1 4)) (E_var F1 18)) (E_lawled F1 (C.c15.blk b) (bdT xt (wl.2 w hw)) (E_n1 (E_var F1 8)) (E_var F1 18)) .imm .imm ((row_dp _).shaped (by decide)) ((row_dp _).shaped (by decide)) (eqv_row _ _), fun _ => E_var F1 18⟩, by decide, fun _ => rfl, rfl⟩
    · exact (Dp.lst (Dp.map fun p _ => row_dp p)).shaped (by decide)
    · exact (Dp.lst (n := 1) (fun d hd => by simp at hd)).shaped (by decide)
    · refine eqv_dec (n := 2) (m := 2) (Dp.lst (Dp.map fun p _ => row_dp p)) (Dp.lst (n := 1) (fun d hd => by simp at hd)) ?_
      constructor
      · intro h
        have := PyData.list.inj h
        simpa using this
      · intro h; rw [h]; rfl
    have hw : (wordsP n).filter (fun w => !decide (lawLed one w = lawLed t w)) = [] ↔ lawLed t (downRow n) = lawLed one (downRow n) := by
      rw [mm.words x1 xt, List.filter_eq_nil_iff]
      exact ⟨fun h w hw => by simpa using h w hw, fun h w hw => by simpa using h w hw⟩
    have hb : decide ((wordsP n).filter (fun w => !decide (lawLed one w = lawLed t w)) = []) = decide (lawLed t (downRow n) = lawLed one (downRow n)) := by
      by_cases h : lawLed t (downRow n) = lawLed one (downRow n)
      · rw [decide_eq_true h, decide_eq_true (hw.mpr h)]
      · rw [decide_eq_false h, decide_eq_false (fun z => h (hw.mp z))]
    have htl : decide (tellP (n, one) = tellP (n, t)) = decide (lawLed t (downRow n) = lawLed one (downRow n)) := by
      by_cases h : lawLed t (downRow n) = lawLed one (downRow n)
      · rw [decide_eq_true h, decide_eq_true ((mm.tells x1 xt).mpr h)]
      · rw [decide_eq_false h, decide_eq_false (fun z => h ((mm.tells x1 xt).mp z))]
    rw [hb]
    refine S_cons (X_ifF (T_cv (T_w (W_or (T_neD F0 (E_var F0 9) (E_var F0 10) .imm .imm (shaped_bool _) (shaped_bool _) (eqv_bool _ _)) fun _ => W_or1 (T_neD F0 (E_alike F0 C.c3 hn.2 x1.bd xt.bd (E_var F0 4) (E_var F0 8)) (E_var F0 9) .imm .imm (shaped_bool _) (shaped_bool _) (eqv_bool _ _)))) ?_) ?_)
    · rw [htl]; simp
    refine S_one (X_fold F0 (enc := natI) (xs := List.range 3) (fun s _ => (rowS s n).1) s1 (I := fun s Γ => ∃ A11 A12 A13, Γ = GL a v s n one o sm (.imm (rowD (lawLed one (downRow n)))) (.imm (netD (n, t))) (.imm (.bool (decide (lawLed t (downRow n) = lawLed one (downRow n))))) (.imm (.bool (decide (lawLed t (downRow n) = lawLed one (downRow n))))) A11 A12 A13 .any .any .any)
      (I_rgN F0 nbX (m := 3) (A_cons E_int A_nil) (by decide)) ⟨_, _, _, rfl⟩ (fun _ _ _ => trivial) (fun pre2 j post2 Γk2 e2 hI2 => ?_) (fun Γk2 hI2 => ?_))
    · obtain ⟨A11, A12, A13, rfl⟩ := hI2
      generalize pre2.foldl (fun s _ => (rowS s n).1) s1 = s2
      have er := runSt_enc (fun s (_ : Nat) => (pickS s 12).1) (fun _ _ => true) (fun s _ => (pickS s 12).2 - 5) PyData.int (List.range n) s2
      have rl := rowS_len s2 n
      refine ⟨_, _, G_name F0 11, ?_⟩
      refine S_cons (X_asg F0 12 (Γ1 := GL a v (rowS s2 n).1 n one o sm (.imm (rowD (lawLed one (downRow n)))) (.imm (netD (n, t))) (.imm (.bool (decide (lawLed t (downRow n) = lawLed one (downRow n))))) (.imm (.bool (decide (lawLed t (downRow n) = lawLed one (downRow n))))) (.imm (natI j)) A12 A13 .any .any .any)
        (E_tupleL (ds := ((rowS s2 n).2).map .int) F0 nbX (E_lcO (own := [("i", 17)]) F0 rfl (LcOk.cv (LcOk.go (enc := natI) (xs := List.range n) (G := fun s' => GL a v s' n one o sm (.imm (rowD (lawLed one (downRow n)))) (.imm (netD (n, t))) (.imm (.bool (decide (lawLed t (downRow n) = lawLed one (downRow n))))) (.imm (.bool (decide (lawLed t (downRow n) = lawLed one (downRow n))))) (.imm (natI j)) A12 A13 .any .any .any) s2 (fun s _ => (pickS s 12).1) (fun _ _ => true) (fun s _ => .int ((pickS s 12).2 - 5))
          (I_rgN F0 nbX (A_cons (E_var F0 2) A_nil) (by omega)) rfl (fun _ => trivial) (by rw [List.length_range]; exact Nat.lt_of_le_of_lt hn.2 (by decide)) fun pre3 x post3 e3 => ?_) ?_ ?_)) .new) fun _ => ?_)
      · generalize (runSt (fun s (_ : Nat) => (pickS s 12).1) (fun _ _ => true) (fun s _ => PyData.int ((pickS s 12).2 - 5)) s2 pre3).1 = s3
        exact ⟨_, _, _, _, fun X' b =>
          have F1 := F0.ofBlk (ks' := [0, 3, 0, 0, 0, 0, 0, 0, 0, 0, 0, 0, 0, 0, 0, 0, 0, 1, 0, 0]) (gs' := ["_law_pick"]) rfl b
          ⟨G_name F1 17, C_nil, fun _ => E_sub (E_pick (s := s3) F1 (C.c14.blk b) 1 E_int (by decide)) E_int⟩, by decide, fun _ => rfl, fun t => by cases t⟩
      · rw [er.1]; rfl
      · rw [er.2]; rfl
      · generalize hrow : (rowS s2 n).2 = rw2 at *
        generalize (rowS s2 n).1 = s3
        refine S_cons (X_asg F0 13 (E_lst (ds := [rowD (ledP one rw2), rowD (ledP t rw2)]) (A_cons (E_tupleT F0 nbX (E_led F0 C.c6 (bdT x1 rl) (E_n1 (E_var F0 4)) (E_var F0 12))) (A_cons (E_tupleT F0 nbX (E_led F0 C.c6 (bdT xt rl) (E_n1 (E_var F0 8)) (E_var F0 12))) A_nil)) (show 2 ≤ sizeLine by decide)) fun v13 => ?_)
        rw [mm.led x1 rl, mm.led xt rl]
        refine S_one (X_ifF (T_cv (T_w (W_or (T_neD (t := true) F0 (E_ref F0 13) (E_lst (ds := [rowD (lawLed one rw2), rowD (lawLed t rw2)]) (A_cons (E_lawled F0 C.c15 (bdT x1 rl) (E_n1 (E_var F0 4)) (E_var F0 12)) (A_cons (E_lawled F0 C.c15 (bdT xt rl) (E_n1 (E_var F0 8)) (E_var F0 12)) A_nil)) (show 2 ≤ sizeLine by decide)) (.at 13) .new ?_ ?_ ?_) fun _ => W_or1 (T_w (W_and (T_val (E_var F0 9)) fun hal => W_and1 (T_neD (t := true) F0 (E_ixLx (enc := rowD) (xs := [lawLed one rw2, lawLed t rw2]) (k := 0) [] (E_ref F0 13) E_int (.at 13) (show 0 < 2 by decide)) (E_ixLx (enc := rowD) (xs := [lawLed one rw2, lawLed t rw2]) (k := 1) [] (E_ref F0 13) E_int (.at 13) (show 1 < 2 by decide)) .imm .imm ((row_dp _).shaped (by decide)) ((row_dp _).shaped (by decide)) ?_))))) ?_) ?_)
        · exact (Dp.lst (n := 1) (fun d hd => by
            simp at hd
            rcases hd with rfl | rfl <;> exact row_dp _)).shaped (by decide)
        · exact (Dp.lst (n := 1) (fun d hd => by
            simp at hd
            rcases hd with rfl | rfl <;> exact row_dp _)).shaped (by decide)
        · have dp : Dp 2 (.list [rowD (lawLed one rw2), rowD (lawLed t rw2)]) := Dp.lst (n := 1) (fun d hd => by
            simp at hd
            rcases hd with rfl | rfl <;> exact row_dp _)
          exact (eqv_dec (P := True) dp dp (by simp)).trans (decide_eq_true trivial)
        · have hh := of_decide_eq_true hal
          exact (eqv_row (lawLed one rw2) (lawLed t rw2)).trans (decide_eq_true (mm.rows x1 xt rl hh))
        · simp
        · exact ⟨_, _, _, rfl⟩
    · obtain ⟨A11, A12, A13, rfl⟩ := hI2
      exact ⟨_, _, _, _, _, _, rfl⟩
  · obtain ⟨A8, A9, A10, A11, A12, A13, rfl⟩ := hI
    generalize ([o, sm] : List (List (Nat × Nat))).foldl (fun s _ => (List.range 3).foldl (fun s _ => (rowS s n).1) s) s = s9
    refine S_cons (X_ifF (T_cv (T_neD (t := true) F0 (E_lawled F0 C.c15 (bdT x3 dl) (E_n1 (E_var F0 6)) (E_var F0 3)) (E_tupleT F0 nbX (E_var F0 7)) .imm .imm ((row_dp _).shaped (by decide)) ((row_dp _).shaped (by decide)) ((eqv_row (lawLed sm (downRow n)) (lawLed one (downRow n))).trans (decide_eq_true hsm))) rfl) ?_)
    have xf : Nx n (fewP (n, one)).2 := few_ok x1
    have hfew : lawLed (fewP (n, one)).2 (downRow n) = lawLed one (downRow n) := mm.few x1
    have ni : NetIn := ⟨n, one, x1.bd, by omega, Nat.le_trans h1.len (by decide)⟩
    refine S_cons (X_asgT (E_tup (ds := [netD (fewP (n, one)), .tuple ((workN (n, one)).map natI)]) (A_cons (E_call F0 C.c9 (fun _ => (⟨n, one, x1.bd, by omega, Nat.le_trans h1.len (by decide)⟩ : NetIn)) (A_cons (E_var F0 4) A_nil) (cv1 fun _ => .imm) (fun _ _ => rfl)) (A_cons (E_call F0 C.c8 (fun _ => (⟨n, one, x1.bd, by omega, Nat.le_trans h1.len (by decide)⟩ : NetIn)) (A_cons (E_var F0 4) A_nil) (cv1 fun _ => .imm) (fun _ _ => rfl)) A_nil)) (show 2 ≤ sizeLine by decide))
      (G_tup F0 (G_cons (G_name F0 14) (G_cons (G_name F0 15) G_nil))) ?_ rfl (sw_cell (F0.k2 14 _ rfl rfl).1))
    have hwl : (workN (n, one)).length ≤ 100 := Nat.le_trans (workN_len _) (Nat.le_trans h1.len (by decide))
    refine S_cons (X_ifF (T_cv (T_w (W_or (T_neI (i := ((workN (n, one)).length : Int)) (j := (n : Int) * ((n : Int) - 1) / 2 - pairsP (lawLed one (downRow n))) (E_cv (E_len F0 nbX (E_var F0 15) (.inl rfl)) (by rw [List.length_map])) (E_sub (E_fdivW (E_mulOk (E_var F0 2) (E_sub (E_var F0 2) E_int) (mulOk_r (by omega))) E_int (divW_small (by decide) (by decide))) (E_call F0 C.c11 (fun _ => ⟨lawLed one (downRow n), by omega⟩) (A_cons (E_tupleT F0 nbX (E_var F0 7)) A_nil) (cv1 fun _ => .imm) (fun _ _ => rfl)))) fun _ => W_or1 (T_neD (t := true) F0 (E_var F0 14) (E_tup (ds := [.int n, swsD (fewP (n, one)).2]) (A_cons (E_var F0 2) (A_cons (E_tupleL F0 nbX (E_lcO (own := [("k", 19)]) F0 rfl
      (LcOk.map (enc := natI) (xs := workN (n, one)) (fun k => swD (one.getD k (0, 0))) (I_tup (E_var F0 15)) rfl trivial (Nat.lt_of_le_of_lt hwl (by decide)) fun m hm => ?_)) ?_) A_nil)) (show 2 ≤ sizeLine by decide)) .imm .imm ?_ ?_ ?_))) ?_) ?_)
    · exact ⟨_, _, _, fun X' b =>
        have F1 := F0.ofBlk (ks' := [0, 0, 0, 0, 3, 0, 0, 0, 0, 0, 0, 0, 0, 0, 0, 0, 0, 0, 0, 1]) (gs' := []) rfl b
        ⟨G_name F1 19, E_ixTx (enc := swD) (xs := one) (0, 0) (E_n1 (E_var F1 4)) (E_var F1 19) (workN_lt hm)⟩, by decide, rfl⟩
    · left
      simp only [fewP, List.map_map]
      rfl
    · exact (net_dp _).shaped (by decide)
    · exact (net_dp (fewP (n, one))).shaped (by decide)
    · exact (eqv_dec (P := True) (net_dp (fewP (n, one))) (net_dp (fewP (n, one))) (by simp)).trans (decide_eq_true trivial)
    · have := mm.count x1
      simp [this]
    have hfl : (fewP (n, one)).2.length ≤ 100 := by rw [fewP, List.length_map]; exact hwl
    refine S_cons (X_ifF (T_cv (T_w (W_or (T_notB (E_alike F0 C.c3 hn.2 x1.bd xf.bd (E_var F0 4) (E_var F0 14)) E_bool) fun _ => W_or1 (T_neD (t := true) F0 (E_lcO (own := [("word", 18)]) F0 rfl (LcOk.filt (enc := rowD) (xs := wordsP n) (fun w => !decide (lawLed (fewP (n, one)).2 w = lawLed one w)) rowD
      (I_new (E_call F0 C.c18 (fun _ => ⟨n, by omega⟩) (A_cons (E_var F0 2) A_nil) (cv1 fun _ => .imm) (fun _ _ => rfl))) rfl trivial wz fun w hw => ?_)) (E_lst (ds := []) A_nil (by decide)) .new .new ?_ ?_ ?_))) ?_) ?_)
    · exact ⟨_, _, _, _, fun X' b =>
        have F1 := F0.ofBlk (ks' := [0, 0, 0, 0, 3, 0, 0, 0, 0, 0, 0, 0, 0, 0, 3, 0, 0, 0, 1, 0]) (gs' := ["_law_led"]) rfl b
        ⟨G_name F1 18, T_neD F1 (E_lawled F1 (C.c15.blk b) (bdT xf (wl.2 w hw)) (E_n1 (n := n) (s := (fewP (n, one)).2) (E_var F1 14)) (E_var F1 18)) (E_lawled F1 (C.c15.blk b) (bdT x1 (wl.2 w hw)) (E_n1 (E_var F1 4)) (E_var F1 18)) .imm .imm ((row_dp _).shaped (by decide)) ((row_dp _).shaped (by decide)) (eqv_row _ _), fun _ => E_var F1 18⟩, by decide, fun _ => rfl, rfl⟩
    · exact (Dp.lst (Dp.map fun p _ => row_dp p)).shaped (by decide)
    · exact (Dp.lst (n := 1) (fun d hd => by simp at hd)).shaped (by decide)
    · refine (eqv_dec (n := 2) (m := 2) (P := True) (Dp.lst (Dp.map fun p _ => row_dp p)) (Dp.lst (n := 1) (fun d hd => by simp at hd)) ?_).trans (decide_eq_true trivial)
      have he : (wordsP n).filter (fun w => !decide (lawLed (fewP (n, one)).2 w = lawLed one w)) = [] := by
        rw [List.filter_eq_nil_iff]
        intro w hw
        have := ((mm.words x1 xf).mp hfew) w hw
        simp [this]
      rw [he]
      simp
    · have := (mm.tells x1 xf).mpr hfew
      simp [this]
    have xb : Nx n (one ++ one) := fun p hp => by
      rcases List.mem_append.mp hp with hp | hp <;> exact x1 p hp
    refine S_cons (X_asg F0 16 (E_tup (ds := [.int n, swsD (one ++ one)]) (A_cons (E_var F0 2) (A_cons (E_cv (E_catT (ds := one.map swD) (fs := one.map swD) (E_n1 (E_var F0 4)) (E_n1 (E_var F0 4)) ?_) ?_) A_nil)) (show 2 ≤ sizeLine by decide)) fun _ => ?_)
    · rw [List.length_map]; exact Nat.le_trans (show one.length + one.length ≤ 36 by have := h1.len; omega) (by decide)
    · rw [← List.map_append]; rfl
    refine S_one (X_ret (E_eqD F0 (E_alike (t := one ++ one) F0 C.c3 hn.2 x1.bd xb.bd (E_var F0 4) (E_var F0 16)) (E_eqD F0 (E_lawled F0 C.c15 (bdT x1 lf) (E_n1 (E_var F0 4)) (E_tupleT F0 nbX (E_var F0 7))) (E_tupleT F0 nbX (E_var F0 7)) .imm .imm ((row_dp _).shaped (by decide)) ((row_dp _).shaped (by decide)) (eqv_row (lawLed one (lawLed one (downRow n))) (lawLed one (downRow n)))) .imm .imm (shaped_bool _) (shaped_bool _) (eqv_bool _ _)) ?_)
    have hbb : lawLed (one ++ one) (downRow n) = lawLed one (lawLed one (downRow n)) := by
      unfold lawLed
      rw [List.foldl_append]
    have hfin := mm.tells x1 xb
    rw [hbb] at hfin
    by_cases h : lawLed one (lawLed one (downRow n)) = lawLed one (downRow n)
    · rw [decide_eq_true h, decide_eq_true (hfin.mpr h)]; rfl
    · rw [decide_eq_false h, decide_eq_false (fun z => h (hfin.mp z))]; rfl
end
end K71

namespace K71
open PySem PySem.Spec PyProof.Rows L2 PL
theorem cwx3 {Γ : List As} {j : Nat} {v0 : V} {o : Ow} {d1 d2 : PyData} : ∀ vs : List V, vs.length = [As.val v0, .imm d1, .imm d2].length → CwX Γ j v0 o vs [.val v0, .imm d1, .imm d2] [.own v0 o, .imm d1, .imm d2] := fun vs hv => by
  match vs, hv with
  | [a, b, c], _ => exact .io (.cons .imm (.cons .imm .nil))
theorem seq_keep {K : PySem.W.Frag} {B H' : Hp} {a : Addr} {xs : List V} (h : SqL K B a xs) (kp : ∀ a o, B a = some o → a ∉ ([] : List Addr) → H' a = some o) : SqL K H' a xs := by
  rcases h with (h | ⟨o, h⟩) | h
  · exact .inl (.inl (kp _ _ h (by simp)))
  · exact .inl (.inr ⟨o, kp _ _ h (by simp)⟩)
  · exact .inr h
section
variable {X : Cx} {B : Hp}
theorem E_net {N : List Str} {ks : List Nat} {gs : List Str} {sc : Scope} {Γ Γ1 : List As} {a b c : Expr} {p pos : Pos} {v : V} {s : Src} {n many : Nat} (F : Fx X N ks gs sc) (C : Cal X "_law_net" sp16) (hn : 2 ≤ n ∧ n ≤ 10) (hm : many ≤ 18) (h : Ea X B [] [a, b, c] Γ Γ1 [.val v, .imm (.int (n : Int)), .imm (.int (many : Int))])
    (hg : gs[gs.idxOf ("_law_net" : Str)]? = some ("_law_net" : Str) := by rfl) (hj : Γ1[1]? = some (.own v (oSrc s)) := by rfl) (he : starEach [a, b, c] X.env = (false, eval a X.env) :: starEach [b, c] X.env := by rfl) (hpl : (backTo pos (starEach [b, c] X.env)).any (·.1) = false := by rfl) :
    Ee X B [] (.Call (.Name "_law_net" p) [a, b, c] [] pos) Γ (Γ1.set 1 (.own v (oSrc (netS s n many).1))) (.imm (netD (n, (netS s n many).2))) :=
  E_callIO (o := oSrc s) (v0 := v) F C 1 (fun _ => (⟨s, n, many, hn, hm⟩ : MkIn)) h cwx3 (fun _ _ => ⟨rfl, rfl⟩) hj (.inl ⟨_, rfl⟩) _ hg (by decide) he hpl
theorem E_turn {N : List Str} {ks : List Nat} {gs : List Str} {sc : Scope} {Γ Γ1 : List As} {a b c : Expr} {p pos : Pos} {v : V} {s : Src} {n often : Nat} {sw : List (Nat × Nat)} (F : Fx X N ks gs sc) (C : Cal X "_law_turned" sp17) (hn : n ≤ 10) (hsw : NextNet n sw) (ho : often ≤ 100) (h : Ea X B [] [a, b, c] Γ Γ1 [.val v, .imm (netD (n, sw)), .imm (.int (often : Int))])
    (hg : gs[gs.idxOf ("_law_turned" : Str)]? = some ("_law_turned" : Str) := by rfl) (hj : Γ1[1]? = some (.own v (oSrc s)) := by rfl) (he : starEach [a, b, c] X.env = (false, eval a X.env) :: starEach [b, c] X.env := by rfl) (hpl : (backTo pos (starEach [b, c] X.env)).any (·.1) = false := by rfl) :
    Ee X B [] (.Call (.Name "_law_turned" p) [a, b, c] [] pos) Γ (Γ1.set 1 (.own v (oSrc (turnP s sw often).1))) (.imm (netD (n, (turnP s sw often).2))) :=
  E_callIO (o := oSrc s) (v0 := v) F C 1 (fun _ => (⟨s, n, sw, often, hn, hsw, ho⟩ : TurnIn)) h cwx3 (fun _ _ => ⟨rfl, rfl⟩) hj (.inl ⟨_, rfl⟩) _ hg (by decide) he hpl
theorem rest1 (mm : MM) (F0 : Fx X NL ksL gsLaw (defScope (topS 19))) (nbX : Nb X nsL) (C : Cs X) {a : Addr} {v : V} {s : Src} {n : Nat} {one o : List (Nat × Nat)} (hn : 2 ≤ n ∧ n ≤ 6) (h1 : NextNet n one) (h2 : NextNet n o) {A6 : As} :
    Ss X B [] ((defBody (topS 19)).drop 6) [.val (.ref a), .own v (oSrc s), .imm (.int (n : Int)), .imm (rowD (downRow n)), .imm (netD (n, one)), .imm (netD (n, o)), .any, .any, .any, .any, .any, .any, .any, .any, .any, .any, .any, .any, .any, .any] DL := by
  refine S_cons (X_asg F0 6 (E_turn (often := 12) F0 C.c17 (by omega) h1 (by decide) (A_cons (E_ref F0 1) (A_cons (E_var F0 4) (A_cons E_int A_nil)))) fun _ => ?_)
  have h3 := turnP_ok (s := s) (often := 12) h1
  have hsm := mm.turned (s := s) (often := 12) h1.nx h1.len
  exact rest2 mm F0 nbX C hn h1 h2 h3 hsm
theorem body19 (mm : MM) (F0 : Fx X NL ksL gsLaw (defScope (topS 19))) (nbX : Nb X nsL) (C : Cs X) (x : ScIn) (hB : SqL X.K B x.a (x.ns.map V.int)) : Ss X B [] (defBody (topS 19)) (entry NL [.val (.ref x.a)]) DL := by
  obtain ⟨a, ns, hz⟩ := x
  refine S_cons (X_asg F0 1 (E_callC F0 C.c13 (⟨a, ns, hz⟩ : ScIn) (A_cons (E_ref F0 0) A_nil) rfl (fun H' kp => seq_keep hB kp) rfl) fun v => ?_)
  generalize openS ns = s0
  obtain ⟨r0, hr0, hlt⟩ := pick_nat s0 (m := 5) (by decide)
  have hn : 2 ≤ 2 + r0 ∧ 2 + r0 ≤ 6 := by omega
  refine S_cons (X_asg F0 2 (E_cv (E_add E_int (E_pick (s := s0) (m := 5) F0 C.c14 1 E_int (by decide))) (show As.imm (.int (2 + (pickS s0 5).2)) = .imm (.int ((2 + r0 : Nat) : Int)) by
    have : (pickS s0 5).2 = (r0 : Int) := hr0
    rw [this]; congr 2)) fun _ => ?_)
  generalize (pickS s0 5).1 = s1
  generalize 2 + r0 = n at *
  refine S_cons (X_asg F0 3 (E_cv (A' := .imm (rowD (downRow n))) (E_tupleL F0 nbX (E_lcO (own := [("i", 17)]) F0 rfl (LcOk.map (enc := natI) (xs := List.range n) (fun i => .int ((n : Int) - 1 - (i : Int))) (I_rgN F0 nbX (A_cons (E_var F0 2) A_nil) (by omega)) rfl trivial (by rw [List.length_range]; exact Nat.lt_of_le_of_lt hn.2 (by decide)) fun i _ => ?_)) .new) ?_) fun _ => ?_)
  · exact ⟨_, _, _, fun X' b =>
      have F1 := F0.ofBlk (ks' := [0, 0, 3, 0, 0, 0, 0, 0, 0, 0, 0, 0, 0, 0, 0, 0, 0, 1, 0, 0]) (gs' := []) rfl b
      ⟨G_name F1 17, E_sub (E_sub (E_var F1 2) E_int) (E_var F1 17)⟩, by decide, rfl⟩
  · show As.imm (.tuple _) = As.imm (.tuple _)
    congr 2
    unfold downRow
    rw [List.map_map]
    rfl
  obtain ⟨m1, hm1, hl1⟩ := pick_nat s1 (m := 16) (by decide)
  refine S_cons (X_asg F0 4 (E_net (many := m1) F0 C.c16 ⟨hn.1, by omega⟩ (by omega) (A_cons (E_ref F0 1) (A_cons (E_var F0 2) (A_cons (E_cv (E_pick (s := s1) (m := 16) F0 C.c14 1 E_int (by decide)) (show As.imm (.int (pickS s1 16).2) = _ by rw [show (pickS s1 16).2 = (m1 : Int) from hm1])) A_nil)))) fun _ => ?_)
  generalize (pickS s1 16).1 = s2
  have h1 := netS_ok (s := s2) (many := m1) hn.1 (by omega)
  generalize (netS s2 n m1).2 = one at *
  generalize (netS s2 n m1).1 = s3
  obtain ⟨m2, hm2, hl2⟩ := pick_nat s3 (m := 12) (by decide)
  refine S_cons (X_asg F0 5 (E_turn (often := 1 + m2) F0 C.c17 (by omega) h1 (by omega) (A_cons (E_ref F0 1) (A_cons (E_var F0 4) (A_cons (E_cv (E_add E_int (E_pick (s := s3) (m := 12) F0 C.c14 1 E_int (by decide))) (show As.imm (.int (1 + (pickS s3 12).2)) = .imm (.int ((1 + m2 : Nat) : Int)) by
    have : (pickS s3 12).2 = (m2 : Int) := hm2
    rw [this]; congr 2)) A_nil)))) fun _ => ?_)
  generalize (pickS s3 12).1 = s4
  have h2 := turnP_ok (s := s4) (often := 1 + m2) h1
  generalize (turnP s4 one (1 + m2)).2 = o at *
  generalize (turnP s4 one (1 + m2)).1 = s5
  by_cases hp : (pickS s5 3).2 = 0
  · obtain ⟨m3, hm3, hl3⟩ := pick_nat (pickS s5 3).1 (m := 19) (by decide)
    refine S_cons (X_asg F0 5 (E_if (x := true) (T_cv (T_eqI (E_pick (s := s5) (m := 3) F0 C.c14 1 E_int (by decide)) E_int) (decide_eq_true hp)) (fun _ => E_net (s := (pickS (pickS s5 3).1 19).1) (many := m3) F0 C.c16 ⟨hn.1, by omega⟩ (by omega) (A_cons (E_ref F0 1) (A_cons (E_var F0 2) (A_cons (E_cv (E_pick (s := (pickS s5 3).1) (m := 19) F0 C.c14 1 E_int (by decide)) (show As.imm (.int (pickS (pickS s5 3).1 19).2) = _ by rw [show (pickS (pickS s5 3).1 19).2 = (m3 : Int) from hm3])) A_nil)))) (fun h => by cases h)) fun _ => ?_)
    exact rest1 mm F0 nbX C hn h1 (netS_ok hn.1 (by omega)) (A6 := .any)
  · refine S_cons (X_asg F0 5 (E_if (x := false) (T_cv (T_eqI (E_pick (s := s5) (m := 3) F0 C.c14 1 E_int (by decide)) E_int) (decide_eq_false hp)) (fun h => by cases h) (fun _ => E_var F0 5)) fun _ => ?_)
    exact rest1 mm F0 nbX C hn h1 h2 (A6 := .any)
end
end K71

namespace K71
open PySem L2 PL
theorem snoc_ind {α : Type} {P : List α → Prop} (h0 : P []) (h1 : ∀ l x, P l → P (l ++ [x])) (l : List α) : P l := by
  have key : ∀ l : List α, P l.reverse := by
    intro l
    induction l with
    | nil => exact h0
    | cons x l ih => rw [List.reverse_cons]; exact h1 _ _ ih
  have := key l.reverse
  rwa [List.reverse_reverse] at this
theorem snoc_case {α : Type} (l : List α) : l = [] ∨ ∃ a x, l = a ++ [x] := snoc_ind (P := fun l => l = [] ∨ ∃ a x, l = a ++ [x]) (.inl rfl) (fun a x _ => .inr ⟨a, x, rfl⟩) l
/-! ### heights -/
def bit (c x : Int) : Int := if x > c then 1 else -1
def hgt (c : Int) (r : List Int) : Nat → Int
  | 0 => 0
  | x + 1 => hgt c r x + bit c (r.getD x 0)
def Tp (i : Nat) (h : Nat → Int) : Nat → Int := fun x => if x = i + 1 then max (h i) (h (i + 2)) - 1 else h x
def Ta (a : List (Nat × Nat)) (h : Nat → Int) : Nat → Int := a.foldl (fun h p => Tp p.1 h) h
theorem bit_or (c x : Int) : bit c x = 1 ∨ bit c x = -1 := by
  unfold bit; split <;> simp
theorem getD_set {r : List Int} {i j : Nat} {v : Int} : (r.set i v).getD j 0 = if i = j ∧ j < r.length then v else r.getD j 0 := by
  simp only [List.getD_eq_getElem?_getD, List.getElem?_set]
  by_cases h : i = j
  · subst h
    by_cases h2 : i < r.length
    · simp [h2]
    · rw [if_pos rfl, if_neg h2, if_neg (by simp [h2]), List.getElem?_eq_none (by omega)]
  · rw [if_neg h, if_neg (fun z => h z.1)]
theorem lawStep_get {r : List Int} {i : Nat} (h : i + 1 < r.length) (j : Nat) : (lawStep r (i, i + 1)).getD j 0 = if j = i then min (r.getD i 0) (r.getD (i + 1) 0) else if j = i + 1 then max (r.getD i 0) (r.getD (i + 1) 0) else r.getD j 0 := by
  unfold lawStep
  dsimp only
  split
  · rename_i c
    rw [getD_set, List.length_set, getD_set]
    by_cases h1 : j = i
    · subst h1
      rw [if_neg (by omega), if_pos ⟨rfl, by omega⟩, if_pos rfl]
      omega
    · by_cases h2 : j = i + 1
      · subst h2
        rw [if_pos ⟨rfl, h⟩, if_neg (by omega), if_pos rfl]
        omega
      · rw [if_neg (by omega), if_neg (by omega), if_neg h1, if_neg h2]
  · rename_i c
    by_cases h1 : j = i
    · subst h1
      rw [if_pos rfl]; omega
    · by_cases h2 : j = i + 1
      · subst h2
        rw [if_neg h1, if_pos rfl]; omega
      · rw [if_neg h1, if_neg h2]
theorem hgt_step {c : Int} {r : List Int} {i : Nat} (h : i + 1 < r.length) : ∀ x, hgt c (lawStep r (i, i + 1)) x = Tp i (hgt c r) x := by
  have low : ∀ x, x ≤ i → hgt c (lawStep r (i, i + 1)) x = hgt c r x := by
    intro x
    induction x with
    | zero => intro _; rfl
    | succ x ih =>
      intro hx
      show hgt c (lawStep r (i, i + 1)) x + bit c _ = hgt c r x + bit c _
      rw [ih (by omega), lawStep_get h, if_neg (by omega), if_neg (by omega)]
  have e0 := low i (Nat.le_refl _)
  have e1 : hgt c (lawStep r (i, i + 1)) (i + 1) = hgt c r i + bit c (min (r.getD i 0) (r.getD (i + 1) 0)) := by
    show hgt c (lawStep r (i, i + 1)) i + bit c _ = _
    rw [e0, lawStep_get h, if_pos rfl]
  have e2 : hgt c (lawStep r (i, i + 1)) (i + 2) = hgt c r (i + 2) := by
    show hgt c (lawStep r (i, i + 1)) (i + 1) + bit c _ = (hgt c r i + bit c (r.getD i 0)) + bit c (r.getD (i + 1) 0)
    rw [e1, lawStep_get h, if_neg (by omega), if_pos rfl]
    unfold bit
    split <;> split <;> split <;> split <;> omega
  have high : ∀ k, hgt c (lawStep r (i, i + 1)) (i + 2 + k) = hgt c r (i + 2 + k) := by
    intro k
    induction k with
    | zero => exact e2
    | succ k ih =>
      show hgt c (lawStep r (i, i + 1)) (i + 2 + k) + bit c ((lawStep r (i, i + 1)).getD (i + 2 + k) 0) = hgt c r (i + 2 + k) + bit c (r.getD (i + 2 + k) 0)
      rw [ih, lawStep_get h, if_neg (show ¬ i + 2 + k = i by omega), if_neg (show ¬ i + 2 + k = i + 1 by omega)]
  intro x
  unfold Tp
  by_cases hx : x = i + 1
  · subst hx
    rw [if_pos rfl, e1]
    have : hgt c r (i + 2) = (hgt c r i + bit c (r.getD i 0)) + bit c (r.getD (i + 1) 0) := rfl
    rw [this]
    unfold bit
    split <;> split <;> split <;> omega
  · rw [if_neg hx]
    by_cases h2 : x ≤ i
    · exact low x h2
    · have := high (x - (i + 2))
      rwa [show i + 2 + (x - (i + 2)) = x by omega] at this
theorem hgt_led {n : Nat} {c : Int} : ∀ {a : List (Nat × Nat)} {r : List Int}, Nx n a → r.length = n → hgt c (lawLed a r) = Ta a (hgt c r)
  | [], r, _, _ => rfl
  | p :: a, r, hx, hl => by
    have hp := hx p (by simp)
    have ep : p = (p.1, p.1 + 1) := Prod.ext rfl hp.1
    have e : hgt c (lawStep r p) = Tp p.1 (hgt c r) := by
      rw [ep]
      exact funext (hgt_step (by omega))
    have ih := hgt_led (c := c) (a := a) (r := lawStep r p) (fun q hq => hx q (List.mem_cons_of_mem _ hq)) (by rw [lawStep_len]; exact hl)
    show hgt c (lawLed a (lawStep r p)) = Ta a (Tp p.1 (hgt c r))
    rw [ih, e]
theorem row_of_hgt {r s : List Int} (hl : r.length = s.length) (h : ∀ c x, x ≤ r.length → hgt c r x = hgt c s x) : r = s := by
  refine List.ext_getElem hl fun i h1 h2 => ?_
  have key : ∀ c, (r[i] > c ↔ s[i] > c) := fun c => by
    have a := h c i (by omega)
    have b := h c (i + 1) (by omega)
    have b : hgt c r i + bit c (r.getD i 0) = hgt c s i + bit c (s.getD i 0) := b
    have g1 : r.getD i 0 = r[i] := by simp [List.getD, List.getElem?_eq_getElem h1]
    have g2 : s.getD i 0 = s[i] := by simp [List.getD, List.getElem?_eq_getElem h2]
    rw [g1, g2, a] at b
    have b : bit c r[i] = bit c s[i] := by omega
    unfold bit at b
    split at b <;> split at b <;> first | omega | (rename_i q1 q2; exact ⟨fun _ => q2, fun _ => q1⟩) | (rename_i q1 q2; exact ⟨fun z => absurd z q1, fun z => absurd z q2⟩)
  have k1 := key (r[i] - 1)
  have k2 := key (s[i] - 1)
  omega
/-! ### the wedges tell all -/
def gy (y : Nat) (x : Nat) : Int := (y : Int) - ((x : Int) - (y : Int)).natAbs
theorem Ta_snoc (a : List (Nat × Nat)) (p : Nat × Nat) (h : Nat → Int) : Ta (a ++ [p]) h = Tp p.1 (Ta a h) := by
  unfold Ta
  rw [List.foldl_append]; rfl
def Lip (n : Nat) (h : Nat → Int) : Prop := ∀ x, x < n → h (x + 1) ≤ h x + 1 ∧ h x ≤ h (x + 1) + 1
theorem Lip.far {n : Nat} {h : Nat → Int} (L : Lip n h) : ∀ k x, x + k ≤ n → h (x + k) ≤ h x + k ∧ h x ≤ h (x + k) + k
  | 0, x, _ => by simp
  | k + 1, x, hx => by
    have ih := L.far k x (by omega)
    have s := L (x + k) (by omega)
    rw [show x + (k + 1) = x + k + 1 by omega]
    omega
theorem hgt_lip (n : Nat) (c : Int) (r : List Int) : Lip n (hgt c r) := fun x _ => by
  have := bit_or c (r.getD x 0)
  show hgt c r x + bit c (r.getD x 0) ≤ _ ∧ _ ≤ hgt c r x + bit c (r.getD x 0) + 1
  omega
theorem wedge {n : Nat} {h : Nat → Int} (L : Lip n h) : ∀ {a : List (Nat × Nat)}, Nx n a → ∀ x, x ≤ n → (∀ y, y ≤ n → h y + Ta a (gy y) x - y ≤ Ta a h x) ∧ ∃ y, y ≤ n ∧ Ta a h x = h y + Ta a (gy y) x - y := by
  intro a
  induction a using snoc_ind with
  | h0 =>
    intro _ x hx
    refine ⟨fun y hy => ?_, x, hx, ?_⟩
    · show h y + gy y x - y ≤ h x
      unfold gy
      by_cases hxy : x ≤ y
      · have := L.far (y - x) x (by omega)
        rw [show x + (y - x) = y by omega] at this
        omega
      · have := L.far (x - y) y (by omega)
        rw [show y + (x - y) = x by omega] at this
        omega
    · show h x = h x + gy x x - x
      unfold gy
      omega
  | h1 a p ih =>
    intro hx x hxn
    have ih := ih fun q hq => hx q (List.mem_append_left _ hq)
    have hp := hx p (by simp)
    rw [Ta_snoc]
    by_cases e : x = p.1 + 1
    · subst e
      obtain ⟨l1, y1, hy1, e1⟩ := ih p.1 (by omega)
      obtain ⟨l2, y2, hy2, e2⟩ := ih (p.1 + 2) (by omega)
      have T0 : ∀ g : Nat → Int, Tp p.1 g (p.1 + 1) = max (g p.1) (g (p.1 + 2)) - 1 := fun g => if_pos rfl
      refine ⟨fun y hy => ?_, ?_⟩
      · rw [Ta_snoc, T0, T0]
        have := l1 y hy
        have := l2 y hy
        omega
      · by_cases hm : Ta a h p.1 ≥ Ta a h (p.1 + 2)
        · refine ⟨y1, hy1, ?_⟩
          rw [Ta_snoc, T0, T0]
          have := l2 y1 hy1
          omega
        · refine ⟨y2, hy2, ?_⟩
          rw [Ta_snoc, T0, T0]
          have := l1 y2 hy2
          omega
    · have T1 : ∀ g : Nat → Int, Tp p.1 g x = g x := fun g => if_neg e
      obtain ⟨l1, y1, hy1, e1⟩ := ih x hxn
      refine ⟨fun y hy => ?_, y1, hy1, ?_⟩
      · rw [Ta_snoc, T1, T1]; exact l1 y hy
      · rw [Ta_snoc, T1, T1]; exact e1
/-- they lead the wedges alike -/
def Ag (n : Nat) (a b : List (Nat × Nat)) : Prop := ∀ y x, y ≤ n → x ≤ n → Ta a (gy y) x = Ta b (gy y) x
theorem Ag.rows {n : Nat} {a b : List (Nat × Nat)} (g : Ag n a b) (ha : Nx n a) (hb : Nx n b) {r : List Int} (hl : r.length = n) : lawLed a r = lawLed b r := by
  refine row_of_hgt (by rw [lawLed_len, lawLed_len]) fun c x hx => ?_
  rw [lawLed_len, hl] at hx
  rw [hgt_led ha hl, hgt_led hb hl]
  obtain ⟨l1, y1, hy1, e1⟩ := wedge (hgt_lip n c r) ha x hx
  obtain ⟨l2, y2, hy2, e2⟩ := wedge (hgt_lip n c r) hb x hx
  have q1 := l2 y1 hy1
  have q2 := l1 y2 hy2
  have := g y1 x hy1 hx
  have := g y2 x hy2 hx
  omega
theorem Ta_congr {n : Nat} {f g : Nat → Int} (h : ∀ x, x ≤ n → f x = g x) : ∀ {a : List (Nat × Nat)}, Nx n a → ∀ x, x ≤ n → Ta a f x = Ta a g x := by
  intro a
  induction a using snoc_ind with
  | h0 => exact fun _ x hx => h x hx
  | h1 a p ih =>
    intro hx x hxn
    have ih := ih fun q hq => hx q (List.mem_append_left _ hq)
    have hp := hx p (by simp)
    rw [Ta_snoc, Ta_snoc]
    unfold Tp
    rw [ih p.1 (by omega), ih (p.1 + 2) (by omega), ih x hxn]
/-- a row whose first y members alone are above c -/
theorem hgt_wedge {n y : Nat} {c : Int} {r : List Int} (hy : y ≤ n) (h : ∀ i, i < n → (r.getD i 0 > c ↔ i < y)) : ∀ x, x ≤ n → hgt c r x = gy y x
  | 0, _ => by unfold gy; show (0 : Int) = _; omega
  | x + 1, hx => by
    have ih := hgt_wedge hy h x (by omega)
    have q := h x (by omega)
    show hgt c r x + bit c (r.getD x 0) = gy y (x + 1)
    rw [ih]
    unfold gy bit
    split
    · rename_i k
      have := q.mp k
      omega
    · rename_i k
      have : ¬ x < y := fun z => k (q.mpr z)
      omega
theorem ag_of {n : Nat} {a b : List (Nat × Nat)} (ha : Nx n a) (hb : Nx n b) (h : ∀ y, y ≤ n → ∃ (c : Int) (r : List Int), r.length = n ∧ (∀ i, i < n → (r.getD i 0 > c ↔ i < y)) ∧ lawLed a r = lawLed b r) : Ag n a b := fun y x hy hx => by
  obtain ⟨c, r, hl, hr, e⟩ := h y hy
  have w := hgt_wedge hy hr
  rw [← Ta_congr w ha x hx, ← Ta_congr w hb x hx, ← hgt_led ha hl, ← hgt_led hb hl, e]
theorem down_get {n i : Nat} (h : i < n) : (downRow n).getD i 0 = (n : Int) - 1 - (i : Int) := by
  simp [downRow, List.getD, List.getElem?_map, List.getElem?_range h]
theorem ag_down {n : Nat} {a b : List (Nat × Nat)} (ha : Nx n a) (hb : Nx n b) (h : lawLed b (downRow n) = lawLed a (downRow n)) : Ag n a b := ag_of ha hb fun y hy => ⟨(n : Int) - 1 - y, downRow n, downRow_len n, fun i hi => by rw [down_get hi]; omega, h.symm⟩
theorem words_mem : ∀ (n : Nat) (r : List Int), r.length = n → (∀ x ∈ r, x = 0 ∨ x = 1) → r ∈ wordsP n
  | 0, r, h, _ => by
    have : r = [] := List.eq_nil_of_length_eq_zero h
    subst this
    simp [wordsP]
  | n + 1, r, h, hx => by
    obtain ⟨l, x, rfl⟩ : ∃ l x, r = l ++ [x] := by
      rcases snoc_case r with rfl | h2
      · simp at h
      · exact h2
    have hl : l ∈ wordsP n := words_mem n l (by simpa using h) fun z hz => hx z (List.mem_append_left _ hz)
    rw [wordsP_succ]
    unfold wordStep
    rw [List.mem_append, List.mem_map, List.mem_map]
    rcases hx x (by simp) with rfl | rfl
    · exact .inl ⟨l, hl, rfl⟩
    · exact .inr ⟨l, hl, rfl⟩
theorem ag_words {n : Nat} {a b : List (Nat × Nat)} (ha : Nx n a) (hb : Nx n b) (h : ∀ w ∈ wordsP n, lawLed a w = lawLed b w) : Ag n a b := ag_of ha hb fun y hy => by
  refine ⟨0, List.replicate y 1 ++ List.replicate (n - y) 0, by simp; omega, fun i hi => ?_, h _ (words_mem n _ (by simp; omega) fun x hx => ?_)⟩
  · simp only [List.getD_eq_getElem?_getD, List.getElem?_append, List.getElem?_replicate, List.length_replicate]
    by_cases hiy : i < y
    · simp [hiy]
    · rw [if_neg hiy, if_pos (by omega)]
      simp [hiy]
  · rcases List.mem_append.mp hx with hx | hx
    · exact .inr (List.eq_of_mem_replicate hx)
    · exact .inl (List.eq_of_mem_replicate hx)
end K71

namespace K71
open PySem L2 PL
/-! ### nets turned about -/
def Unit1 (n : Nat) (h : Nat → Int) : Prop := ∀ x, x < n → h (x + 1) = h x + 1 ∨ h (x + 1) = h x - 1
theorem hgt_unit (n : Nat) (c : Int) (r : List Int) : Unit1 n (hgt c r) := fun x _ => by
  have := bit_or c (r.getD x 0)
  show hgt c r x + bit c (r.getD x 0) = _ ∨ hgt c r x + bit c (r.getD x 0) = _
  omega
theorem lawLed_app (a b : List (Nat × Nat)) (r : List Int) : lawLed (a ++ b) r = lawLed b (lawLed a r) := by
  unfold lawLed; rw [List.foldl_append]
/-- two small nets lead all rows alike -/
def Loc (n : Nat) (m m' : List (Nat × Nat)) : Prop := ∀ h, Unit1 n h → Ta m h = Ta m' h
theorem Loc.rows {n : Nat} {m m' : List (Nat × Nat)} (h : Loc n m m') (hm : Nx n m) (hm' : Nx n m') {r : List Int} (hl : r.length = n) : lawLed m r = lawLed m' r := by
  refine row_of_hgt (by rw [lawLed_len, lawLed_len]) fun c x hx => ?_
  rw [hgt_led hm hl, hgt_led hm' hl, h _ (hgt_unit n c r)]
theorem Loc.mid {n : Nat} {m m' : List (Nat × Nat)} (h : Loc n m m') (hm : Nx n m) (hm' : Nx n m') (x y : List (Nat × Nat)) {r : List Int} (hl : r.length = n) : lawLed (x ++ m ++ y) r = lawLed (x ++ m' ++ y) r := by
  rw [lawLed_app, lawLed_app, lawLed_app, lawLed_app]
  rw [h.rows hm hm' (by rw [lawLed_len]; exact hl)]
theorem Tp_same (i : Nat) (h : Nat → Int) : Tp i (Tp i h) = Tp i h := by
  funext x
  unfold Tp
  by_cases e : x = i + 1
  · rw [if_pos e, if_pos e, if_neg (by omega), if_neg (by omega)]
  · simp only [if_neg e]
theorem Tp_far {i j : Nat} (hij : i + 1 < j) (h : Nat → Int) : Tp i (Tp j h) = Tp j (Tp i h) := by
  funext x
  unfold Tp
  by_cases e : x = i + 1
  · subst e
    rw [if_pos rfl, if_neg (by omega), if_neg (by omega), if_neg (by omega), if_pos rfl]
  · by_cases e2 : x = j + 1
    · subst e2
      rw [if_neg (by omega), if_pos rfl, if_pos rfl, if_neg (by omega), if_neg (by omega)]
    · rw [if_neg e, if_neg e2, if_neg e2, if_neg e]
theorem Tp_three {n i : Nat} (hi : i + 3 ≤ n) {h : Nat → Int} (u : Unit1 n h) : Tp i (Tp (i + 1) (Tp i h)) = Tp (i + 1) (Tp i (Tp (i + 1) h)) := by
  have u0 : h (i + 1) = h i + 1 ∨ h (i + 1) = h i - 1 := u i (by omega)
  have u1 : h (i + 2) = h (i + 1) + 1 ∨ h (i + 2) = h (i + 1) - 1 := u (i + 1) (by omega)
  have u2 : h (i + 3) = h (i + 2) + 1 ∨ h (i + 3) = h (i + 2) - 1 := u (i + 2) (by omega)
  have at1 : ∀ g : Nat → Int, Tp i g (i + 1) = max (g i) (g (i + 2)) - 1 := fun g => if_pos rfl
  have at2 : ∀ g : Nat → Int, Tp (i + 1) g (i + 2) = max (g (i + 1)) (g (i + 3)) - 1 := fun g => if_pos rfl
  have o1 : ∀ (g : Nat → Int) (x : Nat), x ≠ i + 1 → Tp i g x = g x := fun g x hx => if_neg hx
  have o2 : ∀ (g : Nat → Int) (x : Nat), x ≠ i + 2 → Tp (i + 1) g x = g x := fun g x hx => if_neg hx
  funext x
  by_cases e1 : x = i + 1
  · subst e1
    rw [at1, o2 _ i (by omega), o1 _ i (by omega), at2, at1, o1 _ (i + 3) (by omega)]
    rw [o2 _ (i + 1) (by omega), at1, o2 _ i (by omega), at2]
    omega
  · by_cases e2 : x = i + 2
    · subst e2
      rw [o1 _ (i + 2) (by omega), at2, at1, o1 _ (i + 3) (by omega)]
      rw [at2, at1, o2 _ i (by omega), at2, o1 _ (i + 3) (by omega), o2 _ (i + 3) (by omega)]
      omega
    · rw [o1 _ x e1, o2 _ x e2, o1 _ x e1, o2 _ x e2, o1 _ x e1, o2 _ x e2]
theorem absI_eq (i : Int) : absI i = (i.natAbs : Int) := by
  unfold absI
  split <;> omega
theorem split_at {α : Type} {l : List α} {k : Nat} (x0 : α) (hk : k < l.length) : l = l.take k ++ [l.getD k x0] ++ l.drop (k + 1) := by
  have e : l.getD k x0 = l[k] := by simp [List.getD, List.getElem?_eq_getElem hk]
  rw [e]
  simp
theorem split_at2 {α : Type} {l : List α} {k : Nat} (x0 : α) (hk : k + 1 < l.length) : l = l.take k ++ [l.getD k x0, l.getD (k + 1) x0] ++ l.drop (k + 2) := by
  have e : l.getD k x0 = l[k] := by simp [List.getD, List.getElem?_eq_getElem (show k < l.length by omega)]
  have e2 : l.getD (k + 1) x0 = l[k + 1] := by simp [List.getD, List.getElem?_eq_getElem hk]
  rw [e, e2]
  simp
theorem split_at3 {α : Type} {l : List α} {k : Nat} (x0 : α) (hk : k + 2 < l.length) : l = l.take k ++ [l.getD k x0, l.getD (k + 1) x0, l.getD (k + 2) x0] ++ l.drop (k + 3) := by
  have e : l.getD k x0 = l[k] := by simp [List.getD, List.getElem?_eq_getElem (show k < l.length by omega)]
  have e2 : l.getD (k + 1) x0 = l[k + 1] := by simp [List.getD, List.getElem?_eq_getElem (show k + 1 < l.length by omega)]
  have e3 : l.getD (k + 2) x0 = l[k + 2] := by simp [List.getD, List.getElem?_eq_getElem hk]
  rw [e, e2, e3]
  simp
theorem nx_pair {p : Nat × Nat} {n : Nat} (h : p.2 = p.1 + 1 ∧ p.2 < n) : p = (p.1, p.1 + 1) := Prod.ext rfl h.1
theorem turnSw_led {n : Nat} {sw : List (Nat × Nat)} {k : Nat} (hx : Nx n sw) (hk : k < sw.length) {r : List Int} (hl : r.length = n) : lawLed (turnSw sw k) r = lawLed sw r := by
  have hp := hx _ (mem_getD hk)
  generalize hpe : sw.getD k (0, 0) = p at *
  have hc := cut3_len sw k
  unfold turnSw gap
  rw [hpe]
  split
  · rename_i c
    have h2 : k + 1 < sw.length := by omega
    have hq := hx _ (mem_getD h2)
    have g1 : (cut3 sw k).getD 1 0 = (sw.getD (k + 1) (0, 0)).1 := cut3_get (by decide)
    have sp := split_at2 (0, 0) h2
    rw [hpe] at sp
    generalize sw.getD (k + 1) (0, 0) = q at *
    rw [g1, absI_eq] at c
    have c2 : (((p.1 : Int) - (q.1 : Int)).natAbs : Int) > 1 := c.2
    have nxp : Nx n [p, q] := fun z hz => by
      simp at hz
      rcases hz with rfl | rfl <;> assumption
    have nxq : Nx n [q, p] := fun z hz => by
      simp at hz
      rcases hz with rfl | rfl <;> assumption
    have loc : Loc n [q, p] [p, q] := fun h _ => by
      show Tp p.1 (Tp q.1 h) = Tp q.1 (Tp p.1 h)
      by_cases hlt : p.1 < q.1
      · exact Tp_far (by omega) h
      · exact (Tp_far (by omega) h).symm
    have := loc.mid nxq nxp (sw.take k) (sw.drop (k + 2)) hl
    rw [this, ← sp]
  · split
    · rename_i _ c
      have h3 : k + 2 < sw.length := by omega
      have h2 : k + 1 < sw.length := by omega
      have hq := hx _ (mem_getD h2)
      have hr := hx _ (mem_getD h3)
      have g1 : (cut3 sw k).getD 1 0 = (sw.getD (k + 1) (0, 0)).1 := cut3_get (by decide)
      have g2 : (cut3 sw k).getD 2 0 = (sw.getD (k + 2) (0, 0)).1 := cut3_get (by decide)
      have sp := split_at3 (0, 0) h3
      rw [hpe] at sp
      rw [g1, g2, absI_eq] at c
      have er : sw.getD (k + 2) (0, 0) = p := by
        rw [nx_pair hr, nx_pair hp, ← c.2.1]
      rw [er] at sp
      generalize sw.getD (k + 1) (0, 0) = q at *
      have c2 : (((p.1 : Int) - (q.1 : Int)).natAbs : Int) = 1 := c.2.2
      have nxp : Nx n [p, q, p] := fun z hz => by
        simp at hz
        rcases hz with rfl | rfl | rfl <;> assumption
      have nxq : Nx n [q, p, q] := fun z hz => by
        simp at hz
        rcases hz with rfl | rfl | rfl <;> assumption
      have loc : Loc n [q, p, q] [p, q, p] := fun h u => by
        show Tp q.1 (Tp p.1 (Tp q.1 h)) = Tp p.1 (Tp q.1 (Tp p.1 h))
        by_cases hlt : p.1 < q.1
        · have e : q.1 = p.1 + 1 := by omega
          rw [e]
          exact (Tp_three (by omega) u).symm
        · have e : p.1 = q.1 + 1 := by omega
          rw [e]
          exact Tp_three (by omega) u
      have := loc.mid nxq nxp (sw.take k) (sw.drop (k + 3)) hl
      rw [this, ← sp]
    · split
      · rename_i _ _ c
        have h2 : k + 1 < sw.length := by omega
        have hq := hx _ (mem_getD h2)
        have g1 : (cut3 sw k).getD 1 0 = (sw.getD (k + 1) (0, 0)).1 := cut3_get (by decide)
        have sp := split_at2 (0, 0) h2
        rw [hpe] at sp
        rw [g1] at c
        have eq : sw.getD (k + 1) (0, 0) = p := by
          rw [nx_pair hq, nx_pair hp, c.2]
        rw [eq] at sp
        have nxp : Nx n [p] := fun z hz => by
          simp at hz; rw [hz]; exact hp
        have nxq : Nx n [p, p] := fun z hz => by
          simp at hz; rw [hz]; exact hp
        have loc : Loc n [p] [p, p] := fun h _ => (Tp_same p.1 h).symm
        have e1 : sw.eraseIdx k = sw.take k ++ [p] ++ sw.drop (k + 2) := by
          rw [List.eraseIdx_eq_take_drop_succ]
          have : sw.drop (k + 1) = p :: sw.drop (k + 2) := by
            rw [List.drop_eq_getElem_cons h2]
            congr 1
            rw [← eq]
            simp [List.getD, List.getElem?_eq_getElem h2]
          rw [this]
          simp
        rw [e1, loc.mid nxp nxq (sw.take k) (sw.drop (k + 2)) hl, ← sp]
      · split
        · have sp := split_at (0, 0) hk
          rw [hpe] at sp
          have nxp : Nx n [p] := fun z hz => by
            simp at hz; rw [hz]; exact hp
          have nxq : Nx n [p, p] := fun z hz => by
            simp at hz; rw [hz]; exact hp
          have loc : Loc n [p, p] [p] := fun h _ => Tp_same p.1 h
          have e1 : sw.take k ++ [p] ++ sw.drop k = sw.take k ++ [p, p] ++ sw.drop (k + 1) := by
            have : sw.drop k = p :: sw.drop (k + 1) := by
              rw [List.drop_eq_getElem_cons hk]
              congr 1
              rw [← hpe]
              simp [List.getD, List.getElem?_eq_getElem hk]
            rw [this]
            simp
          rw [e1, loc.mid nxq nxp (sw.take k) (sw.drop (k + 1)) hl, ← sp]
        · rfl
theorem turnP_led {n : Nat} {s : Src} {sw : List (Nat × Nat)} {often : Nat} (h : NextNet n sw) {r : List Int} (hl : r.length = n) : lawLed (turnP s sw often).2 r = lawLed sw r := by
  have step : ∀ a : Src × List (Nat × Nat), NextNet n a.2 → NextNet n (turnStep a).2 ∧ lawLed (turnStep a).2 r = lawLed a.2 r := fun a ha => by
    unfold turnStep
    split
    · exact ⟨ha, rfl⟩
    · rename_i h0
      have hpos : 0 < a.2.length := List.length_pos_iff.mpr h0
      obtain ⟨q, hq, hlt⟩ := pick_nat a.1 (m := a.2.length) hpos
      rw [hq]
      have hlt' : ((q : Int)).toNat < a.2.length := by simpa using hlt
      exact ⟨⟨fun p hp => ha.nx p (turnSw_mem hlt' hp), (turnSw_len hlt' ha.len).1⟩, turnSw_led ha.nx hlt' hl⟩
  unfold turnP
  have key : ∀ (l : List Nat) (a : Src × List (Nat × Nat)), NextNet n a.2 → lawLed (l.foldl (fun a _ => turnStep a) a).2 r = lawLed a.2 r := by
    intro l
    induction l with
    | nil => exact fun a _ => rfl
    | cons x l ih => exact fun a h => (ih _ (step a h).1).trans (step a h).2
  exact key _ _ h
/-- min, max are an exchange -/
theorem led_eq {n : Nat} : ∀ {a : List (Nat × Nat)} {r : List Int}, Nx n a → r.length = n → ledP a r = lawLed a r
  | [], r, _, _ => rfl
  | p :: a, r, hx, hl => by
    have hp := hx p (by simp)
    have h1 : p.1 < r.length := by omega
    have h2 : p.2 < r.length := by omega
    have e : ledStep r p = lawStep r p := by
      unfold ledStep lawStep
      have s1 : r.set p.1 (r.getD p.1 0) = r := by
        rw [show r.getD p.1 0 = r[p.1] by simp [List.getD, List.getElem?_eq_getElem h1]]
        exact List.set_getElem_self h1
      have s2 : r.set p.2 (r.getD p.2 0) = r := by
        rw [show r.getD p.2 0 = r[p.2] by simp [List.getD, List.getElem?_eq_getElem h2]]
        exact List.set_getElem_self h2
      by_cases c : r.getD p.1 0 > r.getD p.2 0
      · have c1 : r.getD p.2 0 < r.getD p.1 0 := c
        have c2 : ¬ r.getD p.2 0 > r.getD p.1 0 := by omega
        rw [if_pos c1, if_neg c2, if_pos c]
      · have c1 : ¬ r.getD p.2 0 < r.getD p.1 0 := c
        rw [if_neg c1, s1, if_neg c]
        by_cases c2 : r.getD p.2 0 > r.getD p.1 0
        · rw [if_pos c2, s2]
        · rw [if_neg c2, show r.getD p.1 0 = r.getD p.2 0 by omega, s2]
    show ledP a (ledStep r p) = lawLed a (lawStep r p)
    rw [e]
    exact led_eq (fun q hq => hx q (List.mem_cons_of_mem _ hq)) (by rw [lawStep_len]; exact hl)
end K71

namespace K71
open PySem L2 PL
/-! ### what lots tell -/
def Hit (S : Int → Prop) (t : List (List Int)) : Prop := ∃ l ∈ t, ∀ x ∈ l, S x
theorem sel_keep : ∀ (l fd : List (List Int)), ∀ x ∈ fd, x ∈ l.foldl selStep fd
  | [], fd, x, h => h
  | y :: l, fd, x, h => by
    rw [List.foldl_cons]
    refine sel_keep l _ x ?_
    unfold selStep
    split
    · exact h
    · exact List.mem_append_left _ h
theorem sel_hit : ∀ (l fd : List (List Int)), ∀ x ∈ l, ∃ y ∈ l.foldl selStep fd, ∀ z ∈ y, z ∈ x
  | y :: l, fd, x, h => by
    rw [List.foldl_cons]
    rcases List.mem_cons.mp h with rfl | h
    · by_cases c : fd.any (fun one => one.all fun z => decide (z ∈ x)) = true
      · obtain ⟨one, ho, ha⟩ := List.any_eq_true.mp c
        refine ⟨one, sel_keep l _ one ?_, fun z hz => of_decide_eq_true (List.all_eq_true.mp ha z hz)⟩
        rw [show selStep fd x = fd from if_pos c]
        exact ho
      · refine ⟨x, sel_keep l _ x ?_, fun z hz => hz⟩
        rw [show selStep fd x = fd ++ [x] from if_neg c]
        simp
    · exact sel_hit l _ x h
theorem hit_least {S : Int → Prop} {lots : List (List Int)} : Hit S (leastP lots) ↔ Hit S lots := by
  constructor
  · rintro ⟨l, hl, h⟩
    exact ⟨l, leastP_mem hl, h⟩
  · rintro ⟨l, hl, h⟩
    obtain ⟨y, hy, hyl⟩ := sel_hit ((nub lots).mergeSort fun a b => decide (a.length ≤ b.length)) [] l (List.mem_mergeSort.mpr ((mem_nub lots).mpr hl))
    exact ⟨y, List.mem_mergeSort.mpr hy, fun z hz => h z (hyl z hz)⟩
theorem hit_union {S : Int → Prop} {t u : List (List Int)} : Hit S (unionsP t u) ↔ Hit S t ∧ Hit S u := by
  constructor
  · rintro ⟨l, hl, h⟩
    obtain ⟨a, ha, b, hb, rfl⟩ := mem_unionsP.mp hl
    exact ⟨⟨a, ha, fun x hx => h x (mem_unionP.mpr (.inl hx))⟩, ⟨b, hb, fun x hx => h x (mem_unionP.mpr (.inr hx))⟩⟩
  · rintro ⟨⟨a, ha, h1⟩, ⟨b, hb, h2⟩⟩
    refine ⟨_, mem_unionsP.mpr ⟨a, ha, b, hb, rfl⟩, fun x hx => ?_⟩
    rcases mem_unionP.mp hx with h | h
    · exact h1 x h
    · exact h2 x h
theorem hit_app {S : Int → Prop} {t u : List (List Int)} : Hit S (t ++ u) ↔ Hit S t ∨ Hit S u := by
  constructor
  · rintro ⟨l, hl, h⟩
    rcases List.mem_append.mp hl with hl | hl
    · exact .inl ⟨l, hl, h⟩
    · exact .inr ⟨l, hl, h⟩
  · rintro (⟨l, hl, h⟩ | ⟨l, hl, h⟩)
    · exact ⟨l, List.mem_append_left _ hl, h⟩
    · exact ⟨l, List.mem_append_right _ hl, h⟩
theorem tellP_snoc (n : Nat) (a : List (Nat × Nat)) (p : Nat × Nat) : tellP (n, a ++ [p]) = tellStep (tellP (n, a)) p := by
  unfold tellP
  rw [List.foldl_append]; rfl
theorem getT_set {ts : List (List (List Int))} {i j : Nat} {v : List (List Int)} : (ts.set i v).getD j [] = if i = j ∧ j < ts.length then v else ts.getD j [] := by
  simp only [List.getD_eq_getElem?_getD, List.getElem?_set]
  by_cases h : i = j
  · subst h
    by_cases h2 : i < ts.length
    · simp [h2]
    · rw [if_pos rfl, if_neg h2, if_neg (by simp [h2]), List.getElem?_eq_none (by omega)]
  · rw [if_neg h, if_neg (fun z => h z.1)]
theorem tells_len {n : Nat} {a : List (Nat × Nat)} (h : Nx n a) : Tels n (tellP (n, a)) := tellP_ok (tell0_ok n) h.bd
/-- a line's number is above c just if one of its lots is -/
theorem tell_hit {n : Nat} {r : List Int} (hl : r.length = n) (c : Int) : ∀ {a : List (Nat × Nat)}, Nx n a → ∀ k, k < n → ((lawLed a r).getD k 0 > c ↔ Hit (fun x => r.getD x.toNat 0 > c) ((tellP (n, a)).getD k [])) := by
  intro a
  induction a using snoc_ind with
  | h0 =>
    intro _ k hk
    have e : (tellP (n, [])).getD k [] = [[(k : Int)]] := by
      show (tell0 n).getD k [] = _
      simp [tell0, List.getD, List.getElem?_map, List.getElem?_range hk]
    rw [e]
    show r.getD k 0 > c ↔ _
    constructor
    · intro h
      exact ⟨[(k : Int)], by simp, fun x hx => by simp at hx; subst hx; simpa using h⟩
    · rintro ⟨l, hl, h⟩
      simp at hl
      subst hl
      have := h (k : Int) (by simp)
      simpa using this
  | h1 a p ih =>
    intro hx k hk
    have ha : Nx n a := fun q hq => hx q (List.mem_append_left _ hq)
    have ih := ih ha
    have hp := hx p (by simp)
    have ep := nx_pair hp
    have tl := (tells_len ha).len
    have el : (lawLed (a ++ [p]) r) = lawStep (lawLed a r) (p.1, p.1 + 1) := by
      rw [lawLed_app, ← ep]; rfl
    have ll : (lawLed a r).length = n := by rw [lawLed_len]; exact hl
    rw [el, lawStep_get (by omega), tellP_snoc]
    unfold tellStep
    rw [getT_set, List.length_set, getT_set, tl]
    have i1 := ih p.1 (by omega)
    have i2 := ih (p.1 + 1) (by omega)
    rw [hp.1]
    by_cases e1 : k = p.1
    · subst e1
      rw [if_pos rfl, if_neg (by omega), if_pos ⟨rfl, by omega⟩, hit_least, hit_union, ← i1, ← i2]
      omega
    · by_cases e2 : k = p.1 + 1
      · subst e2
        rw [if_neg e1, if_pos rfl, if_pos ⟨rfl, by omega⟩, hit_least, hit_app, ← i1, ← i2]
        omega
      · rw [if_neg e1, if_neg e2, if_neg (by omega), if_neg (by omega)]
        exact ih k hk
/-! ### lots are told once for all by their hits -/
structure Can (n : Nat) (t : List (List Int)) : Prop where
  tel : Tel n t
  srt : t.Pairwise fun a b => decide (a ≤ b) = true
  anti : ∀ x ∈ t, ∀ y ∈ t, (∀ z ∈ x, z ∈ y) → x = y
theorem asc_ext : ∀ {x y : List Int}, x.Pairwise (· < ·) → y.Pairwise (· < ·) → (∀ z, z ∈ x ↔ z ∈ y) → x = y := fun {x y} hx hy h => by
  have hxn : x.Nodup := hx.imp fun {a b} hab => by omega
  have hyn : y.Nodup := hy.imp fun {a b} hab => by omega
  refine ((List.perm_ext_iff_of_nodup hxn hyn).mpr h).eq_of_pairwise (le := fun a b => a ≤ b) (fun a b _ _ h1 h2 => by omega) (hx.imp fun {a b} hab => by omega) (hy.imp fun {a b} hab => by omega)
theorem sub_asc {x y : List Int} (hx : x.Pairwise (· < ·)) (hy : y.Pairwise (· < ·)) (h : ∀ z ∈ x, z ∈ y) (hl : y.length ≤ x.length) : x = y := by
  have hxn : x.Nodup := hx.imp fun {a b} hab => by omega
  have hyn : y.Nodup := hy.imp fun {a b} hab => by omega
  refine asc_ext hx hy fun z => ⟨h z, fun hz => ?_⟩
  apply Classical.byContradiction
  intro hn
  have h2 : (z :: x).Nodup := List.nodup_cons.mpr ⟨hn, hxn⟩
  have := nodup_le (ys := y) h2 fun w hw => by
    rcases List.mem_cons.mp hw with rfl | hw
    · exact hz
    · exact h w hw
  simp at this
  omega
theorem leR_total (a b : List Int) : (decide (a ≤ b) || decide (b ≤ a)) = true := by
  simp only [Bool.or_eq_true, decide_eq_true_eq]
  exact List.le_total a b
theorem leR_trans (a b c : List Int) (h1 : decide (a ≤ b) = true) (h2 : decide (b ≤ c) = true) : decide (a ≤ c) = true := by
  simp only [decide_eq_true_eq] at *
  exact List.le_trans h1 h2
theorem leL_total (a b : List Int) : (decide (a.length ≤ b.length) || decide (b.length ≤ a.length)) = true := by
  simp only [Bool.or_eq_true, decide_eq_true_eq]; omega
theorem leL_trans (a b c : List Int) (h1 : decide (a.length ≤ b.length) = true) (h2 : decide (b.length ≤ c.length) = true) : decide (a.length ≤ c.length) = true := by
  simp only [decide_eq_true_eq] at *; omega
/-- what is found: none of the earlier ones lies within a later one, and they grow -/
theorem sel_chain : ∀ (l fd : List (List Int)), fd.Pairwise (fun x y => ¬ (∀ z ∈ x, z ∈ y) ∧ x.length ≤ y.length) → l.Pairwise (fun a b => decide (a.length ≤ b.length) = true) → (∀ x ∈ fd, ∀ y ∈ l, x.length ≤ y.length) → (l.foldl selStep fd).Pairwise (fun x y => ¬ (∀ z ∈ x, z ∈ y) ∧ x.length ≤ y.length)
  | [], fd, h, _, _ => h
  | y :: l, fd, h, hl, hfl => by
    rw [List.pairwise_cons] at hl
    rw [List.foldl_cons]
    by_cases c : fd.any (fun one => one.all fun z => decide (z ∈ y)) = true
    · rw [show selStep fd y = fd from if_pos c]
      exact sel_chain l fd h hl.2 fun x hx w hw => hfl x hx w (List.mem_cons_of_mem _ hw)
    · rw [show selStep fd y = fd ++ [y] from if_neg c]
      refine sel_chain l _ ?_ hl.2 fun x hx w hw => ?_
      · rw [List.pairwise_append]
        refine ⟨h, by simp, fun a ha b hb => ?_⟩
        simp at hb
        subst hb
        refine ⟨fun z => c (List.any_eq_true.mpr ⟨a, ha, List.all_eq_true.mpr fun w hw => decide_eq_true (z w hw)⟩), hfl a ha b (by simp)⟩
      · rcases List.mem_append.mp hx with hx | hx
        · exact hfl x hx w (List.mem_cons_of_mem _ hw)
        · simp at hx
          subst hx
          exact of_decide_eq_true (hl.1 w hw)
theorem pair_any {α : Type} {R : α → α → Prop} : ∀ {l : List α}, l.Pairwise R → ∀ x ∈ l, ∀ y ∈ l, x = y ∨ R x y ∨ R y x
  | a :: l, h, x, hx, y, hy => by
    rw [List.pairwise_cons] at h
    rcases List.mem_cons.mp hx with ex | hx2
    · rcases List.mem_cons.mp hy with ey | hy2
      · exact .inl (ex.trans ey.symm)
      · exact .inr (.inl (ex ▸ h.1 y hy2))
    · rcases List.mem_cons.mp hy with ey | hy2
      · exact .inr (.inr (ey ▸ h.1 x hx2))
      · exact pair_any h.2 x hx2 y hy2
theorem least_can {n : Nat} {lots : List (List Int)} (h : ∀ l ∈ lots, Lot n l ∧ l ≠ []) : Can n (leastP lots) := by
  have tel := leastP_tel h
  refine ⟨tel, List.pairwise_mergeSort leR_trans leR_total _, fun x hx y hy hxy => ?_⟩
  have hx' := List.mem_mergeSort.mp hx
  have hy' := List.mem_mergeSort.mp hy
  have ch := sel_chain ((nub lots).mergeSort fun a b => decide (a.length ≤ b.length)) [] List.Pairwise.nil (List.pairwise_mergeSort leL_trans leL_total _) (by simp)
  rcases pair_any ch x hx' y hy' with rfl | q | q
  · rfl
  · exact absurd hxy q.1
  · exact sub_asc (tel.lot x hx).1.asc (tel.lot y hy).1.asc hxy q.2
theorem can_eq {n : Nat} {t u : List (List Int)} (ht : Can n t) (hu : Can n u) (h : ∀ S : Int → Prop, (∀ x, S x → 0 ≤ x ∧ x < n) → (Hit S t ↔ Hit S u)) : t = u := by
  have half : ∀ {t u : List (List Int)}, Can n t → Can n u → (∀ S : Int → Prop, (∀ x, S x → 0 ≤ x ∧ x < n) → (Hit S t ↔ Hit S u)) → ∀ l ∈ t, l ∈ u := fun {t u} ht hu h l hl => by
    have rg := (ht.tel.lot l hl).1.rg
    obtain ⟨m, hm, hml⟩ := (h (fun x => x ∈ l) rg).mp ⟨l, hl, fun x hx => hx⟩
    obtain ⟨l2, hl2, hlm⟩ := (h (fun x => x ∈ m) (hu.tel.lot m hm).1.rg).mpr ⟨m, hm, fun x hx => hx⟩
    have e := ht.anti l2 hl2 l hl fun z hz => hml z (hlm z hz)
    subst e
    have e2 : l2 = m := asc_ext (ht.tel.lot l2 hl).1.asc (hu.tel.lot m hm).1.asc fun z => ⟨hlm z, hml z⟩
    rw [e2]; exact hm
  have mem : ∀ l, l ∈ t ↔ l ∈ u := fun l => ⟨half ht hu h l, half hu ht (fun S hS => (h S hS).symm) l⟩
  exact ((List.perm_ext_iff_of_nodup ht.tel.nd hu.tel.nd).mpr mem).eq_of_pairwise (le := fun a b => a ≤ b) (fun a b _ _ h1 h2 => List.le_antisymm h1 h2) (ht.srt.imp fun {a b} h => of_decide_eq_true h) (hu.srt.imp fun {a b} h => of_decide_eq_true h)
theorem tell_can {n : Nat} : ∀ {a : List (Nat × Nat)}, Nx n a → ∀ k, k < n → Can n ((tellP (n, a)).getD k []) := by
  intro a
  induction a using snoc_ind with
  | h0 =>
    intro _ k hk
    have e : (tellP (n, [])).getD k [] = [[(k : Int)]] := by
      show (tell0 n).getD k [] = _
      simp [tell0, List.getD, List.getElem?_map, List.getElem?_range hk]
    rw [e]
    refine ⟨⟨by simp, fun l hl => ?_⟩, by simp, fun x hx y hy _ => ?_⟩
    · simp at hl
      subst hl
      exact ⟨⟨by simp, fun x hx => by simp at hx; omega⟩, by simp⟩
    · simp at hx hy
      rw [hx, hy]
  | h1 a p ih =>
    intro hx k hk
    have ha : Nx n a := fun q hq => hx q (List.mem_append_left _ hq)
    have ih := ih ha
    have hp := hx p (by simp)
    have tl := (tells_len ha).len
    have c1 := ih p.1 (by omega)
    have c2 := ih p.2 (by omega)
    rw [tellP_snoc]
    unfold tellStep
    rw [getT_set, List.length_set, getT_set, tl]
    split
    · refine least_can fun l hl => ?_
      rcases List.mem_append.mp hl with hl | hl
      · exact c1.tel.lot l hl
      · exact c2.tel.lot l hl
    · split
      · refine least_can fun l hl => ?_
        obtain ⟨x, hx, y, hy, rfl⟩ := mem_unionsP.mp hl
        exact unionP_lot (c1.tel.lot x hx).1 (c2.tel.lot y hy).1 (c1.tel.lot x hx).2
      · exact ih k hk
/-- a row for a set of lines -/
theorem tells_iff {n : Nat} {a b : List (Nat × Nat)} (ha : Nx n a) (hb : Nx n b) : tellP (n, a) = tellP (n, b) ↔ lawLed b (downRow n) = lawLed a (downRow n) := by
  have la := (tells_len ha).len
  have lb := (tells_len hb).len
  constructor
  · intro h
    have rows : ∀ r : List Int, r.length = n → lawLed b r = lawLed a r := fun r hl => by
      refine List.ext_getElem (by rw [lawLed_len, lawLed_len]) fun i h1 h2 => ?_
      have hi : i < n := by rw [lawLed_len, hl] at h1; exact h1
      have g1 : (lawLed b r).getD i 0 = (lawLed b r)[i] := by simp [List.getD, List.getElem?_eq_getElem h1]
      have g2 : (lawLed a r).getD i 0 = (lawLed a r)[i] := by simp [List.getD, List.getElem?_eq_getElem h2]
      have key : ∀ c, (lawLed b r)[i] > c ↔ (lawLed a r)[i] > c := fun c => by
        rw [← g1, ← g2, tell_hit hl c ha i hi, tell_hit hl c hb i hi, h]
      have k1 := key ((lawLed b r)[i] - 1)
      have k2 := key ((lawLed a r)[i] - 1)
      omega
    exact rows _ (downRow_len n)
  · intro h
    have g := ag_down ha hb h
    refine List.ext_getElem (by rw [la, lb]) fun k h1 h2 => ?_
    have hk : k < n := by rw [la] at h1; exact h1
    have g1 : (tellP (n, a)).getD k [] = (tellP (n, a))[k] := by simp [List.getD, List.getElem?_eq_getElem h1]
    have g2 : (tellP (n, b)).getD k [] = (tellP (n, b))[k] := by simp [List.getD, List.getElem?_eq_getElem h2]
    rw [← g1, ← g2]
    refine can_eq (tell_can ha k hk) (tell_can hb k hk) fun S hS => ?_
    open Classical in
    have hl : ((List.range n).map fun (i : Nat) => if S (i : Int) then (1 : Int) else 0).length = n := by simp
    have e1 := tell_hit (r := (open Classical in (List.range n).map fun (i : Nat) => if S (i : Int) then (1 : Int) else 0)) hl 0 ha k hk
    have e2 := tell_hit (r := (open Classical in (List.range n).map fun (i : Nat) => if S (i : Int) then (1 : Int) else 0)) hl 0 hb k hk
    rw [g.rows ha hb hl] at e1
    have hit : ∀ t : List (List Int), (∀ l ∈ t, ∀ x ∈ l, 0 ≤ x ∧ x < n) → (Hit (fun x => (open Classical in (List.range n).map fun (i : Nat) => if S (i : Int) then (1 : Int) else 0).getD x.toNat 0 > 0) t ↔ Hit S t) := fun t ht => by
      have one : ∀ l ∈ t, ∀ x ∈ l, ((open Classical in (List.range n).map fun (i : Nat) => if S (i : Int) then (1 : Int) else 0).getD x.toNat 0 > 0 ↔ S x) := fun l hl x hx => by
        have q := ht l hl x hx
        have hx' : x.toNat < n := by omega
        simp only [List.getD_eq_getElem?_getD, List.getElem?_map, List.getElem?_range hx', Option.map_some, Option.getD_some]
        rw [show ((x.toNat : Nat) : Int) = x by omega]
        by_cases hs : S x
        · simp [hs]
        · simp [hs]
      constructor
      · rintro ⟨l, hl, h⟩
        exact ⟨l, hl, fun x hx => (one l hl x hx).mp (h x hx)⟩
      · rintro ⟨l, hl, h⟩
        exact ⟨l, hl, fun x hx => (one l hl x hx).mpr (h x hx)⟩
    rw [← hit _ (fun l hl => ((tell_can ha k hk).tel.lot l hl).1.rg), ← hit _ (fun l hl => ((tell_can hb k hk).tel.lot l hl).1.rg), ← e1, ← e2]
end K71

namespace K71
open PySem L2 PL
/-! ### pairs against the order, and the swaps that work -/
def cnt (x : Int) (r : List Int) : Nat := r.countP fun y => decide (x > y)
def inv : List Int → Nat
  | [] => 0
  | x :: r => cnt x r + inv r
theorem inv_snoc (y : Int) : ∀ r : List Int, inv (r ++ [y]) = inv r + r.countP fun x => decide (x > y)
  | [] => rfl
  | x :: r => by
    show cnt x (r ++ [y]) + inv (r ++ [y]) = cnt x r + inv r + _
    rw [inv_snoc y r]
    unfold cnt
    rw [List.countP_append, List.countP_cons, List.countP_cons]
    simp only [List.countP_nil]
    omega
theorem pairs_snoc (r : List Int) (y : Int) : pairsP (r ++ [y]) = pairsP r + ((r.countP fun x => decide (x > y) : Nat) : Int) := by
  unfold pairsP
  rw [List.zipIdx_append, List.map_append, List.sum_append]
  congr 1
  · congr 1
    refine List.map_congr_left fun q hq => ?_
    have hlt : q.2 < r.length := by
      have := List.mem_zipIdx (x := q.1) (i := q.2) hq
      omega
    rw [List.take_append_of_le_length (Nat.le_of_lt hlt)]
  · simp [List.countP_eq_length_filter]
theorem pairs_inv (r : List Int) : pairsP r = (inv r : Int) := by
  induction r using snoc_ind with
  | h0 => rfl
  | h1 r y ih => rw [pairs_snoc, inv_snoc, ih]; omega
theorem inv_swap {x y : Int} (h : x > y) (v : List Int) : ∀ u : List Int, inv (u ++ x :: y :: v) = inv (u ++ y :: x :: v) + 1
  | [] => by
    show cnt x (y :: v) + (cnt y v + inv v) = cnt y (x :: v) + (cnt x v + inv v) + 1
    unfold cnt
    rw [List.countP_cons, List.countP_cons, if_pos (by simpa using h), if_neg (by simp; omega)]
    omega
  | z :: u => by
    have ih := inv_swap h v u
    show cnt z (u ++ x :: y :: v) + inv (u ++ x :: y :: v) = cnt z (u ++ y :: x :: v) + inv (u ++ y :: x :: v) + 1
    have e : cnt z (u ++ x :: y :: v) = cnt z (u ++ y :: x :: v) := by
      unfold cnt
      simp only [List.countP_append, List.countP_cons]
      omega
    rw [e, ih]
    omega
theorem inv_step {r : List Int} {i : Nat} (hi : i + 1 < r.length) (h : r.getD i 0 > r.getD (i + 1) 0) : inv ((r.set (i + 1) (r.getD i 0)).set i (r.getD (i + 1) 0)) + 1 = inv r := by
  have e := split_at2 (0 : Int) hi
  have lt : (r.take i).length = i := by rw [List.length_take]; omega
  generalize r.getD i 0 = x at *
  generalize r.getD (i + 1) 0 = y at *
  generalize r.take i = u at *
  generalize r.drop (i + 2) = v at *
  have e2 : r = u ++ x :: y :: v := by rw [e]; simp
  have e3 : (r.set (i + 1) x).set i y = u ++ y :: x :: v := by
    rw [e2, List.set_append, if_neg (by omega), lt, List.set_append, if_neg (by omega), lt]
    simp
  rw [e3, e2, inv_swap h]
theorem inv_down : ∀ n : Nat, 2 * inv (downRow n) = n * (n - 1) := by
  have e : ∀ n : Nat, downRow (n + 1) = (n : Int) :: downRow n := fun n => by
    unfold downRow
    rw [List.range_succ_eq_map, List.map_cons, List.map_map]
    congr 1
    · omega
    · refine List.map_congr_left fun m _ => ?_
      show ((n + 1 : Nat) : Int) - 1 - ((m + 1 : Nat) : Int) = _
      omega
  intro n
  induction n with
  | zero => rfl
  | succ n ih =>
    rw [e]
    show 2 * (cnt (n : Int) (downRow n) + inv (downRow n)) = _
    have c : cnt (n : Int) (downRow n) = n := by
      have : cnt (n : Int) (downRow n) = (downRow n).length := by
        unfold cnt
        refine List.countP_eq_length.mpr fun x hx => ?_
        obtain ⟨m, hm, rfl⟩ := List.mem_map.mp hx
        have := List.mem_range.mp hm
        refine decide_eq_true ?_
        omega
      rw [this, downRow_len]
    rw [c, Nat.mul_add, ih]
    cases n with
    | zero => rfl
    | succ m =>
      show 2 * (m + 1) + (m + 1) * m = (m + 1 + 1) * (m + 1)
      rw [Nat.mul_comm (m + 1 + 1), Nat.mul_add (m + 1) (m + 1) 1, Nat.mul_add (m + 1) m 1]
      omega
structure WI (n : Nat) (a : List (Nat × Nat)) (pre : List (Nat × Nat)) (st : List Int × List Nat) : Prop where
  row : st.1 = lawLed pre (downRow n)
  few : st.1 = lawLed (st.2.map fun m => a.getD m (0, 0)) (downRow n)
  num : st.2.length + inv st.1 = inv (downRow n)
theorem work_wi {n : Nat} {a : List (Nat × Nat)} (ha : Nx n a) : ∀ (l pre : List (Nat × Nat)) (st : List Int × List Nat), a = pre ++ l → WI n a pre st → WI n a a ((l.zipIdx pre.length).foldl workStep st)
  | [], pre, st, e, h => by
    rw [List.append_nil] at e
    rw [e]
    rw [e] at h
    exact h
  | p :: l, pre, st, e, h => by
    have hp := ha p (by rw [e]; simp)
    have ep := nx_pair hp
    have ln : st.1.length = n := by rw [h.row, lawLed_len, downRow_len]
    have eg : a.getD pre.length (0, 0) = p := by rw [e]; simp [List.getD]
    rw [List.zipIdx_cons, List.foldl_cons]
    have := work_wi ha l (pre ++ [p]) (workStep st (p, pre.length)) (by rw [e]; simp) ?_
    · rw [List.length_append] at this
      exact this
    · have erow : (workStep st (p, pre.length)).1 = lawStep st.1 p := by
        unfold workStep lawStep
        split
        · exact List.set_comm _ _ (by show p.2 ≠ p.1; omega)
        · rfl
      refine ⟨?_, ?_, ?_⟩
      · rw [erow, h.row, lawLed_app]; rfl
      · by_cases c : st.1.getD p.1 0 > st.1.getD p.2 0
        · have e2 : (workStep st (p, pre.length)).2 = st.2 ++ [pre.length] := by unfold workStep; rw [if_pos c]
          rw [erow, e2, List.map_append, lawLed_app, ← h.few]
          show _ = lawLed [a.getD pre.length (0, 0)] st.1
          rw [eg]; rfl
        · have e2 : workStep st (p, pre.length) = st := by unfold workStep; rw [if_neg c]
          rw [e2]
          exact h.few
      · by_cases c : st.1.getD p.1 0 > st.1.getD p.2 0
        · have e2 : workStep st (p, pre.length) = ((st.1.set p.2 (st.1.getD p.1 0)).set p.1 (st.1.getD p.2 0), st.2 ++ [pre.length]) := by unfold workStep; rw [if_pos c]
          rw [e2]
          rw [hp.1] at c ⊢
          have q := inv_step (by omega) c
          have := h.num
          show (st.2 ++ [pre.length]).length + inv _ = _
          rw [List.length_append, ← this, ← q]
          simp
          omega
        · have e2 : workStep st (p, pre.length) = st := by unfold workStep; rw [if_neg c]
          rw [e2]
          exact h.num
theorem work_all {n : Nat} {a : List (Nat × Nat)} (ha : Nx n a) : WI n a a (workP a (downRow n)) :=
  work_wi ha a [] (downRow n, []) rfl ⟨rfl, rfl, by simp⟩
/-! ### all the mathematics -/
theorem mm : MM where
  led := led_eq
  words := fun {n a b} ha hb => ⟨fun h w hw => (ag_down ha hb h).rows ha hb ((wordsP_len n).2 w hw), fun h => ((ag_words ha hb h).rows ha hb (downRow_len n)).symm⟩
  tells := tells_iff
  rows := fun {n a b r} ha hb hl h => (ag_down ha hb h).rows ha hb hl
  turned := fun {n a s often} ha hl => turnP_led ⟨ha, hl⟩ (downRow_len n)
  count := fun {n a} ha => by
    have w := work_all ha
    have e := w.num
    rw [w.row] at e
    have d := inv_down n
    rw [pairs_inv]
    show ((workP a (downRow n)).2.length : Int) = _
    have d2 : (n : Int) * ((n : Int) - 1) = ((n * (n - 1) : Nat) : Int) := by
      cases n with
      | zero => rfl
      | succ m => rw [Int.natCast_mul]; congr 1; omega
    rw [d2, ← d]
    omega
  few := fun {n a} ha => by
    have w := work_all ha
    exact w.few.symm.trans w.row
end K71

namespace K71
open PySem PySem.Spec PyProof.Rows L2 PL
theorem lawArgs {H : Hp} {a : Addr} : Sat H [] [.val (.ref a)] ([V.ref a].map some) H := Sat.args rfl fun i P q => by
  match i, q with
  | 0, q => cases q; exact ⟨rfl, [], rfl⟩
  | i + 1, q => simp at q
theorem lawAns {H H' : Hp} {v : V} (S : Sat H [] [.imm (.bool true)] [some v] H') : v = .bl true := by
  obtain ⟨u, e, r⟩ := S.slot_imm (i := 0) rfl
  cases e
  cases r
  rfl
abbrev spLawN (K : PySem.W.Frag) : Sp := spC (ScIn.cond K) (fun x => [.val (.ref x.a)]) (fun _ => .imm (.bool true))
theorem ok19 {P : Program} {w : World} {K : PySem.W.Frag} {mg : Str → Option Value} {base : Heap} {f : Addr} {fd : FuncData} {k : Nat} (nb : ∀ (i : Nat) (x : Str), nsL[i]? = some x → mg x = none) (F : Fun K "law" "law" (topS 19) f fd)
    (q13 : CalT P w K mg base k "_law_open_cells" (sp13 K)) (q14 : CalT P w K mg base k "_law_pick" spPick) (q16 : CalT P w K mg base k "_law_net" sp16) (q17 : CalT P w K mg base k "_law_turned" sp17) (q6 : CalT P w K mg base k "led_by_swaps" sp6) (q5 : CalT P w K mg base k "is_next_net" sp5) (q15 : CalT P w K mg base k "_law_led" sp15) (q18 : CalT P w K mg base k "_law_words" sp18) (q3 : CalT P w K mg base k "are_alike_nets" sp3) (q9 : CalT P w K mg base k "working_net" sp9) (q8 : CalT P w K mg base k "working_swaps" sp8) (q11 : CalT P w K mg base k "pairs_against" sp11) :
    FnOk P w K mg base CX0 (k + 1) f fd ["script"] (spLawN K) := by
  refine fn_pureC (ks := ksL) (gs := gsLaw) F sc19 rfl (fun _ => rfl) ?_
  rintro X B x hB F0 hP hw hK hmg hbase hr
  have nbX := nbOf nb hmg
  subst hK
  exact body19 mm F0 nbX ⟨q13.cal hP hw rfl hmg hbase hr, q14.cal hP hw rfl hmg hbase hr, q16.cal hP hw rfl hmg hbase hr, q17.cal hP hw rfl hmg hbase hr, q6.cal hP hw rfl hmg hbase hr, q5.cal hP hw rfl hmg hbase hr, q15.cal hP hw rfl hmg hbase hr, q18.cal hP hw rfl hmg hbase hr, q3.cal hP hw rfl hmg hbase hr, q9.cal hP hw rfl hmg hbase hr, q8.cal hP hw rfl hmg hbase hr, q11.cal hP hw rfl hmg hbase hr⟩ x hB
theorem all_mk {l : PySem.W.OpenLaw} {w : World} {K : PySem.W.Frag} {h : Heap} {mg : Str → Option Value} {fa f1 f2 f3 f5 f6 f7 f8 f9 f11 f13 f14 f15 f16 f17 f18 f19 : Addr} (X : K.In h) (G : h.Ns mainGlobals mg) (hfa : mg "law" = some (.ref fa))
    {od1 an1 od2 an2 od3 an3 od5 an5 od6 an6 od7 an7 od8 an8 od9 an9 od11 an11 od13 an13 od14 an14 od15 an15 od16 an16 od17 an17 od18 an18 od19 an19 : Option Addr} {sl1 sl2 sl3 sl5 sl6 sl7 sl8 sl9 sl11 sl13 sl14 sl15 sl16 sl17 sl18 sl19 : Array (Option Value)} {oc1 kV1 dc1 pm1 cd1 ct1 oc2 kV2 dc2 pm2 cd2 ct2 oc3 kV3 dc3 pm3 cd3 ct3 oc5 kV5 dc5 pm5 cd5 ct5 oc6 kV6 dc6 pm6 cd6 ct6 oc7 kV7 dc7 pm7 cd7 ct7 oc8 kV8 dc8 pm8 cd8 ct8 oc9 kV9 dc9 pm9 cd9 ct9 oc11 kV11 dc11 pm11 cd11 ct11 oc13 kV13 dc13 pm13 cd13 ct13 oc14 kV14 dc14 pm14 cd14 ct14 oc15 kV15 dc15 pm15 cd15 ct15 oc16 kV16 dc16 pm16 cd16 ct16 oc17 kV17 dc17 pm17 cd17 ct17 oc18 kV18 dc18 pm18 cd18 ct18 oc19 kV19 dc19 pm19 cd19 ct19 : Value}
    (a1 : PySem.W.nsIn K mainGlobals "least_of_lots" = some (some (.ref f1))) (l1 : K.lookup f1 = some ⟨oc1, od1, .func (PySem.W.fnOf "least_of_lots" "least_of_lots" (defArgs (topS 1)) (defBody (topS 1)) (defScope (topS 1)) .none kV1 dc1 pm1 an1 cd1 ct1), sl1⟩) (c1 : PySem.W.codeIn K cd1 "least_of_lots" = true) (k1 : PySem.W.keepIn K (.ref f1) = true)
    (a2 : PySem.W.nsIn K mainGlobals "telling_lots" = some (some (.ref f2))) (l2 : K.lookup f2 = some ⟨oc2, od2, .func (PySem.W.fnOf "telling_lots" "telling_lots" (defArgs (topS 2)) (defBody (topS 2)) (defScope (topS 2)) .none kV2 dc2 pm2 an2 cd2 ct2), sl2⟩) (c2 : PySem.W.codeIn K cd2 "telling_lots" = true) (k2 : PySem.W.keepIn K (.ref f2) = true)
    (a3 : PySem.W.nsIn K mainGlobals "are_alike_nets" = some (some (.ref f3))) (l3 : K.lookup f3 = some ⟨oc3, od3, .func (PySem.W.fnOf "are_alike_nets" "are_alike_nets" (defArgs (topS 3)) (defBody (topS 3)) (defScope (topS 3)) .none kV3 dc3 pm3 an3 cd3 ct3), sl3⟩) (c3 : PySem.W.codeIn K cd3 "are_alike_nets" = true) (k3 : PySem.W.keepIn K (.ref f3) = true)
    (a5 : PySem.W.nsIn K mainGlobals "is_next_net" = some (some (.ref f5))) (l5 : K.lookup f5 = some ⟨oc5, od5, .func (PySem.W.fnOf "is_next_net" "is_next_net" (defArgs (topS 5)) (defBody (topS 5)) (defScope (topS 5)) .none kV5 dc5 pm5 an5 cd5 ct5), sl5⟩) (c5 : PySem.W.codeIn K cd5 "is_next_net" = true) (k5 : PySem.W.keepIn K (.ref f5) = true)
    (a6 : PySem.W.nsIn K mainGlobals "led_by_swaps" = some (some (.ref f6))) (l6 : K.lookup f6 = some ⟨oc6, od6, .func (PySem.W.fnOf "led_by_swaps" "led_by_swaps" (defArgs (topS 6)) (defBody (topS 6)) (defScope (topS 6)) .none kV6 dc6 pm6 an6 cd6 ct6), sl6⟩) (c6 : PySem.W.codeIn K cd6 "led_by_swaps" = true) (k6 : PySem.W.keepIn K (.ref f6) = true)
    (a7 : PySem.W.nsIn K mainGlobals "turned_members" = some (some (.ref f7))) (l7 : K.lookup f7 = some ⟨oc7, od7, .func (PySem.W.fnOf "turned_members" "turned_members" (defArgs (topS 7)) (defBody (topS 7)) (defScope (topS 7)) .none kV7 dc7 pm7 an7 cd7 ct7), sl7⟩) (c7 : PySem.W.codeIn K cd7 "turned_members" = true) (k7 : PySem.W.keepIn K (.ref f7) = true)
    (a8 : PySem.W.nsIn K mainGlobals "working_swaps" = some (some (.ref f8))) (l8 : K.lookup f8 = some ⟨oc8, od8, .func (PySem.W.fnOf "working_swaps" "working_swaps" (defArgs (topS 8)) (defBody (topS 8)) (defScope (topS 8)) .none kV8 dc8 pm8 an8 cd8 ct8), sl8⟩) (c8 : PySem.W.codeIn K cd8 "working_swaps" = true) (k8 : PySem.W.keepIn K (.ref f8) = true)
    (a9 : PySem.W.nsIn K mainGlobals "working_net" = some (some (.ref f9))) (l9 : K.lookup f9 = some ⟨oc9, od9, .func (PySem.W.fnOf "working_net" "working_net" (defArgs (topS 9)) (defBody (topS 9)) (defScope (topS 9)) .none kV9 dc9 pm9 an9 cd9 ct9), sl9⟩) (c9 : PySem.W.codeIn K cd9 "working_net" = true) (k9 : PySem.W.keepIn K (.ref f9) = true)
    (a11 : PySem.W.nsIn K mainGlobals "pairs_against" = some (some (.ref f11))) (l11 : K.lookup f11 = some ⟨oc11, od11, .func (PySem.W.fnOf "pairs_against" "pairs_against" (defArgs (topS 11)) (defBody (topS 11)) (defScope (topS 11)) .none kV11 dc11 pm11 an11 cd11 ct11), sl11⟩) (c11 : PySem.W.codeIn K cd11 "pairs_against" = true) (k11 : PySem.W.keepIn K (.ref f11) = true)
    (a13 : PySem.W.nsIn K mainGlobals "_law_open_cells" = some (some (.ref f13))) (l13 : K.lookup f13 = some ⟨oc13, od13, .func (PySem.W.fnOf "_law_open_cells" "_law_open_cells" (defArgs (topS 13)) (defBody (topS 13)) (defScope (topS 13)) .none kV13 dc13 pm13 an13 cd13 ct13), sl13⟩) (c13 : PySem.W.codeIn K cd13 "_law_open_cells" = true) (k13 : PySem.W.keepIn K (.ref f13) = true)
    (a14 : PySem.W.nsIn K mainGlobals "_law_pick" = some (some (.ref f14))) (l14 : K.lookup f14 = some ⟨oc14, od14, .func (PySem.W.fnOf "_law_pick" "_law_pick" (defArgs (topS 14)) (defBody (topS 14)) (defScope (topS 14)) .none kV14 dc14 pm14 an14 cd14 ct14), sl14⟩) (c14 : PySem.W.codeIn K cd14 "_law_pick" = true) (k14 : PySem.W.keepIn K (.ref f14) = true)
    (a15 : PySem.W.nsIn K mainGlobals "_law_led" = some (some (.ref f15))) (l15 : K.lookup f15 = some ⟨oc15, od15, .func (PySem.W.fnOf "_law_led" "_law_led" (defArgs (topS 15)) (defBody (topS 15)) (defScope (topS 15)) .none kV15 dc15 pm15 an15 cd15 ct15), sl15⟩) (c15 : PySem.W.codeIn K cd15 "_law_led" = true) (k15 : PySem.W.keepIn K (.ref f15) = true)
    (a16 : PySem.W.nsIn K mainGlobals "_law_net" = some (some (.ref f16))) (l16 : K.lookup f16 = some ⟨oc16, od16, .func (PySem.W.fnOf "_law_net" "_law_net" (defArgs (topS 16)) (defBody (topS 16)) (defScope (topS 16)) .none kV16 dc16 pm16 an16 cd16 ct16), sl16⟩) (c16 : PySem.W.codeIn K cd16 "_law_net" = true) (k16 : PySem.W.keepIn K (.ref f16) = true)
    (a17 : PySem.W.nsIn K mainGlobals "_law_turned" = some (some (.ref f17))) (l17 : K.lookup f17 = some ⟨oc17, od17, .func (PySem.W.fnOf "_law_turned" "_law_turned" (defArgs (topS 17)) (defBody (topS 17)) (defScope (topS 17)) .none kV17 dc17 pm17 an17 cd17 ct17), sl17⟩) (c17 : PySem.W.codeIn K cd17 "_law_turned" = true) (k17 : PySem.W.keepIn K (.ref f17) = true)
    (a18 : PySem.W.nsIn K mainGlobals "_law_words" = some (some (.ref f18))) (l18 : K.lookup f18 = some ⟨oc18, od18, .func (PySem.W.fnOf "_law_words" "_law_words" (defArgs (topS 18)) (defBody (topS 18)) (defScope (topS 18)) .none kV18 dc18 pm18 an18 cd18 ct18), sl18⟩) (c18 : PySem.W.codeIn K cd18 "_law_words" = true) (k18 : PySem.W.keepIn K (.ref f18) = true)
    (a19 : PySem.W.nsIn K mainGlobals "law" = some (some (.ref f19))) (l19 : K.lookup f19 = some ⟨oc19, od19, .func (PySem.W.fnOf "law" "law" (defArgs (topS 19)) (defBody (topS 19)) (defScope (topS 19)) .none kV19 dc19 pm19 an19 cd19 ct19), sl19⟩) (c19 : PySem.W.codeIn K cd19 "law" = true) (k19 : PySem.W.keepIn K (.ref f19) = true)
    (z0 : PySem.W.nsIn K mainGlobals "sorted" = some none) (z1 : PySem.W.nsIn K mainGlobals "dict" = some none) (z2 : PySem.W.nsIn K mainGlobals "len" = some none) (z3 : PySem.W.nsIn K mainGlobals "any" = some none) (z4 : PySem.W.nsIn K mainGlobals "all" = some none) (z5 : PySem.W.nsIn K mainGlobals "tuple" = some none) (z6 : PySem.W.nsIn K mainGlobals "range" = some none) (z7 : PySem.W.nsIn K mainGlobals "list" = some none) (z8 : PySem.W.nsIn K mainGlobals "min" = some none) (z9 : PySem.W.nsIn K mainGlobals "max" = some none) (z10 : PySem.W.nsIn K mainGlobals "enumerate" = some none) (z11 : PySem.W.nsIn K mainGlobals "sum" = some none) (z12 : PySem.W.nsIn K mainGlobals "int" = some none) (z13 : PySem.W.nsIn K mainGlobals "abs" = some none) :
    ∃ fd : FuncData, (∀ (s : Shared) (v : Value), BindsTo s fd ⟨[v], []⟩ [("script", v)]) ∧ ∀ base : Heap, K.In base → base.Ns mainGlobals mg → FnOk l.prog w K mg base CX0 4 fa fd ["script"] (spLawN K) := by
  have e := hfa.symm.trans (PySem.W.mg_of X G a19)
  cases e
  have F1 := fun_mk (st := topS 1) l1 c1 k1
  have b1 := F1.binds (ps := ["lots"]) fun _ _ _ _ _ _ us hl => match us, hl with | [_], _ => rfl
  have m1 := PySem.W.mg_of X G a1
  have F2 := fun_mk (st := topS 2) l2 c2 k2
  have b2 := F2.binds (ps := ["net"]) fun _ _ _ _ _ _ us hl => match us, hl with | [_], _ => rfl
  have m2 := PySem.W.mg_of X G a2
  have F3 := fun_mk (st := topS 3) l3 c3 k3
  have b3 := F3.binds (ps := ["one", "other"]) fun _ _ _ _ _ _ us hl => match us, hl with | [_, _], _ => rfl
  have m3 := PySem.W.mg_of X G a3
  have F5 := fun_mk (st := topS 5) l5 c5 k5
  have b5 := F5.binds (ps := ["net"]) fun _ _ _ _ _ _ us hl => match us, hl with | [_], _ => rfl
  have m5 := PySem.W.mg_of X G a5
  have F6 := fun_mk (st := topS 6) l6 c6 k6
  have b6 := F6.binds (ps := ["swaps", "row"]) fun _ _ _ _ _ _ us hl => match us, hl with | [_, _], _ => rfl
  have m6 := PySem.W.mg_of X G a6
  have F7 := fun_mk (st := topS 7) l7 c7 k7
  have b7 := F7.binds (ps := ["n"]) fun _ _ _ _ _ _ us hl => match us, hl with | [_], _ => rfl
  have m7 := PySem.W.mg_of X G a7
  have F8 := fun_mk (st := topS 8) l8 c8 k8
  have b8 := F8.binds (ps := ["net"]) fun _ _ _ _ _ _ us hl => match us, hl with | [_], _ => rfl
  have m8 := PySem.W.mg_of X G a8
  have F9 := fun_mk (st := topS 9) l9 c9 k9
  have b9 := F9.binds (ps := ["net"]) fun _ _ _ _ _ _ us hl => match us, hl with | [_], _ => rfl
  have m9 := PySem.W.mg_of X G a9
  have F11 := fun_mk (st := topS 11) l11 c11 k11
  have b11 := F11.binds (ps := ["row"]) fun _ _ _ _ _ _ us hl => match us, hl with | [_], _ => rfl
  have m11 := PySem.W.mg_of X G a11
  have F13 := fun_mk (st := topS 13) l13 c13 k13
  have b13 := F13.binds (ps := ["script"]) fun _ _ _ _ _ _ us hl => match us, hl with | [_], _ => rfl
  have m13 := PySem.W.mg_of X G a13
  have F14 := fun_mk (st := topS 14) l14 c14 k14
  have b14 := F14.binds (ps := ["source", "most"]) fun _ _ _ _ _ _ us hl => match us, hl with | [_, _], _ => rfl
  have m14 := PySem.W.mg_of X G a14
  have F15 := fun_mk (st := topS 15) l15 c15 k15
  have b15 := F15.binds (ps := ["swaps", "row"]) fun _ _ _ _ _ _ us hl => match us, hl with | [_, _], _ => rfl
  have m15 := PySem.W.mg_of X G a15
  have F16 := fun_mk (st := topS 16) l16 c16 k16
  have b16 := F16.binds (ps := ["source", "n", "many"]) fun _ _ _ _ _ _ us hl => match us, hl with | [_, _, _], _ => rfl
  have m16 := PySem.W.mg_of X G a16
  have F17 := fun_mk (st := topS 17) l17 c17 k17
  have b17 := F17.binds (ps := ["source", "net", "often"]) fun _ _ _ _ _ _ us hl => match us, hl with | [_, _, _], _ => rfl
  have m17 := PySem.W.mg_of X G a17
  have F18 := fun_mk (st := topS 18) l18 c18 k18
  have b18 := F18.binds (ps := ["n"]) fun _ _ _ _ _ _ us hl => match us, hl with | [_], _ => rfl
  have m18 := PySem.W.mg_of X G a18
  have F19 := fun_mk (st := topS 19) l19 c19 k19
  have nb : ∀ (i : Nat) (x : Str), nsL[i]? = some x → mg x = none := fun i x e => by
    match i, e with
    | 0, e => cases e; exact PySem.W.mg_none_of X G z0
    | 1, e => cases e; exact PySem.W.mg_none_of X G z1
    | 2, e => cases e; exact PySem.W.mg_none_of X G z2
    | 3, e => cases e; exact PySem.W.mg_none_of X G z3
    | 4, e => cases e; exact PySem.W.mg_none_of X G z4
    | 5, e => cases e; exact PySem.W.mg_none_of X G z5
    | 6, e => cases e; exact PySem.W.mg_none_of X G z6
    | 7, e => cases e; exact PySem.W.mg_none_of X G z7
    | 8, e => cases e; exact PySem.W.mg_none_of X G z8
    | 9, e => cases e; exact PySem.W.mg_none_of X G z9
    | 10, e => cases e; exact PySem.W.mg_none_of X G z10
    | 11, e => cases e; exact PySem.W.mg_none_of X G z11
    | 12, e => cases e; exact PySem.W.mg_none_of X G z12
    | 13, e => cases e; exact PySem.W.mg_none_of X G z13
    | i + 14, e => cases e
  refine ⟨PySem.W.fnOf "law" "law" (defArgs (topS 19)) (defBody (topS 19)) (defScope (topS 19)) .none kV19 dc19 pm19 an19 cd19 ct19, fun s v => .of_eq rfl, fun base _ _ => ?_⟩
  have O1 := ok1 (P := l.prog) (w := w) (base := base) (k := 0) nb F1
  have O5 := ok5 (P := l.prog) (w := w) (base := base) (k := 0) nb F5
  have O6 := ok6 (P := l.prog) (w := w) (base := base) (k := 0) nb F6
  have O7 := ok7 (P := l.prog) (w := w) (base := base) (k := 0) nb F7
  have O11 := ok11 (P := l.prog) (w := w) (base := base) (k := 0) nb F11
  have O13 := ok13 (P := l.prog) (w := w) (base := base) (k := 0) nb F13
  have O14 := ok14 (P := l.prog) (w := w) (base := base) (k := 0) nb F14
  have O15 := ok15 (P := l.prog) (w := w) (base := base) (k := 0) nb F15
  have O18 := ok18 (P := l.prog) (w := w) (base := base) (k := 0) nb F18
  have O2 := ok2 (k := 1) nb F2 O1 m1 k1 b1
  have O8 := ok8 (k := 1) nb F8 O7 m7 k7 b7
  have O16 := ok16 (k := 1) nb F16 O14 m14 k14 b14
  have O17 := ok17 (k := 1) nb F17 O14 m14 k14 b14
  have O3 := ok3 (k := 2) F3 O2 m2 k2 b2
  have O9 := ok9 (k := 2) nb F9 O8 m8 k8 b8
  exact ok19 (k := 3) nb F19 ⟨1, _, _, _, by decide, O13, m13, k13, b13⟩ ⟨1, _, _, _, by decide, O14, m14, k14, b14⟩ ⟨2, _, _, _, by decide, O16, m16, k16, b16⟩ ⟨2, _, _, _, by decide, O17, m17, k17, b17⟩ ⟨1, _, _, _, by decide, O6, m6, k6, b6⟩ ⟨1, _, _, _, by decide, O5, m5, k5, b5⟩ ⟨1, _, _, _, by decide, O15, m15, k15, b15⟩ ⟨1, _, _, _, by decide, O18, m18, k18, b18⟩ ⟨3, _, _, _, by decide, O3, m3, k3, b3⟩ ⟨3, _, _, _, by decide, O9, m9, k9, b9⟩ ⟨2, _, _, _, by decide, O8, m8, k8, b8⟩ ⟨1, _, _, _, by decide, O11, m11, k11, b11⟩
theorem walk {l : PySem.W.OpenLaw} {q : Program} {loose : List Str} {XP : (Str → Option Value) → Heap → Prop} {YP : World → Heap → Prop} {d : DefRec} {K : Params → PySem.W.Frag} (hn : l.most = some 63) (hdf : d.params.defaults = [])
    (hY : ∀ (w : World) (h : Heap), YP w h → (K w.params).In h)
    (F : ∀ (w : World) (mg : Str → Option Value) (fa : Addr) (h : Heap), (K w.params).In h → h.Ns mainGlobals mg → mg d.name = some (.ref fa) →
      ∃ fd : FuncData, (∀ (s : Shared) (u : Value), BindsTo s fd ⟨[u], []⟩ [("script", u)]) ∧ ∀ base : Heap, (K w.params).In base → base.Ns mainGlobals mg → FnOk l.prog w (K w.params) mg base CX0 4 fa fd ["script"] (spLawN (K w.params))) :
    PySem.W.WalkO q loose XP YP l.row.toRowW d [] (fun f vs => PySem.call f vs) :=
  L2.walk_of (n := 63) (k := 4) (x := "script") (CX := fun _ => CX0) (sp := fun w => spLawN (K w.params)) hn (by decide) hdf ⟨rfl, by decide, by decide⟩ hY F (fun _ _ a ns hl _ hS => ⟨⟨a, ns, hl⟩, hS, lawArgs, fun v H' s => lawAns s⟩) fun _ _ _ _ _ z => z
end K71
open PySem PySem.W PyProof.Rows
set_option maxRecDepth 100000 in
set_option maxHeartbeats 0 in
theorem PySem.Challenge.cw_sortedbynets_k71_whole_next_nets_told_by_holds : PySem.Challenge.rw_sortedbynets_k71_whole_next_nets_told_by.Holds := by
  w_on; o_law; k_head; (case hw => w_witness2)
  k_fill
  refine K71.walk (l := PySem.Challenge.rw_sortedbynets_k71_whole_next_nets_told_by) rfl rfl (fun w h Y => PySem.W.kIn_of Y) ?F
  case F =>
    intro w mg fa h KX G hmg
    refine' K71.all_mk KX G hmg ?a1 ?l1 ?c1 ?k1 ?a2 ?l2 ?c2 ?k2 ?a3 ?l3 ?c3 ?k3 ?a5 ?l5 ?c5 ?k5 ?a6 ?l6 ?c6 ?k6 ?a7 ?l7 ?c7 ?k7 ?a8 ?l8 ?c8 ?k8 ?a9 ?l9 ?c9 ?k9 ?a11 ?l11 ?c11 ?k11 ?a13 ?l13 ?c13 ?k13 ?a14 ?l14 ?c14 ?k14 ?a15 ?l15 ?c15 ?k15 ?a16 ?l16 ?c16 ?k16 ?a17 ?l17 ?c17 ?k17 ?a18 ?l18 ?c18 ?k18 ?a19 ?l19 ?c19 ?k19 ?z0 ?z1 ?z2 ?z3 ?z4 ?z5 ?z6 ?z7 ?z8 ?z9 ?z10 ?z11 ?z12 ?z13
    (case a1 => k_is); (case l1 => k_is); (case c1 => k_is); (case k1 => k_is)
    (case a2 => k_is); (case l2 => k_is); (case c2 => k_is); (case k2 => k_is)
    (case a3 => k_is); (case l3 => k_is); (case c3 => k_is); (case k3 => k_is)
    (case a5 => k_is); (case l5 => k_is); (case c5 => k_is); (case k5 => k_is)
    (case a6 => k_is); (case l6 => k_is); (case c6 => k_is); (case k6 => k_is)
    (case a7 => k_is); (case l7 => k_is); (case c7 => k_is); (case k7 => k_is)
    (case a8 => k_is); (case l8 => k_is); (case c8 => k_is); (case k8 => k_is)
    (case a9 => k_is); (case l9 => k_is); (case c9 => k_is); (case k9 => k_is)
    (case a11 => k_is); (case l11 => k_is); (case c11 => k_is); (case k11 => k_is)
    (case a13 => k_is); (case l13 => k_is); (case c13 => k_is); (case k13 => k_is)
    (case a14 => k_is); (case l14 => k_is); (case c14 => k_is); (case k14 => k_is)
    (case a15 => k_is); (case l15 => k_is); (case c15 => k_is); (case k15 => k_is)
    (case a16 => k_is); (case l16 => k_is); (case c16 => k_is); (case k16 => k_is)
    (case a17 => k_is); (case l17 => k_is); (case c17 => k_is); (case k17 => k_is)
    (case a18 => k_is); (case l18 => k_is); (case c18 => k_is); (case k18 => k_is)
    (case a19 => k_is); (case l19 => k_is); (case c19 => k_is); (case k19 => k_is)
    (case z0 => k_is); (case z1 => k_is); (case z2 => k_is); (case z3 => k_is)
    (case z4 => k_is); (case z5 => k_is); (case z6 => k_is); (case z7 => k_is)
    (case z8 => k_is); (case z9 => k_is); (case z10 => k_is); (case z11 => k_is)
    (case z12 => k_is); (case z13 => k_is)
