import PyProof.Rows.All
import Wide.All
import OpenK.AllK
import Wide.FinOn
import PySem.Challenge.RW_sa0182_01
open PySem PySem.Calls PyProof.Rows PySem.W
set_option Elab.async false
set_option maxRecDepth 100000
set_option maxHeartbeats 8000000
set_option linter.all false
set_option compiler.extract_closed false
namespace Mine
noncomputable section

theorem said0 : PySem.Challenge.rw_sa0182_01.wellSaid = true := by
  unfold OpenLaw.wellSaid
  repeat' (with_reducible refine look_both ?_ ?_)
  case refine_1.refine_1.refine_1.refine_1.refine_1.refine_1.refine_1.refine_1.refine_1.refine_1.refine_1.refine_1.refine_1.refine_1.refine_1.refine_1.refine_1.refine_1 =>
    unfold OpenRow.wellSaid OpenRow.partSaid looksOpen
    repeat' (with_reducible refine look_both ?_ ?_)
    all_goals decide +kernel
  all_goals decide +kernel

/-- abstract values: tuples by value, frozen lists, places of the store, constants -/
inductive AVal where
  | none | bool (b : Bool) | int (i : Int) | str (s : Str) | nil | cons (x xs : AVal) | lst (xs : AVal) | loc (l : Nat) | con (v : Value)
deriving DecidableEq

abbrev tup : List AVal → AVal
  | [] => .nil
  | x :: r => .cons x (tup r)

inductive AObj where
  | list (xs : AVal) | dict (es : List (AVal × AVal)) | inst (C : Addr) (dl : Nat) | attrs (l : List (Str × AVal))
abbrev Store := List AObj
abbrev Loc := List (Str × AVal)

/-- a tuple as it is made -/
noncomputable def TupAt (h : Heap) (a : Addr) (items : Array Value) : Prop := ∃ n, h.get? a = some { cls := .type "tuple", data := .seq items n }
theorem TupAt.isTuple {h : Heap} {a : Addr} {items : Array Value} (x : TupAt h a items) : h.IsTuple a items := let ⟨n, e⟩ := x; ⟨_, e, rfl, n, rfl⟩

mutual
noncomputable def VRel (ρ av : List Addr) (h : Heap) : AVal → Value → Prop
  | .none, c => c = .none
  | .bool b, c => c = .bool b
  | .int i, c => ∃ t, c = .int i t
  | .str x, c => ∃ t, c = .str x t
  | .nil, c => ∃ a, c = .ref a ∧ a ∉ ρ ∧ a ∉ av ∧ TupAt h a ([] : List Value).toArray
  | .cons x xs, c => ∃ a v vs, c = .ref a ∧ a ∉ ρ ∧ a ∉ av ∧ TupAt h a (v :: vs).toArray ∧ VRel ρ av h x v ∧ IRel ρ av h xs vs
  | .lst xs, c => ∃ a vs, c = .ref a ∧ a ∉ ρ ∧ a ∉ av ∧ h.PlainList a vs.toArray ∧ IRel ρ av h xs vs
  | .loc l, c => ∃ a, c = .ref a ∧ ρ[l]? = some a
  | .con v, c => c = v
noncomputable def IRel (ρ av : List Addr) (h : Heap) : AVal → List Value → Prop
  | .nil, vs => vs = []
  | .cons x xs, vs => ∃ v r, vs = v :: r ∧ VRel ρ av h x v ∧ IRel ρ av h xs r
  | _, _ => False
end

/-- what values lean on is kept -/
structure Kp (ρ av : List Addr) (h : Heap) (ρ' av' : List Addr) (h' : Heap) : Prop where
  at_ : ∀ (l : Nat) (a : Addr), ρ[l]? = some a → ρ'[l]? = some a
  seq : ∀ a o xs n, h.get? a = some o → o.data = .seq xs n → a ∉ ρ → a ∉ av → h'.get? a = some o ∧ a ∉ ρ' ∧ a ∉ av'

theorem Kp.refl (ρ av h) : Kp ρ av h ρ av h := ⟨fun _ _ e => e, fun _ _ _ _ e _ r v => ⟨e, r, v⟩⟩

theorem Kp.tuple {ρ av h ρ' av' h'} (k : Kp ρ av h ρ' av' h') {a items} (x : TupAt h a items) (r : a ∉ ρ) (v : a ∉ av) : TupAt h' a items ∧ a ∉ ρ' ∧ a ∉ av' := by
  obtain ⟨n, ho⟩ := x
  obtain ⟨h1, h2, h3⟩ := k.seq a _ items n ho rfl r v
  exact ⟨⟨n, h1⟩, h2, h3⟩
theorem Kp.list {ρ av h ρ' av' h'} (k : Kp ρ av h ρ' av' h') {a items} (x : h.PlainList a items) (r : a ∉ ρ) (v : a ∉ av) : h'.PlainList a items ∧ a ∉ ρ' ∧ a ∉ av' := by
  obtain ⟨n, ho⟩ := x
  obtain ⟨h1, h2, h3⟩ := k.seq a _ items n ho rfl r v
  exact ⟨⟨n, h1⟩, h2, h3⟩

theorem rel_mono {ρ av h ρ' av' h'} (k : Kp ρ av h ρ' av' h') : ∀ v : AVal, (∀ c, VRel ρ av h v c → VRel ρ' av' h' v c) ∧ (∀ vs, IRel ρ av h v vs → IRel ρ' av' h' v vs) := by
  intro v
  induction v with
  | none => exact ⟨fun c x => by simpa only [VRel] using x, fun vs x => by simp only [IRel] at x⟩
  | bool b => exact ⟨fun c x => by simpa only [VRel] using x, fun vs x => by simp only [IRel] at x⟩
  | int i => exact ⟨fun c x => by simpa only [VRel] using x, fun vs x => by simp only [IRel] at x⟩
  | str s => exact ⟨fun c x => by simpa only [VRel] using x, fun vs x => by simp only [IRel] at x⟩
  | nil =>
    refine ⟨fun c x => ?_, fun vs x => by simpa only [IRel] using x⟩
    simp only [VRel] at x ⊢
    obtain ⟨a, rfl, r, v, t⟩ := x
    obtain ⟨t', r', v'⟩ := k.tuple t r v
    exact ⟨a, rfl, r', v', t'⟩
  | cons x xs ihx ihs =>
    refine ⟨fun c y => ?_, fun vs y => ?_⟩
    · simp only [VRel] at y ⊢
      obtain ⟨a, v, vs, rfl, r, va, t, hv, hs⟩ := y
      obtain ⟨t', r', v'⟩ := k.tuple t r va
      exact ⟨a, v, vs, rfl, r', v', t', ihx.1 _ hv, ihs.2 _ hs⟩
    · simp only [IRel] at y ⊢
      obtain ⟨v, r, rfl, hv, hs⟩ := y
      exact ⟨v, r, rfl, ihx.1 _ hv, ihs.2 _ hs⟩
  | lst xs ih =>
    refine ⟨fun c y => ?_, fun vs y => by simp only [IRel] at y⟩
    simp only [VRel] at y ⊢
    obtain ⟨a, vs, rfl, r, v, t, hs⟩ := y
    obtain ⟨t', r', v'⟩ := k.list t r v
    exact ⟨a, vs, rfl, r', v', t', ih.2 _ hs⟩
  | loc l =>
    refine ⟨fun c y => ?_, fun vs y => by simp only [IRel] at y⟩
    simp only [VRel] at y ⊢
    obtain ⟨a, rfl, e⟩ := y
    exact ⟨a, rfl, k.at_ _ _ e⟩
  | con v => exact ⟨fun c x => by simpa only [VRel] using x, fun vs x => by simp only [IRel] at x⟩

theorem VRel.mono {ρ av h ρ' av' h'} (k : Kp ρ av h ρ' av' h') {v c} (x : VRel ρ av h v c) : VRel ρ' av' h' v c := (rel_mono k v).1 c x
theorem IRel.mono {ρ av h ρ' av' h'} (k : Kp ρ av h ρ' av' h') {v c} (x : IRel ρ av h v c) : IRel ρ' av' h' v c := (rel_mono k v).2 c x

/-- from one state to another: what is no place of the store and not in X stays -/
structure Step (X : Addr → Prop) (ρ : List Addr) (h : Heap) (ρ' : List Addr) (h' : Heap) : Prop where
  ext : ∃ e, ρ' = ρ ++ e ∧ ∀ a ∈ e, h.get? a = none
  keep : ∀ b o, h.get? b = some o → b ∉ ρ → ¬ X b → h'.get? b = some o
  live : ∀ b, h'.get? b = none → h.get? b = none

noncomputable def noX : Addr → Prop := fun _ => False

theorem Step.refl (X ρ h) : Step X ρ h ρ h := ⟨⟨[], by simp, by simp⟩, fun _ _ e _ _ => e, fun _ e => e⟩

theorem Step.trans {X ρ h ρ₁ h₁ ρ₂ h₂} (a : Step X ρ h ρ₁ h₁) (b : Step X ρ₁ h₁ ρ₂ h₂) : Step X ρ h ρ₂ h₂ := by
  obtain ⟨e1, rfl, f1⟩ := a.ext
  obtain ⟨e2, rfl, f2⟩ := b.ext
  refine ⟨⟨e1 ++ e2, by simp, fun x hx => ?_⟩, fun c o e r x => ?_, fun c e => a.live _ (b.live _ e)⟩
  · rcases List.mem_append.mp hx with hx | hx
    · exact f1 x hx
    · exact a.live _ (f2 x hx)
  · refine b.keep c o (a.keep c o e r x) (fun hm => ?_) x
    rcases List.mem_append.mp hm with hm | hm
    · exact r hm
    · have := f1 c hm; rw [e] at this; cases this

theorem Step.weaken {X Y : Addr → Prop} {ρ h ρ' h'} (hXY : ∀ b, X b → Y b) (a : Step X ρ h ρ' h') : Step Y ρ h ρ' h' :=
  ⟨a.ext, fun b o e r y => a.keep b o e r fun x => y (hXY b x), a.live⟩
theorem Step.ofNo {Y : Addr → Prop} {ρ h ρ' h'} (a : Step noX ρ h ρ' h') : Step Y ρ h ρ' h' := a.weaken fun _ x => x.elim

/-- a step that changes only what was not there ahead of it -/
theorem Step.toNo {X : Addr → Prop} {ρ h ρ' h'} (a : Step X ρ h ρ' h') (hf : ∀ b, X b → h.get? b = none) : Step noX ρ h ρ' h' :=
  ⟨a.ext, fun b o e r _ => a.keep b o e r fun x => (by rw [hf b x] at e; cases e), a.live⟩

theorem Step.kp {X ρ h ρ' h' av} (a : Step X ρ h ρ' h') (hX : ∀ b o xs n, X b → h.get? b = some o → o.data = .seq xs n → b ∈ av) (hav : ∀ b ∈ av, (h.get? b).isSome = true) : Kp ρ av h ρ' av h' := by
  obtain ⟨e, rfl, f⟩ := a.ext
  refine ⟨fun l x hl => ?_, fun b o xs n ho hd r v => ⟨a.keep b o ho r fun x => v (hX b o xs n x ho hd), fun hm => ?_, v⟩⟩
  · rw [List.getElem?_append_left (List.getElem?_eq_some_iff.mp hl).1]; exact hl
  · rcases List.mem_append.mp hm with hm | hm
    · exact r hm
    · have := f b hm; rw [ho] at this; cases this

theorem Step.kpNo {ρ h ρ' h'} (av) (a : Step noX ρ h ρ' h') : Kp ρ av h ρ' av h' := by
  obtain ⟨e, rfl, f⟩ := a.ext
  refine ⟨fun l x hl => ?_, fun b o xs n ho hd r v => ⟨a.keep b o ho r fun x => x, fun hm => ?_, v⟩⟩
  · rw [List.getElem?_append_left (List.getElem?_eq_some_iff.mp hl).1]; exact hl
  · rcases List.mem_append.mp hm with hm | hm
    · exact r hm
    · have := f b hm; rw [ho] at this; cases this

/-- what is alive may be avoided -/
theorem Kp.avoid {ρ av h} {D : Addr} (hD : h.get? D = none) : Kp ρ av h ρ (D :: av) h :=
  ⟨fun _ _ e => e, fun a o xs n ho _ r v => ⟨ho, r, fun hm => by
    rcases List.mem_cons.mp hm with rfl | hm
    · rw [hD] at ho; cases ho
    · exact v hm⟩⟩
theorem Kp.forget {ρ av h} {D : Addr} : Kp ρ (D :: av) h ρ av h := ⟨fun _ _ e => e, fun _ _ _ _ ho _ r v => ⟨ho, r, fun hm => v (List.mem_cons_of_mem _ hm)⟩⟩
theorem Kp.trans {ρ av h ρ₁ av₁ h₁ ρ₂ av₂ h₂} (a : Kp ρ av h ρ₁ av₁ h₁) (b : Kp ρ₁ av₁ h₁ ρ₂ av₂ h₂) : Kp ρ av h ρ₂ av₂ h₂ :=
  ⟨fun l x e => b.at_ l x (a.at_ l x e), fun c o xs n ho hd r v => by
    obtain ⟨h1, r1, v1⟩ := a.seq c o xs n ho hd r v
    exact b.seq c o xs n h1 hd r1 v1⟩

mutual
noncomputable def plain : AVal → Bool
  | .none => true | .int _ => true | .str s => PyData.strOk s | .nil => true
  | .cons x xs => plain x && plainL xs
  | .lst xs => plainL xs
  | .bool _ => false | .loc _ => false | .con _ => false
noncomputable def plainL : AVal → Bool
  | .nil => true
  | .cons x xs => plain x && plainL xs
  | _ => false
end
mutual
noncomputable def toPy : AVal → PyData
  | .none => .none | .int i => .int i | .str s => .str s | .nil => .tuple []
  | .cons x xs => .tuple (toPy x :: toPyL xs)
  | .lst xs => .list (toPyL xs)
  | .bool b => .bool b | .loc _ => .none | .con _ => .none
noncomputable def toPyL : AVal → List PyData
  | .nil => []
  | .cons x xs => toPy x :: toPyL xs
  | _ => []
end

theorem reads_of {ρ av : List Addr} {h : Heap} : ∀ v : AVal, (plain v = true → ∀ c, VRel ρ av h v c → ∃ as, Reads h c (toPy v) as) ∧
    (plainL v = true → ∀ vs, IRel ρ av h v vs → ∃ as, ReadsAll h vs (toPyL v) as) := by
  intro v
  induction v with
  | none => exact ⟨fun _ c x => by simp only [VRel] at x; subst x; exact ⟨_, .none⟩, fun p => by simp [plainL] at p⟩
  | bool b => exact ⟨fun p => by simp [plain] at p, fun p => by simp [plainL] at p⟩
  | int i => exact ⟨fun _ c x => by simp only [VRel] at x; obtain ⟨t, rfl⟩ := x; exact ⟨_, .int _ _⟩, fun p => by simp [plainL] at p⟩
  | str s => exact ⟨fun _ c x => by simp only [VRel] at x; obtain ⟨t, rfl⟩ := x; exact ⟨_, .str _ _⟩, fun p => by simp [plainL] at p⟩
  | nil =>
    refine ⟨fun _ c x => ?_, fun _ vs x => ?_⟩
    · simp only [VRel] at x
      obtain ⟨a, rfl, _, _, n, ho⟩ := x
      exact ⟨_, .tuple ho rfl rfl .nil⟩
    · simp only [IRel] at x; subst x; exact ⟨_, .nil⟩
  | cons x xs ihx ihs =>
    refine ⟨fun p c y => ?_, fun p vs y => ?_⟩
    · simp only [plain, Bool.and_eq_true] at p
      simp only [VRel] at y
      obtain ⟨a, v, vs, rfl, _, _, ⟨n, ho⟩, hv, hs⟩ := y
      obtain ⟨as, h1⟩ := ihx.1 p.1 _ hv
      obtain ⟨bs, h2⟩ := ihs.2 p.2 _ hs
      exact ⟨_, .tuple ho rfl rfl (.cons h1 h2)⟩
    · simp only [plainL, Bool.and_eq_true] at p
      simp only [IRel] at y
      obtain ⟨v, r, rfl, hv, hs⟩ := y
      obtain ⟨as, h1⟩ := ihx.1 p.1 _ hv
      obtain ⟨bs, h2⟩ := ihs.2 p.2 _ hs
      exact ⟨_, .cons h1 h2⟩
  | lst xs ih =>
    refine ⟨fun p c y => ?_, fun p => by simp [plainL] at p⟩
    simp only [plain] at p
    simp only [VRel] at y
    obtain ⟨a, vs, rfl, _, _, ⟨n, ho⟩, hs⟩ := y
    obtain ⟨bs, h2⟩ := ih.2 p _ hs
    exact ⟨_, .list ho rfl rfl h2⟩
  | loc l => exact ⟨fun p => by simp [plain] at p, fun p => by simp [plainL] at p⟩
  | con v => exact ⟨fun p => by simp [plain] at p, fun p => by simp [plainL] at p⟩

theorem canLay_of : ∀ v : AVal, (plain v = true → (toPy v).canLay0 = true) ∧ (plainL v = true → PyData.canLayAll0 (toPyL v) = true) := by
  intro v
  induction v with
  | none => simp [plain, plainL, toPy, PyData.canLay0]
  | bool b => simp [plain, plainL]
  | int i => simp [plain, plainL, toPy, PyData.canLay0]
  | str s => simp [plain, plainL, toPy, PyData.canLay0]
  | nil => simp [toPy, toPyL, PyData.canLay0, PyData.canLayAll0]
  | cons x xs ihx ihs =>
    simp only [plain, plainL, toPy, toPyL, PyData.canLay0, PyData.canLayAll0, Bool.and_eq_true]
    exact ⟨fun p => ⟨ihx.1 p.1, ihs.2 p.2⟩, fun p => ⟨ihx.1 p.1, ihs.2 p.2⟩⟩
  | lst xs ih => simp only [plain, plainL, toPy, PyData.canLay0]; exact ⟨ih.2, fun p => by cases p⟩
  | loc l => simp [plain, plainL]
  | con v => simp [plain, plainL]

theorem eqv_of : ∀ a : AVal, (plain a = true → ∀ b, plain b = true → PyData.eqv (toPy a) (toPy b) = decide (a = b)) ∧
    (plainL a = true → ∀ b, plainL b = true → PyData.eqvAll (toPyL a) (toPyL b) = decide (a = b)) := by
  intro a
  induction a with
  | none => refine ⟨fun _ b p => ?_, fun p => by simp [plainL] at p⟩; cases b <;> simp_all [plain, toPy, PyData.eqv]
  | bool b => exact ⟨fun p => by simp [plain] at p, fun p => by simp [plainL] at p⟩
  | int i =>
    refine ⟨fun _ b p => ?_, fun p => by simp [plainL] at p⟩
    cases b with
    | int j => simp only [toPy, PyData.eqv, AVal.int.injEq]; by_cases h : i = j <;> simp [h]
    | _ => simp_all [plain, toPy, PyData.eqv]
  | str s =>
    refine ⟨fun _ b p => ?_, fun p => by simp [plainL] at p⟩
    cases b with
    | str j => simp only [toPy, PyData.eqv, AVal.str.injEq]; by_cases h : s = j <;> simp [h]
    | _ => simp_all [plain, toPy, PyData.eqv]
  | nil =>
    refine ⟨fun _ b p => ?_, fun _ b p => ?_⟩
    · cases b <;> simp_all [plain, toPy, PyData.eqv, PyData.eqvAll]
    · cases b <;> simp_all [plainL, toPyL, PyData.eqvAll]
  | cons x xs ihx ihs =>
    refine ⟨fun p b q => ?_, fun p b q => ?_⟩
    · simp only [plain, Bool.and_eq_true] at p
      cases b with
      | cons y ys =>
        simp only [plain, Bool.and_eq_true] at q
        simp only [toPy, PyData.eqv, PyData.eqvAll, ihx.1 p.1 y q.1, ihs.2 p.2 ys q.2, AVal.cons.injEq]
        by_cases h1 : x = y <;> by_cases h2 : xs = ys <;> simp [h1, h2]
      | _ => simp_all [plain, toPy, PyData.eqv, PyData.eqvAll]
    · simp only [plainL, Bool.and_eq_true] at p
      cases b with
      | cons y ys =>
        simp only [plainL, Bool.and_eq_true] at q
        simp only [toPyL, PyData.eqvAll, ihx.1 p.1 y q.1, ihs.2 p.2 ys q.2, AVal.cons.injEq]
        by_cases h1 : x = y <;> by_cases h2 : xs = ys <;> simp [h1, h2]
      | _ => simp_all [plainL, toPyL, PyData.eqvAll]
  | lst xs ih =>
    refine ⟨fun p b q => ?_, fun p => by simp [plainL] at p⟩
    simp only [plain] at p
    cases b with
    | lst ys =>
      simp only [plain] at q
      simp only [toPy, PyData.eqv, ih.2 p ys q, AVal.lst.injEq]
    | _ => simp_all [plain, toPy, PyData.eqv]
  | loc l => exact ⟨fun p => by simp [plain] at p, fun p => by simp [plainL] at p⟩
  | con v => exact ⟨fun p => by simp [plain] at p, fun p => by simp [plainL] at p⟩

noncomputable def dep (v : AVal) : Nat := (toPy v).depth
noncomputable def depL (v : AVal) : Nat := PyData.depthAll (toPyL v)

section
variable {prog : Program} {w : World} {A : Around} {E : Value → Shared → Prop} {s : Shared} {ρ av : List Addr}

theorem eqBool_rel {a b : AVal} {c d : Value} {Q : Bool → Shared → Prop} (pa : plain a = true) (pb : plain b = true) (ra : VRel ρ av s.heap a c) (rb : VRel ρ av s.heap b d)
    (hu : A.units + dep a < cLine) (h : Q (decide (a = b)) s) : wpAny (model prog w) A (eqBool c d) Q E s := by
  obtain ⟨as, h1⟩ := (reads_of a).1 pa c ra
  obtain ⟨bs, h2⟩ := (reads_of b).1 pb d rb
  refine SeqAt.eqBoolOverData prog w A E s c d _ _ as bs Q h1 h2 ((canLay_of a).1 pa) ((canLay_of b).1 pb) ?_ ?_
  · exact Nat.lt_of_le_of_lt (Nat.add_le_add_left (Nat.min_le_left _ _) _) hu
  · rw [(eqv_of a).1 pa b pb]; exact h
theorem compareEq_rel {a b : AVal} {c d : Value} {Q : Value → Shared → Prop} (pa : plain a = true) (pb : plain b = true) (ra : VRel ρ av s.heap a c) (rb : VRel ρ av s.heap b d)
    (hu : A.units + dep a < cLine) (h : Q (.bool (decide (a = b))) s) : wpAny (model prog w) A (compareOp .Eq c d) Q E s := by
  obtain ⟨as, h1⟩ := (reads_of a).1 pa c ra
  obtain ⟨bs, h2⟩ := (reads_of b).1 pb d rb
  refine SeqAt.compareEq_reads h1 h2 ((canLay_of a).1 pa) ((canLay_of b).1 pb) ?_ ?_
  · exact Nat.lt_of_le_of_lt (Nat.add_le_add_left (Nat.min_le_left _ _) _) hu
  · rw [(eqv_of a).1 pa b pb]; exact h
theorem compareNe_rel {a b : AVal} {c d : Value} {Q : Value → Shared → Prop} (pa : plain a = true) (pb : plain b = true) (ra : VRel ρ av s.heap a c) (rb : VRel ρ av s.heap b d)
    (hu : A.units + dep a < cLine) (h : Q (.bool (!decide (a = b))) s) : wpAny (model prog w) A (compareOp .NotEq c d) Q E s := by
  obtain ⟨as, h1⟩ := (reads_of a).1 pa c ra
  obtain ⟨bs, h2⟩ := (reads_of b).1 pb d rb
  refine SeqAt.compareNe_reads h1 h2 ((canLay_of a).1 pa) ((canLay_of b).1 pb) ?_ ?_
  · exact Nat.lt_of_le_of_lt (Nat.add_le_add_left (Nat.min_le_left _ _) _) hu
  · rw [(eqv_of a).1 pa b pb]; exact h
end

/-! keys -/
mutual
noncomputable def isKey : AVal → Bool
  | .int _ => true | .str s => PyData.strOk s | .nil => true
  | .cons x xs => isKey x && isKeyL xs
  | _ => false
noncomputable def isKeyL : AVal → Bool
  | .nil => true
  | .cons x xs => isKey x && isKeyL xs
  | _ => false
end
mutual
noncomputable def khash (w : World) : AVal → Int
  | .int i => hashInt i | .str s => hashStr w s
  | .nil => reduceHash (Builtin.Tuple.tupleHashOf [])
  | .cons x xs => reduceHash (Builtin.Tuple.tupleHashOf (khash w x :: khashL w xs))
  | _ => 0
noncomputable def khashL (w : World) : AVal → List Int
  | .cons x xs => khash w x :: khashL w xs
  | _ => []
end
mutual
noncomputable def kdraws : AVal → Nat
  | .cons x xs => kdraws x + kdrawsL xs + 1
  | _ => 1
noncomputable def kdrawsL : AVal → Nat
  | .cons x xs => kdraws x + kdrawsL xs
  | _ => 0
end

theorem plain_of_key : ∀ v : AVal, (isKey v = true → plain v = true) ∧ (isKeyL v = true → plainL v = true) := by
  intro v
  induction v with
  | cons x xs ihx ihs =>
    simp only [isKey, isKeyL, plain, plainL, Bool.and_eq_true]
    exact ⟨fun p => ⟨ihx.1 p.1, ihs.2 p.2⟩, fun p => ⟨ihx.1 p.1, ihs.2 p.2⟩⟩
  | _ => simp_all [isKey, isKeyL, plain, plainL]

theorem dep_cons (x xs : AVal) : dep (.cons x xs) = max (dep x) (depL xs) + 1 := by simp [dep, depL, toPy, PyData.depth, PyData.depthAll]
theorem depL_cons (x xs : AVal) : depL (.cons x xs) = max (dep x) (depL xs) := by simp [dep, depL, toPyL, PyData.depthAll]

section
variable {prog : Program} {w : World}

/-- the hash of a tuple of values whose hashes are known -/
theorem pyHash_tuple {A : Around} {E : Value → Shared → Prop} {s : Shared} {ρ av : List Addr} {a : Addr} {vs : List Value} {k : AVal} {Q : Int → Shared → Prop} (hu : A.units < cLine) (ht : s.heap.IsTuple a vs.toArray)
    (hi : IRel ρ av s.heap k vs)
    (step : ∀ (s' : Shared) (x v : _) (Q' : Int → Shared → Prop) (E' : Value → Shared → Prop) (rest : AVal) , s'.heap = s.heap → (∃ r, isKeyL (.cons x rest) = true ∧ depL (.cons x rest) ≤ depL k ∧ VRel ρ av s.heap x v ∧ IRel ρ av s.heap rest r) → Q' (khash w x) { s' with toks := s'.toks + kdraws x } → wpAny (model prog w) A.in1 (pyHash v) Q' E' s')
    (hk : isKeyL k = true)
    (h : Q (reduceHash (Builtin.Tuple.tupleHashOf (khashL w k))) { s with toks := s.toks + (kdrawsL k + 1) }) :
    wpAny (model prog w) A (pyHash (.ref a)) Q E s := by
  have hT : s.TypeIs (.ref a) "tuple" := ht.typeIs
  obtain ⟨o, ho, hc, n, hd⟩ := ht
  unfold pyHash
  first | unfold pyHashByItsType | skip
  first | refine wpAny_bind (wpAny_cRoomFor_or (.inr hu) ?_) | skip
  refine wpAny_bind (wpAny_specialOf hT F.slot_tuple_hash.lookup ?_)
  show wpAny _ _ (if (some (Value.builtin "tuple.__hash__") == some Value.none) = true then _ else _) Q E s
  rw [if_neg (by rw [beq_builtin_none]; exact Bool.false_ne_true)]
  refine wpAny_bind (wpAny_specialOf hT F.slot_tuple_hash.lookup ?_)
  show wpAny _ _ (callSpecialIfBoundUnlessNone? (.ref a) "__hash__" _ >>= _) Q E s
  refine wpAny_bind (wpAny_callSpecialIfBoundUnlessNone?_slot hT F.slot_tuple_hash (wpAny_call_entry F.slot_tuple_hash hT F.entry_tuple_hash ?_ (F.args_tuple_hash_1 _)))
  show wpAny _ _ (Builtin.Tuple.tupleItemsOf (.ref a) >>= _) _ _ s
  refine wpAny_bind (wpAny_tupleItemsOf ho hd ?_)
  refine wpAny_bind ?_
  rw [← Array.forIn_toList]
  refine wpAny_forIn_list _
    (fun rest (b : Array Int) s' => ∃ left, isKeyL left = true ∧ depL left ≤ depL k ∧ IRel ρ av s.heap left rest ∧ b.toList ++ khashL w left = khashL w k ∧ ∃ m, m + kdrawsL left = kdrawsL k ∧ s' = { s with toks := s.toks + m })
    _ ?_ ?_ _ _ ⟨k, hk, Nat.le_refl _, hi, rfl, 0, by simp, rfl⟩
  · rintro x rest b s' ⟨left, hk', hdl, hl, hb, m, hm, rfl⟩
    cases left with
    | cons y ys =>
      simp only [IRel] at hl
      obtain ⟨v, r, e, hv, hs⟩ := hl
      cases e
      have hk2 := hk'
      simp only [isKeyL, Bool.and_eq_true] at hk2
      simp only [khashL] at hb
      simp only [kdrawsL] at hm
      have hys : depL ys ≤ depL k := by rw [depL_cons] at hdl; omega
      refine wpAny_bind (step _ y x _ _ ys rfl ⟨rest, hk', hdl, hv, hs⟩ ?_)
      first
        | exact wpAny_pure ⟨ys, hk2.2, hys, hs, by simpa using hb, m + kdraws y, by omega, by simp [Nat.add_assoc]⟩
        | exact wpAny_bind (wpAny_pure (wpAny_pure ⟨ys, hk2.2, hys, hs, by simpa using hb, m + kdraws y, by omega, by simp [Nat.add_assoc]⟩))
    | nil => simp [IRel] at hl
    | _ => simp [isKeyL] at hk'
  · rintro b s' ⟨left, hk', hdl, hl, hb, m, hm, rfl⟩
    have hleft : left = .nil := by
      cases left with
      | nil => rfl
      | cons y ys => simp [IRel] at hl
      | _ => simp [isKeyL] at hk'
    subst hleft
    simp only [khashL, List.append_nil] at hb
    simp only [kdrawsL, Nat.add_zero] at hm
    subst hm
    show wpAny _ _ (retInt (Builtin.Tuple.tupleHashOf b.toList)) _ _ _
    rw [hb]
    refine wpAny_ret_mkInt ?_
    show wpAny _ _ (if (decide (-(2 : Int) ^ 63 ≤ Builtin.Tuple.tupleHashOf (khashL w k)) && decide (Builtin.Tuple.tupleHashOf (khashL w k) < 2 ^ 63)) = true then _ else _) Q E _
    unfold reduceHash at h
    by_cases hr : (decide (-(2 : Int) ^ 63 ≤ Builtin.Tuple.tupleHashOf (khashL w k)) && decide (Builtin.Tuple.tupleHashOf (khashL w k) < 2 ^ 63)) = true
    · rw [if_pos hr]
      rw [if_pos hr] at h
      exact wpAny_pure (by simpa [Nat.add_assoc] using h)
    · rw [if_neg hr]
      rw [if_neg hr] at h
      exact wpAny_bind (wpAny_rule (wpAny_pure (by simpa [Nat.add_assoc] using h)))


theorem pyHash_key {ρ av : List Addr} : ∀ (n : Nat) (k : AVal) (A : Around) (E : Value → Shared → Prop) (s : Shared) (c : Value) (Q : Int → Shared → Prop), dep k ≤ n → isKey k = true → A.units + dep k < cLine →
    VRel ρ av s.heap k c → Q (khash w k) { s with toks := s.toks + kdraws k } → wpAny (model prog w) A (pyHash c) Q E s := by
  intro n
  induction n with
  | zero =>
    intro k A E s c Q hn hk hu hr hQ
    cases k with
    | int i => simp only [VRel] at hr; obtain ⟨t, rfl⟩ := hr; exact wpAny_pyHash_int hQ
    | str x => simp only [VRel] at hr; obtain ⟨t, rfl⟩ := hr; exact wpAny_pyHash_str hQ
    | nil => simp [dep, toPy, PyData.depth] at hn
    | cons x xs => rw [dep_cons] at hn; omega
    | _ => simp [isKey] at hk
  | succ n ih =>
    intro k A E s c Q hn hk hu hr hQ
    cases k with
    | int i => simp only [VRel] at hr; obtain ⟨t, rfl⟩ := hr; exact wpAny_pyHash_int hQ
    | str x => simp only [VRel] at hr; obtain ⟨t, rfl⟩ := hr; exact wpAny_pyHash_str hQ
    | nil =>
      simp only [VRel] at hr
      obtain ⟨a, rfl, _, _, ht⟩ := hr
      refine pyHash_tuple (ρ := ρ) (av := av) (k := .nil) (vs := []) (by omega) ht.isTuple (by simp [IRel]) ?_ (by simp [isKeyL]) (by simpa [khashL, kdrawsL, khash, kdraws] using hQ)
      rintro s' x v Q' E' rest hh ⟨r, h1, h2, h3, h4⟩ hq
      rw [depL_cons] at h2
      simp only [isKeyL, Bool.and_eq_true] at h1
      have hd0 : depL AVal.nil = 0 := by simp [depL, toPyL, PyData.depthAll]
      exact ih x A.in1 E' s' v Q' (by omega) h1.1 (by show A.units + 1 + dep x < cLine; have : dep AVal.nil = 1 := by simp [dep, toPy, PyData.depth, PyData.depthAll]
                                                      omega) (hh ▸ h3) hq
    | cons x xs =>
      simp only [VRel] at hr
      obtain ⟨a, v, vs, rfl, _, _, ht, hx, hs⟩ := hr
      rw [dep_cons] at hn hu
      simp only [isKey] at hk
      refine pyHash_tuple (ρ := ρ) (av := av) (k := .cons x xs) (vs := v :: vs) (by omega) ht.isTuple (by simp only [IRel]; exact ⟨v, vs, rfl, hx, hs⟩) ?_ (by simpa only [isKeyL] using hk) (by simpa [khashL, kdrawsL, khash, kdraws] using hQ)
      rintro s' y u Q' E' rest hh ⟨r, h1, h2, h3, h4⟩ hq
      rw [depL_cons, depL_cons] at h2
      simp only [isKeyL, Bool.and_eq_true] at h1
      exact ih y A.in1 E' s' u Q' (by omega) h1.1 (by show A.units + 1 + dep y < cLine; omega) (hh ▸ h3) hq
    | _ => simp [isKey] at hk

theorem quiet_key {ρ av : List Addr} : ∀ (n : Nat) (k : AVal) (A : Around) (E : Value → Shared → Prop) (s : Shared) (c : Value) (Q : Bool → Shared → Prop), dep k ≤ n → isKey k = true →
    VRel ρ av s.heap k c → Q true s → wpAny (model prog w) A (eqIsQuiet n c) Q E s := by
  intro n
  induction n with
  | zero =>
    intro k A E s c Q hn hk hr hQ
    cases k with
    | int i => simp only [VRel] at hr; obtain ⟨t, rfl⟩ := hr; rw [eqIsQuiet_byValue _ rfl]; exact wpAny_pure hQ
    | str x => simp only [VRel] at hr; obtain ⟨t, rfl⟩ := hr; rw [eqIsQuiet_byValue _ rfl]; exact wpAny_pure hQ
    | nil => simp [dep, toPy, PyData.depth] at hn
    | cons x xs => rw [dep_cons] at hn; omega
    | _ => simp [isKey] at hk
  | succ n ih =>
    have tuple : ∀ (k : AVal) (A : Around) (E : Value → Shared → Prop) (s : Shared) (a : Addr) (vs : List Value) (Q : Bool → Shared → Prop), depL k ≤ n → isKeyL k = true → s.heap.IsTuple a vs.toArray → IRel ρ av s.heap k vs → Q true s →
        wpAny (model prog w) A (eqIsQuiet (n + 1) (.ref a)) Q E s := by
      intro k A E s a vs Q hn hk ht hi hQ
      have hT : s.TypeIs (.ref a) "tuple" := ht.typeIs
      obtain ⟨o, ho, hc, m, hd⟩ := ht
      unfold eqIsQuiet
      refine wpAny_bind (wpAny_specialOf hT F.slot_tuple_eq.lookup ?_)
      show wpAny _ _ (isInstance (.ref a) (.type "tuple") >>= _) _ _ s
      refine wpAny_bind (wpAny_isInstance hT isSubtype_tuple_tuple ?_)
      simp only [Bool.not_true, Bool.false_eq_true, if_false]
      refine wpAny_bind (wpAny_seqItems ho hd ?_)
      refine wpAny_bind ?_
      show wpAny _ _ (forIn vs.toArray _ _) _ _ s
      rw [← Array.forIn_toList]
      refine wpAny_forIn_list _ (fun rest r s' => r.1 = none ∧ s' = s ∧ ∃ left, isKeyL left = true ∧ depL left ≤ n ∧ IRel ρ av s.heap left rest) _ ?_ ?_ _ _ ⟨rfl, rfl, k, hk, hn, hi⟩
      · rintro v rest r s' ⟨hr, rfl, left, hk', hdl, hl⟩
        cases left with
        | cons y ys =>
          simp only [IRel] at hl
          obtain ⟨v', r', e, hv, hs⟩ := hl
          cases e
          simp only [isKeyL, Bool.and_eq_true] at hk'
          rw [depL_cons] at hdl
          refine wpAny_bind (ih y A _ s' v _ (by omega) hk'.1 hv ?_)
          simp only [Bool.not_true, Bool.false_eq_true, if_false]
          exact wpAny_pure ⟨rfl, rfl, ys, hk'.2, by omega, hs⟩
        | nil => simp [IRel] at hl
        | _ => simp [isKeyL] at hk'
      · rintro ⟨r1, r2⟩ s' ⟨hr, rfl, _⟩
        simp only at hr
        subst hr
        exact wpAny_pure hQ
    intro k A E s c Q hn hk hr hQ
    cases k with
    | int i => simp only [VRel] at hr; obtain ⟨t, rfl⟩ := hr; rw [eqIsQuiet_byValue _ rfl]; exact wpAny_pure hQ
    | str x => simp only [VRel] at hr; obtain ⟨t, rfl⟩ := hr; rw [eqIsQuiet_byValue _ rfl]; exact wpAny_pure hQ
    | nil =>
      simp only [VRel] at hr
      obtain ⟨a, rfl, _, _, ht⟩ := hr
      exact tuple .nil A E s a [] Q (by simp [depL, toPyL, PyData.depthAll]) (by simp [isKeyL]) ht.isTuple (by simp [IRel]) hQ
    | cons x xs =>
      simp only [VRel] at hr
      obtain ⟨a, v, vs, rfl, _, _, ht, hx, hs⟩ := hr
      rw [dep_cons] at hn
      exact tuple (.cons x xs) A E s a (v :: vs) Q (by rw [depL_cons]; omega) (by simpa only [isKey, isKeyL] using hk) ht.isTuple (by simp only [IRel]; exact ⟨v, vs, rfl, hx, hs⟩) hQ
    | _ => simp [isKey] at hk

/-- tuples as keys of a dict -/
structure KeyIs (h : Heap) (k : AVal) (a : Addr) : Prop where
  rel : VRel [] [] h k (.ref a)
  key : isKey k = true
  dep : dep k ≤ 8

theorem rel_inj {ρ av : List Addr} {h : Heap} : ∀ x : AVal, (isKey x = true → ∀ y c, isKey y = true → VRel ρ av h x c → VRel ρ av h y c → x = y) ∧
    (isKeyL x = true → ∀ y vs, isKeyL y = true → IRel ρ av h x vs → IRel ρ av h y vs → x = y) := by
  have same : ∀ {a : Addr} {xs ys : List Value}, TupAt h a xs.toArray → TupAt h a ys.toArray → xs = ys := by
    rintro a xs ys ⟨n, ho⟩ ⟨n', ho'⟩
    have := Option.some.inj (ho.symm.trans ho')
    injection this with _ _ h1 _
    injection h1 with h2 _
    simpa using h2
  intro x
  induction x with
  | int i =>
    refine ⟨fun _ y c ky h1 h2 => ?_, fun p => by simp [isKeyL] at p⟩
    simp only [VRel] at h1
    obtain ⟨t, rfl⟩ := h1
    cases y <;> simp_all [VRel, isKey]
  | str i =>
    refine ⟨fun _ y c ky h1 h2 => ?_, fun p => by simp [isKeyL] at p⟩
    simp only [VRel] at h1
    obtain ⟨t, rfl⟩ := h1
    cases y <;> simp_all [VRel, isKey]
  | nil =>
    refine ⟨fun _ y c ky h1 h2 => ?_, fun _ y vs ky h1 h2 => ?_⟩
    · simp only [VRel] at h1
      obtain ⟨a, rfl, _, _, ht⟩ := h1
      cases y with
      | nil => rfl
      | cons y ys =>
        simp only [VRel] at h2
        obtain ⟨a', v, vs, e, _, _, ht', _⟩ := h2
        cases e
        cases same ht ht'
      | _ => simp_all [VRel, isKey]
    · simp only [IRel] at h1; subst h1
      cases y <;> simp_all [IRel, isKeyL]
  | cons x xs ihx ihs =>
    refine ⟨fun p y c ky h1 h2 => ?_, fun p y vs ky h1 h2 => ?_⟩
    · simp only [isKey, Bool.and_eq_true] at p
      simp only [VRel] at h1
      obtain ⟨a, v, vs, rfl, _, _, ht, hx, hs⟩ := h1
      cases y with
      | nil =>
        simp only [VRel] at h2
        obtain ⟨a', e, _, _, ht'⟩ := h2
        cases e
        cases same ht ht'
      | cons y ys =>
        simp only [VRel] at h2
        obtain ⟨a', v', vs', e, _, _, ht', hx', hs'⟩ := h2
        cases e
        obtain ⟨rfl, rfl⟩ := List.cons.inj (same ht ht')
        simp only [isKey, Bool.and_eq_true] at ky
        rw [ihx.1 p.1 y _ ky.1 hx hx', ihs.2 p.2 ys _ ky.2 hs hs']
      | _ => simp_all [VRel, isKey]
    · simp only [isKeyL, Bool.and_eq_true] at p
      simp only [IRel] at h1
      obtain ⟨v, r, rfl, hx, hs⟩ := h1
      cases y with
      | cons y ys =>
        simp only [IRel] at h2
        obtain ⟨v', r', e, hx', hs'⟩ := h2
        cases e
        simp only [isKeyL, Bool.and_eq_true] at ky
        rw [ihx.1 p.1 y _ ky.1 hx hx', ihs.2 p.2 ys _ ky.2 hs hs']
      | _ => simp_all [IRel, isKeyL]
  | _ => simp [isKey, isKeyL]

theorem KeyIs.mono {h h' : Heap} {k : AVal} {a : Addr} (x : KeyIs h k a) (hk : ∀ a o xs n, h.get? a = some o → o.data = .seq xs n → h'.get? a = some o) : KeyIs h' k a :=
  ⟨x.rel.mono ⟨fun _ _ e => e, fun a o xs n ho hd r v => ⟨hk a o xs n ho hd, r, v⟩⟩, x.key, x.dep⟩

noncomputable def keyKind (prog : Program) (w : World) : HeapKind prog w AVal where
  is := KeyIs
  hash := khash w
  draws := kdraws
  room := fun A => A.units + 8 < cLine
  inj := fun {_ _ x y} hx hy => (rel_inj x).1 hx.key y _ hy.key hx.rel hy.rel
  keeps := fun x ho hd hs => x.mono fun b o' xs n hb hdb => (hs.2 b fun e => by rw [e, ho] at hb; cases hb; rw [hd] at hdb; cases hdb).trans hb
  pyHash := fun {A _ _ k _ _} hu hk h => pyHash_key 8 k A _ _ _ _ hk.dep hk.key (by have := hk.dep; omega) hk.rel h
  eqBool := fun {A _ _ x y _ _ _} hu hx hy h => eqBool_rel ((plain_of_key x).1 hx.key) ((plain_of_key y).1 hy.key) hx.rel hy.rel (by have := hx.dep; omega) h
  quiet := fun {A _ _ k _ _} hk h => quiet_key 8 k A _ _ _ _ hk.dep hk.key hk.rel h
end

structure Base where
  prog : Program
  w : World
  K : Frag
  h₀ : Heap
  os : OsState
  mg : Str → Option Value
  mb : Str → Option Value

structure BaseOk (B : Base) : Prop where
  inK : B.K.In B.h₀
  g : B.h₀.Ns mainGlobals B.mg
  b : B.h₀.Ns builtinsNs B.mb
  nolim : B.h₀.NoLimit
  boot : ∀ x : Str, x ≠ "__name__" → B.mb x = bootBuiltins x

noncomputable def DRelI (ρ av : List Addr) (h : Heap) : List (AVal × AVal) → List (Int × Value) → Prop
  | [], [] => True
  | (k, v) :: es, (i, c) :: kvs => k = .int i ∧ VRel ρ av h v c ∧ DRelI ρ av h es kvs
  | _, _ => False
noncomputable def DRelT (ρ av : List Addr) (h : Heap) : List (AVal × AVal) → List (AVal × Addr × Value) → Prop
  | [], [] => True
  | (k, v) :: es, (k', a, c) :: kvs => k = k' ∧ VRel ρ av h k (.ref a) ∧ VRel ρ av h v c ∧ DRelT ρ av h es kvs
  | _, _ => False

theorem DRelI.mono {ρ av h ρ' av' h'} (k : Kp ρ av h ρ' av' h') : ∀ {es kvs}, DRelI ρ av h es kvs → DRelI ρ' av' h' es kvs
  | [], [], _ => trivial
  | (_, _) :: _, (_, _) :: _, ⟨e, v, r⟩ => ⟨e, v.mono k, r.mono k⟩
theorem DRelT.mono {ρ av h ρ' av' h'} (k : Kp ρ av h ρ' av' h') : ∀ {es kvs}, DRelT ρ av h es kvs → DRelT ρ' av' h' es kvs
  | [], [], _ => trivial
  | (_, _) :: _, (_, _, _) :: _, ⟨e, kk, v, r⟩ => ⟨e, kk.mono k, v.mono k, r.mono k⟩

/-- an object of the store as it lies in the heap -/
noncomputable def Rep (prog : Program) (w : World) (ρ av : List Addr) (h : Heap) (a : Addr) : AObj → Prop
  | .list xs => ∃ vs, h.PlainList a (vs : List Value).toArray ∧ IRel ρ av h xs vs
  | .dict es => (∃ kvs, h.DictOf (intKind prog w) a kvs ∧ DRelI ρ av h es kvs) ∨ (∃ kvs, h.DictOfH (keyKind prog w) a kvs ∧ DRelT ρ av h es kvs)
  | .inst C dl => ∃ d, h.get? a = some (instObj C d) ∧ ρ[dl]? = some d
  | .attrs l => ∃ es n, h.get? a = some (dictOf es n) ∧ (∀ e ∈ es, e.refKey = false) ∧ es.length ≤ l.length ∧ ∀ x, match l.lookup x with
      | some v => ∃ c, getL x es = some (some c) ∧ VRel ρ av h v c
      | none => getL x es = some none

theorem Rep.live {prog w ρ av h a o} (r : Rep prog w ρ av h a o) : ∃ ob, h.get? a = some ob := by
  cases o with
  | list xs => obtain ⟨vs, ⟨n, e⟩, _⟩ := r; exact ⟨_, e⟩
  | dict es =>
    rcases r with ⟨kvs, hd, _⟩ | ⟨kvs, ⟨o, _, _, e, _⟩, _⟩
    · obtain ⟨o, ho, _⟩ := hd.typeIs (s := { heap := h }); exact ⟨o, ho⟩
    · exact ⟨o, e⟩
  | inst C dl => obtain ⟨d, e, _⟩ := r; exact ⟨_, e⟩
  | attrs l => obtain ⟨es, n, e, _⟩ := r; exact ⟨_, e⟩

theorem DictOf.at {prog : Program} {w : World} {h h' : Heap} {a : Addr} {kvs : List (Int × Value)} (x : h.DictOf (intKind prog w) a kvs) (e : h'.get? a = h.get? a) : h'.DictOf (intKind prog w) a kvs := by
  obtain ⟨o, es, ep, ho, r⟩ := x
  exact ⟨o, es, ep, e.trans ho, r⟩

theorem key_forget {ρ av h} : ∀ v : AVal, (isKey v = true → ∀ c, VRel ρ av h v c → VRel [] [] h v c) ∧ (isKeyL v = true → ∀ vs, IRel ρ av h v vs → IRel [] [] h v vs) := by
  intro v
  induction v with
  | int i => exact ⟨fun _ c x => by simpa only [VRel] using x, fun p => by simp [isKeyL] at p⟩
  | str s => exact ⟨fun _ c x => by simpa only [VRel] using x, fun p => by simp [isKeyL] at p⟩
  | nil =>
    refine ⟨fun _ c x => ?_, fun _ vs x => by simpa only [IRel] using x⟩
    simp only [VRel] at x ⊢
    obtain ⟨a, rfl, r, v, t⟩ := x
    exact ⟨a, rfl, by simp, by simp, t⟩
  | cons x xs ihx ihs =>
    refine ⟨fun p c y => ?_, fun p vs y => ?_⟩
    · simp only [isKey, Bool.and_eq_true] at p
      simp only [VRel] at y ⊢
      obtain ⟨a, v, vs, rfl, r, va, t, hv, hs⟩ := y
      exact ⟨a, v, vs, rfl, by simp, by simp, t, ihx.1 p.1 _ hv, ihs.2 p.2 _ hs⟩
    · simp only [isKeyL, Bool.and_eq_true] at p
      simp only [IRel] at y ⊢
      obtain ⟨v, r, rfl, hv, hs⟩ := y
      exact ⟨v, r, rfl, ihx.1 p.1 _ hv, ihs.2 p.2 _ hs⟩
  | _ => simp [isKey, isKeyL]

theorem DRelT.mem {ρ av h} : ∀ {es kvs}, DRelT ρ av h es kvs → ∀ x ∈ kvs, VRel ρ av h x.1 (.ref x.2.1)
  | [], [], _, x, hx => by cases hx
  | (_, _) :: _, (_, _, _) :: _, ⟨e, kk, v, r⟩, x, hx => by
    rcases List.mem_cons.mp hx with rfl | hx
    · exact e ▸ kk
    · exact r.mem x hx

/-- an object of the store is as it was: its value still lies there -/
theorem Rep.keep {prog w ρ av h a o ρ' av' h'} (r : Rep prog w ρ av h a o) (k : Kp ρ av h ρ' av' h') (e : h'.get? a = h.get? a) : Rep prog w ρ' av' h' a o := by
  cases o with
  | list xs => obtain ⟨vs, ⟨n, e'⟩, i⟩ := r; exact ⟨vs, ⟨n, e.trans e'⟩, i.mono k⟩
  | dict es =>
    rcases r with ⟨kvs, hd, i⟩ | ⟨kvs, ⟨o, es', ep, e', h1, h2, h3, h4, h5⟩, i⟩
    · exact .inl ⟨kvs, DictOf.at hd e, i.mono k⟩
    · exact .inr ⟨kvs, ⟨o, es', ep, e.trans e', h1, h2, h3, fun x hx => ⟨(key_forget _).1 (h4 x hx).key _ ((i.mem x hx).mono k), (h4 x hx).key, (h4 x hx).dep⟩, h5⟩, i.mono k⟩
  | inst C dl => obtain ⟨d, e', hd⟩ := r; exact ⟨d, e.trans e', k.at_ _ _ hd⟩
  | attrs l =>
    obtain ⟨es, n, e', hd, hz, hx⟩ := r
    refine ⟨es, n, e.trans e', hd, hz, fun x => ?_⟩
    have := hx x
    cases hl : l.lookup x with
    | none => rw [hl] at this; exact this
    | some v => rw [hl] at this; obtain ⟨c, h1, h2⟩ := this; exact ⟨c, h1, h2.mono k⟩

/-- the state of the abstract run is the state of the real one -/
structure Sim (B : Base) (av ρ : List Addr) (σ : Store) (s : Shared) : Prop where
  ok : BaseOk B
  keep : ∀ b o, B.h₀.get? b = some o → s.heap.get? b = some o
  fresh : ∀ a ∈ ρ, B.h₀.get? a = none
  avoid : ∀ a ∈ av, B.h₀.get? a = none ∧ (∃ o, s.heap.get? a = some o) ∧ a ∉ ρ
  big : ∀ a ∈ ρ, mainGlobals < a
  nodup : ρ.Nodup
  len : ρ.length = σ.length
  rep : ∀ (l : Nat) (a : Addr) (o : AObj), ρ[l]? = some a → σ[l]? = some o → Rep B.prog B.w ρ av s.heap a o
  gens : s.gens = #[]
  os : s.os = B.os

section
variable {B : Base} {av ρ : List Addr} {σ : Store} {s : Shared}

theorem Sim.place (x : Sim B av ρ σ s) {l : Nat} {o : AObj} (e : σ[l]? = some o) : ∃ a, ρ[l]? = some a ∧ Rep B.prog B.w ρ av s.heap a o := by
  have hl : l < ρ.length := by rw [x.len]; exact (List.getElem?_eq_some_iff.mp e).1
  exact ⟨ρ[l], List.getElem?_eq_getElem hl, x.rep l _ o (List.getElem?_eq_getElem hl) e⟩

theorem Sim.live (x : Sim B av ρ σ s) : ∀ a ∈ ρ, ∃ o, s.heap.get? a = some o := by
  intro a ha
  obtain ⟨l, hl⟩ := List.mem_iff_getElem?.mp ha
  have hl' : l < σ.length := by rw [← x.len]; exact (List.getElem?_eq_some_iff.mp hl).1
  exact (x.rep l a _ hl (List.getElem?_eq_getElem hl')).live

theorem Sim.tok (x : Sim B av ρ σ s) (t : Nat) : Sim B av ρ σ { s with toks := t } := ⟨x.ok, x.keep, x.fresh, x.avoid, x.big, x.nodup, x.len, x.rep, x.gens, x.os⟩

/-- nothing of the store has changed -/
theorem Sim.same (x : Sim B av ρ σ s) {s' : Shared} {X : Addr → Prop} (st : Step X ρ s.heap ρ s'.heap) (kp : Kp ρ av s.heap ρ av s'.heap) (hp : ∀ a ∈ ρ, s'.heap.get? a = s.heap.get? a) (hX : ∀ b, X b → B.h₀.get? b = none) (hg : s'.gens = s.gens) (ho : s'.os = s.os) :
    Sim B av ρ σ s' where
  ok := x.ok
  keep := fun b o e => st.keep b o (x.keep b o e) (fun hm => by have := x.fresh b hm; rw [e] at this; cases this) fun hb => by have := hX b hb; rw [e] at this; cases this
  fresh := x.fresh
  avoid := fun a ha => ⟨(x.avoid a ha).1, (by
    obtain ⟨o, ho⟩ := (x.avoid a ha).2.1
    cases e : s'.heap.get? a with
    | some o' => exact ⟨o', rfl⟩
    | none => have := st.live a e; rw [ho] at this; cases this), (x.avoid a ha).2.2⟩
  big := x.big
  nodup := x.nodup
  len := x.len
  rep := fun l a o h1 h2 => (x.rep l a o h1 h2).keep kp (hp a (List.mem_of_getElem? h1))
  gens := hg.trans x.gens
  os := ho.trans x.os

theorem none_of_size {h : Heap} : h.get? h.objs.size = none := by
  cases e : h.get? h.objs.size with
  | none => rfl
  | some o => exact absurd (Heap.lt_size e) (Nat.lt_irrefl _)

theorem Step.push {X : Addr → Prop} {ρ : List Addr} {h : Heap} (o : Obj) : Step X ρ h ρ (h.push o) :=
  ⟨⟨[], by simp, by simp⟩, fun b o' e _ _ => Heap.get?_push_of_some _ e, fun b e => by
    cases q : h.get? b with
    | none => rfl
    | some o' => rw [Heap.get?_push_of_some o q] at e; cases e⟩

theorem Sim.push (x : Sim B av ρ σ s) (o : Obj) : Sim B av ρ σ { s with heap := s.heap.push o } :=
  x.same (X := noX) (Step.push o) ((Step.push (X := noX) (ρ := ρ) o).kpNo av) (fun a ha => by obtain ⟨ob, e⟩ := x.live a ha; exact (Heap.get?_push_of_some o e).trans e.symm) (fun _ h => h.elim) rfl rfl

/-- a new object of the store -/
theorem Sim.alloc (x : Sim B av ρ σ s) {o : Obj} {ao : AObj} (hf : o.isFreed = false)
    (hr : Rep B.prog B.w (ρ ++ [s.heap.objs.size]) av (s.heap.push o) s.heap.objs.size ao) : Sim B av (ρ ++ [s.heap.objs.size]) (σ ++ [ao]) { s with heap := s.heap.push o } := by
  have nb : ∀ b o', s.heap.get? b = some o' → b ≠ s.heap.objs.size := fun b o' e h => by rw [h, none_of_size] at e; cases e
  have y := x.push o
  have st : Step noX ρ s.heap (ρ ++ [s.heap.objs.size]) (s.heap.push o) := ⟨⟨_, rfl, fun a ha => by rw [List.mem_singleton.mp ha]; exact none_of_size⟩, (Step.push (X := noX) (ρ := ρ) o).keep, (Step.push (X := noX) (ρ := ρ) o).live⟩
  refine ⟨x.ok, y.keep, fun a ha => ?_, fun a ha => ⟨(x.avoid a ha).1, (y.avoid a ha).2.1, fun hm => ?_⟩, fun a ha => ?_, ?_, by simp [x.len], fun l a ob h1 h2 => ?_, y.gens, y.os⟩
  · rcases List.mem_append.mp ha with ha | ha
    · exact x.fresh a ha
    · rw [List.mem_singleton.mp ha]
      cases e : B.h₀.get? s.heap.objs.size with
      | none => rfl
      | some o' => exact absurd rfl (nb _ _ (x.keep _ _ e))
  · obtain ⟨_, ⟨o', ho'⟩, h3⟩ := x.avoid a ha
    rcases List.mem_append.mp hm with hm | hm
    · exact h3 hm
    · exact nb _ _ ho' (List.mem_singleton.mp hm)
  · rcases List.mem_append.mp ha with ha | ha
    · exact x.big a ha
    · rw [List.mem_singleton.mp ha]
      obtain ⟨og, _, _, hog, _⟩ := x.ok.g
      exact Heap.lt_size (x.keep _ _ hog)
  · rw [List.nodup_append]
    refine ⟨x.nodup, by simp, fun a ha b hb => ?_⟩
    obtain ⟨o', ho'⟩ := x.live a ha
    rw [List.mem_singleton.mp hb]
    exact nb _ _ ho'
  · by_cases hl : l < ρ.length
    · rw [List.getElem?_append_left hl] at h1
      rw [List.getElem?_append_left (by rw [← x.len]; exact hl)] at h2
      obtain ⟨o', ho'⟩ := x.live a (List.mem_of_getElem? h1)
      exact (x.rep l a ob h1 h2).keep (st.kpNo av) ((Heap.get?_push_of_some o ho').trans ho'.symm)
    · have hl' : l = ρ.length := by
        have := (List.getElem?_eq_some_iff.mp h1).1
        simp at this; omega
      subst hl'
      rw [List.getElem?_append_right (Nat.le_refl _)] at h1
      rw [x.len, List.getElem?_append_right (Nat.le_refl _)] at h2
      simp at h1 h2
      subst h1 h2
      exact hr

theorem Step.alloc {X : Addr → Prop} {ρ : List Addr} {h : Heap} (o : Obj) : Step X ρ h (ρ ++ [h.objs.size]) (h.push o) :=
  ⟨⟨_, rfl, fun a ha => by rw [List.mem_singleton.mp ha]; exact none_of_size⟩, (Step.push o).keep, (Step.push (X := X) (ρ := ρ) o).live⟩

/-- an object of the store changes -/
theorem Step.sameBut {X : Addr → Prop} {ρ : List Addr} {h h' : Heap} {a : Addr} {o' : Obj} (hm : a ∈ ρ ∨ X a) (hs : Heap.SameBut a h h') (ho : h'.get? a = some o') : Step X ρ h ρ h' :=
  ⟨⟨[], by simp, by simp⟩, fun b o e r x => (hs.2 b fun e => by subst e; exact hm.elim r x).trans e, fun b e => by
    by_cases hb : b = a
    · subst hb; rw [ho] at e; cases e
    · exact (hs.2 b hb).symm.trans e⟩

theorem Sim.update (x : Sim B av ρ σ s) {l : Nat} {a : Addr} {ao : AObj} {h' : Heap} {o' : Obj} (hl : ρ[l]? = some a) (hs : Heap.SameBut a s.heap h') (ho : h'.get? a = some o')
    (hr : Rep B.prog B.w ρ av h' a ao) (tk : Nat) : Sim B av ρ (σ.set l ao) { s with heap := h', toks := tk } := by
  have hm := List.mem_of_getElem? hl
  have st : Step noX ρ s.heap ρ h' := Step.sameBut (.inl hm) hs ho
  refine ⟨x.ok, fun b o e => (hs.2 b fun q => ?_).trans (x.keep b o e), x.fresh, fun b hb => ⟨(x.avoid b hb).1, ?_, (x.avoid b hb).2.2⟩, x.big, x.nodup, by simp [x.len], fun k b ob h1 h2 => ?_, x.gens, x.os⟩
  · rw [q] at e; rw [x.fresh a hm] at e; cases e
  · obtain ⟨o, e⟩ := (x.avoid b hb).2.1
    refine ⟨o, (hs.2 b fun q => (x.avoid b hb).2.2 (q ▸ hm)).trans e⟩
  · by_cases hk : k = l
    · subst hk
      rw [hl] at h1
      cases h1
      have : k < σ.length := by rw [← x.len]; exact (List.getElem?_eq_some_iff.mp hl).1
      rw [List.getElem?_set_self this] at h2
      cases h2
      exact hr
    · rw [List.getElem?_set_ne (Ne.symm hk)] at h2
      refine (x.rep k b ob h1 h2).keep (st.kpNo av) (hs.2 b fun q => hk ?_)
      exact (List.getElem?_inj (List.getElem?_eq_some_iff.mp h1).1 x.nodup).mp (h1.trans (q ▸ hl.symm))
end

/-- a frame -/
structure Cx where
  env : Env
  A : Around
  own : List (Str × Addr)
  room : Nat

noncomputable def Cx.X (C : Cx) : Addr → Prop := fun b => b = C.env.locals ∨ ∃ x, C.own.lookup x = some b

structure CxOk (B : Base) (C : Cx) : Prop where
  kind : C.env.scope.kind = .function
  globals : C.env.globals = mainGlobals
  builtins : C.env.builtins = builtinsNs
  apart : C.env.cells.Pairwise fun x y => x.2 ≠ y.2
  own : ∀ x c, C.own.lookup x = some c → C.env.cells.lookup x = some c
  handled : C.A.handled = none
  depth : C.A.depth + 2 * C.room ≤ 600
  units : C.A.units + 8 * C.room ≤ 9000

/-- what a name stands for -/
noncomputable def NameRel (B : Base) (C : Cx) (av ρ : List Addr) (h : Heap) (x : Str) (a : AVal) : Prop :=
  ∃ c, VRel ρ av h a c ∧
    ((C.env.kindOf x = some .local ∧ ∃ m, h.Ns C.env.locals m ∧ m x = some c) ∨
     (C.env.kindOf x = some .cell ∧ ∃ k, C.env.cells.lookup x = some k ∧ h.IsCell k (some c)) ∨
     (C.env.kindOf x = some .globalImplicit ∧ (B.mg x = some c ∨ (B.mg x = none ∧ B.mb x = some c))))

structure FrameOk (B : Base) (C : Cx) (av ρ : List Addr) (l : Loc) (h : Heap) : Prop where
  cx : CxOk B C
  ns : ∃ m, h.Ns C.env.locals m
  lρ : C.env.locals ∉ ρ
  lbase : B.h₀.get? C.env.locals = none
  cells : ∀ x c, C.env.cells.lookup x = some c → (∃ v, h.IsCell c v) ∧ c ∉ ρ ∧ B.h₀.get? c = none
  names : ∀ x a, l.lookup x = some a → NameRel B C av ρ h x a

section
variable {B : Base} {C : Cx} {av ρ ρ' : List Addr} {l : Loc} {h h' : Heap} {σ : Store} {s : Shared}

theorem FrameOk.nonseq (f : FrameOk B C av ρ l h) : ∀ b o xs n, C.X b → h.get? b = some o → o.data = .seq xs n → b ∈ av := by
  intro b o xs n hX ho hd
  rcases hX with rfl | ⟨x, hx⟩
  · obtain ⟨m, o', es, ep, ho', hd', _⟩ := f.ns
    rw [ho] at ho'; cases ho'; rw [hd] at hd'; cases hd'
  · obtain ⟨⟨v, o', ho', hd'⟩, _⟩ := f.cells x b (f.cx.own x b hx)
    rw [ho] at ho'; cases ho'; rw [hd] at hd'; cases hd'

theorem FrameOk.Xbase (f : FrameOk B C av ρ l h) : ∀ b, C.X b → B.h₀.get? b = none := by
  intro b hX
  rcases hX with rfl | ⟨x, hx⟩
  · exact f.lbase
  · exact (f.cells x b (f.cx.own x b hx)).2.2

theorem FrameOk.Xρ (f : FrameOk B C av ρ l h) : ∀ b, C.X b → b ∉ ρ := by
  intro b hX
  rcases hX with rfl | ⟨x, hx⟩
  · exact f.lρ
  · exact (f.cells x b (f.cx.own x b hx)).2.1

theorem FrameOk.kp (f : FrameOk B C av ρ l h) (x : Sim B av ρ σ s) (hs : s.heap = h) (st : Step C.X ρ h ρ' h') : Kp ρ av h ρ' av h' :=
  st.kp f.nonseq fun b hb => by obtain ⟨o, ho⟩ := (x.avoid b hb).2.1; rw [← hs, ho]; rfl

theorem Heap.Ns.toIt {h h' : Heap} {a : Addr} {m : Str → Option Value} (x : h.Ns a m) (e : ∀ o, h.get? a = some o → h'.get? a = some o) : h'.Ns a m :=
  let ⟨o, es, ep, ho, r⟩ := x; ⟨o, es, ep, e o ho, r⟩
theorem Heap.IsCell.toIt {h h' : Heap} {a : Addr} {m : Option Value} (x : h.IsCell a m) (e : ∀ o, h.get? a = some o → h'.get? a = some o) : h'.IsCell a m :=
  let ⟨o, ho, r⟩ := x; ⟨o, e o ho, r⟩

theorem not_mem_ext {h : Heap} {a : Addr} {o : Obj} (st : Step noX ρ h ρ' h') (ho : h.get? a = some o) (hr : a ∉ ρ) : a ∉ ρ' := by
  obtain ⟨e, rfl, f⟩ := st.ext
  intro hm
  rcases List.mem_append.mp hm with hm | hm
  · exact hr hm
  · rw [f a hm] at ho; cases ho

/-- the frame behind a step that leaves it -/
theorem FrameOk.step (f : FrameOk B C av ρ l h) (st : Step noX ρ h ρ' h') : FrameOk B C av ρ' l h' := by
  have kp := st.kpNo av
  obtain ⟨m, hn⟩ := f.ns
  have hL : ∃ o, h.get? C.env.locals = some o := let ⟨o, _, _, ho, _⟩ := hn; ⟨o, ho⟩
  obtain ⟨oL, hoL⟩ := hL
  have keepL : ∀ o, h.get? C.env.locals = some o → h'.get? C.env.locals = some o := fun o ho => st.keep _ o ho f.lρ fun x => x
  have keepC : ∀ x c, C.env.cells.lookup x = some c → ∀ o, h.get? c = some o → h'.get? c = some o := fun x c hp o ho => st.keep _ o ho (f.cells x c hp).2.1 fun x => x
  refine ⟨f.cx, ⟨m, Heap.Ns.toIt hn keepL⟩, not_mem_ext st hoL f.lρ, f.lbase, fun y c hp => ?_, fun x a hx => ?_⟩
  · obtain ⟨⟨v, hc⟩, hr, hb⟩ := f.cells y c hp
    obtain ⟨o, ho, hd⟩ := id hc
    exact ⟨⟨v, Heap.IsCell.toIt hc (keepC y c hp)⟩, not_mem_ext st ho hr, hb⟩
  · obtain ⟨c, hv, hk⟩ := f.names x a hx
    refine ⟨c, hv.mono kp, ?_⟩
    rcases hk with ⟨e, m', hn', hm'⟩ | ⟨e, k, hk, hc⟩ | hg
    · exact .inl ⟨e, m', Heap.Ns.toIt hn' keepL, hm'⟩
    · exact .inr (.inl ⟨e, k, hk, Heap.IsCell.toIt hc (keepC x k hk)⟩)
    · exact .inr (.inr hg)
end

/-! judgements -/
section
variable (B : Base) (C : Cx)

/-- what holds behind a piece of the run -/
noncomputable def Pst {α γ : Type} (av : List Addr) (X : Addr → Prop) (ρ : List Addr) (h : Heap) (rel : List Addr → List Addr → Heap → γ → α → Prop) (Q : γ → Store → Prop) : α → Shared → Prop :=
  fun c s' => ∃ ρ' σ' a, Step X ρ h ρ' s'.heap ∧ Sim B av ρ' σ' s' ∧ rel ρ' av s'.heap a c ∧ Q a σ'

noncomputable def noE : Value → Shared → Prop := fun _ _ => False

noncomputable def W {α γ : Type} (rel : List Addr → List Addr → Heap → γ → α → Prop) (t : Sem α) (l : Loc) (σ : Store) (Q : γ → Store → Prop) : Prop :=
  ∀ av ρ s, Sim B av ρ σ s → FrameOk B C av ρ l s.heap → wpAny (model B.prog B.w) C.A t (Pst B av noX ρ s.heap rel Q) noE s

abbrev WV := W B C VRel
noncomputable def BRel : List Addr → List Addr → Heap → Bool → Bool → Prop := fun _ _ _ a c => a = c
abbrev WB := W B C BRel
abbrev WL := W B C IRel

/-- an operation upon values -/
noncomputable def O1 (t : Value → Sem Value) (a : AVal) (σ : Store) (Q : AVal → Store → Prop) : Prop :=
  ∀ av ρ s c, Sim B av ρ σ s → CxOk B C → VRel ρ av s.heap a c → wpAny (model B.prog B.w) C.A (t c) (Pst B av noX ρ s.heap VRel Q) noE s
noncomputable def O2 (t : Value → Value → Sem Value) (a b : AVal) (σ : Store) (Q : AVal → Store → Prop) : Prop :=
  ∀ av ρ s c d, Sim B av ρ σ s → CxOk B C → VRel ρ av s.heap a c → VRel ρ av s.heap b d → wpAny (model B.prog B.w) C.A (t c d) (Pst B av noX ρ s.heap VRel Q) noE s
/-- a call with arguments -/
noncomputable def OC (t : List Value → Sem Value) (as : AVal) (σ : Store) (Q : AVal → Store → Prop) : Prop :=
  ∀ av ρ s cs, Sim B av ρ σ s → CxOk B C → IRel ρ av s.heap as cs → wpAny (model B.prog B.w) C.A (t cs) (Pst B av noX ρ s.heap VRel Q) noE s
noncomputable def OB (t : Value → Sem Bool) (a : AVal) (σ : Store) (Q : Bool → Store → Prop) : Prop :=
  ∀ av ρ s c, Sim B av ρ σ s → CxOk B C → VRel ρ av s.heap a c → wpAny (model B.prog B.w) C.A (t c) (Pst B av noX ρ s.heap BRel Q) noE s

/-- statements -/
noncomputable def FlowOk (av ρ' : List Addr) (σ' : Store) (s' : Shared) (Qn : Loc → Store → Prop) (Qr : AVal → Store → Prop) : Flow → Prop
  | .next => ∃ l', FrameOk B C av ρ' l' s'.heap ∧ Qn l' σ'
  | .ret c => ∃ a, VRel ρ' av s'.heap a c ∧ Qr a σ'
  | _ => False

noncomputable def WS (t : Sem Flow) (l : Loc) (σ : Store) (Qn : Loc → Store → Prop) (Qr : AVal → Store → Prop) : Prop :=
  ∀ av ρ s, Sim B av ρ σ s → FrameOk B C av ρ l s.heap → wpAny (model B.prog B.w) C.A t
    (fun f s' => ∃ ρ' σ', Step C.X ρ s.heap ρ' s'.heap ∧ Sim B av ρ' σ' s' ∧ FlowOk B C av ρ' σ' s' Qn Qr f) noE s

/-- a target takes a value -/
noncomputable def WA (t : Value → Sem Unit) (a : AVal) (l : Loc) (σ : Store) (Q : Loc → Store → Prop) : Prop :=
  ∀ av ρ s c, Sim B av ρ σ s → FrameOk B C av ρ l s.heap → VRel ρ av s.heap a c → wpAny (model B.prog B.w) C.A (t c)
    (fun _ s' => ∃ ρ' σ' l', Step C.X ρ s.heap ρ' s'.heap ∧ Sim B av ρ' σ' s' ∧ FrameOk B C av ρ' l' s'.heap ∧ Q l' σ') noE s
end

section
variable {B : Base} {C : Cx} {l : Loc} {σ : Store}

theorem Pst.after {α γ : Type} {av ρ ρ₁ : List Addr} {h h₁ : Heap} {X : Addr → Prop} {rel : List Addr → List Addr → Heap → γ → α → Prop} {Q : γ → Store → Prop} {c : α} {s' : Shared}
    (st : Step X ρ h ρ₁ h₁) (x : Pst B av X ρ₁ h₁ rel Q c s') : Pst B av X ρ h rel Q c s' := by
  obtain ⟨ρ', σ', a, st', r⟩ := x
  exact ⟨ρ', σ', a, st.trans st', r⟩

theorem Pst.here {α γ : Type} {av ρ : List Addr} {X : Addr → Prop} {rel : List Addr → List Addr → Heap → γ → α → Prop} {Q : γ → Store → Prop} {c : α} {s : Shared} {a : γ}
    (x : Sim B av ρ σ s) (r : rel ρ av s.heap a c) (q : Q a σ) : Pst B av X ρ s.heap rel Q c s := ⟨ρ, σ, a, Step.refl _ _ _, x, r, q⟩

theorem wp_cont {α γ : Type} {av ρ : List Addr} {h : Heap} {X : Addr → Prop} {rel : List Addr → List Addr → Heap → γ → α → Prop} {Q : γ → Store → Prop} {t : Sem α} {s : Shared} {A : Around} {M : Model} {R : α → Shared → Prop}
    (h1 : wpAny M A t (Pst B av X ρ h rel Q) noE s)
    (h2 : ∀ c s₁ ρ₁ σ₁ a, Step X ρ h ρ₁ s₁.heap → Sim B av ρ₁ σ₁ s₁ → rel ρ₁ av s₁.heap a c → Q a σ₁ → R c s₁) : wpAny M A t R noE s :=
  wpAny_mono h1 (fun c s₁ ⟨ρ₁, σ₁, a, st, x, r, q⟩ => h2 c s₁ ρ₁ σ₁ a st x r q) fun _ _ e => e

theorem wp_after {α γ : Type} {av ρ ρ₁ : List Addr} {h h₁ : Heap} {X : Addr → Prop} {rel : List Addr → List Addr → Heap → γ → α → Prop} {Q : γ → Store → Prop} {t : Sem α} {s : Shared} {A : Around} {M : Model}
    (st : Step X ρ h ρ₁ h₁) (h1 : wpAny M A t (Pst B av X ρ₁ h₁ rel Q) noE s) : wpAny M A t (Pst B av X ρ h rel Q) noE s :=
  wpAny_mono h1 (fun _ _ p => p.after st) fun _ _ e => e

/-! expressions -/
theorem r_int {i k pos} {Q : AVal → Store → Prop} (h : Q (.int i) σ) : WV B C (eval (.Constant (.int i) k pos) C.env) l σ Q :=
  fun av ρ s x _ => wpAny_Constant_int ⟨ρ, σ, .int i, Step.refl _ _ _, x.tok _, by simp only [VRel]; exact ⟨_, rfl⟩, h⟩
theorem r_str {i k pos} {Q : AVal → Store → Prop} (h : Q (.str i) σ) : WV B C (eval (.Constant (.str i) k pos) C.env) l σ Q :=
  fun av ρ s x _ => wpAny_Constant_str ⟨ρ, σ, .str i, Step.refl _ _ _, x.tok _, by simp only [VRel]; exact ⟨_, rfl⟩, h⟩
theorem r_bool {i k pos} {Q : AVal → Store → Prop} (h : Q (.bool i) σ) : WV B C (eval (.Constant (.bool i) k pos) C.env) l σ Q :=
  fun av ρ s x _ => wpAny_Constant_bool (Pst.here x (by simp only [VRel]) h)
theorem r_none {k pos} {Q : AVal → Store → Prop} (h : Q .none σ) : WV B C (eval (.Constant .none k pos) C.env) l σ Q :=
  fun av ρ s x _ => wpAny_Constant_none (Pst.here x (by simp only [VRel]) h)

theorem r_name {x : Str} {pos : Pos} {a : AVal} {Q : AVal → Store → Prop} (hx : l.lookup x = some a) (h : Q a σ) (hd : (x == ("__debug__" : Str)) = false := by rfl) :
    WV B C (eval (.Name x pos) C.env) l σ Q := by
  intro av ρ s y f
  obtain ⟨c, hv, hk⟩ := f.names x a hx
  have g := Pst.here (X := noX) (Q := Q) y hv h
  rcases hk with ⟨e, m, hn, hm⟩ | ⟨e, k, hk, hc⟩ | ⟨e, hg⟩
  · exact wpAny_Name (wpAny_loadName_local f.cx.kind e hn hm g) hd
  · exact wpAny_Name (wpAny_loadName_cell f.cx.kind e hk hc g) hd
  · have G := y.ok.g.keeps y.keep
    have Bn := y.ok.b.keeps y.keep
    rw [← f.cx.globals] at G
    rw [← f.cx.builtins] at Bn
    rcases hg with hg | ⟨h1, h2⟩
    · exact Name_function_global f.cx.kind e (loadGlobal_global (env := C.env) G hg g) hd
    · exact Name_function_global f.cx.kind e (loadGlobal_builtin (env := C.env) G h1 Bn h2 g) hd

theorem r_BinOp {e₁ e₂ : Expr} {op pos} {Q : AVal → Store → Prop}
    (h : WV B C (eval e₁ C.env) l σ fun a σ₁ => WV B C (eval e₂ C.env) l σ₁ fun b σ₂ => O2 B C (binaryOp op) a b σ₂ Q) : WV B C (eval (.BinOp e₁ op e₂ pos) C.env) l σ Q := by
  intro av ρ s x f
  refine wpAny_BinOp (wp_cont (h av ρ s x f) fun c s₁ ρ₁ σ₁ a st x₁ r₁ q₁ => ?_)
  refine wp_cont (q₁ av ρ₁ s₁ x₁ (f.step st)) fun d s₂ ρ₂ σ₂ b st₂ x₂ r₂ q₂ => ?_
  exact wp_after (st.trans st₂) (q₂ av ρ₂ s₂ c d x₂ f.cx (r₁.mono (st₂.kpNo av)) r₂)

theorem r_UnaryOp {e : Expr} {op pos} {Q : AVal → Store → Prop} (h : WV B C (eval e C.env) l σ fun a σ₁ => O1 B C (unaryOp op) a σ₁ Q) : WV B C (eval (.UnaryOp op e pos) C.env) l σ Q := by
  intro av ρ s x f
  refine wpAny_UnaryOp (wp_cont (h av ρ s x f) fun c s₁ ρ₁ σ₁ a st x₁ r₁ q₁ => ?_)
  exact wp_after st (q₁ av ρ₁ s₁ c x₁ f.cx r₁)
end
section
variable {B : Base} {C : Cx} {l : Loc} {σ : Store}
theorem W.mono {α γ : Type} {rel : List Addr → List Addr → Heap → γ → α → Prop} {t : Sem α} {Q Q' : γ → Store → Prop} (h : W B C rel t l σ Q) (hq : ∀ a σ', Q a σ' → Q' a σ') : W B C rel t l σ Q' := fun av ρ s x f =>
  wpAny_mono (h av ρ s x f) (fun _ _ y => y.elim fun ρ₁ y => y.elim fun σ₁ y => y.elim fun a y => ⟨ρ₁, σ₁, a, y.1, y.2.1, y.2.2.1, hq a σ₁ y.2.2.2⟩) fun _ _ e => e
theorem WA.mono {t : Value → Sem Unit} {a : AVal} {Q Q' : Loc → Store → Prop} (h : WA B C t a l σ Q) (hq : ∀ l' σ', Q l' σ' → Q' l' σ') : WA B C t a l σ Q' := fun av ρ s c x f r =>
  wpAny_mono (h av ρ s c x f r) (fun _ _ y => y.elim fun ρ₁ y => y.elim fun σ₁ y => y.elim fun l₁ y => ⟨ρ₁, σ₁, l₁, y.1, y.2.1, y.2.2.1, hq l₁ σ₁ y.2.2.2⟩) fun _ _ e => e
end

noncomputable def alen : AVal → Nat
  | .cons _ xs => alen xs + 1
  | _ => 0
noncomputable def aget : AVal → Nat → Option AVal
  | .cons x _, 0 => some x
  | .cons _ xs, n + 1 => aget xs n
  | _, _ => none
noncomputable def isT : AVal → Bool
  | .nil => true
  | .cons _ _ => true
  | _ => false

section
variable {ρ av : List Addr} {h : Heap}
theorem IRel.isT : ∀ {a : AVal} {vs : List Value}, IRel ρ av h a vs → isT a = true
  | .nil, _, _ => rfl
  | .cons _ _, _, _ => rfl
  | .none, _, x | .bool _, _, x | .int _, _, x | .str _, _, x | .lst _, _, x | .loc _, _, x | .con _, _, x => by simp only [IRel] at x
theorem IRel.length : ∀ {a : AVal} {vs : List Value}, IRel ρ av h a vs → vs.length = alen a := by
  intro a
  induction a with
  | nil => intro vs x; simp only [IRel] at x; subst x; rfl
  | cons x xs _ ih => intro vs y; simp only [IRel] at y; obtain ⟨v, r, rfl, _, hs⟩ := y; simp [alen, ih hs]
  | _ => intro vs x; simp only [IRel] at x
theorem IRel.get : ∀ {a : AVal} {vs : List Value} {i : Nat} {x : AVal}, IRel ρ av h a vs → aget a i = some x → ∃ v, vs[i]? = some v ∧ VRel ρ av h x v := by
  intro a
  induction a with
  | cons x xs _ ih =>
    intro vs i y r e
    simp only [IRel] at r
    obtain ⟨v, r, rfl, hv, hs⟩ := r
    cases i with
    | zero => simp only [aget, Option.some.injEq] at e; subst e; exact ⟨v, rfl, hv⟩
    | succ i => simp only [aget] at e; simpa using ih hs e
  | _ => intro vs i y r e; simp [aget] at e
theorem VRel.tup {a : AVal} {c : Value} (ha : Mine.isT a = true) (x : VRel ρ av h a c) : ∃ ad vs, c = .ref ad ∧ ad ∉ ρ ∧ ad ∉ av ∧ TupAt h ad (vs : List Value).toArray ∧ IRel ρ av h a vs := by
  cases a with
  | nil =>
    simp only [VRel] at x
    obtain ⟨a, rfl, r, v, t⟩ := x
    exact ⟨a, [], rfl, r, v, t, by simp only [IRel]⟩
  | cons y ys =>
    simp only [VRel] at x
    obtain ⟨a, v, vs, rfl, r, va, t, hv, hs⟩ := x
    exact ⟨a, v :: vs, rfl, r, va, t, by simp only [IRel]; exact ⟨v, vs, rfl, hv, hs⟩⟩
  | _ => cases ha
theorem VRel.ofTup : ∀ {a : AVal} {ad : Addr} {vs : List Value}, ad ∉ ρ → ad ∉ av → TupAt h ad vs.toArray → IRel ρ av h a vs → VRel ρ av h a (.ref ad)
  | .nil, ad, vs, r, v, t, i => by simp only [IRel] at i; subst i; simp only [VRel]; exact ⟨ad, rfl, r, v, t⟩
  | .cons y ys, ad, vs, r, va, t, i => by
    simp only [IRel] at i
    obtain ⟨v, rs, rfl, hv, hs⟩ := i
    simp only [VRel]; exact ⟨ad, v, rs, rfl, r, va, t, hv, hs⟩
  | .none, _, _, _, _, _, x | .bool _, _, _, _, _, _, x | .int _, _, _, _, _, _, x | .str _, _, _, _, _, _, x | .lst _, _, _, _, _, _, x | .loc _, _, _, _, _, _, x | .con _, _, _, _, _, _, x => by simp only [IRel] at x
end

section
variable {B : Base} {C : Cx} {av ρ : List Addr} {l : Loc} {σ : Store} {s : Shared}

theorem Step.ofKeep {X : Addr → Prop} {ρ : List Addr} {h h' : Heap} (k : ∀ b o, h.get? b = some o → h'.get? b = some o) : Step X ρ h ρ h' :=
  ⟨⟨[], by simp, by simp⟩, fun b o e _ _ => k b o e, fun b e => by
    cases q : h.get? b with
    | none => rfl
    | some o => rw [k b o q] at e; cases e⟩
theorem Sim.kept (x : Sim B av ρ σ s) {h' : Heap} (k : ∀ b o, s.heap.get? b = some o → h'.get? b = some o) (t : Nat) : Sim B av ρ σ { s with heap := h', toks := t } :=
  x.same (X := noX) (Step.ofKeep k) ((Step.ofKeep (X := noX) (ρ := ρ) k).kpNo av) (fun a ha => by obtain ⟨o, e⟩ := x.live a ha; exact (k a o e).trans e.symm) (fun _ h => h.elim) rfl rfl
theorem ext_keep {h h' : Heap} (x : Heap.ExtBut h.objs.size h h') : ∀ b o, h.get? b = some o → h'.get? b = some o := fun b o e => x b o (fun q => by rw [q, none_of_size] at e; cases e) e

theorem size_not_av (x : Sim B av ρ σ s) : s.heap.objs.size ∉ av := fun hm => by obtain ⟨o, e⟩ := (x.avoid _ hm).2.1; rw [none_of_size] at e; cases e
theorem size_not_ρ (x : Sim B av ρ σ s) : s.heap.objs.size ∉ ρ := fun hm => by obtain ⟨o, e⟩ := x.live _ hm; rw [none_of_size] at e; cases e

/-- a new tuple -/
theorem newTuple_W {as : AVal} {vs : List Value} {Q : AVal → Store → Prop} {A : Around} {M : Model} (x : Sim B av ρ σ s) (r : IRel ρ av s.heap as vs) (hl : alen as ≤ 1000000) (h : Q as σ) :
    wpAny M A (newTuple vs) (Pst B av noX ρ s.heap VRel Q) noE s := by
  refine wpAny_newTuple ⟨ρ, σ, as, Step.push _, x.push _, ?_, h⟩ (by rw [r.length, sizeLine_eq]; omega)
  exact VRel.ofTup (size_not_ρ x) (size_not_av x) ⟨0, Heap.get?_push_size _ rfl⟩ (r.mono ((Step.push (X := noX) (ρ := ρ) _).kpNo av))
theorem newList_W {as : AVal} {vs : List Value} {Q : AVal → Store → Prop} {A : Around} {M : Model} (x : Sim B av ρ σ s) (r : IRel ρ av s.heap as vs) (hl : alen as ≤ 1000000) (h : Q (.lst as) σ) :
    wpAny M A (newList vs) (Pst B av noX ρ s.heap VRel Q) noE s := by
  refine wpAny_newList ⟨ρ, σ, .lst as, Step.push _, x.push _, ?_, h⟩ (by rw [r.length, sizeLine_eq]; omega)
  simp only [VRel]
  exact ⟨_, vs, rfl, size_not_ρ x, size_not_av x, ⟨0, Heap.get?_push_size _ rfl⟩, r.mono ((Step.push (X := noX) (ρ := ρ) _).kpNo av)⟩
theorem newList_M {as : AVal} {vs : List Value} {Q : AVal → Store → Prop} {A : Around} {M : Model} (x : Sim B av ρ σ s) (r : IRel ρ av s.heap as vs) (hl : alen as ≤ 1000000) (h : Q (.loc σ.length) (σ ++ [.list as])) :
    wpAny M A (newList vs) (Pst B av noX ρ s.heap VRel Q) noE s := by
  refine wpAny_newList ⟨ρ ++ [s.heap.objs.size], σ ++ [.list as], .loc σ.length, Step.alloc _, x.alloc (ao := .list as) rfl ⟨vs, ⟨0, Heap.get?_push_size _ rfl⟩, r.mono ((Step.alloc (X := noX) (ρ := ρ) _).kpNo av)⟩, ?_, h⟩ (by rw [r.length, sizeLine_eq]; omega)
  simp only [VRel]
  exact ⟨_, rfl, by rw [← x.len, List.getElem?_append_right (Nat.le_refl _)]; simp⟩

/-! expressions -/
theorem r_nil {pos : Pos} {Q : AVal → Store → Prop} (h : Q .nil σ) : WL B C (spliced (backTo pos (starEach [] C.env))) l σ Q :=
  fun av ρ s x _ => args_nil (Pst.here x (by simp [IRel]) h)
theorem r_cons {e : Expr} {rest : List Expr} {pos : Pos} {Q : AVal → Store → Prop}
    (h : WV B C (eval e C.env) l σ fun a σ₁ => WL B C (spliced (backTo pos (starEach rest C.env))) l σ₁ fun as σ₂ => Q (.cons a as) σ₂)
    (he : starEach (e :: rest) C.env = (false, eval e C.env) :: starEach rest C.env := by rfl) : WL B C (spliced (backTo pos (starEach (e :: rest) C.env))) l σ Q := by
  intro av ρ s x f
  refine args_cons (wp_cont (h av ρ s x f) fun c s₁ ρ₁ σ₁ a st x₁ r₁ q₁ => ?_) he
  refine wp_cont (q₁ av ρ₁ s₁ x₁ (f.step st)) fun cs s₂ ρ₂ σ₂ as st₂ x₂ r₂ q₂ => ?_
  exact ⟨ρ₂, σ₂, .cons a as, st.trans st₂, x₂, by simp only [IRel]; exact ⟨c, cs, rfl, r₁.mono (st₂.kpNo av), r₂⟩, q₂⟩

theorem r_Tuple {es : List Expr} {k pos} {Q : AVal → Store → Prop} (h : WL B C (spliced (backTo pos (starEach es C.env))) l σ fun as σ₁ => alen as ≤ 1000000 ∧ Q as σ₁) :
    WV B C (eval (.Tuple es k pos) C.env) l σ Q := by
  intro av ρ s x f
  refine Tuple_ (wp_cont (h av ρ s x f) fun cs s₁ ρ₁ σ₁ as st x₁ r₁ q₁ => ?_)
  exact wp_after st (newTuple_W x₁ r₁ q₁.1 q₁.2)
/-- a list that stays as it is -/
theorem r_List {es : List Expr} {pos} {Q : AVal → Store → Prop} (h : WL B C (spliced (backTo pos (starEach es C.env))) l σ fun as σ₁ => alen as ≤ 1000000 ∧ Q (.lst as) σ₁) :
    WV B C (eval (.List es pos) C.env) l σ Q := by
  intro av ρ s x f
  refine List_ (wp_cont (h av ρ s x f) fun cs s₁ ρ₁ σ₁ as st x₁ r₁ q₁ => ?_)
  exact wp_after st (newList_W x₁ r₁ q₁.1 q₁.2)
/-- a list of the store -/
theorem r_ListM {es : List Expr} {pos} {Q : AVal → Store → Prop} (h : WL B C (spliced (backTo pos (starEach es C.env))) l σ fun as σ₁ => alen as ≤ 1000000 ∧ Q (.loc σ₁.length) (σ₁ ++ [.list as])) :
    WV B C (eval (.List es pos) C.env) l σ Q := by
  intro av ρ s x f
  refine List_ (wp_cont (h av ρ s x f) fun cs s₁ ρ₁ σ₁ as st x₁ r₁ q₁ => ?_)
  exact wp_after st (newList_M x₁ r₁ q₁.1 q₁.2)

theorem r_Compare {e₁ e₂ : Expr} {op pos} {Q : AVal → Store → Prop}
    (h : WV B C (eval e₁ C.env) l σ fun a σ₁ => WV B C (eval e₂ C.env) l σ₁ fun b σ₂ => O2 B C (compareOp op) a b σ₂ Q) (hm : behindInMarks op e₂ = false := by with_unfolding_all rfl) :
    WV B C (eval (.Compare e₁ [op] [e₂] pos) C.env) l σ Q := by
  intro av ρ s x f
  refine wpAny_Compare1 (wp_cont (h av ρ s x f) fun c s₁ ρ₁ σ₁ a st x₁ r₁ q₁ => ?_) hm
  refine wp_cont (q₁ av ρ₁ s₁ x₁ (f.step st)) fun d s₂ ρ₂ σ₂ b st₂ x₂ r₂ q₂ => ?_
  exact wp_after (st.trans st₂) (q₂ av ρ₂ s₂ c d x₂ f.cx (r₁.mono (st₂.kpNo av)) r₂)

theorem o_truthy_bool {b : Bool} {Q : Bool → Store → Prop} (h : Q b σ) : OB B C truthy (.bool b) σ Q := by
  intro av ρ s c x _ r
  simp only [VRel] at r; subst r
  exact wpAny_truthy_bool (Pst.here x rfl h)

theorem t_Compare {e₁ e₂ : Expr} {op pos whole} {Q : Bool → Store → Prop}
    (h : WV B C (eval e₁ C.env) l σ fun a σ₁ => WV B C (eval e₂ C.env) l σ₁ fun b σ₂ => O2 B C (compareOp op) a b σ₂ fun r σ₃ => ∃ t, r = .bool t ∧ Q t σ₃) (hm : behindInMarks op e₂ = false := by with_unfolding_all rfl) :
    WB B C (isTrue (.Compare e₁ [op] [e₂] pos) C.env whole) l σ Q := by
  intro av ρ s x f
  refine wpAny_isTrue_Compare1 (wp_cont (h av ρ s x f) fun c s₁ ρ₁ σ₁ a st x₁ r₁ q₁ => ?_) hm
  refine wp_cont (q₁ av ρ₁ s₁ x₁ (f.step st)) fun d s₂ ρ₂ σ₂ b st₂ x₂ r₂ q₂ => ?_
  refine wp_cont (q₂ av ρ₂ s₂ c d x₂ f.cx (r₁.mono (st₂.kpNo av)) r₂) fun e s₃ ρ₃ σ₃ t st₃ x₃ r₃ q₃ => ?_
  obtain ⟨t', rfl, q⟩ := q₃
  exact wp_after ((st.trans st₂).trans st₃) (o_truthy_bool q av ρ₃ s₃ e x₃ f.cx r₃)

theorem t_plain {e : Expr} {whole : Sem Value} {Q : Bool → Store → Prop} (h : WV B C whole l σ fun a σ₁ => OB B C truthy a σ₁ Q)
    (he : isTrue e C.env whole = (do let v ← whole; standAt e.pos; holding [v] (truthy v)) := by rfl) : WB B C (isTrue e C.env whole) l σ Q := by
  intro av ρ s x f
  refine isTrue_plain (wp_cont (h av ρ s x f) fun c s₁ ρ₁ σ₁ a st x₁ r₁ q₁ => ?_) he
  exact wp_after st (q₁ av ρ₁ s₁ c x₁ f.cx r₁)
theorem t_not {e : Expr} {pos whole} {Q : Bool → Store → Prop} (h : WB B C (isTrue e C.env (eval e C.env)) l σ fun b σ₁ => Q (!b) σ₁) : WB B C (isTrue (.UnaryOp .Not e pos) C.env whole) l σ Q := by
  intro av ρ s x f
  refine isTrue_not (wp_cont (h av ρ s x f) fun c s₁ ρ₁ σ₁ a st x₁ r₁ q₁ => ?_)
  have e0 : a = c := r₁
  subst e0
  exact ⟨ρ₁, σ₁, _, st, x₁, rfl, q₁⟩
theorem t_and_nil {pos whole} {Q : Bool → Store → Prop} (h : Q true σ) : WB B C (isTrue (.BoolOp .And [] pos) C.env whole) l σ Q := fun av ρ s x _ => isTrue_and_nil (Pst.here x rfl h)
theorem t_or_nil {pos whole} {Q : Bool → Store → Prop} (h : Q false σ) : WB B C (isTrue (.BoolOp .Or [] pos) C.env whole) l σ Q := fun av ρ s x _ => isTrue_or_nil (Pst.here x rfl h)
theorem t_and {e : Expr} {rest pos whole} {Q : Bool → Store → Prop}
    (h : WB B C (isTrue e C.env (eval e C.env)) l σ fun b σ₁ => if b then WB B C (isTrue (.BoolOp .And rest pos) C.env whole) l σ₁ Q else Q false σ₁) :
    WB B C (isTrue (.BoolOp .And (e :: rest) pos) C.env whole) l σ Q := by
  intro av ρ s x f
  refine isTrue_and (wp_cont (h av ρ s x f) fun c s₁ ρ₁ σ₁ a st x₁ r₁ q₁ => ?_)
  have e0 : a = c := r₁
  subst e0
  cases a with
  | true => exact wp_after st (q₁ av ρ₁ s₁ x₁ (f.step st))
  | false => exact ⟨ρ₁, σ₁, _, st, x₁, rfl, q₁⟩
theorem t_or {e : Expr} {rest pos whole} {Q : Bool → Store → Prop}
    (h : WB B C (isTrue e C.env (eval e C.env)) l σ fun b σ₁ => if b then Q true σ₁ else WB B C (isTrue (.BoolOp .Or rest pos) C.env whole) l σ₁ Q) :
    WB B C (isTrue (.BoolOp .Or (e :: rest) pos) C.env whole) l σ Q := by
  intro av ρ s x f
  refine isTrue_or (wp_cont (h av ρ s x f) fun c s₁ ρ₁ σ₁ a st x₁ r₁ q₁ => ?_)
  have e0 : a = c := r₁
  subst e0
  cases a with
  | false => exact wp_after st (q₁ av ρ₁ s₁ x₁ (f.step st))
  | true => exact ⟨ρ₁, σ₁, _, st, x₁, rfl, q₁⟩

theorem r_IfExp {test e₁ e₂ : Expr} {pos} {Q : AVal → Store → Prop}
    (h : WB B C (isTrue test C.env (eval test C.env)) l σ fun b σ₁ => if b then WV B C (eval e₁ C.env) l σ₁ Q else WV B C (eval e₂ C.env) l σ₁ Q) : WV B C (eval (.IfExp test e₁ e₂ pos) C.env) l σ Q := by
  intro av ρ s x f
  refine wpAny_IfExp (wp_cont (h av ρ s x f) fun c s₁ ρ₁ σ₁ a st x₁ r₁ q₁ => ?_)
  have e0 : a = c := r₁
  subst e0
  cases a with
  | true => exact wp_after st (q₁ av ρ₁ s₁ x₁ (f.step st))
  | false => exact wp_after st (q₁ av ρ₁ s₁ x₁ (f.step st))

theorem r_BoolOp_one {op : BoolOp} {e : Expr} {pos} {Q : AVal → Store → Prop} (h : WV B C (eval e C.env) l σ Q) : WV B C (eval (.BoolOp op [e] pos) C.env) l σ Q := fun av ρ s x f => BoolOp_one (h av ρ s x f)
/-- and, its left side a bool -/
theorem r_And {e₁ e₂ : Expr} {rest pos} {Q : AVal → Store → Prop}
    (h : WV B C (eval e₁ C.env) l σ fun a σ₁ => ∃ t, a = .bool t ∧ if t then WV B C (eval (.BoolOp .And (e₂ :: rest) pos) C.env) l σ₁ Q else Q (.bool false) σ₁) :
    WV B C (eval (.BoolOp .And (e₁ :: e₂ :: rest) pos) C.env) l σ Q := by
  intro av ρ s x f
  refine BoolOp_and (wp_cont (h av ρ s x f) fun c s₁ ρ₁ σ₁ a st x₁ r₁ q₁ => ?_)
  obtain ⟨t, rfl, q⟩ := q₁
  simp only [VRel] at r₁; subst r₁
  refine wpAny_truthy_bool ?_
  cases t with
  | true => exact wp_after st (q av ρ₁ s₁ x₁ (f.step st))
  | false => exact ⟨ρ₁, σ₁, _, st, x₁, by simp only [VRel], q⟩
theorem r_Or {e₁ e₂ : Expr} {rest pos} {Q : AVal → Store → Prop}
    (h : WV B C (eval e₁ C.env) l σ fun a σ₁ => ∃ t, a = .bool t ∧ if t then Q (.bool true) σ₁ else WV B C (eval (.BoolOp .Or (e₂ :: rest) pos) C.env) l σ₁ Q) :
    WV B C (eval (.BoolOp .Or (e₁ :: e₂ :: rest) pos) C.env) l σ Q := by
  intro av ρ s x f
  refine BoolOp_or (wp_cont (h av ρ s x f) fun c s₁ ρ₁ σ₁ a st x₁ r₁ q₁ => ?_)
  obtain ⟨t, rfl, q⟩ := q₁
  simp only [VRel] at r₁; subst r₁
  refine wpAny_truthy_bool ?_
  cases t with
  | false => exact wp_after st (q av ρ₁ s₁ x₁ (f.step st))
  | true => exact ⟨ρ₁, σ₁, _, st, x₁, by simp only [VRel], q⟩

theorem r_Subscript {e₁ e₂ : Expr} {pos} {Q : AVal → Store → Prop}
    (h : WV B C (eval e₁ C.env) l σ fun a σ₁ => WV B C (eval e₂ C.env) l σ₁ fun b σ₂ => O2 B C (subscriptTail e₁ e₂) a b σ₂ Q) : WV B C (eval (.Subscript e₁ e₂ pos) C.env) l σ Q := by
  intro av ρ s x f
  refine Subscript_ (wp_cont (h av ρ s x f) fun c s₁ ρ₁ σ₁ a st x₁ r₁ q₁ => ?_)
  refine wp_cont (q₁ av ρ₁ s₁ x₁ (f.step st)) fun d s₂ ρ₂ σ₂ b st₂ x₂ r₂ q₂ => ?_
  exact wp_after (st.trans st₂) (q₂ av ρ₂ s₂ c d x₂ f.cx (r₁.mono (st₂.kpNo av)) r₂)

theorem r_Attribute {e : Expr} {attr : Str} {pos} {Q : AVal → Store → Prop} (h : WV B C (eval e C.env) l σ fun a σ₁ => O1 B C (fun o => getAttr o attr true) a σ₁ Q)
    (he : eval (.Attribute e attr pos) C.env = (do
      let o ← eval e C.env
      standAt pos.atName
      let r ← holding [o] (getAttr o attr true)
      letTemporaryGo e o r
      pure r) := by with_unfolding_all rfl) : WV B C (eval (.Attribute e attr pos) C.env) l σ Q := by
  intro av ρ s x f
  refine Attribute_any_ (wp_cont (h av ρ s x f) fun c s₁ ρ₁ σ₁ a st x₁ r₁ q₁ => ?_) he
  exact wp_after st (q₁ av ρ₁ s₁ c x₁ f.cx r₁)
end

/-- the parts of a def of the program -/
noncomputable def dName : Stmt → Str | .FunctionDef n .. => n | _ => default
noncomputable def dParams : Stmt → Arguments | .FunctionDef _ a .. => a | _ => default
noncomputable def dBody : Stmt → List Stmt | .FunctionDef _ _ b .. => b | _ => []
noncomputable def dScope : Stmt → Scope | .FunctionDef _ _ _ _ _ _ s .. => s | _ => default

abbrev fdOf (d : Stmt) (q : Str) (doc pm cdv : Value) : FuncData := fnOf (dName d) q (dParams d) (dBody d) (dScope d) .none .none doc pm none cdv .none

/-- a def of the text stands at an address -/
noncomputable def FnAt (B : Base) (fa : Addr) (d : Stmt) : Prop :=
  ∃ q doc pm cdv oc od osl, B.K.lookup fa = some ⟨oc, od, .func (fdOf d q doc pm cdv), osl⟩ ∧ codeIn B.K cdv q = true

theorem bindL_other {kindOf : Str → Option NameKind} : ∀ {binds : List (Str × Value)} {m : Str → Option Value} {x : Str}, x ∉ binds.map (·.1) → bindL kindOf binds m x = m x
  | [], _, _, _ => rfl
  | (n, v) :: r, m, x, h => by
    simp only [List.map_cons, List.mem_cons, not_or] at h
    unfold bindL
    rw [bindL_other h.2]
    split
    · show (if x = n then some v else m x) = m x
      rw [if_neg h.1]
    · rfl
theorem bindC_other {kindOf : Str → Option NameKind} : ∀ {binds : List (Str × Value)} {m : Str → Option Value} {x : Str}, x ∉ binds.map (·.1) → bindC kindOf binds m x = m x
  | [], _, _, _ => rfl
  | (n, v) :: r, m, x, h => by
    simp only [List.map_cons, List.mem_cons, not_or] at h
    unfold bindC
    rw [bindC_other h.2]
    split
    · rfl
    · show (if x = n then some v else m x) = m x
      rw [if_neg h.1]
theorem bindL_at {kindOf : Str → Option NameKind} : ∀ {binds : List (Str × Value)} {m : Str → Option Value} {x : Str} {c : Value}, (binds.map (·.1)).Nodup → binds.lookup x = some c → kindOf x = some .local → bindL kindOf binds m x = some c
  | (n, v) :: r, m, x, c, hn, h, hk => by
    rw [List.map_cons, List.nodup_cons] at hn
    unfold bindL
    rw [List.lookup_cons] at h
    cases hx : x == n with
    | true =>
      rw [hx] at h
      cases h
      obtain rfl := beq_iff_eq.mp hx
      rw [bindL_other hn.1, if_pos hk]
      simp
    | false => rw [hx] at h; exact bindL_at hn.2 h hk
theorem bindC_at {kindOf : Str → Option NameKind} : ∀ {binds : List (Str × Value)} {m : Str → Option Value} {x : Str} {c : Value}, (binds.map (·.1)).Nodup → binds.lookup x = some c → kindOf x ≠ some .local → bindC kindOf binds m x = some c
  | (n, v) :: r, m, x, c, hn, h, hk => by
    rw [List.map_cons, List.nodup_cons] at hn
    unfold bindC
    rw [List.lookup_cons] at h
    cases hx : x == n with
    | true =>
      rw [hx] at h
      cases h
      obtain rfl := beq_iff_eq.mp hx
      rw [bindC_other hn.1, if_neg hk]
      simp
    | false => rw [hx] at h; exact bindC_at hn.2 h hk

/-- arguments as names -/
noncomputable def zipArgs : List Str → AVal → Loc
  | n :: ns, .cons a as => (n, a) :: zipArgs ns as
  | _, _ => []

theorem zip_lookup {ρ av : List Addr} {h : Heap} : ∀ {ns : List Str} {as : AVal} {cs : List Value} {x : Str} {a : AVal}, IRel ρ av h as cs → (zipArgs ns as).lookup x = some a → ∃ c, (ns.zip cs).lookup x = some c ∧ VRel ρ av h a c
  | n :: ns, .cons b bs, cs, x, a, r, e => by
    simp only [IRel] at r
    obtain ⟨c, r, rfl, hv, hs⟩ := r
    simp only [zipArgs, List.lookup_cons] at e
    rw [List.zip_cons_cons, List.lookup_cons]
    cases hx : x == n with
    | true => rw [hx] at e; cases e; exact ⟨c, rfl, hv⟩
    | false => rw [hx] at e; exact zip_lookup hs e
  | [], _, _, _, _, _, e => by simp [zipArgs] at e
  | _ :: _, .nil, _, _, _, _, e | _ :: _, .none, _, _, _, _, e | _ :: _, .bool _, _, _, _, _, e | _ :: _, .int _, _, _, _, _, e | _ :: _, .str _, _, _, _, _, e
  | _ :: _, .lst _, _, _, _, _, e | _ :: _, .loc _, _, _, _, _, e | _ :: _, .con _, _, _, _, _, e => by simp [zipArgs] at e

theorem keys_of_zip {ns : List Str} {cs : List Value} : ∀ x ∈ (ns.zip cs).map (·.1), x ∈ ns := by
  intro x hx
  obtain ⟨p, hp, rfl⟩ := List.mem_map.mp hx
  exact (List.of_mem_zip hp).1
theorem nodup_zip : ∀ {ns : List Str} {cs : List Value}, ns.Nodup → ((ns.zip cs).map (·.1)).Nodup
  | [], _, _ => by simp
  | _ :: _, [], _ => by simp
  | n :: ns, c :: cs, h => by
    rw [List.zip_cons_cons, List.map_cons, List.nodup_cons]
    rw [List.nodup_cons] at h
    exact ⟨fun hm => h.1 (keys_of_zip _ hm), nodup_zip h.2⟩

/-- the frame of a call -/
noncomputable def cxOf (C : Cx) (d : Stmt) (q : Str) (doc pm cdv : Value) (L fa : Addr) : Cx :=
  { env := callEnvC (fdOf d q doc pm cdv) L fa, A := C.A.deeper (callEnvC (fdOf d q doc pm cdv) L fa), own := (callEnvC (fdOf d q doc pm cdv) L fa).cells, room := C.room - 1 }

section
variable {B : Base} {C : Cx} {av ρ : List Addr} {l : Loc} {σ : Store} {s : Shared}

theorem code_def {fa : Addr} {d : Stmt} {ns : List Str} {as : AVal} {Q : AVal → Store → Prop} (hf : FnAt B fa d) (hroom : 1 ≤ C.room)
    (hbind : ∀ q doc pm cdv cs, cs.length = alen as → bindArgs (fdOf d q doc pm cdv) ⟨cs, []⟩ = pure (ns.zip cs))
    (hns : ns.Nodup) (hkind : ∀ n ∈ ns, (dScope d).names.lookup n = some .local ∨ (dScope d).names.lookup n = some .cell)
    (hcells : ((cellsFrom 0 (dScope d).names []).map (·.1)).Nodup)
    (h : ∀ q doc pm cdv L, WS B (cxOf C d q doc pm cdv L fa) (execs (dBody d) (cxOf C d q doc pm cdv L fa).env) (zipArgs ns as) σ (fun _ σ' => Q .none σ') Q)
    (hco : (dScope d).isCoroutine = false := by rfl) (hgen : (dScope d).isGenerator = false := by rfl) (hk : (dScope d).kind = .function := by rfl) :
    ∀ av ρ s cs, Sim B av ρ σ s → CxOk B C → IRel ρ av s.heap as cs → codeAny (model B.prog B.w) C.A (.call (.ref fa) ⟨cs, []⟩) (fun r s' => match r with | .ok (.ret v) => Pst B av noX ρ s.heap VRel Q v s' | .ok _ => False | .error e => noE e s') s := by
  intro av ρ s cs x cx r
  obtain ⟨q, doc, pm, cdv, oc, od, osl, hK, hcd⟩ := hf
  have KI := x.ok.inK.keeps x.keep
  refine codeAny_call_cells (A := C.A) (fd := fdOf d q doc pm cdv) (o := ⟨oc, od, .func (fdOf d q doc pm cdv), osl⟩) (binds := ns.zip cs) (by have := cx.depth; have : recursionLimit = 1000 := rfl; omega) (KI _ _ hK) rfl (x.ok.nolim.keeps x.keep) (codeRec_of KI hcd) rfl (hbind q doc pm cdv cs r.length) rfl ?_ (fun s₁ X => ?_) hco hgen hk
  · intro y hy
    rcases hkind y.1 (List.of_mem_zip hy).1 with h1 | h1
    · exact .inl h1
    · exact .inr ⟨h1, cellsFrom_some _ _ _ (.inl h1)⟩
  · obtain ⟨⟨⟨h₁, tk, rfl⟩, hns', hkeep, hfresh⟩, hcell, hap, hab⟩ := X
    have x₁ : Sim B av ρ σ { s with heap := h₁, toks := tk } := x.kept hkeep tk
    have st₁ : Step noX ρ s.heap ρ h₁ := Step.ofKeep hkeep
    have none_ge : ∀ b, s.heap.objs.size ≤ b → s.heap.get? b = none := fun b hb => Heap.get?_none_of_le hb
    have base_ge : ∀ b, s.heap.objs.size ≤ b → B.h₀.get? b = none := fun b hb => by
      cases e : B.h₀.get? b with
      | none => rfl
      | some o => have := x.keep b o e; rw [none_ge b hb] at this; cases this
    have ρ_ge : ∀ b, s.heap.objs.size ≤ b → b ∉ ρ := fun b hb hm => by obtain ⟨o, e⟩ := x.live b hm; rw [none_ge b hb] at e; cases e
    have hnd : ∀ p ∈ (callEnvC (fdOf d q doc pm cdv) s.heap.objs.size fa).cells, (callEnvC (fdOf d q doc pm cdv) s.heap.objs.size fa).cells.lookup p.1 = some p.2 := fun p hp =>
      lookup_of_mem_nodup (cellsFrom_names (dScope d).names 0 (s.heap.objs.size + 1) [] [] rfl ▸ hcells) hp
    have fr : FrameOk B (cxOf C d q doc pm cdv s.heap.objs.size fa) av ρ (zipArgs ns as) h₁ := by
      refine ⟨⟨hk, rfl, rfl, hap, fun _ _ e => e, cx.handled, ?_, ?_⟩, ⟨_, hns'⟩, ρ_ge _ hfresh, base_ge _ hfresh, fun y c hc => ?_, fun y a hy => ?_⟩
      · have := cx.depth
        show C.A.depth + 1 + 2 * (C.room - 1) ≤ 600
        omega
      · have := cx.units
        show C.A.units + 3 + 8 * (C.room - 1) ≤ 9000
        omega
      · have hlt : s.heap.objs.size < c := hab y c (mem_of_lookup hc)
        exact ⟨⟨_, hcell y c hc⟩, ρ_ge _ (Nat.le_of_lt hlt), base_ge _ (Nat.le_of_lt hlt)⟩
      · obtain ⟨c, hc, hv⟩ := zip_lookup r hy
        have hmem : y ∈ ns := (List.of_mem_zip (mem_of_lookup hc)).1
        refine ⟨c, hv.mono (st₁.kpNo av), ?_⟩
        rcases hkind y hmem with h1 | h1
        · exact .inl ⟨h1, _, hns', bindL_at (nodup_zip hns) hc h1⟩
        · have h2 : (callEnvC (fdOf d q doc pm cdv) s.heap.objs.size fa).kindOf y = some .cell := h1
          obtain ⟨k, hk'⟩ := Option.isSome_iff_exists.mp (cellsFrom_some (dScope d).names (s.heap.objs.size + 1) [] (.inl h1))
          refine .inr (.inl ⟨h2, k, hk', ?_⟩)
          have := hcell y k hk'
          rw [bindC_at (nodup_zip hns) hc (by rw [h2]; decide)] at this
          exact this
    refine wpAny_mono (h q doc pm cdv s.heap.objs.size av ρ _ x₁ fr) (fun f s' hf' => ?_) fun _ _ e => e.elim
    obtain ⟨ρ', σ', st, x', hfl⟩ := hf'
    have stN : Step noX ρ s.heap ρ' s'.heap := by
      obtain ⟨e, he, hf2⟩ := st.ext
      refine ⟨⟨e, he, fun a ha => st₁.live a (hf2 a ha)⟩, fun b o hb hr _ => st.keep b o (hkeep b o hb) hr ?_, fun b hb => st₁.live b (st.live b hb)⟩
      rintro (hX | ⟨y, hy⟩)
      · have : s.heap.get? b = none := none_ge b (by rw [hX]; exact Nat.le_refl _)
        rw [hb] at this; cases this
      · have : s.heap.get? b = none := none_ge b (Nat.le_of_lt (hab y b (mem_of_lookup hy)))
        rw [hb] at this; cases this
    cases f with
    | next => obtain ⟨l', _, q'⟩ := hfl; exact ⟨ρ', σ', .none, stN, x', by simp only [VRel], q'⟩
    | ret c => obtain ⟨a, hv, q'⟩ := hfl; exact ⟨ρ', σ', a, stN, x', hv, q'⟩
    | brk => exact hfl.elim
    | cont => exact hfl.elim
theorem call_def {fa : Addr} {d : Stmt} {ns : List Str} {as : AVal} {Q : AVal → Store → Prop} (hf : FnAt B fa d) (hroom : 1 ≤ C.room)
    (hbind : ∀ q doc pm cdv cs, cs.length = alen as → bindArgs (fdOf d q doc pm cdv) ⟨cs, []⟩ = pure (ns.zip cs))
    (hns : ns.Nodup) (hkind : ∀ n ∈ ns, (dScope d).names.lookup n = some .local ∨ (dScope d).names.lookup n = some .cell)
    (hcells : ((cellsFrom 0 (dScope d).names []).map (·.1)).Nodup)
    (h : ∀ q doc pm cdv L, WS B (cxOf C d q doc pm cdv L fa) (execs (dBody d) (cxOf C d q doc pm cdv L fa).env) (zipArgs ns as) σ (fun _ σ' => Q .none σ') Q)
    (hco : (dScope d).isCoroutine = false := by rfl) (hgen : (dScope d).isGenerator = false := by rfl) (hk : (dScope d).kind = .function := by rfl) :
    OC B C (fun cs => call (.ref fa) cs) as σ Q :=
  fun av ρ s cs x cx r => wpAny_call (code_def hf hroom hbind hns hkind hcells h hco hgen hk av ρ s cs x cx r)
end
theorem list_len1 {α : Type} {cs : List α} (h : cs.length = 1) : ∃ a, cs = [a] := List.length_eq_one_iff.mp h
theorem list_len2 {α : Type} {cs : List α} (h : cs.length = 2) : ∃ a b, cs = [a, b] := by
  cases cs with
  | nil => cases h
  | cons x r => obtain ⟨b, rfl⟩ := list_len1 (Nat.succ.inj h); exact ⟨x, b, rfl⟩
theorem list_len3 {α : Type} {cs : List α} (h : cs.length = 3) : ∃ a b c, cs = [a, b, c] := by
  cases cs with
  | nil => cases h
  | cons x r => obtain ⟨b, c, rfl⟩ := list_len2 (Nat.succ.inj h); exact ⟨x, b, c, rfl⟩
theorem list_len4 {α : Type} {cs : List α} (h : cs.length = 4) : ∃ a b c d, cs = [a, b, c, d] := by
  cases cs with
  | nil => cases h
  | cons x r => obtain ⟨b, c, d, rfl⟩ := list_len3 (Nat.succ.inj h); exact ⟨x, b, c, d, rfl⟩
theorem args1 {P : Str → Value → Value → Value → List Value → Prop} (h : ∀ q doc pm cdv a, P q doc pm cdv [a]) (q : Str) (doc pm cdv : Value) (cs : List Value) (hl : cs.length = 1) : P q doc pm cdv cs := by
  obtain ⟨a, rfl⟩ := list_len1 hl
  exact h q doc pm cdv a
theorem args2 {P : Str → Value → Value → Value → List Value → Prop} (h : ∀ q doc pm cdv a b, P q doc pm cdv [a, b]) (q : Str) (doc pm cdv : Value) (cs : List Value) (hl : cs.length = 2) : P q doc pm cdv cs := by
  obtain ⟨a, b, rfl⟩ := list_len2 hl
  exact h q doc pm cdv a b
theorem args3 {P : Str → Value → Value → Value → List Value → Prop} (h : ∀ q doc pm cdv a b c, P q doc pm cdv [a, b, c]) (q : Str) (doc pm cdv : Value) (cs : List Value) (hl : cs.length = 3) : P q doc pm cdv cs := by
  obtain ⟨a, b, c, rfl⟩ := list_len3 hl
  exact h q doc pm cdv a b c
theorem args4 {P : Str → Value → Value → Value → List Value → Prop} (h : ∀ q doc pm cdv a b c d, P q doc pm cdv [a, b, c, d]) (q : Str) (doc pm cdv : Value) (cs : List Value) (hl : cs.length = 4) : P q doc pm cdv cs := by
  obtain ⟨a, b, c, d, rfl⟩ := list_len4 hl
  exact h q doc pm cdv a b c d
theorem one_le {n m : Nat} (h : m ≤ n) (e : Nat.ble 1 m = true := by rfl) : 1 ≤ n := Nat.le_trans (Nat.le_of_ble_eq_true e) h
theorem nle {N a b c : Nat} (h : N + b ≤ c) (e : Nat.ble a b = true := by rfl) : N + a ≤ c := Nat.le_trans (Nat.add_le_add_left (Nat.le_of_ble_eq_true e) N) h
theorem nll (N : Nat) {a b : Nat} (e : Nat.ble a b = true := by rfl) : N + a ≤ N + b := Nat.add_le_add_left (Nat.le_of_ble_eq_true e) N
theorem nl0 {N b c : Nat} (h : N + b ≤ c) : N ≤ c := Nat.le_trans (Nat.le_add_right N b) h

noncomputable def Keeps (B : Base) (f : Value) : Prop := keepIn B.K f = true ∨ ∀ a, f ≠ .ref a

section
variable {B : Base} {C : Cx} {av ρ : List Addr} {l : Loc} {σ : Store} {s : Shared}

theorem evalArgs_W {M : Model} {A : Around} {E : Value → Shared → Prop} {f : Value} {ts : List (Bool × Sem Value)} {Q : Args → Shared → Prop} (hplain : ts.any (·.1) = false)
    (h : wpAny M A (spliced ts) (fun vs s' => Q ⟨vs, []⟩ s') E s) : wpAny M A (evalArgs f true ts []) Q E s := by
  cases ts with
  | nil =>
    unfold evalArgs
    show wpAny M A (spliced [] >>= _) Q E s
    refine wpAny_bind (wpAny_mono h (fun vs s' h' => ?_) fun _ _ x => x)
    refine wpAny_holding ?_
    exact wpAny_bind (wpAny_pure (wpAny_bind (wpAny_pure (wpAny_pure h'))))
  | cons t r =>
    obtain ⟨b, x⟩ := t
    cases b with
    | false => exact evalArgs_plain h
    | true => simp at hplain

theorem Keeps.looks {M : Model} {f : Value} (hk : Keeps B f) (h : Heap) (X : B.K.In h) : ∃ k, (k = Keeper.frame ∨ k = Keeper.machine ∨ k = Keeper.boundFrame) ∧ Looks M h (keeperOf f) k := by
  rcases hk with hk | hk
  · exact keeps_K hk h X
  · refine ⟨.machine, .inr (.inl rfl), Looks.of_pure ?_⟩
    cases f <;> first | rfl | exact absurd rfl (hk _)

/-- a call, its callee a constant -/
theorem callWith_W {f : Value} {pos pos' : Pos} {first : List Value} {fs : AVal} {args : List Expr} {Q : AVal → Store → Prop} (hk : Keeps B f) (x : Sim B av ρ σ s) (fr : FrameOk B C av ρ l s.heap)
    (app : AVal → AVal) (hfirst : ∀ ρ' h' as vs, IRel ρ av s.heap fs first → Step noX ρ s.heap ρ' h' → IRel ρ' av h' as vs → IRel ρ' av h' (app as) (first ++ vs)) (hr : IRel ρ av s.heap fs first)
    (h : WL B C (spliced (backTo pos' (starEach args C.env))) l σ fun as σ₂ => OC B C (fun cs => call f cs) (app as) σ₂ Q)
    (hplain : (backTo pos' (starEach args C.env)).any (·.1) = false) :
    wpAny (model B.prog B.w) C.A (callWith pos f first (backTo pos' (starEach args C.env)) []) (Pst B av noX ρ s.heap VRel Q) noE s := by
  refine callWith_of (P := fun h => B.K.In h) (by rw [hplain]; rfl) (fun h X => hk.looks h X) (evalArgs_W hplain (wp_cont (h av ρ s x fr) fun vs s₁ ρ₁ σ₁ as st x₁ r₁ q₁ => ?_))
  exact ⟨x₁.ok.inK.keeps x₁.keep, wp_after st (q₁ av ρ₁ s₁ _ x₁ fr.cx (hfirst ρ₁ s₁.heap as vs hr st r₁))⟩

theorem r_Call {func : Expr} {args : List Expr} {pos} {Q : AVal → Store → Prop}
    (h : WV B C (eval func C.env) l σ fun a σ₁ => ∃ f, a = .con f ∧ Keeps B f ∧ WL B C (spliced (backTo pos (starEach args C.env))) l σ₁ fun as σ₂ => OC B C (fun cs => call f cs) as σ₂ Q)
    (he : eval (.Call func args [] pos) C.env = (do callWith pos (← eval func C.env) [] (backTo pos (starEach args C.env)) (backToKw pos (keywordEach [] C.env))) := by rfl)
    (hplain : (backTo pos (starEach args C.env)).any (·.1) = false := by rfl) : WV B C (eval (.Call func args [] pos) C.env) l σ Q := by
  intro av ρ s x f
  refine Call_ (wp_cont (h av ρ s x f) fun c s₁ ρ₁ σ₁ a st x₁ r₁ q₁ => ?_) he
  obtain ⟨g, rfl, hk, q⟩ := q₁
  simp only [VRel] at r₁; subst r₁
  exact wp_after st (callWith_W (fs := .nil) (app := id) hk x₁ (f.step st) (fun ρ' h' as vs _ _ r => r) (by simp [IRel]) q hplain)

/-- what a method's name finds -/
noncomputable def IsMeth (B : Base) (C : Cx) (name : Str) (a : AVal) (σ : Store) (f : Value) : Prop :=
  ∀ av ρ s c pl (Q : Value × List Value → Shared → Prop), Sim B av ρ σ s → CxOk B C → VRel ρ av s.heap a c → Q (f, [c]) s → wpAny (model B.prog B.w) C.A (getMethod c name pl) Q noE s

theorem r_Meth {o : Expr} {name : Str} {apos pos : Pos} {args : List Expr} {Q : AVal → Store → Prop}
    (h : WV B C (eval o C.env) l σ fun a σ₁ => ∃ f, IsMeth B C name a σ₁ f ∧ Keeps B f ∧ WL B C (spliced (backTo pos (starEach args C.env))) l σ₁ fun as σ₂ => OC B C (fun cs => call f cs) (.cons a as) σ₂ Q)
    (he : eval (.Call (.Attribute o name apos) args [] pos) C.env = (do
      let ov ← eval o C.env
      standAt apos.atName
      let (f, first) ← holding [ov] (getMethod ov name (do return (← importBound o C.env).getD true))
      callWith pos f first (backTo pos (starEach args C.env)) []) := by rfl)
    (hplain : (backTo pos (starEach args C.env)).any (·.1) = false := by rfl) : WV B C (eval (.Call (.Attribute o name apos) args [] pos) C.env) l σ Q := by
  intro av ρ s x f
  refine MethodCall_ (wp_cont (h av ρ s x f) fun c s₁ ρ₁ σ₁ a st x₁ r₁ q₁ => ?_) he
  obtain ⟨g, hm, hk, q⟩ := q₁
  refine hm av ρ₁ s₁ c _ _ x₁ f.cx r₁ ?_
  refine wp_after st (callWith_W (fs := .cons a .nil) (app := .cons a) hk x₁ (f.step st) (fun ρ' h' as vs r st' r' => ?_) (by simp only [IRel]; exact ⟨c, [], rfl, r₁, rfl⟩) q hplain)
  simp only [IRel]
  exact ⟨c, vs, rfl, r₁.mono (st'.kpNo av), r'⟩

/-! targets -/
theorem ns_unique {h : Heap} {a : Addr} {m m' : Str → Option Value} (x : h.Ns a m) (y : h.Ns a m') : m = m' := x.eq_nsMap.trans y.eq_nsMap.symm

theorem st_local {x : Str} {a : AVal} {Q : Loc → Store → Prop} (h : Q ((x, a) :: l) σ) (hl : C.env.kindOf x = some .local := by rfl) : WA B C (fun v => storeName C.env x v) a l σ Q := by
  intro av ρ s c y f r
  obtain ⟨m, hn⟩ := f.ns
  have hp : (C.env.scope.kind == .class || (C.env.scope.kind == .module && C.env.locals != C.env.globals)) = false := by rw [f.cx.kind]; rfl
  refine wpAny_storeName_local hl hn (fun h' hn' hs => ?_) hp
  obtain ⟨oL, _, _, hoL, _⟩ := id hn'
  have st : Step C.X ρ s.heap ρ h' := Step.sameBut (.inr (.inl rfl)) hs hoL
  have kp := f.kp y rfl st
  have y' : Sim B av ρ σ { s with heap := h', toks := s.toks + 1 } := (y.same (s' := { s with heap := h' }) st kp (fun b hb => hs.2 b fun e => f.lρ (e ▸ hb)) f.Xbase rfl rfl).tok _
  have cellne : ∀ z k, C.env.cells.lookup z = some k → k ≠ C.env.locals := by
    intro z k hk e
    obtain ⟨⟨v, o, ho, hd⟩, _⟩ := f.cells z k hk
    obtain ⟨o', es, ep, ho', hd', _⟩ := hn
    rw [e, ho'] at ho; cases ho; rw [hd] at hd'; cases hd'
  refine ⟨ρ, σ, (x, a) :: l, st, y', ⟨f.cx, ⟨_, hn'⟩, f.lρ, f.lbase, fun z k hk => ?_, fun z b hz => ?_⟩, h⟩
  · obtain ⟨⟨v, hc⟩, h2, h3⟩ := f.cells z k hk
    exact ⟨⟨v, hc.sameBut hs (cellne z k hk)⟩, h2, h3⟩
  · rw [List.lookup_cons] at hz
    cases hzx : z == x with
    | true =>
      rw [hzx] at hz
      cases hz
      obtain rfl := beq_iff_eq.mp hzx
      exact ⟨c, r.mono kp, .inl ⟨hl, _, hn', by simp⟩⟩
    | false =>
      rw [hzx] at hz
      have hne : z ≠ x := fun e => by rw [e] at hzx; simp at hzx
      obtain ⟨d, hv, hk⟩ := f.names z b hz
      refine ⟨d, hv.mono kp, ?_⟩
      rcases hk with ⟨e, m', hn2, hm⟩ | ⟨e, k, hk, hc⟩ | hg
      · obtain rfl := ns_unique hn hn2
        exact .inl ⟨e, _, hn', by simp [hne, hm]⟩
      · exact .inr (.inl ⟨e, k, hk, hc.sameBut hs (cellne z k hk)⟩)
      · exact .inr (.inr hg)

theorem st_cell {x : Str} {a : AVal} {Q : Loc → Store → Prop} (h : Q ((x, a) :: l) σ) (hl : C.env.kindOf x = some .cell := by rfl) (hc : (C.own.lookup x).isSome = true := by rfl) : WA B C (fun v => storeName C.env x v) a l σ Q := by
  intro av ρ s c y f r
  obtain ⟨k, hk⟩ := Option.isSome_iff_exists.mp hc
  have hk' := f.cx.own x k hk
  obtain ⟨⟨v₀, hcell⟩, kρ, kb⟩ := f.cells x k hk'
  refine wpAny_storeName_cell f.cx.kind hl hk' hcell fun h' hc' hs => ?_
  obtain ⟨oc, hoc, hdc⟩ := id hc'
  have st : Step C.X ρ s.heap ρ h' := Step.sameBut (.inr (.inr ⟨x, hk⟩)) hs hoc
  have kp := f.kp y rfl st
  have y' : Sim B av ρ σ { s with heap := h' } := (y.same (s' := { s with heap := h' }) st kp (fun b hb => hs.2 b fun e => kρ (e ▸ hb)) f.Xbase rfl rfl)
  obtain ⟨m, hn⟩ := f.ns
  have Lne : C.env.locals ≠ k := by
    intro e
    obtain ⟨o, ho, hd⟩ := hcell
    obtain ⟨o', es, ep, ho', hd', _⟩ := hn
    rw [← e, ho'] at ho; cases ho; rw [hd] at hd'; cases hd'
  have kne : ∀ z k', C.env.cells.lookup z = some k' → z ≠ x → k' ≠ k := fun z k' hz hne e => hne (name_of_addr f.cx.apart (mem_of_lookup hz) (e ▸ mem_of_lookup hk'))
  refine ⟨ρ, σ, (x, a) :: l, st, y', ⟨f.cx, ⟨m, hn.sameBut hs Lne⟩, f.lρ, f.lbase, fun z k' hz => ?_, fun z b hz => ?_⟩, h⟩
  · obtain ⟨⟨v, hcz⟩, h2, h3⟩ := f.cells z k' hz
    by_cases hzx : z = x
    · subst hzx
      rw [hk'] at hz; cases hz
      exact ⟨⟨_, hc'⟩, h2, h3⟩
    · exact ⟨⟨v, hcz.sameBut hs (kne z k' hz hzx)⟩, h2, h3⟩
  · rw [List.lookup_cons] at hz
    cases hzx : z == x with
    | true =>
      rw [hzx] at hz
      cases hz
      obtain rfl := beq_iff_eq.mp hzx
      exact ⟨c, r.mono kp, .inr (.inl ⟨hl, k, hk', hc'⟩)⟩
    | false =>
      rw [hzx] at hz
      have hne : z ≠ x := fun e => by rw [e] at hzx; simp at hzx
      obtain ⟨d, hv, hkk⟩ := f.names z b hz
      refine ⟨d, hv.mono kp, ?_⟩
      rcases hkk with ⟨e, m', hn2, hm⟩ | ⟨e, k', hk2, hc2⟩ | hg
      · exact .inl ⟨e, m', hn2.sameBut hs Lne, hm⟩
      · exact .inr (.inl ⟨e, k', hk2, hc2.sameBut hs (kne z k' hk2 hne)⟩)
      · exact .inr (.inr hg)

theorem a_local {x : Str} {pos : Pos} {a : AVal} {Q : Loc → Store → Prop} (h : Q ((x, a) :: l) σ) (hl : C.env.kindOf x = some .local := by rfl) : WA B C (assign (.Name x pos) C.env) a l σ Q :=
  fun av ρ s c y f r => wpAny_assign_Name (st_local h hl av ρ s c y f r)
theorem a_cell {x : Str} {pos : Pos} {a : AVal} {Q : Loc → Store → Prop} (h : Q ((x, a) :: l) σ) (hl : C.env.kindOf x = some .cell := by rfl) (hc : (C.own.lookup x).isSome = true := by rfl) : WA B C (assign (.Name x pos) C.env) a l σ Q :=
  fun av ρ s c y f r => wpAny_assign_Name (st_cell h hl hc av ρ s c y f r)
theorem b_local {x : Str} {a : AVal} {Q : Loc → Store → Prop} (h : Q ((x, a) :: l) σ) (hl : C.env.kindOf x = some .local := by rfl) : WA B C (fun v => bindName C.env x v) a l σ Q :=
  fun av ρ s c y f r => wpAny_bindName (st_local h hl av ρ s c y f r)

/-- targets in order -/
noncomputable def WAs (B : Base) (C : Cx) (ts : List (Value → Sem Unit)) (as : AVal) (l : Loc) (σ : Store) (Q : Loc → Store → Prop) : Prop :=
  ∀ av ρ s cs, Sim B av ρ σ s → FrameOk B C av ρ l s.heap → IRel ρ av s.heap as cs → wpAny (model B.prog B.w) C.A (assignInOrder ts cs)
    (fun _ s' => ∃ ρ' σ' l', Step C.X ρ s.heap ρ' s'.heap ∧ Sim B av ρ' σ' s' ∧ FrameOk B C av ρ' l' s'.heap ∧ Q l' σ') noE s

theorem as_nil {Q : Loc → Store → Prop} (h : Q l σ) : WAs B C [] .nil l σ Q := by
  intro av ρ s cs y f r
  simp only [IRel] at r; subst r
  exact wpAny_assignInOrder_none ⟨ρ, σ, l, Step.refl _ _ _, y, f, h⟩
theorem as_cons {t : Value → Sem Unit} {ts : List (Value → Sem Unit)} {a as : AVal} {Q : Loc → Store → Prop} (h : WA B C t a l σ fun l' σ' => WAs B C ts as l' σ' Q) : WAs B C (t :: ts) (.cons a as) l σ Q := by
  intro av ρ s cs y f r
  simp only [IRel] at r
  obtain ⟨c, cs, rfl, hc, hcs⟩ := r
  refine wpAny_assignInOrder_more (wpAny_mono (h av ρ s c y f hc) (fun _ s₁ ⟨ρ₁, σ₁, l₁, st, y₁, f₁, q⟩ => ?_) fun _ _ e => e)
  refine wpAny_mono (q av ρ₁ s₁ cs y₁ f₁ (hcs.mono (f.kp y rfl st))) (fun _ s₂ ⟨ρ₂, σ₂, l₂, st₂, y₂, f₂, q₂⟩ => ⟨ρ₂, σ₂, l₂, st.trans st₂, y₂, f₂, q₂⟩) fun _ _ e => e

theorem unpack_list {M : Model} {lst : Addr} {items : Array Value} {prog : Program} {w : World} {A : Around} {E : Value → Shared → Prop} {Q : List Value → Shared → Prop} (hh : A.handled = none) (ht : s.heap.IsList lst items)
    (hQ : ∀ h', Heap.ExtBut s.heap.objs.size s.heap h' → Q items.toList { s with heap := h' }) : wpAny (model prog w) A (unpackItems (.ref lst) items.size none) Q E s := by
  have hlt : lst ≠ s.heap.objs.size := by obtain ⟨o, ho, _⟩ := ht; exact Nat.ne_of_lt (Heap.lt_size ho)
  have draws : ∀ (it : Addr) (hne : lst ≠ it) (n i : Nat) (s : Shared) (Q : List Value → Shared → Prop), s.heap.IsListIter it lst i → s.heap.IsList lst items → i + n ≤ items.size →
      (∀ h', h'.IsListIter it lst (i + n) → Heap.SameBut it s.heap h' → Q ((items.toList.drop i).take n) { s with heap := h' }) → wpAny (model prog w) A (draw (.ref it) n) Q E s := by
    intro it hne n
    induction n with
    | zero => intro i s Q hit _ _ hQ; exact wpAny_pure (by simpa using hQ s.heap hit (Heap.SameBut.refl _ _))
    | succ n ih =>
      intro i s Q hit hl hi hQ
      unfold draw
      have hlt : i < items.size := by omega
      refine wpAny_bind (wpAny_pyNext_list_item hit hl (x := items[i]) (by simp [hlt]) fun h₁ hit₁ hs₁ => ?_)
      refine wpAny_bind (wpAny_holding (ih (i + 1) _ _ hit₁ (hl.extBut hs₁.extBut hne) (by omega) fun h₂ hit₂ hs₂ => wpAny_pure ?_))
      have hd : items.toList.drop i = items[i] :: items.toList.drop (i + 1) := by simp [List.drop_eq_getElem_cons, hlt]
      have := hQ h₂ (by rw [show i + (n + 1) = i + 1 + n by omega]; exact hit₂) (hs₁.trans hs₂)
      rw [hd, List.take_succ_cons] at this
      exact this
  unfold unpackItems
  refine wpAny_bind ?_
  · unfold notIterableAtAll
    refine wpAny_bind (wpAny_specialOf ht.typeIs slot_list_iter.lookup ?_)
    refine wpAny_pure ?_
    simp only [Bool.false_eq_true, if_false]
    refine wpAny_bind (wpAny_holding (wpAny_pyIter_list ht ?_))
    refine wpAny_bind (wpAny_holding (draws _ hlt items.size 0 _ _ ⟨_, Heap.get?_push_size _ rfl, rfl, rfl⟩ (ht.push _) (by omega) fun h₁ hit₁ hs₁ => ?_))
    have hall : List.take items.size (List.drop 0 items.toList) = items.toList := by
      rw [List.drop_zero]; exact List.take_of_length_le (by simp)
    rw [hall]
    rw [if_neg (by simp)]
    have ht₁ : h₁.IsList lst items := (ht.push _).extBut hs₁.extBut hlt
    refine wpAny_bind (wpAny_holding (wpAny_pyNext_list_end hh hit₁ ht₁ (by simp) fun h₂ he₂ => ?_))
    simp only [Option.isSome_none, Bool.false_eq_true, if_false]
    refine wpAny_pure (hQ h₂ fun b o hb e => he₂ b o hb (hs₁.extBut b o hb (Heap.get?_push_of_some _ e)))

/-- a tuple of targets takes a tuple -/
theorem a_tuple {elts : List Expr} {k : Nat} {pos : Pos} {a : AVal} {Q : Loc → Store → Prop} (ha : isT a = true) (hn : (assignEach elts C.env).length = alen a) (h : WAs B C ((assignEach elts C.env).map (·.2)) a l σ Q)
    (hstar : (assignEach elts C.env).findIdx? (·.1) = none := by rfl) : WA B C (assign (.Tuple elts k pos) C.env) a l σ Q := by
  intro av ρ s c y f r
  obtain ⟨ad, vs, rfl, _, _, t, i⟩ := VRel.tup ha r
  refine wpAny_assign_Tuple f.cx.handled t.isTuple (by rw [hn, List.size_toArray, i.length]) hstar fun h' he => ?_
  have kk := ext_keep he
  have st : Step noX ρ s.heap ρ h' := Step.ofKeep kk
  refine wpAny_mono (h av ρ _ vs (y.kept kk s.toks) (f.step st) (i.mono (st.kpNo av))) (fun _ s₂ ⟨ρ₂, σ₂, l₂, st₂, y₂, f₂, q₂⟩ => ⟨ρ₂, σ₂, l₂, st.ofNo.trans st₂, y₂, f₂, q₂⟩) fun _ _ e => e
/-- and a list -/
theorem a_tuple_lst {elts : List Expr} {k : Nat} {pos : Pos} {a : AVal} {Q : Loc → Store → Prop} (hn : (assignEach elts C.env).length = alen a) (h : WAs B C ((assignEach elts C.env).map (·.2)) a l σ Q)
    (hstar : (assignEach elts C.env).findIdx? (·.1) = none := by rfl) : WA B C (assign (.Tuple elts k pos) C.env) (.lst a) l σ Q := by
  intro av ρ s c y f r
  simp only [VRel] at r
  obtain ⟨ad, vs, rfl, _, _, t, i⟩ := r
  rw [arm_assign_Tuple]
  refine wpAny_bind (wpAny_standAt ?_)
  unfold unpack
  rw [show (assignEach elts C.env).length = vs.toArray.size by rw [hn, List.size_toArray, i.length], hstar]
  refine wpAny_bind (wpAny_holding (unpack_list (M := model B.prog B.w) f.cx.handled t.isList fun h' he => ?_))
  have kk := ext_keep he
  have st : Step noX ρ s.heap ρ h' := Step.ofKeep kk
  refine wpAny_mono (h av ρ _ vs (y.kept kk s.toks) (f.step st) (i.mono (st.kpNo av))) (fun _ s₂ ⟨ρ₂, σ₂, l₂, st₂, y₂, f₂, q₂⟩ => ⟨ρ₂, σ₂, l₂, st.ofNo.trans st₂, y₂, f₂, q₂⟩) fun _ _ e => e
end

section
variable {B : Base} {C : Cx} {av av' ρ ρ' : List Addr} {l : Loc} {σ : Store} {s : Shared} {h h' : Heap}

/-- the frame stands where its own objects and what its values lean on stand -/
theorem FrameOk.move (f : FrameOk B C av ρ l h) (kp : Kp ρ av h ρ' av' h') (keepL : ∀ o, h.get? C.env.locals = some o → h'.get? C.env.locals = some o)
    (keepC : ∀ x c, C.env.cells.lookup x = some c → ∀ o, h.get? c = some o → h'.get? c = some o) (hL : C.env.locals ∉ ρ') (hC : ∀ x c, C.env.cells.lookup x = some c → c ∉ ρ') : FrameOk B C av' ρ' l h' := by
  obtain ⟨m, hn⟩ := f.ns
  refine ⟨f.cx, ⟨m, Heap.Ns.toIt hn keepL⟩, hL, f.lbase, fun y c hp => ?_, fun x a hx => ?_⟩
  · obtain ⟨⟨v, hc⟩, hr, hb⟩ := f.cells y c hp
    exact ⟨⟨v, Heap.IsCell.toIt hc (keepC y c hp)⟩, hC y c hp, hb⟩
  · obtain ⟨c, hv, hk⟩ := f.names x a hx
    refine ⟨c, hv.mono kp, ?_⟩
    rcases hk with ⟨e, m', hn', hm'⟩ | ⟨e, k, hk, hc⟩ | hg
    · exact .inl ⟨e, m', Heap.Ns.toIt hn' keepL, hm'⟩
    · exact .inr (.inl ⟨e, k, hk, Heap.IsCell.toIt hc (keepC x k hk)⟩)
    · exact .inr (.inr hg)

theorem FrameOk.liveL (f : FrameOk B C av ρ l h) : ∃ o, h.get? C.env.locals = some o := let ⟨_, o, _, _, ho, _⟩ := f.ns; ⟨o, ho⟩
theorem FrameOk.liveC (f : FrameOk B C av ρ l h) {x : Str} {c : Addr} (e : C.env.cells.lookup x = some c) : ∃ o, h.get? c = some o := let ⟨⟨_, o, ho, _⟩, _⟩ := f.cells x c e; ⟨o, ho⟩
theorem FrameOk.liveX (f : FrameOk B C av ρ l h) {b : Addr} (e : C.X b) : ∃ o, h.get? b = some o := by
  rcases e with rfl | ⟨x, hx⟩
  · exact f.liveL
  · exact f.liveC (f.cx.own x b hx)

theorem mem_ext {X : Addr → Prop} {a : Addr} {o : Obj} (st : Step X ρ h ρ' h') (ho : h.get? a = some o) (hr : a ∉ ρ) : a ∉ ρ' := by
  obtain ⟨e, rfl, f⟩ := st.ext
  intro hm
  rcases List.mem_append.mp hm with hm | hm
  · exact hr hm
  · rw [f a hm] at ho; cases ho

/-- more to avoid -/
theorem Sim.more {extra : List Addr} (x : Sim B av ρ σ s) (hn : ∀ b ∈ extra, b ∉ ρ ∧ B.h₀.get? b = none ∧ ∃ o, s.heap.get? b = some o) (kp : Kp ρ av s.heap ρ (extra ++ av) s.heap) : Sim B (extra ++ av) ρ σ s :=
  ⟨x.ok, x.keep, x.fresh, fun a ha => by
    rcases List.mem_append.mp ha with ha | ha
    · exact ⟨(hn a ha).2.1, (hn a ha).2.2, (hn a ha).1⟩
    · exact x.avoid a ha, x.big, x.nodup, x.len, fun l a o h1 h2 => (x.rep l a o h1 h2).keep kp rfl, x.gens, x.os⟩
theorem Kp.less {extra : List Addr} : Kp ρ (extra ++ av) h ρ av h := ⟨fun _ _ e => e, fun _ _ _ _ ho _ r v => ⟨ho, r, fun hm => v (List.mem_append_right _ hm)⟩⟩
theorem Sim.less {extra : List Addr} (x : Sim B (extra ++ av) ρ σ s) : Sim B av ρ σ s :=
  ⟨x.ok, x.keep, x.fresh, fun a ha => x.avoid a (List.mem_append_right _ ha), x.big, x.nodup, x.len, fun l a o h1 h2 => (x.rep l a o h1 h2).keep Kp.less rfl, x.gens, x.os⟩
theorem FrameOk.less {extra : List Addr} (f : FrameOk B C (extra ++ av) ρ l h) : FrameOk B C av ρ l h := f.move Kp.less (fun _ e => e) (fun _ _ _ _ e => e) f.lρ fun x c e => (f.cells x c e).2.1

/-! statements -/
theorem s_nil {Qn : Loc → Store → Prop} {Qr : AVal → Store → Prop} (q : Qn l σ) : WS B C (execs [] C.env) l σ Qn Qr :=
  fun _ ρ _ x f => wpAny_execs_nil ⟨ρ, σ, Step.refl _ _ _, x, l, f, q⟩

theorem flow_cont {M : Model} {A : Around} {ρ₁ : List Addr} {s₁ s₂ : Shared} {X : Addr → Prop} {Qn : Loc → Store → Prop} {Qr : AVal → Store → Prop} {t : Sem Flow} (st : Step X ρ s₁.heap ρ₁ s₂.heap)
    (h : wpAny M A t (fun f s' => ∃ ρ' σ', Step X ρ₁ s₂.heap ρ' s'.heap ∧ Sim B av ρ' σ' s' ∧ FlowOk B C av ρ' σ' s' Qn Qr f) noE s₂) :
    wpAny M A t (fun f s' => ∃ ρ' σ', Step X ρ s₁.heap ρ' s'.heap ∧ Sim B av ρ' σ' s' ∧ FlowOk B C av ρ' σ' s' Qn Qr f) noE s₂ :=
  wpAny_mono h (fun _ _ ⟨ρ', σ', st', r⟩ => ⟨ρ', σ', st.trans st', r⟩) fun _ _ e => e

theorem s_cons {st : Stmt} {rest : List Stmt} {Qn : Loc → Store → Prop} {Qr : AVal → Store → Prop} (h : WS B C (exec st C.env) l σ (fun l' σ' => WS B C (execs rest C.env) l' σ' Qn Qr) Qr) :
    WS B C (execs (st :: rest) C.env) l σ Qn Qr := by
  intro av ρ s x f
  rw [execs_cons]
  refine wpAny_bind (wpAny_mono (h av ρ s x f) (fun fl s₁ ⟨ρ₁, σ₁, st₁, x₁, hf⟩ => ?_) fun _ _ e => e)
  cases fl with
  | next => obtain ⟨l', f', q⟩ := hf; exact flow_cont st₁ (q av ρ₁ s₁ x₁ f')
  | ret c => exact wpAny_pure ⟨ρ₁, σ₁, st₁, x₁, hf⟩
  | brk => exact hf.elim
  | cont => exact hf.elim

theorem s_return {e : Expr} {pos} {Qn : Loc → Store → Prop} {Qr : AVal → Store → Prop} (h : WV B C (eval e C.env) l σ Qr) : WS B C (exec (.Return (some e) pos) C.env) l σ Qn Qr := by
  intro av ρ s x f
  refine wpAny_Return_some (wp_cont (h av ρ s x f) fun c s₁ ρ₁ σ₁ a st x₁ r q => ?_)
  exact ⟨ρ₁, σ₁, st.ofNo, x₁, a, r, q⟩

theorem s_if {test : Expr} {body orelse : List Stmt} {pos} {Qn : Loc → Store → Prop} {Qr : AVal → Store → Prop}
    (h : WB B C (isTrue test C.env (eval test C.env)) l σ fun b σ₁ => if b then WS B C (execs body C.env) l σ₁ Qn Qr else WS B C (execs orelse C.env) l σ₁ Qn Qr) : WS B C (exec (.If test body orelse pos) C.env) l σ Qn Qr := by
  intro av ρ s x f
  refine wpAny_If (wp_cont (h av ρ s x f) fun c s₁ ρ₁ σ₁ a st x₁ r q => ?_)
  have e0 : a = c := r
  subst e0
  cases a with
  | true => exact flow_cont st.ofNo (q av ρ₁ s₁ x₁ (f.step st))
  | false => exact flow_cont st.ofNo (q av ρ₁ s₁ x₁ (f.step st))

theorem exec_Assign (targets : List Expr) (value : Expr) (pos : Pos) (env : Env) (hs : swapsWithSole targets value pos.line env = pure false) :
    exec (.Assign targets value pos) env = (do standAt pos; let v ← eval value env; assignStores env v (← swappedStores targets value env) ((assignEach targets env).map (·.2))) := by
  have e : exec (.Assign targets value pos) env = (do
    standAt pos
    if ← swapsWithSole targets value pos.line env then do
      evalThenUse value env fun v => assignAll v ((assignEach targets env).map (·.2))
      pure .next
    else do
      let v ← eval value env
      assignStores env v (← swappedStores targets value env) ((assignEach targets env).map (·.2))) := rfl
  rw [e, hs]; rfl

theorem s_assign {t : Expr} {value : Expr} {pos} {Qn : Loc → Store → Prop} {Qr : AVal → Store → Prop} (h : WV B C (eval value C.env) l σ fun a σ₁ => WA B C (assign t C.env) a l σ₁ Qn)
    (hs : swapsWithSole [t] value pos.line C.env = pure false := by rfl) (hw : swappedStores [t] value C.env = pure none := by rfl) (ht : assignEach [t] C.env = [(false, assign t C.env)] := by rfl) :
    WS B C (exec (.Assign [t] value pos) C.env) l σ Qn Qr := by
  intro av ρ s x f
  rw [exec_Assign _ _ _ _ hs, hw, ht]
  refine wpAny_bind (wpAny_standAt (wpAny_bind (wp_cont (h av ρ s x f) fun c s₁ ρ₁ σ₁ a st x₁ r q => ?_)))
  refine wpAny_bind (wpAny_pure ?_)
  show wpAny _ _ (assignAll c [assign t C.env] >>= fun _ => pure Flow.next) _ _ s₁
  refine wpAny_bind ?_
  show wpAny _ _ (assign t C.env c) _ _ s₁
  exact wpAny_mono (q av ρ₁ s₁ c x₁ (f.step st) r) (fun _ s₂ ⟨ρ₂, σ₂, l₂, st₂, x₂, f₂, q₂⟩ => wpAny_pure ⟨ρ₂, σ₂, st.ofNo.trans st₂, x₂, l₂, f₂, q₂⟩) fun _ _ e => e

/-- two or three local names at once: the last takes its value first -/
theorem s_swap {t : Expr} {value : Expr} {pos} {names : List Str} {Qn : Loc → Store → Prop} {Qr : AVal → Store → Prop}
    (h : WV B C (eval value C.env) l σ fun a σ₁ => isT a = true ∧ alen a = names.length ∧ ∃ b, (∀ ρ av h vs, IRel ρ av h a vs → IRel ρ av h b vs.reverse) ∧ WAs B C (names.reverse.map fun n => bindName C.env n) b l σ₁ Qn)
    (hs : swapsWithSole [t] value pos.line C.env = pure false := by rfl) (hw : swappedStores [t] value C.env = pure (some names) := by rfl) :
    WS B C (exec (.Assign [t] value pos) C.env) l σ Qn Qr := by
  intro av ρ s x f
  rw [exec_Assign _ _ _ _ hs, hw]
  refine wpAny_bind (wpAny_standAt (wpAny_bind (wp_cont (h av ρ s x f) fun c s₁ ρ₁ σ₁ a st x₁ r q => ?_)))
  obtain ⟨ha, hlen, b, hb, q⟩ := q
  refine wpAny_bind (wpAny_pure ?_)
  obtain ⟨ad, vs, rfl, _, _, t, i⟩ := VRel.tup ha r
  show wpAny _ _ (rule "assign.swapped-stores" >>= fun _ => unpackItems (.ref ad) names.length none >>= fun items => assignInOrder (names.reverse.map fun n => bindName C.env n) items.reverse >>= fun _ => pure Flow.next) _ _ s₁
  refine wpAny_bind (wpAny_rule (wpAny_bind ?_))
  rw [show names.length = vs.toArray.size by rw [List.size_toArray, i.length, hlen]]
  refine wpAny_unpackItems_tuple f.cx.handled t.isTuple fun h' he => ?_
  have kk := ext_keep he
  have st₂ : Step noX ρ₁ s₁.heap ρ₁ h' := Step.ofKeep kk
  refine wpAny_bind (wpAny_mono (q av ρ₁ _ vs.reverse (x₁.kept kk s₁.toks) ((f.step st).step st₂) (hb _ _ _ _ (i.mono (st₂.kpNo av)))) (fun _ s₃ ⟨ρ₃, σ₃, l₃, st₃, x₃, f₃, q₃⟩ => ?_) fun _ _ e => e)
  exact wpAny_pure ⟨ρ₃, σ₃, ((st.trans st₂).ofNo).trans st₃, x₃, l₃, f₃, q₃⟩

theorem s_expr {e : Expr} {pos} {Qn : Loc → Store → Prop} {Qr : AVal → Store → Prop} (h : WV B C (eval e C.env) l σ fun a σ₁ => a = .none ∧ Qn l σ₁)
    (hi : interactive C.env = false := by rfl) (hs : swapsWith e none pos.line C.env = pure false := by rfl) : WS B C (exec (.Expr e pos) C.env) l σ Qn Qr := by
  intro av ρ s x f
  refine wpAny_Expr (wp_cont (h av ρ s x f) fun c s₁ ρ₁ σ₁ a st x₁ r q => ?_) hi hs
  obtain ⟨rfl, q⟩ := q
  simp only [VRel] at r
  subst r
  exact ⟨ρ₁, σ₁, st.ofNo, x₁, l, f.step st, q⟩

/-- an operation that stores -/
noncomputable def O3 (B : Base) (C : Cx) (t : Value → Value → Value → Sem Unit) (b k a : AVal) (σ : Store) (Q : Store → Prop) : Prop :=
  ∀ av ρ s c d e, Sim B av ρ σ s → CxOk B C → VRel ρ av s.heap b c → VRel ρ av s.heap k d → VRel ρ av s.heap a e →
    wpAny (model B.prog B.w) C.A (t c d e) (fun _ s' => ∃ ρ' σ', Step noX ρ s.heap ρ' s'.heap ∧ Sim B av ρ' σ' s' ∧ Q σ') noE s

theorem a_sub {o i : Expr} {pos : Pos} {a : AVal} {Q : Loc → Store → Prop} (h : WV B C (eval o C.env) l σ fun b σ₁ => WV B C (eval i C.env) l σ₁ fun k σ₂ => O3 B C setItem b k a σ₂ (Q l)) :
    WA B C (assign (.Subscript o i pos) C.env) a l σ Q := by
  intro av ρ s c x f r
  rw [assign_Subscript]
  refine wpAny_bind (wpAny_holding (wp_cont (h av ρ s x f) fun d s₁ ρ₁ σ₁ b st₁ x₁ r₁ q₁ => ?_))
  refine wpAny_bind (wpAny_holding (wp_cont (q₁ av ρ₁ s₁ x₁ (f.step st₁)) fun e s₂ ρ₂ σ₂ k st₂ x₂ r₂ q₂ => ?_))
  have kp := (st₁.trans st₂).kpNo av
  refine wpAny_bind (wpAny_standAt (wpAny_bind (wpAny_holding (wpAny_mono (q₂ av ρ₂ s₂ d e c x₂ f.cx (r₁.mono (st₂.kpNo av)) r₂ (r.mono kp)) (fun _ s₃ ⟨ρ₃, σ₃, st₃, x₃, q₃⟩ => ?_) fun _ _ e => e))))
  have st := (st₁.trans st₂).trans st₃
  refine wpAny_release ⟨ρ₃, σ₃, l, st.ofNo, x₃, f.step st, q₃⟩
end

/-- an iterator that will hand out xs -/
structure Iter (B : Base) (A : Around) (target : Expr) (av : List Addr) (I : Addr) (xs : AVal) (P : Store → Prop) (fp : List Addr) (St : Nat → List Addr → Heap → Prop) : Prop where
  live : ∀ i ρ h, St i ρ h → ∀ b ∈ fp, ∃ o, h.get? b = some o
  seqs : ∀ i ρ h, St i ρ h → ∀ b ∈ fp, ∀ o ys n, h.get? b = some o → o.data = .seq ys n → b ∈ av
  frame : ∀ i ρ h ρ' h', St i ρ h → (∀ b ∈ fp, ∀ o, h.get? b = some o → h'.get? b = some o) → Kp ρ av h ρ' av h' → St i ρ' h'
  turn : ∀ i (s : Shared) ρ σ (R : Value → Shared → Prop) (E : Value → Shared → Prop), i < alen xs → Sim B av ρ σ s → (∀ b ∈ fp, b ∉ ρ ∧ B.h₀.get? b = none) → P σ → St i ρ s.heap →
    (∀ c a h' tk, aget xs i = some a → (∀ b o, b ∉ fp → s.heap.get? b = some o → h'.get? b = some o) → (∀ b, h'.get? b = none → s.heap.get? b = none) → VRel ρ av h' a c → St (i + 1) ρ h' → R c { s with heap := h', toks := tk }) →
    wpAny (model B.prog B.w) A (pyNext (.ref I)) (fun r s₁ => ∃ c, r = some c ∧ wpAny (model B.prog B.w) A (letOwnedTupleGo target (.ref I) c) (fun _ s₂ => R c s₂) E s₁) E s
  done : ∀ (s : Shared) ρ σ (R : Shared → Prop) (E : Value → Shared → Prop), Sim B av ρ σ s → (∀ b ∈ fp, b ∉ ρ ∧ B.h₀.get? b = none) → P σ → St (alen xs) ρ s.heap →
    (∀ h' tk, (∀ b o, b ∉ fp → s.heap.get? b = some o → h'.get? b = some o) → R { s with heap := h', toks := tk }) →
    wpAny (model B.prog B.w) A (pyNext (.ref I)) (fun r s₁ => r = none ∧ R s₁) E s
  self : ∀ i (s : Shared) ρ (Q : Value → Shared → Prop) (E : Value → Shared → Prop), St i ρ s.heap → Q (.ref I) s → wpAny (model B.prog B.w) A (pyIter (.ref I)) Q E s

/-- a source of items -/
noncomputable def SrcOk (B : Base) (C : Cx) (target : Expr) (t : Sem Value) (l : Loc) (σ : Store) (Qs : AVal → (Store → Prop) → Store → Prop) : Prop :=
  ∀ av ρ s, Sim B av ρ σ s → FrameOk B C av ρ l s.heap → ∀ (Qf : Value → Shared → Prop),
    (∀ I extra fp, ∀ St : List Addr → Nat → List Addr → Heap → Prop, ∀ ρ₂ σ₂ s₂ xs P, (∀ av', (∀ b ∈ extra, b ∈ av') → Iter B C.A target av' I xs P fp (St av')) → Step noX ρ s.heap ρ₂ s₂.heap → Sim B (extra ++ av) ρ₂ σ₂ s₂ → (∀ b ∈ fp, s.heap.get? b = none) → (∀ b ∈ fp, b ∉ ρ₂ ∧ B.h₀.get? b = none) →
      (∀ b ∈ extra, s.heap.get? b = none) → (∀ av' ρ' h', Kp ρ₂ (extra ++ av) s₂.heap ρ' av' h' → (∀ b ∈ fp, ∀ o, s₂.heap.get? b = some o → h'.get? b = some o) → St av' 0 ρ' h') → (∀ b ∈ fp, ∃ o, s₂.heap.get? b = some o) → P σ₂ → Qs xs P σ₂ → Qf (.ref I) s₂) →
    wpAny (model B.prog B.w) C.A t (fun xv s₁ => wpAny (model B.prog B.w) C.A (pyIter xv) Qf noE s₁) noE s

section
variable {B : Base} {C : Cx} {av ρ ρ' : List Addr} {l : Loc} {σ : Store} {s : Shared} {h h' : Heap}

theorem Kp.extra {extra : List Addr} (st : Step noX ρ h ρ' h') (he : ∀ b ∈ extra, h.get? b = none) : Kp ρ av h ρ' (extra ++ av) h' := by
  have k := st.kpNo av
  refine ⟨k.at_, fun a o xs n ho hd r v => ?_⟩
  obtain ⟨h1, h2, h3⟩ := k.seq a o xs n ho hd r v
  refine ⟨h1, h2, fun hm => ?_⟩
  rcases List.mem_append.mp hm with hm | hm
  · rw [he a hm] at ho; cases ho
  · exact v hm

/-- what an iterator's step changes -/
theorem iter_step {fp : List Addr} (hk : ∀ b o, b ∉ fp → h.get? b = some o → h'.get? b = some o) (hl : ∀ b, h'.get? b = none → h.get? b = none) : Step (fun b => b ∈ fp) ρ h ρ h' :=
  ⟨⟨[], by simp, by simp⟩, fun b o e _ x => hk b o x e, hl⟩

theorem Step.drop {X : Addr → Prop} {fp : List Addr} (st : Step (fun b => X b ∨ b ∈ fp) ρ h ρ' h') (hf : ∀ b ∈ fp, h.get? b = none) : Step X ρ h ρ' h' :=
  ⟨st.ext, fun b o e r x => st.keep b o e r fun hx => hx.elim x fun hm => (by rw [hf b hm] at e; cases e), st.live⟩

theorem letGo_other {M : Model} {A : Around} {E : Value → Shared → Prop} {target : Expr} {I : Addr} {c : Value} {o : Obj} {n : String} {vs : Array Value} {Q : Unit → Shared → Prop} (ho : s.heap.get? I = some o) (hc : o.cls = .type n) (hd : o.data = .fields vs)
    (hn : (["enumerate", "zip", "dict_itemiterator", "dict_reverseitemiterator", "odict_iterator", "itertools.zip_longest", "itertools.pairwise"] : List String).contains n = false) (h : Q () s) : wpAny M A (letOwnedTupleGo target (.ref I) c) Q E s := by
  unfold letOwnedTupleGo
  split
  · split
    · rename_i r a heq
      cases heq
      refine wpAny_bind (wpAny_load ho ?_)
      rw [hc, hd]
      dsimp only
      rw [hn, Bool.false_and, if_neg (by decide)]
      exact wpAny_pure h
    · exact wpAny_pure h
  · split
    · rename_i r a heq
      cases heq
      refine wpAny_bind (wpAny_load ho ?_)
      rw [hc, hd]
      dsimp only
      rw [hn, Bool.false_and, if_neg (by decide)]
      exact wpAny_pure h
    · exact wpAny_pure h
  · exact wpAny_pure h

theorem aget_lt : ∀ {xs : AVal} {i : Nat}, i < alen xs → ∃ a, aget xs i = some a
  | .cons x xs, 0, _ => ⟨x, rfl⟩
  | .cons x xs, i + 1, h => by simp only [alen] at h; simpa [aget] using aget_lt (xs := xs) (i := i) (by omega)
  | .nil, i, h | .none, i, h | .bool _, i, h | .int _, i, h | .str _, i, h | .lst _, i, h | .loc _, i, h | .con _, i, h => by simp [alen] at h

/-- over a tuple -/
theorem iter_tuple {A : Around} {target : Expr} (hh : A.handled = none) {I ax : Addr} (xs : AVal) :
    Iter B A target av I xs (fun _ => True) [I] (fun i ρ h => h.IsTupleIter I ax i ∧ ∃ vs, TupAt h ax vs.toArray ∧ ax ∉ ρ ∧ ax ∉ av ∧ IRel ρ av h xs vs) where
  live := fun i ρ h st b hb => by rw [List.mem_singleton.mp hb]; obtain ⟨⟨o, ho, _⟩, _⟩ := st; exact ⟨o, ho⟩
  seqs := fun i ρ h st b hb o ys n ho hd => by
    rw [List.mem_singleton.mp hb] at ho
    obtain ⟨⟨o', ho', _, hd'⟩, _⟩ := st
    rw [ho] at ho'; cases ho'; rw [hd] at hd'; cases hd'
  frame := fun i ρ h ρ' h' st hk kp => by
    obtain ⟨hi, vs, t, r, v, ir⟩ := st
    obtain ⟨t', r', v'⟩ := kp.tuple t r v
    exact ⟨Heap.IsTupleIter.at hi fun o e => hk I (by simp) o e, vs, t', r', v', ir.mono kp⟩
  turn := fun i s ρ σ R E hi x _ _ st hR => by
    obtain ⟨hit, vs, t, r, v, ir⟩ := st
    obtain ⟨a, ha⟩ := aget_lt hi
    obtain ⟨c, hc, hv⟩ := ir.get ha
    have hne : ax ≠ I := by
      rintro rfl
      obtain ⟨o, ho, _, hd⟩ := hit
      obtain ⟨n, ho'⟩ := t
      rw [ho] at ho'; cases ho'; cases hd
    refine wpAny_pyNext_tuple_item hit t.isTuple (x := c) (by simpa using hc) fun h' hit' hs' => ⟨c, rfl, ?_⟩
    obtain ⟨o', ho', hc', hd'⟩ := id hit'
    have kp : Kp ρ av s.heap ρ av h' := ⟨fun _ _ e => e, fun b o ys n hb hdb hr hv => ⟨(hs'.2 b (by
      rintro rfl
      obtain ⟨o2, ho2, _, hd2⟩ := hit
      rw [hb] at ho2; cases ho2; rw [hdb] at hd2; cases hd2)).trans hb, hr, hv⟩⟩
    refine letGo_other (s := { s with heap := h' }) ho' hc' hd' (by decide) ?_
    exact hR c a h' s.toks ha (fun b o hb e => (hs'.2 b fun q => hb (by simp [q])).trans e) (fun b e => by
      by_cases q : b = I
      · rw [q, ho'] at e; cases e
      · exact (hs'.2 b q).symm.trans e) (hv.mono kp) ⟨hit', vs, (kp.tuple t r v).1, r, v, ir.mono kp⟩
  done := fun s ρ σ R E x _ _ st hR => by
    obtain ⟨hit, vs, t, r, v, ir⟩ := st
    refine wpAny_pyNext_tuple_end hh hit t.isTuple (by simp [← ir.length]) fun h' he => ⟨rfl, ?_⟩
    exact hR h' s.toks (fun b o hb e => he b o (fun q => hb (by simp [q])) e)
  self := fun i s ρ Q E st hQ => wpAny_pyIter_tupleiter st.1 hQ

/-- over a list that stays -/
theorem iter_lst {A : Around} {target : Expr} (hh : A.handled = none) {I ax : Addr} (xs : AVal) :
    Iter B A target av I xs (fun _ => True) [I] (fun i ρ h => h.IsListIter I ax i ∧ ∃ vs, h.PlainList ax (vs : List Value).toArray ∧ ax ∉ ρ ∧ ax ∉ av ∧ IRel ρ av h xs vs) where
  live := fun i ρ h st b hb => by rw [List.mem_singleton.mp hb]; obtain ⟨⟨o, ho, _⟩, _⟩ := st; exact ⟨o, ho⟩
  seqs := fun i ρ h st b hb o ys n ho hd => by
    rw [List.mem_singleton.mp hb] at ho
    obtain ⟨⟨o', ho', _, hd'⟩, _⟩ := st
    rw [ho] at ho'; cases ho'; rw [hd] at hd'; cases hd'
  frame := fun i ρ h ρ' h' st hk kp => by
    obtain ⟨hi, vs, t, r, v, ir⟩ := st
    obtain ⟨t', r', v'⟩ := kp.list t r v
    exact ⟨Heap.IsListIter.at hi fun o e => hk I (by simp) o e, vs, t', r', v', ir.mono kp⟩
  turn := fun i s ρ σ R E hi x _ _ st hR => by
    obtain ⟨hit, vs, t, r, v, ir⟩ := st
    obtain ⟨a, ha⟩ := aget_lt hi
    obtain ⟨c, hc, hv⟩ := ir.get ha
    refine wpAny_pyNext_list_item hit t.isList (x := c) (by simpa using hc) fun h' hit' hs' => ⟨c, rfl, ?_⟩
    obtain ⟨o', ho', hc', hd'⟩ := id hit'
    have kp : Kp ρ av s.heap ρ av h' := ⟨fun _ _ e => e, fun b o ys n hb hdb hr hv => ⟨(hs'.2 b (by
      rintro rfl
      obtain ⟨o2, ho2, _, hd2⟩ := hit
      rw [hb] at ho2; cases ho2; rw [hdb] at hd2; cases hd2)).trans hb, hr, hv⟩⟩
    refine letGo_other (s := { s with heap := h' }) ho' hc' hd' (by decide) ?_
    exact hR c a h' s.toks ha (fun b o hb e => (hs'.2 b fun q => hb (by simp [q])).trans e) (fun b e => by
      by_cases q : b = I
      · rw [q, ho'] at e; cases e
      · exact (hs'.2 b q).symm.trans e) (hv.mono kp) ⟨hit', vs, (kp.list t r v).1, r, v, ir.mono kp⟩
  done := fun s ρ σ R E x _ _ st hR => by
    obtain ⟨hit, vs, t, r, v, ir⟩ := st
    refine wpAny_pyNext_list_end hh hit t.isList (by simp [← ir.length]) fun h' he => ⟨rfl, ?_⟩
    exact hR h' s.toks (fun b o hb e => he b o (fun q => hb (by simp [q])) e)
  self := fun i s ρ Q E st hQ => wpAny_pyIter_listiter st.1 hQ

/-- over a list of the store -/
theorem iter_loc {A : Around} {target : Expr} (hh : A.handled = none) {I ax : Addr} {k : Nat} (xs : AVal) :
    Iter B A target av I xs (fun σ => σ[k]? = some (.list xs)) [I] (fun i ρ h => h.IsListIter I ax i ∧ ρ[k]? = some ax) where
  live := fun i ρ h st b hb => by rw [List.mem_singleton.mp hb]; obtain ⟨⟨o, ho, _⟩, _⟩ := st; exact ⟨o, ho⟩
  seqs := fun i ρ h st b hb o ys n ho hd => by
    rw [List.mem_singleton.mp hb] at ho
    obtain ⟨⟨o', ho', _, hd'⟩, _⟩ := st
    rw [ho] at ho'; cases ho'; rw [hd] at hd'; cases hd'
  frame := fun i ρ h ρ' h' st hk kp => ⟨Heap.IsListIter.at st.1 fun o e => hk I (by simp) o e, kp.at_ _ _ st.2⟩
  turn := fun i s ρ σ R E hi x _ hp st hR => by
    obtain ⟨hit, hl⟩ := st
    obtain ⟨vs, t, ir⟩ := x.rep k ax _ hl hp
    obtain ⟨a, ha⟩ := aget_lt hi
    obtain ⟨c, hc, hv⟩ := ir.get ha
    refine wpAny_pyNext_list_item hit t.isList (x := c) (by simpa using hc) fun h' hit' hs' => ⟨c, rfl, ?_⟩
    obtain ⟨o', ho', hc', hd'⟩ := id hit'
    have kp : Kp ρ av s.heap ρ av h' := ⟨fun _ _ e => e, fun b o ys n hb hdb hr hv => ⟨(hs'.2 b (by
      rintro rfl
      obtain ⟨o2, ho2, _, hd2⟩ := hit
      rw [hb] at ho2; cases ho2; rw [hdb] at hd2; cases hd2)).trans hb, hr, hv⟩⟩
    refine letGo_other (s := { s with heap := h' }) ho' hc' hd' (by decide) ?_
    exact hR c a h' s.toks ha (fun b o hb e => (hs'.2 b fun q => hb (by simp [q])).trans e) (fun b e => by
      by_cases q : b = I
      · rw [q, ho'] at e; cases e
      · exact (hs'.2 b q).symm.trans e) (hv.mono kp) ⟨hit', hl⟩
  done := fun s ρ σ R E x _ hp st hR => by
    obtain ⟨hit, hl⟩ := st
    obtain ⟨vs, t, ir⟩ := x.rep k ax _ hl hp
    refine wpAny_pyNext_list_end hh hit t.isList (by simp [← ir.length]) fun h' he => ⟨rfl, ?_⟩
    exact hR h' s.toks (fun b o hb e => he b o (fun q => hb (by simp [q])) e)
  self := fun i s ρ Q E st hQ => wpAny_pyIter_listiter st.1 hQ

/-- the iot from a on -/
noncomputable def iot : Int → Nat → AVal
  | _, 0 => .nil
  | a, n + 1 => .cons (.int a) (iot (a + 1) n)
theorem alen_iot : ∀ (a : Int) (n : Nat), alen (iot a n) = n
  | _, 0 => rfl
  | a, n + 1 => by simp [iot, alen, alen_iot]
theorem aget_iot : ∀ (a : Int) (n i : Nat), i < n → aget (iot a n) i = some (.int (a + i))
  | a, 0, i, h => by omega
  | a, n + 1, 0, h => by simp [iot, aget]
  | a, n + 1, i + 1, h => by
    simp only [iot, aget]
    rw [aget_iot (a + 1) n i (by omega)]
    congr 2
    push_cast; omega

/-- over a range -/
theorem iter_range {A : Around} {target : Expr} (hh : A.handled = none) {I : Addr} (n : Nat) :
    Iter B A target av I (iot 0 n) (fun _ => True) [I] (fun i _ h => IsRangeIter h I (i : Nat) ((n : Int) - (i : Nat)) 1) where
  live := fun i ρ h st b hb => by rw [List.mem_singleton.mp hb]; exact ⟨_, st⟩
  seqs := fun i ρ h st b hb o ys m ho hd => by
    rw [List.mem_singleton.mp hb] at ho
    cases Option.some.inj (ho.symm.trans st); cases hd
  frame := fun i ρ h ρ' h' st hk _ => hk I (by simp) _ st
  turn := fun i s ρ σ R E hi x _ hp st hR => by
    rw [alen_iot] at hi
    refine wpAny_pyNext_range_item st (by omega) fun h' hit' hs' => ⟨_, rfl, ?_⟩
    have kp : Kp ρ av s.heap ρ av h' := ⟨fun _ _ e => e, fun b o ys n hb hdb hr hv => ⟨(hs'.2 b (by
      rintro rfl
      cases Option.some.inj (hb.symm.trans st); cases hdb)).trans hb, hr, hv⟩⟩
    refine letGo_other (s := { s with heap := h', toks := s.toks + 1 }) hit' rfl rfl (by decide) ?_
    refine hR _ (.int i) h' _ (by rw [aget_iot 0 n i hi]; simp) (fun b o hb e => (hs'.2 b fun q => hb (by simp [q])).trans e) (fun b e => by
      by_cases q : b = I
      · rw [q, hit'] at e; cases e
      · exact (hs'.2 b q).symm.trans e) (by simp only [VRel]; exact ⟨_, rfl⟩) ?_
    have e1 : ((i + 1 : Nat) : Int) = (i : Int) + 1 := by push_cast; rfl
    have e2 : (n : Int) - ((i + 1 : Nat) : Int) = (n : Int) - (i : Int) - 1 := by push_cast; omega
    rw [e2, e1]; exact hit'
  done := fun s ρ σ R E x _ hp st hR => by
    rw [alen_iot] at st
    refine wpAny_pyNext_range_end hh st (by omega) fun h' he => ⟨rfl, ?_⟩
    exact hR h' s.toks (fun b o hb e => he b o (fun q => hb (by simp [q])) e)
  self := fun i s ρ Q E st hQ => wpAny_pyIter_rangeiter st hQ

theorem Sim.move {av' : List Addr} (x : Sim B av ρ σ s) {s' : Shared} (kp : Kp ρ av s.heap ρ av' s'.heap) (hb : ∀ b o, B.h₀.get? b = some o → s.heap.get? b = some o → s'.heap.get? b = some o)
    (hp : ∀ a ∈ ρ, s'.heap.get? a = s.heap.get? a) (hav : ∀ a ∈ av', a ∈ av ∧ ∃ o, s'.heap.get? a = some o) (hg : s'.gens = s.gens) (ho : s'.os = s.os) : Sim B av' ρ σ s' :=
  ⟨x.ok, fun b o e => hb b o e (x.keep b o e), x.fresh, fun a ha => ⟨(x.avoid a (hav a ha).1).1, (hav a ha).2, (x.avoid a (hav a ha).1).2.2⟩, x.big, x.nodup, x.len,
    fun l a o h1 h2 => (x.rep l a o h1 h2).keep kp (hp a (List.mem_of_getElem? h1)), hg.trans x.gens, ho.trans x.os⟩

theorem noted_of_no {M : Model} {A : Around} {env : Env} {E : Value → Shared → Prop} : ∀ e s, noE e s → notedBy M A env E e s := fun _ _ h => h.elim

/-- a loop by its invariant -/
theorem s_for {target iter : Expr} {body : List Stmt} {pos} {Qn : Loc → Store → Prop} {Qr : AVal → Store → Prop}
    (h : SrcOk B C target (eval iter C.env) l σ fun xs P σ₂ => ∃ Inv : Nat → Loc → Store → Prop, Inv 0 l σ₂ ∧ (∀ l' σ', P σ' → Inv (alen xs) l' σ' → Qn l' σ') ∧
      ∀ i a l' σ', aget xs i = some a → P σ' → Inv i l' σ' → WA B C (assign target C.env) a l' σ' fun l₁ σ₁ => WS B C (execs body C.env) l₁ σ₁ (fun l₂ σ₃ => P σ₃ ∧ Inv (i + 1) l₂ σ₃) Qr)
    (hs : ∀ x, foldedSetIterable iter C.env x = pure x := by intro _; rfl) : WS B C (exec (.For target iter body [] pos) C.env) l σ Qn Qr := by
  intro av ρ s x f
  refine wpAny_For (h av ρ s x f _ fun I extra fp St0 ρ₂ σ₂ s₂ xs P It0 st x₂ hfresh hfp hex hst0 _ hP hq => ?_) hs
  have It := It0 (extra ++ av) fun b hb => List.mem_append_left _ hb
  have hst := hst0 (extra ++ av) ρ₂ s₂.heap (Kp.refl ..) fun _ _ _ e => e
  generalize St0 (extra ++ av) = St at It hst
  obtain ⟨Inv, h0, hend, hturn⟩ := hq
  have f₂ : FrameOk B C (extra ++ av) ρ₂ l s₂.heap := f.move (Kp.extra st hex) (fun o e => st.keep _ o e f.lρ fun z => z) (fun y c hc o e => st.keep _ o e (f.cells y c hc).2.1 fun z => z)
    (let ⟨o, ho⟩ := f.liveL; mem_ext st ho f.lρ) (fun y c hc => let ⟨o, ho⟩ := f.liveC hc; mem_ext st ho (f.cells y c hc).2.1)
  have hne : ∀ b, C.X b → b ∉ fp := fun b hX hm => by obtain ⟨o, ho⟩ := f.liveX hX; rw [hfresh b hm] at ho; cases ho
  have fpX : ∀ b ∈ fp, ¬ C.X b := fun b hm hX => hne b hX hm
  refine codeAny_forLoop_any (fun n s' => ∃ i ρ' σ' l', n = alen xs - i ∧ i ≤ alen xs ∧ Step (fun b => C.X b ∨ b ∈ fp) ρ₂ s₂.heap ρ' s'.heap ∧ Sim B (extra ++ av) ρ' σ' s' ∧ FrameOk B C (extra ++ av) ρ' l' s'.heap ∧ St i ρ' s'.heap ∧ P σ' ∧ Inv i l' σ' ∧ ∀ b ∈ fp, b ∉ ρ')
    ?_ (alen xs) ⟨0, ρ₂, σ₂, l, rfl, Nat.zero_le _, Step.refl _ _ _, x₂, f₂, hst, hP, h0, fun b hb => (hfp b hb).1⟩
  rintro n s' ⟨i, ρ', σ', l', rfl, hi, stY, x', f', hst', hP', hI, hfρ⟩
  have liveS : ∀ b o, s.heap.get? b = some o → b ∉ fp := fun b o e hm => by rw [hfresh b hm] at e; cases e
  by_cases hlt : i < alen xs
  · refine wpAny_mono (It.turn i s' ρ' σ' (fun c s₂' => ∃ a h' tk, aget xs i = some a ∧ (∀ b o, b ∉ fp → s'.heap.get? b = some o → h'.get? b = some o) ∧ (∀ b, h'.get? b = none → s'.heap.get? b = none) ∧ VRel ρ' (extra ++ av) h' a c ∧ St (i + 1) ρ' h' ∧ s₂' = { s' with heap := h', toks := tk }) noE hlt x' (fun b hb => ⟨hfρ b hb, (hfp b hb).2⟩) hP' hst'
      fun c a h' tk ha h1 h2 h3 h4 => ⟨a, h', tk, ha, h1, h2, h3, h4, rfl⟩) (fun r s₁ hr => ?_) noted_of_no
    obtain ⟨c, rfl, hg⟩ := hr
    dsimp only
    refine wpAny_mono hg (fun _ s₂' hh => ?_) noted_of_no
    obtain ⟨a, h', tk, ha, hk, hl, hv, hst₂, rfl⟩ := hh
    have it := iter_step (ρ := ρ') hk hl
    have kp : Kp ρ' (extra ++ av) s'.heap ρ' (extra ++ av) h' := it.kp (fun b o ys n hb ho hd => It.seqs i ρ' s'.heap hst' b hb o ys n ho hd) fun b hb => by obtain ⟨o, ho⟩ := (x'.avoid b hb).2.1; rw [ho]; rfl
    have keepρ : ∀ b ∈ ρ', h'.get? b = s'.heap.get? b := fun b hb => by
      obtain ⟨o, ho⟩ := x'.live b hb
      exact (hk b o (fun hm => hfρ b hm hb) ho).trans ho.symm
    have x₃ : Sim B (extra ++ av) ρ' σ' { s' with heap := h', toks := tk } := (x'.same (s' := { s' with heap := h', toks := tk }) it kp keepρ (fun b hb => (hfp b hb).2) rfl rfl)
    have f₃ : FrameOk B C (extra ++ av) ρ' l' h' := f'.move kp (fun o e => hk _ o (hne _ (.inl rfl)) e) (fun y k hk' o e => hk _ o (fun hm => by obtain ⟨o', ho'⟩ := f.liveC hk'; rw [hfresh k hm] at ho'; cases ho') e) f'.lρ fun y k hk' => (f'.cells y k hk').2.1
    refine wpAny_mono (hturn i a l' σ' ha hP' hI (extra ++ av) ρ' _ c x₃ f₃ hv) (fun _ s₄ ⟨ρ₄, σ₄, l₄, st₄, x₄, f₄, q₄⟩ => ?_) noted_of_no
    refine wpAny_mono (q₄ (extra ++ av) ρ₄ s₄ x₄ f₄) (fun fl s₅ ⟨ρ₅, σ₅, st₅, x₅, hf⟩ => ?_) noted_of_no
    have stB := st₄.trans st₅
    have stAll : Step (fun b => C.X b ∨ b ∈ fp) ρ₂ s₂.heap ρ₅ s₅.heap := (stY.trans (it.weaken fun _ y => .inr y)).trans (stB.weaken fun _ y => .inl y)
    have fin : Step C.X ρ s.heap ρ₅ s₅.heap := (st.ofNo.trans stAll).drop hfresh
    cases fl with
    | next =>
      obtain ⟨l₅, f₅, hP₅, hI₅⟩ := hf
      have hst₅ : St (i + 1) ρ₅ s₅.heap := It.frame _ _ _ _ _ hst₂ (fun b hb o e => stB.keep b o e (hfρ b hb) (fpX b hb)) (f₃.kp x₃ rfl stB)
      exact ⟨alen xs - (i + 1), by omega, i + 1, ρ₅, σ₅, l₅, rfl, hlt, stAll, x₅, f₅, hst₅, hP₅, hI₅, fun b hb => by
        obtain ⟨o, ho⟩ := It.live _ _ _ hst₂ b hb
        exact mem_ext stB ho (hfρ b hb)⟩
    | ret c =>
      obtain ⟨b, hv', q'⟩ := hf
      exact ⟨ρ₅, σ₅, fin, x₅.less, b, hv'.mono Kp.less, q'⟩
    | brk => exact hf.elim
    | cont => exact hf.elim
  · have hi' : i = alen xs := by omega
    subst hi'
    refine wpAny_mono (It.done s' ρ' σ' (fun s₁ => ∃ h' tk, (∀ b o, b ∉ fp → s'.heap.get? b = some o → h'.get? b = some o) ∧ s₁ = { s' with heap := h', toks := tk }) noE x' (fun b hb => ⟨hfρ b hb, (hfp b hb).2⟩) hP' hst' fun h' tk hk => ⟨h', tk, hk, rfl⟩) (fun r s₁ hr => ?_) noted_of_no
    obtain ⟨rfl, h', tk, hk, rfl⟩ := hr
    dsimp only
    refine wpAny_execs_nil ?_
    have liveE : ∀ b, b ∉ fp → h'.get? b = none → s'.heap.get? b = none := fun b hb e => by
      cases q : s'.heap.get? b with
      | none => rfl
      | some o => rw [hk b o hb q] at e; cases e
    have kp : Kp ρ' (extra ++ av) s'.heap ρ' av h' := ⟨fun _ _ e => e, fun b o ys n ho hd hr hv => ⟨hk b o (fun hm => hv (It.seqs _ ρ' s'.heap hst' b hm o ys n ho hd)) ho, hr, fun hm => hv (List.mem_append_right _ hm)⟩⟩
    have stS : Step (fun b => C.X b ∨ b ∈ fp) ρ s.heap ρ' s'.heap := st.ofNo.trans stY
    have fin : Step C.X ρ s.heap ρ' h' := by
      refine ⟨stS.ext, fun b o e r z => hk b o (liveS b o e) (stS.keep b o e r fun hz => hz.elim z (liveS b o e)), fun b e => ?_⟩
      cases q : s.heap.get? b with
      | none => rfl
      | some o => have := stS.live b (liveE b (liveS b o q) e); rw [q] at this; cases this
    have avl : ∀ a ∈ av, ∃ o, h'.get? a = some o := fun a ha => by
      obtain ⟨o, ho⟩ := (x.avoid a ha).2.1
      cases q : h'.get? a with
      | some o' => exact ⟨o', rfl⟩
      | none => have := fin.live a q; rw [ho] at this; cases this
    have x₃ : Sim B av ρ' σ' { s' with heap := h', toks := tk } := x'.move (s' := { s' with heap := h', toks := tk }) kp (fun b o e1 e2 => hk b o (fun hm => by have := (hfp b hm).2; rw [e1] at this; cases this) e2)
      (fun b hb => by
        obtain ⟨o, ho⟩ := x'.live b hb
        exact (hk b o (fun hm => hfρ b hm hb) ho).trans ho.symm) (fun a ha => ⟨List.mem_append_right _ ha, avl a ha⟩) rfl rfl
    have f₃ : FrameOk B C av ρ' l' h' := f'.move kp (fun o e => hk _ o (hne _ (.inl rfl)) e) (fun y k hk' o e => hk _ o (fun hm => by obtain ⟨o', ho'⟩ := f.liveC hk'; rw [hfresh k hm] at ho'; cases ho') e) f'.lρ fun y k hk' => (f'.cells y k hk').2.1
    exact ⟨ρ', σ', fin, x₃, l', f₃, hend l' σ' hP' hI⟩
end

/-- an iterator as zip draws from it -/
structure Inner (B : Base) (A : Around) (av : List Addr) (I : Addr) (xs : AVal) (P : Store → Prop) (St : Nat → List Addr → Heap → Prop) : Prop where
  live : ∀ i ρ h, St i ρ h → ∃ o vs, h.get? I = some o ∧ o.data = .fields vs
  frame : ∀ i ρ h ρ' h', St i ρ h → (∀ o, h.get? I = some o → h'.get? I = some o) → Kp ρ av h ρ' av h' → St i ρ' h'
  item : ∀ i (s : Shared) ρ σ (Q : Value → Shared → Prop) (E : Value → Shared → Prop), i < alen xs → Sim B av ρ σ s → P σ → St i ρ s.heap →
    (∀ c a h', aget xs i = some a → Heap.SameBut I s.heap h' → VRel ρ av h' a c → St (i + 1) ρ h' → Q c { s with heap := h' }) → wpAny (model B.prog B.w) A (Builtin.SmallTypes.nextOf (.ref I)) Q E s
  done : ∀ (s : Shared) ρ σ (Q : Value → Shared → Prop) (E : Value → Shared → Prop), Sim B av ρ σ s → P σ → St (alen xs) ρ s.heap →
    (∀ h' e, Heap.ExtBut I s.heap h' → (∃ o, h'.get? e = some o ∧ o.cls = .type "StopIteration") → E (.ref e) { s with heap := h' }) → wpAny (model B.prog B.w) A (Builtin.SmallTypes.nextOf (.ref I)) Q E s

section
variable {prog : Program} {w : World} {A : Around} {E : Value → Shared → Prop} {s : Shared}

theorem nextOf_tuple {it t : Addr} {i : Nat} {items : Array Value} {x : Value} {Q : Value → Shared → Prop} (hit : s.heap.IsTupleIter it t i) (ht : s.heap.IsTuple t items) (hx : items[i]? = some x)
    (hQ : ∀ h', h'.IsTupleIter it t (i + 1) → Heap.SameBut it s.heap h' → Q x { s with heap := h' }) : wpAny (model prog w) A (Builtin.SmallTypes.nextOf (.ref it)) Q E s := by
  have ht' := hit.typeIs
  obtain ⟨o, ho, hc, hd⟩ := id hit
  obtain ⟨ot, hot, _, n, hdt⟩ := ht
  unfold Builtin.SmallTypes.nextOf
  refine wpAny_bind (wpAny_callSpecial?_slot (name := Str.ofString "__next__") ht' F.slot_tuple_iterator_next (wpAny_call_entry F.slot_tuple_iterator_next ht' F.entry_tuple_iterator_next ?_ (F.args_tuple_iterator_next_1 _)))
  show wpAny _ _ (field (.ref it) 0 >>= _) _ _ s
  refine wpAny_bind (wpAny_field ho hd (x := .ref t) rfl ?_)
  show wpAny _ _ (if (Value.ref t == Value.none) = true then _ else _) _ _ s
  rw [if_neg (show ¬ ((Value.ref t == Value.none) = true) from Bool.false_ne_true)]
  show wpAny _ _ (field (.ref it) 1 >>= _) _ _ s
  refine wpAny_bind (wpAny_field ho hd (x := .int i 0) rfl ?_)
  show wpAny _ _ (seqItems? (.ref t) >>= _) _ _ s
  refine wpAny_bind (wpAny_seqItems hot hdt ?_)
  simp only [Int.toNat_natCast, hx]
  refine wpAny_bind (wpAny_setField ho hd (by simp) (wpAny_pure ⟨x, rfl, wpAny_pure (hQ _ ⟨_, Heap.get?_update_self _ ho (Obj.isFreed_of_fields (Obj.data_mapFields hd _)), (Obj.cls_mapFields ..).trans hc, ?_⟩ (Heap.SameBut.update ..))⟩))
  rw [Obj.data_mapFields hd]; simp [rawInt]

theorem nextOf_tuple_end {it t : Addr} {i : Nat} {items : Array Value} {Q : Value → Shared → Prop} (hh : A.handled = none) (hit : s.heap.IsTupleIter it t i) (ht : s.heap.IsTuple t items) (hx : items[i]? = none)
    (hE : ∀ h' e, Heap.ExtBut it s.heap h' → (∃ o, h'.get? e = some o ∧ o.cls = .type "StopIteration") → E (.ref e) { s with heap := h' }) : wpAny (model prog w) A (Builtin.SmallTypes.nextOf (.ref it)) Q E s := by
  have ht' := hit.typeIs
  obtain ⟨o, ho, hc, hd⟩ := id hit
  obtain ⟨ot, hot, _, n, hdt⟩ := ht
  unfold Builtin.SmallTypes.nextOf
  refine wpAny_bind (wpAny_callSpecial?_slot (name := Str.ofString "__next__") ht' F.slot_tuple_iterator_next (wpAny_call_entry F.slot_tuple_iterator_next ht' F.entry_tuple_iterator_next ?_ (F.args_tuple_iterator_next_1 _)))
  show wpAny _ _ (field (.ref it) 0 >>= _) _ _ s
  refine wpAny_bind (wpAny_field ho hd (x := .ref t) rfl ?_)
  show wpAny _ _ (if (Value.ref t == Value.none) = true then _ else _) _ _ s
  rw [if_neg (show ¬ ((Value.ref t == Value.none) = true) from Bool.false_ne_true)]
  show wpAny _ _ (field (.ref it) 1 >>= _) _ _ s
  refine wpAny_bind (wpAny_field ho hd (x := .int i 0) rfl ?_)
  show wpAny _ _ (seqItems? (.ref t) >>= _) _ _ s
  refine wpAny_bind (wpAny_seqItems hot hdt ?_)
  simp only [Int.toNat_natCast, hx]
  refine wpAny_bind (wpAny_rule (wpAny_bind (wpAny_setField ho hd (by simp) ?_)))
  show wpAny _ _ (newExc (.type "StopIteration") [] >>= _) _ _ _
  refine wpAny_bind ?_
  simp only [newExc, newTuple]
  refine wpAny_bind (wpAny_newObj_type ?_ (by size_fits))
  refine wpAny_bind (m := firstArgMember _ _) (wpAny_of_eq (a := Value.none) (by first | rfl | (simp only [firstArgMember]; rfl)) ?_)
  refine wpAny_newObj_type ?_ (by size_fits)
  simp only [raiseNew]
  refine wpAny_bind (wpAny_handled ?_)
  first | rw [show A.in1.handled = none from hh] | rw [hh]
  refine wpAny_bind (wpAny_pure (wpAny_throw ?_))
  exact hE _ _ (((Heap.SameBut.update ..).extBut.push _).push _) ⟨_, Heap.get?_push_size _ rfl, rfl⟩
end

section
variable {B : Base} {C : Cx} {av ρ ρ' : List Addr} {l : Loc} {σ : Store} {s : Shared} {h h' : Heap}

theorem kp_fields {I : Addr} {o : Obj} {vs : Array Value} (ho : h.get? I = some o) (hd : o.data = .fields vs) (hs : Heap.SameBut I h h') : Kp ρ av h ρ av h' :=
  ⟨fun _ _ e => e, fun b o' ys n hb hdb hr hv => ⟨(hs.2 b (by
    rintro rfl
    rw [hb] at ho; cases ho; rw [hdb] at hd; cases hd)).trans hb, hr, hv⟩⟩

theorem inner_tuple {A : Around} (hh : A.handled = none) {I ax : Addr} (xs : AVal) : Inner B A av I xs (fun _ => True) (fun i ρ h => h.IsTupleIter I ax i ∧ ∃ vs, TupAt h ax (vs : List Value).toArray ∧ ax ∉ ρ ∧ ax ∉ av ∧ IRel ρ av h xs vs) where
  live := fun i ρ h st => let ⟨⟨o, ho, _, hd⟩, _⟩ := st; ⟨o, _, ho, hd⟩
  frame := fun i ρ h ρ' h' st hk kp => by
    obtain ⟨hi, vs, t, r, v, ir⟩ := st
    obtain ⟨t', r', v'⟩ := kp.tuple t r v
    exact ⟨Heap.IsTupleIter.at hi hk, vs, t', r', v', ir.mono kp⟩
  item := fun i s ρ σ Q E hi x _ st hQ => by
    obtain ⟨hit, vs, t, r, v, ir⟩ := st
    obtain ⟨a, ha⟩ := aget_lt hi
    obtain ⟨c, hc, hv⟩ := ir.get ha
    refine nextOf_tuple hit t.isTuple (x := c) (by simpa using hc) fun h' hit' hs' => ?_
    obtain ⟨o, ho, _, hd⟩ := id hit
    have kp : Kp ρ av s.heap ρ av h' := kp_fields ho hd hs'
    exact hQ c a h' ha hs' (hv.mono kp) ⟨hit', vs, (kp.tuple t r v).1, r, v, ir.mono kp⟩
  done := fun s ρ σ Q E x _ st hE => by
    obtain ⟨hit, vs, t, r, v, ir⟩ := st
    exact nextOf_tuple_end hh hit t.isTuple (by simp [← ir.length]) hE

theorem inner_lst {A : Around} (hh : A.handled = none) {I ax : Addr} (xs : AVal) : Inner B A av I xs (fun _ => True) (fun i ρ h => h.IsListIter I ax i ∧ ∃ vs, h.PlainList ax (vs : List Value).toArray ∧ ax ∉ ρ ∧ ax ∉ av ∧ IRel ρ av h xs vs) where
  live := fun i ρ h st => let ⟨⟨o, ho, _, hd⟩, _⟩ := st; ⟨o, _, ho, hd⟩
  frame := fun i ρ h ρ' h' st hk kp => by
    obtain ⟨hi, vs, t, r, v, ir⟩ := st
    obtain ⟨t', r', v'⟩ := kp.list t r v
    exact ⟨Heap.IsListIter.at hi hk, vs, t', r', v', ir.mono kp⟩
  item := fun i s ρ σ Q E hi x _ st hQ => by
    obtain ⟨hit, vs, t, r, v, ir⟩ := st
    obtain ⟨a, ha⟩ := aget_lt hi
    obtain ⟨c, hc, hv⟩ := ir.get ha
    refine wpAny_nextOf_list_item hit t.isList (x := c) (by simpa using hc) fun h' hit' hs' => ?_
    obtain ⟨o, ho, _, hd⟩ := id hit
    have kp : Kp ρ av s.heap ρ av h' := kp_fields ho hd hs'
    exact hQ c a h' ha hs' (hv.mono kp) ⟨hit', vs, (kp.list t r v).1, r, v, ir.mono kp⟩
  done := fun s ρ σ Q E x _ st hE => by
    obtain ⟨hit, vs, t, r, v, ir⟩ := st
    exact wpAny_nextOf_list_end hh hit t.isList (by simp [← ir.length]) hE

theorem inner_loc {A : Around} (hh : A.handled = none) {I ax : Addr} {k : Nat} (xs : AVal) : Inner B A av I xs (fun σ => σ[k]? = some (.list xs)) (fun i ρ h => h.IsListIter I ax i ∧ ρ[k]? = some ax) where
  live := fun i ρ h st => let ⟨⟨o, ho, _, hd⟩, _⟩ := st; ⟨o, _, ho, hd⟩
  frame := fun i ρ h ρ' h' st hk kp => ⟨Heap.IsListIter.at st.1 hk, kp.at_ _ _ st.2⟩
  item := fun i s ρ σ Q E hi x hp st hQ => by
    obtain ⟨hit, hl⟩ := st
    obtain ⟨vs, t, ir⟩ := x.rep k ax _ hl hp
    obtain ⟨a, ha⟩ := aget_lt hi
    obtain ⟨c, hc, hv⟩ := ir.get ha
    refine wpAny_nextOf_list_item hit t.isList (x := c) (by simpa using hc) fun h' hit' hs' => ?_
    obtain ⟨o, ho, _, hd⟩ := id hit
    exact hQ c a h' ha hs' (hv.mono (kp_fields ho hd hs')) ⟨hit', hl⟩
  done := fun s ρ σ Q E x hp st hE => by
    obtain ⟨hit, hl⟩ := st
    obtain ⟨vs, t, ir⟩ := x.rep k ax _ hl hp
    exact wpAny_nextOf_list_end hh hit t.isList (by simp [← ir.length]) hE

/-- pairs -/
noncomputable def zipv : AVal → AVal → AVal
  | .cons x xs, .cons y ys => .cons (tup [x, y]) (zipv xs ys)
  | _, _ => .nil
theorem zipv_get {xs ys : AVal} {i : Nat} {a b : AVal} (h1 : aget xs i = some a) (h2 : aget ys i = some b) : aget (zipv xs ys) i = some (tup [a, b]) := by
  induction xs generalizing ys i with
  | cons x xs _ ih =>
    cases ys with
    | cons y ys =>
      cases i with
      | zero => cases h1; cases h2; rfl
      | succ i => exact ih h1 h2
    | _ => cases h2
  | _ => cases h1
theorem zipv_len : ∀ {xs ys : AVal}, alen xs = alen ys → alen (zipv xs ys) = alen xs
  | .cons x xs, .cons y ys, h => by simp only [alen, zipv] at h ⊢; rw [zipv_len (by omega)]
  | .nil, _, _ | .none, _, _ | .bool _, _, _ | .int _, _, _ | .str _, _, _ | .lst _, _, _ | .loc _, _, _ | .con _, _, _ => by simp [zipv, alen]
  | .cons _ _, .nil, h | .cons _ _, .none, h | .cons _ _, .bool _, h | .cons _ _, .int _, h | .cons _ _, .str _, h | .cons _ _, .lst _, h | .cons _ _, .loc _, h | .cons _ _, .con _, h => by simp [alen] at h

/-- zip's own objects -/
structure ZipIs (h : Heap) (z TI TO i1 i2 : Addr) (f0 : Value) (a b : Value) : Prop where
  z : IsZip h z TI TO f0
  ti : IsPair h TI (.ref i1) (.ref i2)
  to : IsPair h TO a b

structure ZipNe (z TI TO i1 i2 : Addr) : Prop where
  zTI : TI ≠ z
  zTO : TO ≠ z
  zi1 : i1 ≠ z
  zi2 : i2 ≠ z
  t : TI ≠ TO
  TIi1 : TI ≠ i1
  TIi2 : TI ≠ i2
  TOi1 : TO ≠ i1
  TOi2 : TO ≠ i2
  ii : i1 ≠ i2

noncomputable def ZFp (z TO i1 i2 : Addr) : List Addr := [z, TO, i1, i2]

theorem Sim.step1 (x : Sim B av ρ σ s) {I : Addr} {h' : Heap} {tk : Nat} (hI : I ∉ ρ) (hb : B.h₀.get? I = none) (hs : Heap.SameBut I s.heap h') (hl : ∃ o, h'.get? I = some o) (kp : Kp ρ av s.heap ρ av h') : Sim B av ρ σ { s with heap := h', toks := tk } :=
  x.move (s' := { s with heap := h', toks := tk }) kp (fun b o e1 e2 => (hs.2 b fun q => by rw [q, hb] at e1; cases e1).trans e2) (fun a ha => hs.2 a fun q => hI (q ▸ ha)) (fun a ha => ⟨ha, by
    by_cases q : a = I
    · subst q; exact hl
    · obtain ⟨o, ho⟩ := (x.avoid a ha).2.1; exact ⟨o, (hs.2 a q).trans ho⟩⟩) rfl rfl


/-- the state of a zip amid its loop -/
structure ZSt (St1 St2 : Nat → List Addr → Heap → Prop) (av : List Addr) (z TI TO i1 i2 : Addr) (i : Nat) (ρ : List Addr) (h : Heap) : Prop where
  z : IsZip h z TI TO .none
  ti : IsPair h TI (.ref i1) (.ref i2)
  to : ∃ a b, IsPair h TO a b
  s1 : St1 i ρ h
  s2 : St2 i ρ h

theorem kp_seq {I : Addr} (hI : I ∈ av) (hs : Heap.SameBut I h h') : Kp ρ av h ρ av h' :=
  ⟨fun _ _ e => e, fun b o' ys n hb _ hr hv => ⟨(hs.2 b fun q => hv (q ▸ hI)).trans hb, hr, hv⟩⟩

theorem live_same {I : Addr} (hs : Heap.SameBut I h h') {o : Obj} (ho : h'.get? I = some o) : ∀ b, h'.get? b = none → h.get? b = none := fun b e => by
  by_cases q : b = I
  · subst q; rw [ho] at e; cases e
  · exact (hs.2 b q).symm.trans e

theorem pair_upd {M : Model} {A : Around} {E : Value → Shared → Prop} {T : Addr} {a b x : Value} {k : Nat} {Q : Unit → Shared → Prop} (hT : IsPair s.heap T a b) (y w' : Value) (e : (#[a, b] : Array Value).setIfInBounds k x = #[y, w'])
    (h : ∀ h', IsPair h' T y w' → Heap.SameBut T s.heap h' → Q () { s with heap := h' }) : wpAny M A (updateSeq T (·.setIfInBounds k x)) Q E s := by
  refine wpAny_updateSeq hT rfl (h _ ?_ (Heap.SameBut.update ..))
  show Heap.get? _ _ = _
  rw [Heap.get?_update_self _ hT rfl]
  simp [Obj.mapSeq, e]

theorem zip_turn {A : Around} {St1 St2 : Nat → List Addr → Heap → Prop} {P1 P2 : Store → Prop} {z TI TO i1 i2 : Addr} {xs ys : AVal} {i : Nat} {Q : Value → Shared → Prop} {E : Value → Shared → Prop} (D : ZipNe z TI TO i1 i2)
    (N1 : Inner B A av i1 xs P1 St1) (N2 : Inner B A av i2 ys P2 St2) (hTO : TO ∈ av) (hTI : TI ∈ av) (hρ : ∀ b ∈ [z, TI, TO, i1, i2], b ∉ ρ ∧ B.h₀.get? b = none)
    (x : Sim B av ρ σ s) (p1 : P1 σ) (p2 : P2 σ) (st : ZSt St1 St2 av z TI TO i1 i2 i ρ s.heap) (h1 : i < alen xs) (h2 : i < alen ys)
    (hQ : ∀ a b h', aget xs i = some a → aget ys i = some b → IsZip h' z TI TO (rawInt s.heap.objs.size) → IsPair h' TI (.ref i1) (.ref i2) → (∃ a b, IsPair h' TO a b) → St1 (i + 1) ρ h' → St2 (i + 1) ρ h' →
      VRel ρ av h' (tup [a, b]) (.ref s.heap.objs.size) → (∀ c o, c ∉ ZFp z TO i1 i2 → s.heap.get? c = some o → h'.get? c = some o) → (∀ b, h'.get? b = none → s.heap.get? b = none) → Q (.ref s.heap.objs.size) { s with heap := h' }) :
    wpAny (model B.prog B.w) A (Builtin.«zip.__next__» ⟨[.ref z], []⟩) (fun fin s' => ∃ v, fin = .done (.ret v) ∧ Q v s') E s := by
  obtain ⟨hz, hti, ⟨a0, b0, hto⟩, s1, s2⟩ := st
  have nρ : ∀ b ∈ [z, TI, TO, i1, i2], b ∉ ρ := fun b hb => (hρ b hb).1
  have nb : ∀ b ∈ [z, TI, TO, i1, i2], B.h₀.get? b = none := fun b hb => (hρ b hb).2
  show wpAny _ _ (field (.ref z) 2 >>= _) _ _ _
  refine wpAny_bind (wpAny_field hz rfl (x := .bool false) rfl ?_)
  show wpAny _ _ (field (.ref z) 3 >>= _) _ _ _
  refine wpAny_bind (wpAny_field hz rfl (x := .ref TI) rfl ?_)
  refine wpAny_bind (wpAny_seqItems hti rfl ?_)
  show wpAny _ _ (Builtin.SmallTypes.ownedTupleIsFree (.ref z) >>= _) _ _ _
  refine wpAny_bind ?_
  unfold Builtin.SmallTypes.ownedTupleIsFree
  refine wpAny_bind (wpAny_field hz rfl (x := .none) rfl (wpAny_pure ?_))
  simp only [if_true]
  refine wpAny_bind (wpAny_rule ?_)
  refine wpAny_bind (wpAny_field hz rfl (x := .ref TO) rfl ?_)
  refine wpAny_bind (wpAny_setField_rec hz (by simp) fun h₁ hz₁ hs₁ => ?_)
  replace hz₁ : IsZip h₁ z TI TO .ellipsis := hz₁
  have k₁ : Kp ρ av s.heap ρ av h₁ := kp_fields hz rfl hs₁
  have x₁ : Sim B av ρ σ { s with heap := h₁ } := x.step1 (tk := s.toks) (nρ z (by simp)) (nb z (by simp)) hs₁ ⟨_, hz₁⟩ k₁
  have s1₁ := N1.frame i ρ s.heap ρ h₁ s1 (fun o e => (hs₁.2 i1 D.zi1).trans e) k₁
  have s2₁ := N2.frame i ρ s.heap ρ h₁ s2 (fun o e => (hs₁.2 i2 D.zi2).trans e) k₁
  have hto₁ : IsPair h₁ TO a0 b0 := (hs₁.2 TO D.zTO).trans hto
  have hti₁ : IsPair h₁ TI _ _ := (hs₁.2 TI D.zTI).trans hti
  refine wpAny_bind ?_
  simp only [List.zipIdx_cons, List.zipIdx_nil, List.forIn_cons, List.forIn_nil]
  refine wpAny_bind (wpAny_bind (wpAny_onRaise ?_))
  show wpAny _ _ (Builtin.SmallTypes.nextOf (.ref i1) >>= _) _ _ _
  refine wpAny_bind (N1.item i { s with heap := h₁ } ρ σ _ _ h1 x₁ p1 s1₁ fun c a h₂ ha hs₂ hv₂ s1₂ => wpAny_pure ?_)
  obtain ⟨oi1, vi1, hi1, hdi1⟩ := N1.live i ρ h₁ s1₁
  have k₂ : Kp ρ av h₁ ρ av h₂ := kp_fields hi1 hdi1 hs₂
  obtain ⟨oi1', _, hi1', _⟩ := N1.live (i + 1) ρ h₂ s1₂
  have x₂ : Sim B av ρ σ { s with heap := h₂ } := x₁.step1 (tk := s.toks) (nρ i1 (by simp)) (nb i1 (by simp)) hs₂ ⟨_, hi1'⟩ k₂
  have s2₂ := N2.frame i ρ h₁ ρ h₂ s2₁ (fun o e => (hs₂.2 i2 D.ii.symm).trans e) k₂
  have hto₂ : IsPair h₂ TO a0 b0 := (hs₂.2 TO D.TOi1).trans hto₁
  have hti₂ : IsPair h₂ TI _ _ := (hs₂.2 TI D.TIi1).trans hti₁
  have hz₂ : IsZip h₂ z TI TO .ellipsis := (hs₂.2 z D.zi1.symm).trans hz₁
  refine wpAny_bind (wpAny_seqItems hto₂ rfl ?_)
  refine wpAny_bind (pair_upd hto₂ c b0 rfl fun h₃ hto₃ hs₃ => ?_)
  refine wpAny_bind (wpAny_letGo (wpAny_pure ?_))
  have k₃ : Kp ρ av h₂ ρ av h₃ := kp_seq hTO hs₃
  have x₃ : Sim B av ρ σ { s with heap := h₃ } := x₂.step1 (tk := s.toks) (nρ TO (by simp)) (nb TO (by simp)) hs₃ ⟨_, hto₃⟩ k₃
  have s1₃ := N1.frame (i + 1) ρ h₂ ρ h₃ s1₂ (fun o e => (hs₃.2 i1 D.TOi1.symm).trans e) k₃
  have s2₃ := N2.frame i ρ h₂ ρ h₃ s2₂ (fun o e => (hs₃.2 i2 D.TOi2.symm).trans e) k₃
  have hti₃ : IsPair h₃ TI _ _ := (hs₃.2 TI D.t).trans hti₂
  have hz₃ : IsZip h₃ z TI TO .ellipsis := (hs₃.2 z D.zTO.symm).trans hz₂
  refine wpAny_bind (wpAny_bind (wpAny_onRaise ?_))
  show wpAny _ _ (Builtin.SmallTypes.nextOf (.ref i2) >>= _) _ _ _
  refine wpAny_bind (N2.item i { s with heap := h₃ } ρ σ _ _ h2 x₃ p2 s2₃ fun d b h₄ hb hs₄ hv₄ s2₄ => wpAny_pure ?_)
  obtain ⟨oi2, vi2, hi2, hdi2⟩ := N2.live i ρ h₃ s2₃
  have k₄ : Kp ρ av h₃ ρ av h₄ := kp_fields hi2 hdi2 hs₄
  obtain ⟨oi2', _, hi2', _⟩ := N2.live (i + 1) ρ h₄ s2₄
  have s1₄ := N1.frame (i + 1) ρ h₃ ρ h₄ s1₃ (fun o e => (hs₄.2 i1 D.ii).trans e) k₄
  have hto₄ : IsPair h₄ TO c b0 := (hs₄.2 TO D.TOi2).trans hto₃
  have hti₄ : IsPair h₄ TI _ _ := (hs₄.2 TI D.TIi2).trans hti₃
  have hz₄ : IsZip h₄ z TI TO .ellipsis := (hs₄.2 z D.zi2.symm).trans hz₃
  refine wpAny_bind (wpAny_seqItems hto₄ rfl ?_)
  refine wpAny_bind (pair_upd hto₄ c d rfl fun h₅ hto₅ hs₅ => ?_)
  refine wpAny_bind (wpAny_letGo (wpAny_pure (wpAny_pure ?_)))
  have k₅ : Kp ρ av h₄ ρ av h₅ := kp_seq hTO hs₅
  have s1₅ := N1.frame (i + 1) ρ h₄ ρ h₅ s1₄ (fun o e => (hs₅.2 i1 D.TOi1.symm).trans e) k₅
  have s2₅ := N2.frame (i + 1) ρ h₄ ρ h₅ s2₄ (fun o e => (hs₅.2 i2 D.TOi2.symm).trans e) k₅
  have hti₅ : IsPair h₅ TI _ _ := (hs₅.2 TI D.t).trans hti₄
  have hz₅ : IsZip h₅ z TI TO .ellipsis := (hs₅.2 z D.zTO.symm).trans hz₄
  have hsz : h₅.objs.size = s.heap.objs.size := by rw [hs₅.1, hs₄.1, hs₃.1, hs₂.1, hs₁.1]
  have keep₅ : ∀ c o, c ∉ ZFp z TO i1 i2 → s.heap.get? c = some o → h₅.get? c = some o := fun c o hc e => by
    simp only [ZFp, List.mem_cons, List.not_mem_nil, or_false, not_or] at hc
    exact (hs₅.2 c hc.2.1).trans ((hs₄.2 c hc.2.2.2).trans ((hs₃.2 c hc.2.1).trans ((hs₂.2 c hc.2.2.1).trans ((hs₁.2 c hc.1).trans e))))
  have live₅ : ∀ b, h₅.get? b = none → s.heap.get? b = none := fun b e => live_same hs₁ hz₁ b (live_same hs₂ hi1' b (live_same hs₃ hto₃ b (live_same hs₄ hi2' b (live_same hs₅ hto₅ b e))))
  refine wpAny_bind (wpAny_seqItems hto₅ rfl ?_)
  refine wpAny_bind (wpAny_newTuple ?_ (by simp [sizeLine_eq]))
  show wpAny _ _ (Builtin.SmallTypes.ownedTupleHandOut (.ref z) (.ref h₅.objs.size) >>= _) _ _ _
  refine wpAny_bind ?_
  unfold Builtin.SmallTypes.ownedTupleHandOut
  have ne₅ : ∀ b o, h₅.get? b = some o → b ≠ h₅.objs.size := fun b o e q => by rw [q, none_of_size] at e; cases e
  have hz₆ : IsZip (h₅.push { cls := .type "tuple", data := .seq #[c, d] }) z TI TO .ellipsis := Heap.get?_push_of_some _ hz₅
  refine wpAny_bind (wpAny_setField_rec hz₆ (by simp) fun h₇ hz₇ hs₇ => ?_)
  replace hz₇ : IsZip h₇ z TI TO (rawInt h₅.objs.size) := hz₇
  refine wpAny_setField_rec hz₇ (by simp) fun h₈ hz₈ hs₈ => ?_
  replace hz₈ : IsZip h₈ z TI TO (rawInt h₅.objs.size) := hz₈
  have hs78 : Heap.SameBut z (h₅.push { cls := .type "tuple", data := .seq #[c, d] }) h₈ := hs₇.trans hs₈
  have kpush : Kp ρ av h₅ ρ av (h₅.push { cls := .type "tuple", data := .seq #[c, d] }) := (Step.push (X := noX) (ρ := ρ) _).kpNo av
  have k₈ : Kp ρ av h₅ ρ av h₈ := kpush.trans (kp_fields hz₆ rfl hs78)
  have up : ∀ b o, b ≠ z → h₅.get? b = some o → h₈.get? b = some o := fun b o hb e => (hs78.2 b hb).trans (Heap.get?_push_of_some _ e)
  refine wpAny_pure ⟨_, rfl, ?_⟩
  show Q (.ref h₅.objs.size) _
  rw [hsz]
  have hpair : IsPair h₈ h₅.objs.size c d := (hs78.2 _ (ne₅ z _ hz₅).symm).trans (Heap.get?_push_size _ rfl)
  refine hQ a b h₈ ha hb (hsz ▸ hz₈) (up TI _ D.zTI hti₅) ⟨_, _, up TO _ D.zTO hto₅⟩ (N1.frame (i + 1) ρ h₅ ρ h₈ s1₅ (fun o e => up i1 o D.zi1 e) k₈) (N2.frame (i + 1) ρ h₅ ρ h₈ s2₅ (fun o e => up i2 o D.zi2 e) k₈) ?_
    (fun c o hc e => up c o (fun q => hc (by simp [ZFp, q])) (keep₅ c o hc e)) (fun b e => live₅ b (by
      cases q : h₅.get? b with
      | none => rfl
      | some o =>
        by_cases hb : b = z
        · rw [hb, hz₈] at e; cases e
        · rw [up b o hb q] at e; cases e))
  rw [← hsz]
  refine VRel.ofTup (vs := [c, d]) ?_ ?_ ⟨0, hpair⟩ ?_
  · rw [hsz]; exact size_not_ρ x
  · rw [hsz]; exact size_not_av x
  · simp only [tup, IRel]
    exact ⟨c, [d], rfl, (((hv₂.mono k₃).mono k₄).mono k₅).mono k₈, d, [], rfl, (hv₄.mono k₅).mono k₈, rfl⟩

theorem zip_stop {A : Around} {St1 : Nat → List Addr → Heap → Prop} {P1 : Store → Prop} {z TI TO i1 i2 : Addr} {xs : AVal} {Q : Fin → Shared → Prop} {E : Value → Shared → Prop} (D : ZipNe z TI TO i1 i2)
    (N1 : Inner B A av i1 xs P1 St1) (hρ : z ∉ ρ ∧ B.h₀.get? z = none)
    (x : Sim B av ρ σ s) (p1 : P1 σ) (hz : IsZip s.heap z TI TO .none) (hti : IsPair s.heap TI (.ref i1) (.ref i2)) (s1 : St1 (alen xs) ρ s.heap)
    (hE : ∀ h' e, (∀ c o, c ∉ ZFp z TO i1 i2 → s.heap.get? c = some o → h'.get? c = some o) → (∃ o, h'.get? e = some o ∧ o.cls = .type "StopIteration") → E (.ref e) { s with heap := h' }) :
    wpAny (model B.prog B.w) A (Builtin.«zip.__next__» ⟨[.ref z], []⟩) Q E s := by
  have hto_ := hz
  show wpAny _ _ (field (.ref z) 2 >>= _) _ _ _
  refine wpAny_bind (wpAny_field hz rfl (x := .bool false) rfl ?_)
  show wpAny _ _ (field (.ref z) 3 >>= _) _ _ _
  refine wpAny_bind (wpAny_field hz rfl (x := .ref TI) rfl ?_)
  refine wpAny_bind (wpAny_seqItems hti rfl ?_)
  show wpAny _ _ (Builtin.SmallTypes.ownedTupleIsFree (.ref z) >>= _) _ _ _
  refine wpAny_bind ?_
  unfold Builtin.SmallTypes.ownedTupleIsFree
  refine wpAny_bind (wpAny_field hz rfl (x := .none) rfl (wpAny_pure ?_))
  simp only [if_true]
  refine wpAny_bind (wpAny_rule ?_)
  refine wpAny_bind (wpAny_field hz rfl (x := .ref TO) rfl ?_)
  refine wpAny_bind (wpAny_setField_rec hz (by simp) fun h₁ hz₁ hs₁ => ?_)
  replace hz₁ : IsZip h₁ z TI TO .ellipsis := hz₁
  have k₁ : Kp ρ av s.heap ρ av h₁ := kp_fields hz rfl hs₁
  have x₁ : Sim B av ρ σ { s with heap := h₁ } := x.step1 (tk := s.toks) hρ.1 hρ.2 hs₁ ⟨_, hz₁⟩ k₁
  have s1₁ := N1.frame _ ρ s.heap ρ h₁ s1 (fun o e => (hs₁.2 i1 D.zi1).trans e) k₁
  refine wpAny_bind ?_
  simp only [List.zipIdx_cons, List.zipIdx_nil, List.forIn_cons, List.forIn_nil]
  refine wpAny_bind (wpAny_bind (wpAny_onRaise ?_))
  show wpAny _ _ (Builtin.SmallTypes.nextOf (.ref i1) >>= _) _ _ _
  refine wpAny_bind (N1.done { s with heap := h₁ } ρ σ _ _ x₁ p1 s1₁ fun h₂ e hs₂ he => ?_)
  obtain ⟨oe, hoe, hce⟩ := he
  have hz₂ : IsZip h₂ z TI TO .ellipsis := hs₂ _ _ D.zi1.symm hz₁
  have hez : e ≠ z := fun q => by subst q; rw [hz₂] at hoe; cases hoe; simp at hce
  refine wpAny_setField_rec hz₂ (by simp) fun h₃ _ hs₃ => hE h₃ e (fun c o hc q => ?_) ⟨oe, hs₃.extBut _ _ hez hoe, hce⟩
  simp only [ZFp, List.mem_cons, List.not_mem_nil, or_false, not_or] at hc
  exact hs₃.extBut _ _ hc.1 (hs₂ _ _ hc.2.2.1 (hs₁.extBut _ _ hc.1 q))

/-- a zip of two of one length, its items unpacked -/
theorem iter_zip {A : Around} {elts : List Expr} {tk : Nat} {tp : Pos} {St1 St2 : Nat → List Addr → Heap → Prop} {P1 P2 : Store → Prop} {z TI TO i1 i2 : Addr} {xs ys : AVal} (hlen : alen xs = alen ys) (D : ZipNe z TI TO i1 i2)
    (N1 : Inner B A.in1 av i1 xs P1 St1) (N2 : Inner B A.in1 av i2 ys P2 St2) (hTO : TO ∈ av) (hTI : TI ∈ av) :
    Iter B A (.Tuple elts tk tp) av z (zipv xs ys) (fun σ => P1 σ ∧ P2 σ) [z, TI, TO, i1, i2] (fun i ρ h => ZSt St1 St2 av z TI TO i1 i2 i ρ h) where
  live := fun i ρ h st b hb => by
    obtain ⟨hz, hti, ⟨a, b', hto⟩, s1, s2⟩ := st
    simp only [List.mem_cons, List.not_mem_nil, or_false] at hb
    rcases hb with rfl | rfl | rfl | rfl | rfl
    · exact ⟨_, hz⟩
    · exact ⟨_, hti⟩
    · exact ⟨_, hto⟩
    · obtain ⟨o, _, ho, _⟩ := N1.live i ρ h s1; exact ⟨o, ho⟩
    · obtain ⟨o, _, ho, _⟩ := N2.live i ρ h s2; exact ⟨o, ho⟩
  seqs := fun i ρ h st b hb o ys n ho hd => by
    obtain ⟨hz, hti, ⟨a, b', hto⟩, s1, s2⟩ := st
    simp only [List.mem_cons, List.not_mem_nil, or_false] at hb
    rcases hb with rfl | rfl | rfl | rfl | rfl
    · cases Option.some.inj (ho.symm.trans hz); cases hd
    · exact hTI
    · exact hTO
    · obtain ⟨o', _, ho', hd'⟩ := N1.live i ρ h s1
      rw [ho] at ho'; cases ho'; rw [hd] at hd'; cases hd'
    · obtain ⟨o', _, ho', hd'⟩ := N2.live i ρ h s2
      rw [ho] at ho'; cases ho'; rw [hd] at hd'; cases hd'
  frame := fun i ρ h ρ' h' st hk kp => by
    obtain ⟨hz, hti, ⟨a, b', hto⟩, s1, s2⟩ := st
    exact ⟨hk z (by simp) _ hz, hk TI (by simp) _ hti, ⟨a, b', hk TO (by simp) _ hto⟩, N1.frame i ρ h ρ' h' s1 (hk i1 (by simp)) kp, N2.frame i ρ h ρ' h' s2 (hk i2 (by simp)) kp⟩
  turn := fun i s ρ σ R E hi x hf hp st hR => by
    rw [zipv_len hlen] at hi
    have hT : s.TypeIs (.ref z) "zip" := ⟨_, st.z, rfl⟩
    unfold pyNext
    refine wpAny_bind (wpAny_attempt (wpAny_callSpecial?_slot (name := Str.ofString "__next__") hT F.slot_zip_next (wpAny_call_entry F.slot_zip_next hT F.entry_zip_next
      (zip_turn D N1 N2 hTO hTI hf x hp.1 hp.2 st hi (hlen ▸ hi) fun a b h' ha hb hz' hti' hto' s1' s2' hv hk hl => wpAny_pure ⟨_, rfl, ?_⟩) (F.args_zip_next_1 _))))
    refine wpAny_letOwnedTupleGo_zip hz' fun h₂ hz₂ hs₂ => ?_
    have kp : Kp ρ av h' ρ av h₂ := kp_fields hz' rfl hs₂
    refine hR _ (tup [a, b]) h₂ s.toks (zipv_get ha hb) (fun c o hc e => (hs₂.2 c fun q => hc (by simp [q])).trans (hk c o (fun q => hc (by simp only [ZFp, List.mem_cons, List.not_mem_nil, or_false] at q ⊢; rcases q with q | q | q | q <;> simp [q])) e))
      (fun b e => hl b (live_same hs₂ hz₂ b e)) (hv.mono kp) ⟨hz₂, (hs₂.2 TI D.zTI).trans hti', let ⟨a, b, h⟩ := hto'; ⟨a, b, (hs₂.2 TO D.zTO).trans h⟩, N1.frame (i + 1) ρ h' ρ h₂ s1' (fun o e => (hs₂.2 i1 D.zi1).trans e) kp,
        N2.frame (i + 1) ρ h' ρ h₂ s2' (fun o e => (hs₂.2 i2 D.zi2).trans e) kp⟩
  done := fun s ρ σ R E x hf hp st hR => by
    rw [zipv_len hlen] at st
    have hT : s.TypeIs (.ref z) "zip" := ⟨_, st.z, rfl⟩
    unfold pyNext
    refine wpAny_bind (wpAny_attempt (wpAny_callSpecial?_slot (name := Str.ofString "__next__") hT F.slot_zip_next (wpAny_call_entry F.slot_zip_next hT F.entry_zip_next
      (zip_stop D N1 (hf z (by simp)) x hp.1 st.z st.ti st.s1 fun h' e hk he => ?_) (F.args_zip_next_1 _))))
    obtain ⟨o, ho, hc⟩ := he
    refine wpAny_bind (wpAny_isInstance (T := "StopIteration") (b := true) ⟨o, ho, hc⟩ isSubtype_stop ?_)
    refine wpAny_pure ⟨rfl, hR h' s.toks fun c o hc e => hk c o (fun q => hc (by simp only [ZFp, List.mem_cons, List.not_mem_nil, or_false] at q ⊢; rcases q with q | q | q | q <;> simp [q])) e⟩
  self := fun i s ρ Q E st hQ => wpAny_pyIter_zip st.z hQ
end

section
variable {B : Base} {C : Cx} {av ρ ρ' : List Addr} {l : Loc} {σ : Store} {s : Shared} {h h' : Heap}

/-- what a value may be iterated as -/
noncomputable def ItemsOf (a : AVal) (σ : Store) (Qs : AVal → (Store → Prop) → Store → Prop) : Prop := match a with
  | .nil => Qs .nil (fun _ => True) σ
  | .cons x xs => Qs (.cons x xs) (fun _ => True) σ
  | .lst xs => Qs xs (fun _ => True) σ
  | .loc k => ∃ xs, σ[k]? = some (.list xs) ∧ Qs xs (fun σ' => σ'[k]? = some (.list xs)) σ
  | _ => False

theorem ItemsOf.tup {a : AVal} {σ : Store} {Qs : AVal → (Store → Prop) → Store → Prop} (ha : isT a = true) (h : ItemsOf a σ Qs) : Qs a (fun _ => True) σ := by
  cases a <;> first | exact h | cases ha

theorem base_none (x : Sim B av ρ σ s) {b : Addr} (hb : s.heap.get? b = none) : B.h₀.get? b = none := by
  cases e : B.h₀.get? b with
  | none => rfl
  | some o => rw [x.keep b o e] at hb; cases hb
theorem not_ρ (x : Sim B av ρ σ s) {b : Addr} (hb : s.heap.get? b = none) : b ∉ ρ := fun hm => by obtain ⟨o, e⟩ := x.live b hm; rw [hb] at e; cases e
theorem none_ge {h : Heap} {b : Addr} (hb : h.objs.size ≤ b) : h.get? b = none := Heap.get?_none_of_le hb

theorem src_val {t : Sem Value} {target : Expr} {Qs : AVal → (Store → Prop) → Store → Prop} (h : WV B C t l σ fun a σ₁ => ItemsOf a σ₁ Qs) : SrcOk B C target t l σ Qs := by
  intro av ρ s x f Qf hQ
  refine wp_cont (h av ρ s x f) fun c s₁ ρ₁ σ₁ a st x₁ r q => ?_
  have fresh : s₁.heap.objs.size ∉ ρ₁ := size_not_ρ x₁
  have sz : ∀ b ∈ [s₁.heap.objs.size], s.heap.get? b = none := fun b hb => st.live b (by rw [List.mem_singleton.mp hb]; exact none_of_size)
  have fp : ∀ b ∈ [s₁.heap.objs.size], b ∉ ρ₁ ∧ B.h₀.get? b = none := fun b hb => by rw [List.mem_singleton.mp hb]; exact ⟨fresh, base_none x₁ none_of_size⟩
  have tupCase : ∀ a : AVal, isT a = true → VRel ρ₁ av s₁.heap a c → Qs a (fun _ => True) σ₁ → wpAny (model B.prog B.w) C.A (pyIter c) Qf noE s₁ := by
    intro a ha r q
    obtain ⟨ad, vs, rfl, hr, hv, t, i⟩ := VRel.tup ha r
    have stp : Step noX ρ₁ s₁.heap ρ₁ (s₁.heap.push { cls := .type "tuple_iterator", data := .fields #[.ref ad, .int 0 0] }) := Step.push _
    obtain ⟨t', _, _⟩ := (stp.kpNo av).tuple t hr hv
    exact wpAny_pyIter_tuple t.isTuple (hQ s₁.heap.objs.size [] [s₁.heap.objs.size] (fun av' i ρ h => h.IsTupleIter s₁.heap.objs.size ad i ∧ ∃ vs, TupAt h ad (vs : List Value).toArray ∧ ad ∉ ρ ∧ ad ∉ av' ∧ IRel ρ av' h a vs) ρ₁ σ₁ _ a (fun _ => True)
      (fun av' _ => iter_tuple f.cx.handled (ax := ad) a) (st.trans stp) (x₁.push _) sz fp (by simp)
      (fun av' ρ' h' kp hk => by
        obtain ⟨t2, r2, v2⟩ := kp.tuple t' hr hv
        exact ⟨⟨_, hk _ (by simp) _ (Heap.get?_push_size _ rfl), rfl, rfl⟩, vs, t2, r2, v2, (i.mono (stp.kpNo av)).mono kp⟩) (fun b hb => by rw [List.mem_singleton.mp hb]; exact ⟨_, Heap.get?_push_size _ rfl⟩) trivial q)
  cases a with
  | nil => exact tupCase _ rfl r q
  | cons y ys => exact tupCase _ rfl r q
  | lst xs =>
    simp only [VRel] at r
    obtain ⟨ad, vs, rfl, hr, hv, t, i⟩ := r
    have stp : Step noX ρ₁ s₁.heap ρ₁ (s₁.heap.push { cls := .type "list_iterator", data := .fields #[.ref ad, .int 0 0] }) := Step.push _
    obtain ⟨t', _, _⟩ := (stp.kpNo av).list t hr hv
    exact wpAny_pyIter_list t.isList (hQ s₁.heap.objs.size [] [s₁.heap.objs.size] (fun av' i ρ h => h.IsListIter s₁.heap.objs.size ad i ∧ ∃ vs, h.PlainList ad (vs : List Value).toArray ∧ ad ∉ ρ ∧ ad ∉ av' ∧ IRel ρ av' h xs vs) ρ₁ σ₁ _ xs (fun _ => True)
      (fun av' _ => iter_lst f.cx.handled (ax := ad) xs) (st.trans stp) (x₁.push _) sz fp (by simp)
      (fun av' ρ' h' kp hk => by
        obtain ⟨t2, r2, v2⟩ := kp.list t' hr hv
        exact ⟨⟨_, hk _ (by simp) _ (Heap.get?_push_size _ rfl), rfl, rfl⟩, vs, t2, r2, v2, (i.mono (stp.kpNo av)).mono kp⟩) (fun b hb => by rw [List.mem_singleton.mp hb]; exact ⟨_, Heap.get?_push_size _ rfl⟩) trivial q)
  | loc k =>
    obtain ⟨xs, hk, q⟩ := q
    simp only [VRel] at r
    obtain ⟨ad, rfl, hl⟩ := r
    obtain ⟨vs, t, i⟩ := x₁.rep k ad _ hl hk
    have stp : Step noX ρ₁ s₁.heap ρ₁ (s₁.heap.push { cls := .type "list_iterator", data := .fields #[.ref ad, .int 0 0] }) := Step.push _
    exact wpAny_pyIter_list t.isList (hQ s₁.heap.objs.size [] [s₁.heap.objs.size] (fun av' i ρ h => h.IsListIter s₁.heap.objs.size ad i ∧ ρ[k]? = some ad) ρ₁ σ₁ _ xs _ (fun av' _ => iter_loc f.cx.handled (ax := ad) (k := k) xs) (st.trans stp) (x₁.push _) sz fp (by simp)
      (fun av' ρ' h' kp hk => ⟨⟨_, hk _ (by simp) _ (Heap.get?_push_size _ rfl), rfl, rfl⟩, kp.at_ _ _ hl⟩) (fun b hb => by rw [List.mem_singleton.mp hb]; exact ⟨_, Heap.get?_push_size _ rfl⟩) hk q)
  | _ => exact q.elim

/-- over range(n) -/
theorem src_range {func : Expr} {args : List Expr} {pos : Pos} {target : Expr} {Qs : AVal → (Store → Prop) → Store → Prop}
    (h : WV B C (eval func C.env) l σ fun a σ₁ => a = .con (.type "range") ∧ WL B C (spliced (backTo pos (starEach args C.env))) l σ₁ fun as σ₂ => ∃ n : Nat, as = tup [.int n] ∧ n < 2 ^ 40 ∧ Qs (iot 0 n) (fun _ => True) σ₂)
    (he : eval (.Call func args [] pos) C.env = (do callWith pos (← eval func C.env) [] (backTo pos (starEach args C.env)) (backToKw pos (keywordEach [] C.env))) := by rfl)
    (hplain : (backTo pos (starEach args C.env)).any (·.1) = false := by rfl) : SrcOk B C target (eval (.Call func args [] pos) C.env) l σ Qs := by
  intro av ρ s x f Qf hQ
  refine Call_ (wp_cont (h av ρ s x f) fun c s₁ ρ₁ σ₁ a st x₁ r₁ q₁ => ?_) he
  obtain ⟨rfl, q⟩ := q₁
  simp only [VRel] at r₁; subst r₁
  refine callWith_of (P := fun h => B.K.In h) (by rw [hplain]; rfl) (fun h X => (Keeps.looks (B := B) (f := .type "range") (.inr fun a e => by cases e) h X)) (evalArgs_W hplain (wp_cont (q av ρ₁ s₁ x₁ (f.step st)) fun vs s₂ ρ₂ σ₂ as st₂ x₂ r₂ q₂ => ?_))
  refine ⟨x₂.ok.inK.keeps x₂.keep, ?_⟩
  obtain ⟨n, rfl, hn, q₂⟩ := q₂
  simp only [tup, IRel, VRel] at r₂
  obtain ⟨v, r, rfl, ⟨t, rfl⟩, rfl⟩ := r₂
  have stt := st.trans st₂
  refine call_range_1 ?_
  have hsize : Builtin.Range.rangeSize 0 (n : Int) 1 = (n : Int) - ((0 : Nat) : Int) := by rw [rangeSize_one]; split <;> omega
  have st₃ : Step noX ρ₂ s₂.heap ρ₂ (s₂.heap.push { cls := .type "range", data := .fields #[.int 0 s₂.toks, .int n t, .int 1 (s₂.toks + 1)] }) := Step.push _
  refine wpAny_pyIter_range (IsRange.new _ _ _ _ _ _ _) (small_one (by omega) (by omega) (by omega) (by omega)) ?_
  rw [hsize]
  have st₄ := st₃.trans (Step.push (X := noX) (ρ := ρ₂) (h := s₂.heap.push { cls := .type "range", data := .fields #[.int 0 s₂.toks, .int n t, .int 1 (s₂.toks + 1)] })
    { cls := .type "range_iterator", data := .fields #[rawInt 0, rawInt ((n : Int) - ((0 : Nat) : Int)), rawInt 1] })
  have nn : s₂.heap.get? (s₂.heap.push { cls := .type "range", data := .fields #[.int 0 s₂.toks, .int n t, .int 1 (s₂.toks + 1)] }).objs.size = none := none_ge (by rw [Heap.size_push]; omega)
  refine hQ _ [] [(s₂.heap.push { cls := .type "range", data := .fields #[.int 0 s₂.toks, .int n t, .int 1 (s₂.toks + 1)] }).objs.size]
    (fun _ i _ h => IsRangeIter h (s₂.heap.push { cls := .type "range", data := .fields #[.int 0 s₂.toks, .int n t, .int 1 (s₂.toks + 1)] }).objs.size (i : Nat) ((n : Int) - (i : Nat)) 1) ρ₂ σ₂ _ (iot 0 n) (fun _ => True)
    (fun _ _ => iter_range f.cx.handled n) (stt.trans st₄)
    (((x₂.push _).push _).tok _) (fun b hb => ?_) (fun b hb => ?_) (by simp) ?_ ?_ trivial q₂
  · rw [List.mem_singleton.mp hb]; exact stt.live _ nn
  · rw [List.mem_singleton.mp hb]; exact ⟨not_ρ x₂ nn, base_none x₂ nn⟩
  · exact fun av' ρ' h' _ hk => hk _ (by simp) _ (Heap.get?_push_size _ rfl)
  · exact fun b hb => by rw [List.mem_singleton.mp hb]; exact ⟨_, Heap.get?_push_size _ rfl⟩

/-- one of a zip's two: what iter() makes of it -/
noncomputable def Iters (h : Heap) (a : Addr) (o : Obj) : Prop := ∀ (prog : Program) (w : World) (A : Around) (E : Value → Shared → Prop) (Q : Value → Shared → Prop) (s : Shared), s.heap = h → Q (.ref s.heap.objs.size) { s with heap := s.heap.push o } →
  wpAny (model prog w) A (pyIter (.ref a)) Q E s

abbrev itObj (cls : String) (a : Addr) : Obj := { cls := .type cls, data := .fields #[.ref a, .int 0 0] }
theorem iters_tuple {h : Heap} {a : Addr} {xs : Array Value} (t : h.IsTuple a xs) : Iters h a (itObj "tuple_iterator" a) := fun _ _ _ _ _ s e q => wpAny_pyIter_tuple (s := s) (by rw [e]; exact t) q
theorem iters_list {h : Heap} {a : Addr} {xs : Array Value} (t : h.IsList a xs) : Iters h a (itObj "list_iterator" a) := fun _ _ _ _ _ s e q => wpAny_pyIter_list (s := s) (by rw [e]; exact t) q

noncomputable def zipHeap (o1 o2 : Obj) (h : Heap) : Heap :=
  ((((h.push o1).push o2).push { cls := .type "tuple", data := .seq #[.ref h.objs.size, .ref (h.objs.size + 1)] }).push { cls := .type "tuple", data := .seq #[.none, .none] }).push
    { cls := .type "zip", data := .fields #[.none, .bool false, .bool false, .ref (h.objs.size + 2), .ref (h.objs.size + 3)] }

set_option maxHeartbeats 2000000 in
theorem zip_new (o1 o2 : Obj) (l1 l2 : Addr) :
    Meets (Builtin.«zip.__new__» ⟨[.type "zip", .ref l1, .ref l2], []⟩) (fun _ R s => Iters s.heap l1 o1 ∧ Iters (s.heap.push o1) l2 o2 ∧
      R (.ok (.ret (.ref (s.heap.objs.size + 4)))) { s with heap := zipHeap o1 o2 s.heap }) :=
  .of_wp fun prog w A R s h => by
    obtain ⟨hp, g, d, tk, os⟩ := s; obtain ⟨hl1, hl2, h⟩ := h
    have hsub := sub_zip
    have e1 : ∀ (a b : Obj), ((hp.push a).push b).objs.size = hp.objs.size + 2 := fun a b => by simp
    have e2 : ∀ (a b c : Obj), (((hp.push a).push b).push c).objs.size = hp.objs.size + 3 := fun a b c => by simp
    have e3 : ∀ (a b c e : Obj), ((((hp.push a).push b).push c).push e).objs.size = hp.objs.size + 4 := fun a b c e => by simp
    have e0 : ∀ (a : Obj), (hp.push a).objs.size = hp.objs.size + 1 := fun a => by simp
    have hL1 : ∀ {A : Around} {E : Value → Shared → Prop} {Q : Value → Shared → Prop}, Q (.ref hp.objs.size) ⟨hp.push o1, g, d, tk, os⟩ → wpAny (model prog w) A (pyIter (.ref l1)) Q E ⟨hp, g, d, tk, os⟩ := fun q => hl1 _ _ _ _ _ _ rfl q
    have hL2 : ∀ {A : Around} {E : Value → Shared → Prop} {Q : Value → Shared → Prop}, Q (.ref (hp.push o1).objs.size) ⟨(hp.push o1).push o2, g, d, tk, os⟩ → wpAny (model prog w) A (pyIter (.ref l2)) Q E ⟨hp.push o1, g, d, tk, os⟩ := fun q => hl2 _ _ _ _ _ _ rfl q
    wp_walk using hL1, hL2
    refine ⟨_, rfl, ?_⟩
    simp only [e0, e1, e2, e3]
    exact h
end

section
variable {B : Base} {C : Cx} {av ρ ρ' : List Addr} {l : Loc} {σ : Store} {s : Shared} {h h' : Heap}

theorem inner_of {a : AVal} {c : Value} {Qs : AVal → (Store → Prop) → Store → Prop} (x : Sim B av ρ σ s) (r : VRel ρ av s.heap a c) (q : ItemsOf a σ Qs) :
    ∃ ad cls xs P, ∃ St : List Addr → Addr → Nat → List Addr → Heap → Prop, c = .ref ad ∧ Qs xs P σ ∧ P σ ∧ (∀ h', (∀ b o, s.heap.get? b = some o → h'.get? b = some o) → Iters h' ad (itObj cls ad)) ∧
      (∀ av' A I, A.handled = none → Inner B A av' I xs P (St av' I)) ∧ (∀ av' I ρ' h', Kp ρ av s.heap ρ' av' h' → h'.get? I = some (itObj cls ad) → St av' I 0 ρ' h') := by
  have tupCase : ∀ a : AVal, isT a = true → VRel ρ av s.heap a c → Qs a (fun _ => True) σ →
      ∃ ad cls xs P, ∃ St : List Addr → Addr → Nat → List Addr → Heap → Prop, c = .ref ad ∧ Qs xs P σ ∧ P σ ∧ (∀ h', (∀ b o, s.heap.get? b = some o → h'.get? b = some o) → Iters h' ad (itObj cls ad)) ∧
      (∀ av' A I, A.handled = none → Inner B A av' I xs P (St av' I)) ∧ (∀ av' I ρ' h', Kp ρ av s.heap ρ' av' h' → h'.get? I = some (itObj cls ad) → St av' I 0 ρ' h') := by
    intro a ha r q
    obtain ⟨ad, vs, rfl, hr, hv, t, i⟩ := VRel.tup ha r
    refine ⟨ad, "tuple_iterator", a, fun _ => True, fun av' I => fun i ρ h => h.IsTupleIter I ad i ∧ ∃ vs, TupAt h ad (vs : List Value).toArray ∧ ad ∉ ρ ∧ ad ∉ av' ∧ IRel ρ av' h a vs, rfl, q, trivial, fun h' hk => ?_, fun av' A I hh => inner_tuple hh a, fun av' I ρ' h' kp hI => ?_⟩
    · obtain ⟨n, e⟩ := t
      exact iters_tuple (xs := vs.toArray) ⟨_, hk _ _ e, rfl, n, rfl⟩
    · obtain ⟨t', r', v'⟩ := kp.tuple t hr hv
      exact ⟨⟨_, hI, rfl, rfl⟩, vs, t', r', v', i.mono kp⟩
  cases a with
  | nil => exact tupCase _ rfl r q
  | cons y ys => exact tupCase _ rfl r q
  | lst xs =>
    simp only [VRel] at r
    obtain ⟨ad, vs, rfl, hr, hv, t, i⟩ := r
    refine ⟨ad, "list_iterator", xs, fun _ => True, fun av' I => fun i ρ h => h.IsListIter I ad i ∧ ∃ vs, h.PlainList ad (vs : List Value).toArray ∧ ad ∉ ρ ∧ ad ∉ av' ∧ IRel ρ av' h xs vs, rfl, q, trivial, fun h' hk => ?_, fun av' A I hh => inner_lst hh xs, fun av' I ρ' h' kp hI => ?_⟩
    · obtain ⟨n, e⟩ := t
      exact iters_list (xs := vs.toArray) ⟨_, hk _ _ e, rfl, n, rfl⟩
    · obtain ⟨t', r', v'⟩ := kp.list t hr hv
      exact ⟨⟨_, hI, rfl, rfl⟩, vs, t', r', v', i.mono kp⟩
  | loc k =>
    obtain ⟨xs, hk, q⟩ := q
    simp only [VRel] at r
    obtain ⟨ad, rfl, hl⟩ := r
    obtain ⟨vs, ⟨n, e⟩, i⟩ := x.rep k ad _ hl hk
    exact ⟨ad, "list_iterator", xs, fun σ => σ[k]? = some (.list xs), fun av' I => fun i ρ h => h.IsListIter I ad i ∧ ρ[k]? = some ad, rfl, q, hk, fun h' hk => iters_list (xs := vs.toArray) ⟨_, hk _ _ e, rfl, n, rfl⟩, fun av' A I hh => inner_loc hh xs,
      fun av' I ρ' h' kp hI => ⟨⟨_, hI, rfl, rfl⟩, kp.at_ _ _ hl⟩⟩
  | _ => exact q.elim

/-- over zip(a, b) -/
theorem src_zip {func : Expr} {args : List Expr} {pos : Pos} {elts : List Expr} {tk : Nat} {tp : Pos} {Qs : AVal → (Store → Prop) → Store → Prop}
    (h : WV B C (eval func C.env) l σ fun a σ₁ => a = .con (.type "zip") ∧ WL B C (spliced (backTo pos (starEach args C.env))) l σ₁ fun as σ₂ => ∃ x y, as = .cons x (.cons y .nil) ∧
      ItemsOf x σ₂ fun xs P1 _ => ItemsOf y σ₂ fun ys P2 _ => alen xs = alen ys ∧ Qs (zipv xs ys) (fun σ' => P1 σ' ∧ P2 σ') σ₂)
    (he : eval (.Call func args [] pos) C.env = (do callWith pos (← eval func C.env) [] (backTo pos (starEach args C.env)) (backToKw pos (keywordEach [] C.env))) := by rfl)
    (hplain : (backTo pos (starEach args C.env)).any (·.1) = false := by rfl) : SrcOk B C (.Tuple elts tk tp) (eval (.Call func args [] pos) C.env) l σ Qs := by
  intro av ρ s x f Qf hQ
  refine Call_ (wp_cont (h av ρ s x f) fun c s₁ ρ₁ σ₁ a st x₁ r₁ q₁ => ?_) he
  obtain ⟨rfl, q⟩ := q₁
  simp only [VRel] at r₁; subst r₁
  refine callWith_of (P := fun h => B.K.In h) (by rw [hplain]; rfl) (fun h X => (Keeps.looks (B := B) (f := .type "zip") (.inr fun a e => by cases e) h X)) (evalArgs_W hplain (wp_cont (q av ρ₁ s₁ x₁ (f.step st)) fun vs s₂ ρ₂ σ₂ as st₂ x₂ r₂ q₂ => ?_))
  refine ⟨x₂.ok.inK.keeps x₂.keep, ?_⟩
  obtain ⟨a, b, rfl, q₂⟩ := q₂
  simp only [IRel] at r₂
  obtain ⟨ca, _, rfl, ra, cb, _, rfl, rb, rfl⟩ := r₂
  obtain ⟨l1, cls1, xs, P1, St1, rfl, q₃, p1, it1, inn1, st1⟩ := inner_of x₂ ra q₂
  obtain ⟨l2, cls2, ys, P2, St2, rfl, ⟨hlen, q₄⟩, p2, it2, inn2, st2⟩ := inner_of x₂ rb q₃
  have stt := st.trans st₂
  generalize hn : s₂.heap.objs.size = n
  have k1 : ∀ b o, s₂.heap.get? b = some o → (s₂.heap.push (itObj cls1 l1)).get? b = some o := fun b o e => Heap.get?_push_of_some _ e
  have kz : ∀ b o, s₂.heap.get? b = some o → (zipHeap (itObj cls1 l1) (itObj cls2 l2) s₂.heap).get? b = some o := fun b o e =>
    Heap.get?_push_of_some _ (Heap.get?_push_of_some _ (Heap.get?_push_of_some _ (Heap.get?_push_of_some _ (Heap.get?_push_of_some _ e))))
  have z1 : (s₂.heap.push (itObj cls1 l1)).objs.size = n + 1 := by rw [Heap.size_push, hn]
  have g1 : (zipHeap (itObj cls1 l1) (itObj cls2 l2) s₂.heap).get? n = some (itObj cls1 l1) := by
    rw [← hn]
    exact Heap.get?_push_of_some _ (Heap.get?_push_of_some _ (Heap.get?_push_of_some _ (Heap.get?_push_of_some _ (Heap.get?_push_size _ rfl))))
  have g2 : (zipHeap (itObj cls1 l1) (itObj cls2 l2) s₂.heap).get? (n + 1) = some (itObj cls2 l2) := by
    rw [← z1]
    exact Heap.get?_push_of_some _ (Heap.get?_push_of_some _ (Heap.get?_push_of_some _ (Heap.get?_push_size _ rfl)))
  have gTI : IsPair (zipHeap (itObj cls1 l1) (itObj cls2 l2) s₂.heap) (n + 2) (.ref n) (.ref (n + 1)) := by
    have e : n + 2 = ((s₂.heap.push (itObj cls1 l1)).push (itObj cls2 l2)).objs.size := by simp [← hn]
    rw [e]
    refine Heap.get?_push_of_some _ (Heap.get?_push_of_some _ ?_)
    rw [hn]
    exact Heap.get?_push_size _ rfl
  have gTO : IsPair (zipHeap (itObj cls1 l1) (itObj cls2 l2) s₂.heap) (n + 3) .none .none := by
    have e : n + 3 = (((s₂.heap.push (itObj cls1 l1)).push (itObj cls2 l2)).push { cls := .type "tuple", data := .seq #[.ref s₂.heap.objs.size, .ref (s₂.heap.objs.size + 1)] }).objs.size := by simp [← hn]
    rw [e]
    exact Heap.get?_push_of_some _ (Heap.get?_push_size _ rfl)
  have gz : IsZip (zipHeap (itObj cls1 l1) (itObj cls2 l2) s₂.heap) (n + 4) (n + 2) (n + 3) .none := by
    have e : n + 4 = ((((s₂.heap.push (itObj cls1 l1)).push (itObj cls2 l2)).push { cls := .type "tuple", data := .seq #[.ref s₂.heap.objs.size, .ref (s₂.heap.objs.size + 1)] }).push { cls := .type "tuple", data := .seq #[.none, .none] }).objs.size := by simp [← hn]
    rw [e]
    show (zipHeap _ _ _).get? _ = _
    unfold zipHeap
    rw [Heap.get?_push_size _ rfl, hn]
  have dead : ∀ b, n ≤ b → s₂.heap.get? b = none := fun b hb => none_ge (hn ▸ hb)
  have deadm : ∀ b ∈ [n + 4, n + 2, n + 3, n, n + 1], s₂.heap.get? b = none := fun b hb => by
    simp only [List.mem_cons, List.not_mem_nil, or_false] at hb
    rcases hb with rfl | rfl | rfl | rfl | rfl
    · exact dead _ (Nat.le_add_right ..)
    · exact dead _ (Nat.le_add_right ..)
    · exact dead _ (Nat.le_add_right ..)
    · exact dead _ (Nat.le_refl _)
    · exact dead _ (Nat.le_add_right ..)
  have deade : ∀ b ∈ [n + 3, n + 2], s₂.heap.get? b = none := fun b hb => deadm b (by simp only [List.mem_cons, List.not_mem_nil, or_false] at hb ⊢; rcases hb with rfl | rfl <;> simp)
  have D : ZipNe (n + 4) (n + 2) (n + 3) n (n + 1) := by
    refine ⟨?_, ?_, ?_, ?_, ?_, ?_, ?_, ?_, ?_, ?_⟩ <;> (intro e; have e' : (_ : Nat) = _ := e; omega)
  have stz : Step noX ρ₂ s₂.heap ρ₂ (zipHeap (itObj cls1 l1) (itObj cls2 l2) s₂.heap) := Step.ofKeep kz
  have x₃ : Sim B av ρ₂ σ₂ { s₂ with heap := zipHeap (itObj cls1 l1) (itObj cls2 l2) s₂.heap } := x₂.kept kz s₂.toks
  have kx : Kp ρ₂ av s₂.heap ρ₂ ([n + 3, n + 2] ++ av) (zipHeap (itObj cls1 l1) (itObj cls2 l2) s₂.heap) := Kp.extra stz deade
  have x₄ : Sim B ([n + 3, n + 2] ++ av) ρ₂ σ₂ { s₂ with heap := zipHeap (itObj cls1 l1) (itObj cls2 l2) s₂.heap } := by
    refine ⟨x₃.ok, x₃.keep, x₃.fresh, fun a ha => ?_, x₃.big, x₃.nodup, x₃.len, fun k a o h1 h2 => (x₂.rep k a o h1 h2).keep kx (by
      obtain ⟨o', e⟩ := x₂.live a (List.mem_of_getElem? h1)
      exact (kz a o' e).trans e.symm), x₃.gens, x₃.os⟩
    rcases List.mem_append.mp ha with ha | ha
    · simp only [List.mem_cons, List.not_mem_nil, or_false] at ha
      rcases ha with rfl | rfl
      · exact ⟨base_none x₂ (deade _ (by simp)), ⟨_, gTO⟩, not_ρ x₂ (deade _ (by simp))⟩
      · exact ⟨base_none x₂ (deade _ (by simp)), ⟨_, gTI⟩, not_ρ x₂ (deade _ (by simp))⟩
    · exact x₃.avoid a ha
  refine callType_new F.called_zip (by decide) (F.typeCall_zip_2 _ _) (F.newCall_zip_2 _ _) (fun obj => F.args_object_init_3 obj _ _) F.entry_zip_new
    (zip_new (itObj cls1 l1) (itObj cls2 l2) l1 l2) ⟨it1 _ (fun _ _ e => e), it2 _ k1, ?_⟩
  rw [hn]
  refine ⟨⟨_, gz, rfl⟩, wpAny_pyIter_zip (s := { s₂ with heap := zipHeap (itObj cls1 l1) (itObj cls2 l2) s₂.heap }) gz ?_⟩
  have zst : ∀ av' ρ' h', Kp ρ₂ ([n + 3, n + 2] ++ av) (zipHeap (itObj cls1 l1) (itObj cls2 l2) s₂.heap) ρ' av' h' → (∀ b ∈ [n + 4, n + 2, n + 3, n, n + 1], ∀ o, (zipHeap (itObj cls1 l1) (itObj cls2 l2) s₂.heap).get? b = some o → h'.get? b = some o) →
      ZSt (St1 av' n) (St2 av' (n + 1)) av' (n + 4) (n + 2) (n + 3) n (n + 1) 0 ρ' h' := by
    intro av' ρ' h' kp hk
    exact ⟨hk _ (by simp) _ gz, hk _ (by simp) _ gTI, ⟨_, _, hk _ (by simp) _ gTO⟩, st1 _ _ _ _ (kx.trans kp) (hk _ (by simp) _ g1), st2 _ _ _ _ (kx.trans kp) (hk _ (by simp) _ g2)⟩
  refine hQ (n + 4) [n + 3, n + 2] [n + 4, n + 2, n + 3, n, n + 1] (fun av' => ZSt (St1 av' n) (St2 av' (n + 1)) av' (n + 4) (n + 2) (n + 3) n (n + 1)) ρ₂ σ₂ _ (zipv xs ys) _ (fun av' hav => iter_zip hlen D
    (inn1 _ _ n f.cx.handled) (inn2 _ _ (n + 1) f.cx.handled) (hav _ (by simp)) (hav _ (by simp))) (stt.trans stz) x₄ (fun b hb => stt.live b (deadm b hb)) (fun b hb => ?_) (fun b hb => stt.live b (deade b hb))
    zst (fun b hb => ?_) ⟨p1, p2⟩ q₄
  rotate_left
  · simp only [List.mem_cons, List.not_mem_nil, or_false] at hb
    rcases hb with rfl | rfl | rfl | rfl | rfl
    · exact ⟨_, gz⟩
    · exact ⟨_, gTI⟩
    · exact ⟨_, gTO⟩
    · exact ⟨_, g1⟩
    · exact ⟨_, g2⟩
  have := deadm b hb
  exact ⟨not_ρ x₂ this, base_none x₂ this⟩
end

noncomputable def asnoc : AVal → AVal → AVal
  | .cons x xs, y => .cons x (asnoc xs y)
  | _, y => .cons y .nil
theorem alen_asnoc : ∀ (a y : AVal), alen (asnoc a y) = alen a + 1
  | .cons x xs, y => by simp [asnoc, alen, alen_asnoc xs y]
  | .nil, _ | .none, _ | .bool _, _ | .int _, _ | .str _, _ | .lst _, _ | .loc _, _ | .con _, _ => by simp [asnoc, alen]
theorem irel_snoc {ρ av : List Addr} {h : Heap} : ∀ {a y : AVal} {vs : List Value} {c : Value}, IRel ρ av h a vs → VRel ρ av h y c → IRel ρ av h (asnoc a y) (vs ++ [c])
  | .nil, y, vs, c, i, v => by simp only [IRel] at i; subst i; simp only [asnoc, IRel]; exact ⟨c, [], rfl, v, rfl⟩
  | .cons x xs, y, vs, c, i, v => by
    simp only [IRel] at i
    obtain ⟨d, r, rfl, hd, hr⟩ := i
    simp only [asnoc, IRel]
    exact ⟨d, r ++ [c], rfl, hd, irel_snoc hr v⟩
  | .none, _, _, _, i, _ | .bool _, _, _, _, i, _ | .int _, _, _, _, i, _ | .str _, _, _, _, i, _ | .lst _, _, _, _, i, _ | .loc _, _, _, _, i, _ | .con _, _, _, _, i, _ => by simp only [IRel] at i

section
variable {prog : Program} {w : World} {A : Around} {E : Value → Shared → Prop} {R : Result → Shared → Prop} {s : Shared}

theorem compLoop_any {elt target iter : Expr} {ifs : List Expr} {scope : Scope} {pos : Pos} {it acc : Value} {env : Env} (I : Nat → Shared → Prop)
    (turn : ∀ n s, I n s → wpAny (model prog w) A (pyNext it) (fun r s₁ => match r with
      | none => R (.ok .next) s₁
      | some v => wpAny (model prog w) A (letOwnedTupleGo target it v) (fun _ s₁' => wpAny (model prog w) A (assign target env v) (fun _ s₂ =>
          wpAny (model prog w) A (forIn ifs true fun c r => if r = true then do let ok ← isTrue c env (eval c env); pure (ForInStep.yield ok) else pure (ForInStep.yield r)) (fun ok s₃ =>
            if ok = true then wpAny (model prog w) A (eval elt env) (fun x s₄ =>
              wpAny (model prog w) A (call (.builtin "list.append") [acc, x]) (fun _ s₅ => ∃ m, m < n ∧ I m s₅) noE s₄) noE s₃
            else ∃ m, m < n ∧ I m s₃) noE s₂) noE s₁') noE s₁) noE s)
    (n : Nat) (h : I n s) : codeAny (model prog w) A (.compLoop (.ListComp elt [⟨target, iter, ifs, 0⟩] scope pos) 0 it acc env) R s := by
  refine codeAny_loop rfl I (fun n s hI => ?_) n h
  show wpAny _ A ((compTurn (.ListComp elt [⟨target, iter, ifs, 0⟩] scope pos) 0 it acc env).onRaise (fun x => do noteFrame x env; theTreesLotGoes x)) _ _ s
  refine wpAny_noted ?_
  rw [compTurn_list]
  refine wpAny_bind (wpAny_standAt (wpAny_bind (wpAny_mono (turn n s hI) (fun r s₁ h₁ => ?_) noted_of_no)))
  cases r with
  | none => exact wpAny_pure h₁
  | some v =>
    refine wpAny_bind (wpAny_mono h₁ (fun _ s₁' h₁' => ?_) noted_of_no)
    refine wpAny_bind (wpAny_mono h₁' (fun _ s₂ h₂ => wpAny_bind (wpAny_mono h₂ (fun ok s₃ h₃ => ?_) noted_of_no)) noted_of_no)
    cases ok with
    | false => exact wpAny_pure ⟨rfl, h₃⟩
    | true =>
      exact wpAny_bind (wpAny_bind (wpAny_mono h₃ (fun x s₄ h₄ => wpAny_bind (wpAny_mono h₄ (fun _ s₅ h₅ => wpAny_pure (wpAny_pure ⟨rfl, h₅⟩)) noted_of_no)) noted_of_no))
end

/-! the names that a comprehension takes in -/
noncomputable def closOf (env : Env) : List (Str × NameKind) → List (Str × Addr) → List (Str × Addr)
  | [], acc => acc
  | (n, k) :: r, acc => if k == .free then (match env.cells.lookup n with | some c => closOf env r ((n, c) :: acc) | none => closOf env r acc) else closOf env r acc

theorem closure_eq {scope : Scope} {env : Env} (h : ∀ p ∈ scope.names, p.2 = .free → (env.cells.lookup p.1).isSome = true) : closureFor scope env = pure (closOf env scope.names []) := by
  have key : ∀ (names : List (Str × NameKind)) (acc : List (Str × Addr)), (∀ p ∈ names, p.2 = .free → (env.cells.lookup p.1).isSome = true) →
      (forIn names acc fun (x : Str × NameKind) (r : List (Str × Addr)) => (match x with | (name, kind) => if (kind == .free) = true then (do let a ← cellOf env name; pure (ForInStep.yield ((name, a) :: r))) else pure (ForInStep.yield r) : Sem (ForInStep (List (Str × Addr))))) = pure (closOf env names acc) := by
    intro names
    induction names with
    | nil => intro acc _; rfl
    | cons p r ih =>
      intro acc hp
      obtain ⟨n, k⟩ := p
      rw [List.forIn_cons]
      unfold closOf
      cases hk : k == .free with
      | false =>
        simp only [hk, Bool.false_eq_true, if_false]
        exact ih acc fun q hq => hp q (List.mem_cons_of_mem _ hq)
      | true =>
        have hs := hp (n, k) List.mem_cons_self (by simpa using hk)
        obtain ⟨c, hc⟩ := Option.isSome_iff_exists.mp hs
        simp only [hk, if_true, hc, cellOf]
        exact ih ((n, c) :: acc) fun q hq => hp q (List.mem_cons_of_mem _ hq)
  unfold closureFor
  have := key scope.names [] h
  first
    | exact (congrArg (fun t => t >>= fun r => pure r) this)
    | (simp only [bind_pure]; exact this)
    | (show (forIn scope.names [] _ >>= _) = _; rw [this]; rfl)

theorem clos_mem {env : Env} : ∀ {names : List (Str × NameKind)} {acc : List (Str × Addr)} {n : Str} {c : Addr}, (n, c) ∈ closOf env names acc → (n, c) ∈ acc ∨ (env.cells.lookup n = some c ∧ (n, NameKind.free) ∈ names)
  | [], acc, n, c, h => .inl h
  | (m, k) :: r, acc, n, c, h => by
    unfold closOf at h
    cases hk : k == .free with
    | false =>
      simp only [hk, Bool.false_eq_true, if_false] at h
      exact (clos_mem h).imp id fun q => ⟨q.1, List.mem_cons_of_mem _ q.2⟩
    | true =>
      simp only [hk, if_true] at h
      have hk' : k = .free := by simpa using hk
      cases hc : env.cells.lookup m with
      | none => rw [hc] at h; exact (clos_mem h).imp id fun q => ⟨q.1, List.mem_cons_of_mem _ q.2⟩
      | some d =>
        rw [hc] at h
        rcases clos_mem h with q | q
        · rcases List.mem_cons.mp q with e | q
          · cases e; exact .inr ⟨hc, by rw [hk']; exact List.mem_cons_self⟩
          · exact .inl q
        · exact .inr ⟨q.1, List.mem_cons_of_mem _ q.2⟩

theorem clos_has {env : Env} : ∀ {names : List (Str × NameKind)} {acc : List (Str × Addr)} {n : Str} {c : Addr}, ((n, NameKind.free) ∈ names ∧ env.cells.lookup n = some c) ∨ (n, c) ∈ acc → (n, c) ∈ closOf env names acc
  | [], acc, n, c, h => by
    rcases h with h | h
    · cases h.1
    · exact h
  | (m, k) :: r, acc, n, c, h => by
    unfold closOf
    cases hk : k == .free with
    | false =>
      simp only [Bool.false_eq_true, if_false]
      refine clos_has (h.imp (fun q => ⟨?_, q.2⟩) id)
      rcases List.mem_cons.mp q.1 with e | e
      · cases e; simp at hk
      · exact e
    | true =>
      simp only [if_true]
      cases hc : env.cells.lookup m with
      | none =>
        refine clos_has (h.imp (fun q => ⟨?_, q.2⟩) id)
        rcases List.mem_cons.mp q.1 with e | e
        · cases e; rw [hc] at q; cases q.2
        · exact e
      | some d =>
        refine clos_has ?_
        rcases h with q | q
        · rcases List.mem_cons.mp q.1 with e | e
          · cases e; rw [hc] at q; cases q.2; exact .inr List.mem_cons_self
          · exact .inl ⟨e, q.2⟩
        · exact .inr (List.mem_cons_of_mem _ q)

theorem clos_keys {env : Env} : ∀ {names : List (Str × NameKind)} {acc : List (Str × Addr)}, (names.map (·.1)).Nodup → (acc.map (·.1)).Nodup → (∀ n ∈ acc.map (·.1), n ∉ names.map (·.1)) → ((closOf env names acc).map (·.1)).Nodup
  | [], acc, _, ha, _ => ha
  | (m, k) :: r, acc, hn, ha, hd => by
    rw [List.map_cons, List.nodup_cons] at hn
    have hd' : ∀ n ∈ acc.map (·.1), n ∉ r.map (·.1) := fun n h q => hd n h (by rw [List.map_cons]; exact List.mem_cons_of_mem _ q)
    unfold closOf
    split
    · split
      · refine clos_keys hn.2 ?_ ?_
        · rw [List.map_cons, List.nodup_cons]
          exact ⟨fun q => hd m q (by rw [List.map_cons]; exact List.mem_cons_self), ha⟩
        · intro n h
          rw [List.map_cons] at h
          rcases List.mem_cons.mp h with e | h
          · rw [e]; exact hn.1
          · exact hd' n h
      · exact clos_keys hn.2 ha hd'
    · exact clos_keys hn.2 ha hd'

/-- the frame of a comprehension -/
noncomputable def compEnvX (scope : Scope) (cells : List (Str × Addr)) (L : Addr) (env : Env) : Env :=
  { scope := relabel scope env, locals := L, globals := env.globals, cells := cells, qual := env.qual, func := none, code := env.code, frame := env.frame, builtins := env.builtins }
noncomputable def cxComp (C : Cx) (scope : Scope) (L : Addr) : Cx :=
  { env := compEnvX scope (cellsFrom (L + 1) scope.names (closOf C.env scope.names [])) L C.env, A := C.A, own := cellsFrom (L + 1) scope.names [], room := C.room }

theorem cells_none : ∀ {names : List (Str × NameKind)} {n : Nat} {acc : List (Str × Addr)}, (∀ p ∈ names, p.2 ≠ .cell) → cellsFrom n names acc = acc
  | [], _, _, _ => rfl
  | (m, k) :: r, n, acc, h => by
    unfold cellsFrom
    have : (k == NameKind.cell) = false := by simpa using h (m, k) List.mem_cons_self
    rw [this]
    exact cells_none fun p hp => h p (List.mem_cons_of_mem _ hp)
theorem push_none : ∀ {names : List (Str × NameKind)} {h : Heap}, (∀ p ∈ names, p.2 ≠ .cell) → pushCells h names = h
  | [], _, _ => rfl
  | (m, k) :: r, h, hp => by
    unfold pushCells
    have : (k == NameKind.cell) = false := by simpa using hp (m, k) List.mem_cons_self
    rw [this]
    exact push_none fun p q => hp p (List.mem_cons_of_mem _ q)
theorem clos_none {env : Env} : ∀ {names : List (Str × NameKind)} {acc : List (Str × Addr)}, (∀ p ∈ names, p.2 ≠ .free) → closOf env names acc = acc
  | [], _, _ => rfl
  | (m, k) :: r, acc, h => by
    unfold closOf
    have : (k == NameKind.free) = false := by simpa using h (m, k) List.mem_cons_self
    rw [this]
    exact clos_none fun p hp => h p (List.mem_cons_of_mem _ hp)

section
variable {M : Model} {A : Around} {E : Value → Shared → Prop} {s : Shared}
theorem newEnv_comp {scope : Scope} {g : Addr} {cl : List (Str × Addr)} {q : Str} {outer : Env} {Q : Env → Shared → Prop}
    (h : Q { scope := scope, locals := s.heap.objs.size, globals := g, cells := cellsFrom (s.heap.objs.size + 1) scope.names cl, qual := q, func := none, code := outer.code, frame := outer.frame, builtins := outer.builtins }
      { s with heap := pushCells (s.heap.push { cls := .type "dict", data := .dict #[] }) scope.names }) :
    wpAny M A (newFunctionEnv scope g cl [] q none .none (some outer)) Q E s := by
  simp only [newFunctionEnv, Option.isSome_some, if_true]
  refine wpAny_bind (wpAny_alloc ?_)
  refine wpAny_bind (wpAny_layCells _ (fun name kind cells => by cases hkc : kind == NameKind.cell <;> simp [hkc]) _ _ _ _ ?_)
  rw [show ({ s with heap := s.heap.push { cls := .type "dict", data := .dict #[] } } : Shared).heap.objs.size = s.heap.objs.size + 1 from Heap.size_push ..]
  rw [List.forIn_nil]
  exact wpAny_bind (wpAny_pure (wpAny_pure h))
end

section
variable {B : Base} {C : Cx} {av ρ ρ' : List Addr} {l : Loc} {σ : Store} {s : Shared} {h h' : Heap}

theorem lookup_relabel_free {env : Env} (hk : env.scope.kind = .function) : ∀ {names : List (Str × NameKind)} {x : Str}, names.lookup x = some .free → env.kindOf x = some .cell →
    (names.map fun (n, k) => if (k == NameKind.free && env.scope.kind == .function && env.kindOf n == some .cell) then (n, NameKind.cell) else (n, k)).lookup x = some .cell
  | [], _, h, _ => by simp at h
  | (n, k) :: r, x, h, hc => by
    show List.lookup x ((if (k == NameKind.free && env.scope.kind == .function && env.kindOf n == some .cell) = true then (n, NameKind.cell) else (n, k)) :: _) = _
    cases hx : x == n with
    | true =>
      simp only [List.lookup_cons, hx] at h
      cases h
      obtain rfl := beq_iff_eq.mp hx
      rw [if_pos (by simp [hk, hc])]
      simp [List.lookup_cons]
    | false =>
      simp only [List.lookup_cons, hx] at h
      by_cases hcc : (k == NameKind.free && env.scope.kind == .function && env.kindOf n == some .cell) = true
      · rw [if_pos hcc]; simp only [List.lookup_cons, hx]; exact lookup_relabel_free hk h hc
      · rw [if_neg hcc]; simp only [List.lookup_cons, hx]; exact lookup_relabel_free hk h hc

/-- what a comprehension takes in from the frame around it -/
structure Caught (C : Cx) (scope : Scope) (l lc : Loc) : Prop where
  names : ∀ x a, lc.lookup x = some a → l.lookup x = some a ∧ scope.names.lookup x = some .free ∧ C.env.kindOf x = some .cell
  one : (∀ p ∈ scope.names, p.2 ≠ .cell) ∨ (∀ p ∈ scope.names, p.2 ≠ .free)
  nodup : (scope.names.map (·.1)).Nodup
  kind : scope.kind = .function
  free : ∀ p ∈ scope.names, p.2 = .free → (C.env.cells.lookup p.1).isSome = true

theorem frame_comp {scope : Scope} {lc : Loc} {L : Addr} (f : FrameOk B C av ρ l h) (ca : Caught C scope l lc) (hL : h.Ns L fun _ => none) (ok : CellsOk h (L + 1) (cellsFrom (L + 1) scope.names []))
    (new : ∀ c, L ≤ c → c ∉ ρ ∧ B.h₀.get? c = none) : FrameOk B (cxComp C scope L) av ρ lc h := by
  have keys : ((closOf C.env scope.names []).map (·.1)).Nodup := clos_keys ca.nodup (by simp) (by simp)
  have closMem : ∀ n c, (n, c) ∈ closOf C.env scope.names [] → C.env.cells.lookup n = some c := fun n c hm => by
    rcases clos_mem hm with q | q
    · cases q
    · exact q.1
  have closApart : (closOf C.env scope.names []).Pairwise fun x y => x.2 ≠ y.2 := by
    rw [List.Nodup, List.pairwise_map] at keys
    refine List.Pairwise.imp_of_mem (fun {a b} ha hb hab e => ?_) keys
    exact hab (name_of_addr f.cx.apart (mem_of_lookup (closMem a.1 a.2 ha)) (e ▸ mem_of_lookup (closMem b.1 b.2 hb)))
  refine ⟨⟨ca.kind, f.cx.globals, f.cx.builtins, ?_, ?_, f.cx.handled, f.cx.depth, f.cx.units⟩, ⟨_, hL⟩, (new L (Nat.le_refl _)).1, (new L (Nat.le_refl _)).2, ?_, ?_⟩
  · show (cellsFrom (L + 1) scope.names (closOf C.env scope.names [])).Pairwise _
    rcases ca.one with h1 | h1
    · rw [cells_none h1]; exact closApart
    · rw [clos_none h1]; exact ok.apart
  · intro x c hx
    show (cellsFrom (L + 1) scope.names (closOf C.env scope.names [])).lookup x = some c
    have hx' : (cellsFrom (L + 1) scope.names []).lookup x = some c := hx
    rcases ca.one with h1 | h1
    · rw [cells_none h1] at hx'; cases hx'
    · rw [clos_none h1]; exact hx'
  · intro x c hx
    have hx' : (cellsFrom (L + 1) scope.names (closOf C.env scope.names [])).lookup x = some c := hx
    rcases ca.one with h1 | h1
    · rw [cells_none h1] at hx'
      exact f.cells x c (closMem x c (mem_of_lookup hx'))
    · rw [clos_none h1] at hx'
      obtain ⟨h2, h3⟩ := ok.empty x c (mem_of_lookup hx')
      exact ⟨⟨_, h2⟩, new c (Nat.le_of_succ_le h3)⟩
  · intro x a hx
    obtain ⟨hl, hf, hc⟩ := ca.names x a hx
    obtain ⟨c, hv, hk⟩ := f.names x a hl
    refine ⟨c, hv, .inr (.inl ?_)⟩
    have hk' : ∃ k, C.env.cells.lookup x = some k ∧ h.IsCell k (some c) := by
      rcases hk with ⟨e, _⟩ | ⟨_, hk⟩ | ⟨e, _⟩
      · rw [hc] at e; cases e
      · exact hk
      · rw [hc] at e; cases e
    obtain ⟨k, hk1, hk2⟩ := hk'
    refine ⟨lookup_relabel_free f.cx.kind hf hc, k, ?_, hk2⟩
    show (cellsFrom (L + 1) scope.names (closOf C.env scope.names [])).lookup x = some k
    rcases ca.one with h1 | h1
    · rw [cells_none h1]
      exact lookup_of_mem_nodup keys (clos_has (.inl ⟨mem_of_lookup hf, hk1⟩))
    · exact absurd rfl (h1 _ (mem_of_lookup hf))

/-- the tests of a comprehension -/
noncomputable def WT (B : Base) (C : Cx) (ifs : List Expr) (l : Loc) (σ : Store) (Q : Bool → Store → Prop) : Prop := match ifs with
  | [] => Q true σ
  | [c] => WB B C (isTrue c C.env (eval c C.env)) l σ Q
  | _ => False

theorem tests_W {ifs : List Expr} {Q : Bool → Store → Prop} (x : Sim B av ρ σ s) (f : FrameOk B C av ρ l s.heap) (h : WT B C ifs l σ Q) :
    wpAny (model B.prog B.w) C.A (forIn ifs true fun c r => if r = true then do let ok ← isTrue c C.env (eval c C.env); pure (ForInStep.yield ok) else pure (ForInStep.yield r)) (Pst B av noX ρ s.heap BRel Q) noE s := by
  match ifs, h with
  | [], h => exact wpAny_tests_nil (Pst.here x rfl h)
  | [c], h => exact wpAny_tests_one (h av ρ s x f)

noncomputable def Sub (lc l : Loc) : Prop := ∀ x a, lc.lookup x = some a → l.lookup x = some a
theorem Sub.refl (l : Loc) : Sub l l := fun _ _ h => h
theorem Sub.cons {lc l : Loc} {n : Str} {a : AVal} (h : Sub lc l) (hn : lc.lookup n = none) : Sub lc ((n, a) :: l) := by
  intro x b hx
  rw [List.lookup_cons]
  cases e : x == n with
  | true => obtain rfl := beq_iff_eq.mp e; rw [hn] at hx; cases hx
  | false => exact h x b hx
theorem FrameOk.sub {lc : Loc} (f : FrameOk B C av ρ l h) (hs : Sub lc l) : FrameOk B C av ρ lc h := ⟨f.cx, f.ns, f.lρ, f.lbase, f.cells, fun x a hx => f.names x a (hs x a hx)⟩

/-- behind the loop of a comprehension -/
structure CompEnd (B : Base) (C : Cx) (av : List Addr) (l : Loc) (ρ : List Addr) (h : Heap) (Q : AVal → Store → Prop) (D L : Addr) (s' : Shared) : Prop where
  to : ∃ ρ' σ' ys vs, Step noX ρ h ρ' s'.heap ∧ Sim B (D :: av) ρ' σ' s' ∧ s'.heap.PlainList D (vs : List Value).toArray ∧ IRel ρ' (D :: av) s'.heap ys vs ∧ D ∉ ρ' ∧ L ∉ ρ' ∧ Q ys σ'
  ns : ∃ m, s'.heap.Ns L m
  fresh : h.get? D = none ∧ h.get? L = none ∧ D ∉ av ∧ D ≠ L
  base : B.h₀.get? L = none ∧ B.h₀.get? D = none ∧ mainGlobals < D

end

section
variable {B : Base} {C : Cx} {l : Loc} {σ : Store}

set_option maxHeartbeats 1000000 in
theorem comp_core {elt target iter : Expr} {ifs : List Expr} {scope : Scope} {pos : Pos} {lc : Loc} {Q : AVal → Store → Prop} {R : Value → Addr → Result → Shared → Prop} (ca : Caught C scope l lc)
    (h : SrcOk B C target (eval iter C.env) l σ fun xs P σ₂ => alen xs ≤ 100000 ∧ ∃ Inv : Nat → AVal → Store → Prop, Inv 0 .nil σ₂ ∧ (∀ ys σ', P σ' → Inv (alen xs) ys σ' → Q ys σ') ∧
      ∀ L i a ys σ', aget xs i = some a → P σ' → Inv i ys σ' → WA B (cxComp C scope L) (assign target (cxComp C scope L).env) a lc σ' fun l₁ σ₁ => Sub lc l₁ ∧
        WT B (cxComp C scope L) ifs l₁ σ₁ fun ok σ₂ => if ok then WV B (cxComp C scope L) (eval elt (cxComp C scope L).env) l₁ σ₂ fun y σ₃ => P σ₃ ∧ Inv (i + 1) (asnoc ys y) σ₃ else P σ₂ ∧ Inv (i + 1) ys σ₂)
    {av ρ : List Addr} {s : Shared} (x : Sim B av ρ σ s) (f : FrameOk B C av ρ l s.heap)
    (hR : ∀ D L s', CompEnd B C av l ρ s.heap Q D L s' → R (.ref D) L (.ok .next) s') :
    wpAny (model B.prog B.w) C.A (eval iter C.env) (fun xv s₁ => wpAny (model B.prog B.w) C.A (pyIter xv) (fun it s₂ => wpAny (model B.prog B.w) C.A (newList []) (fun acc s₃ =>
      wpAny (model B.prog B.w) C.A (newFunctionEnv scope C.env.globals (closOf C.env scope.names []) [] C.env.qual none .none (some C.env)) (fun cenv s₄ =>
        codeAny (model B.prog B.w) C.A (.compStart (.ListComp elt [⟨target, iter, ifs, 0⟩] scope pos) 0 it acc { cenv with scope := relabel scope C.env }) (R acc cenv.locals) s₄) noE s₃) noE s₂) noE s₁) noE s := by
  refine h av ρ s x f _ fun I extra fp St0 ρ₂ σ₂ s₂ xs P It0 st x₂ hfresh hfp hex hst0 hflive hP hq => ?_
  obtain ⟨hlen, Inv, hI0, hend, hturn⟩ := hq
  refine wpAny_newObj_type (newEnv_comp ?_) (by size_fits)
  dsimp only
  generalize hD : s₂.heap.objs.size = D
  have hDn : s₂.heap.get? D = none := hD ▸ none_of_size
  generalize hh3 : s₂.heap.push { cls := .type "list", dict := none, data := .seq ([] : List Value).toArray } = h3
  have hL3 : h3.objs.size = D + 1 := by rw [← hh3, Heap.size_push, hD]
  rw [hL3]
  generalize hh4 : pushCells (h3.push { cls := .type "dict", data := .dict #[] }) scope.names = h4
  have k4 : ∀ b o, s₂.heap.get? b = some o → h4.get? b = some o := fun b o e => by
    rw [← hh4]; exact pushCells_keeps _ _ _ _ (Heap.get?_push_of_some _ (by rw [← hh3]; exact Heap.get?_push_of_some _ e))
  have hDl : h4.PlainList D ([] : List Value).toArray := ⟨0, by
    rw [← hh4]; refine pushCells_keeps _ _ _ _ (Heap.get?_push_of_some _ ?_)
    rw [← hh3, ← hD]; exact Heap.get?_push_size _ rfl⟩
  have hLns : h4.Ns (D + 1) fun _ => none := by
    rw [← hh4, ← hL3]
    exact (Heap.Ns.new h3 (.type "dict")).keeps (pushCells_keeps _ _)
  have hok : CellsOk h4 (D + 1 + 1) (cellsFrom (D + 1 + 1) scope.names []) := by
    have e : (h3.push { cls := .type "dict", data := .dict #[] }).objs.size = D + 1 + 1 := by rw [Heap.size_push, hL3]
    have := cellsFrom_ok scope.names (h3.push { cls := .type "dict", data := .dict #[] }) (D + 1 + 1) [] ⟨fun n c hm => (by cases hm), List.Pairwise.nil⟩ (by rw [e]; exact Nat.le_refl _)
    rw [e, hh4] at this
    exact this
  have ge_none : ∀ c, D ≤ c → s₂.heap.get? c = none := fun c hc => none_ge (hD ▸ hc)
  have ge_new : ∀ c, D ≤ c → c ∉ ρ₂ ∧ B.h₀.get? c = none := fun c hc => ⟨not_ρ x₂ (ge_none c hc), base_none x₂ (ge_none c hc)⟩
  have st4 : Step noX ρ₂ s₂.heap ρ₂ h4 := Step.ofKeep k4
  have kp24 : Kp ρ₂ (extra ++ av) s₂.heap ρ₂ (D :: (extra ++ av)) h4 := (Kp.avoid hDn).trans (st4.kpNo _)
  have bigD : mainGlobals < D := by
    obtain ⟨og, _, _, hog, _⟩ := x₂.ok.g
    exact hD ▸ Heap.lt_size (x₂.keep _ _ hog)
  have x4 : Sim B (D :: (extra ++ av)) ρ₂ σ₂ { s₂ with heap := h4 } := by
    have y := x₂.kept k4 s₂.toks
    refine ⟨y.ok, y.keep, y.fresh, fun a ha => ?_, y.big, y.nodup, y.len, fun l a o h1 h2 => (x₂.rep l a o h1 h2).keep kp24 ?_, y.gens, y.os⟩
    · rcases List.mem_cons.mp ha with e | ha
      · rw [e]; exact ⟨(ge_new D (Nat.le_refl _)).2, (let ⟨n, e⟩ := hDl; ⟨_, e⟩), (ge_new D (Nat.le_refl _)).1⟩
      · exact y.avoid a ha
    · obtain ⟨o', ho'⟩ := x₂.live a (List.mem_of_getElem? h1)
      exact (k4 a o' ho').trans ho'.symm
  have f4o : FrameOk B C (D :: (extra ++ av)) ρ₂ l h4 := f.move ((Kp.extra st hex).trans kp24) (fun o e => k4 _ _ (st.keep _ o e f.lρ fun z => z)) (fun y c hc o e => k4 _ _ (st.keep _ o e (f.cells y c hc).2.1 fun z => z))
    (let ⟨o, ho⟩ := f.liveL; mem_ext st ho f.lρ) (fun y c hc => let ⟨o, ho⟩ := f.liveC hc; mem_ext st ho (f.cells y c hc).2.1)
  have f4 : FrameOk B (cxComp C scope (D + 1)) (D :: (extra ++ av)) ρ₂ lc h4 := frame_comp f4o ca hLns hok fun c hc => ge_new c (Nat.le_of_succ_le hc)
  have It := It0 (D :: (extra ++ av)) fun b hb => List.mem_cons_of_mem _ (List.mem_append_left _ hb)
  have hst := hst0 (D :: (extra ++ av)) ρ₂ h4 kp24 fun b _ o e => k4 b o e
  generalize St0 (D :: (extra ++ av)) = St at It hst
  have X'ge : ∀ b, (cxComp C scope (D + 1)).X b → D + 1 ≤ b := by
    intro b hb
    rcases hb with rfl | ⟨y, hy⟩
    · exact Nat.le_refl _
    · exact Nat.le_of_succ_le (hok.empty y b (mem_of_lookup hy)).2
  have XD : ¬ (cxComp C scope (D + 1)).X D := fun hx => absurd (X'ge D hx) (Nat.not_succ_le_self _)
  have fpD : D ∉ fp := fun hm => by obtain ⟨o, ho⟩ := hflive D hm; rw [hDn] at ho; cases ho
  have fpX : ∀ b ∈ fp, ¬ (cxComp C scope (D + 1)).X b := fun b hm hX => by
    obtain ⟨o, ho⟩ := hflive b hm
    rw [ge_none b (Nat.le_of_succ_le (X'ge b hX))] at ho; cases ho
  have avD : ∀ b ∈ D :: (extra ++ av), b = D ∨ b ∈ extra ++ av := fun b hb => List.mem_cons.mp hb
  show codeAny (model B.prog B.w) C.A (.compStart (.ListComp elt [⟨target, iter, ifs, 0⟩] scope pos) 0 (.ref I) (.ref D) (cxComp C scope (D + 1)).env) (R (.ref D) (D + 1)) { s₂ with heap := h4 }
  have loop : codeAny (model B.prog B.w) C.A (.compLoop (.ListComp elt [⟨target, iter, ifs, 0⟩] scope pos) 0 (.ref I) (.ref D) (cxComp C scope (D + 1)).env) (R (.ref D) (D + 1)) { s₂ with heap := h4 } := by
    refine compLoop_any (fun n s' => ∃ i ρ' σ' ys vs, n = alen xs - i ∧ i ≤ alen xs ∧ Step (fun b => b = D ∨ (cxComp C scope (D + 1)).X b ∨ b ∈ fp) ρ₂ h4 ρ' s'.heap ∧ Sim B (D :: (extra ++ av)) ρ' σ' s' ∧ FrameOk B (cxComp C scope (D + 1)) (D :: (extra ++ av)) ρ' lc s'.heap ∧
      St i ρ' s'.heap ∧ P σ' ∧ Inv i ys σ' ∧ (∀ b ∈ fp, b ∉ ρ') ∧ alen ys ≤ i ∧ s'.heap.PlainList D (vs : List Value).toArray ∧ IRel ρ' (D :: (extra ++ av)) s'.heap ys vs)
      ?_ (alen xs) ⟨0, ρ₂, σ₂, .nil, [], rfl, Nat.zero_le _, Step.refl _ _ _, x4, f4, hst, hP, hI0, fun b hb => (hfp b hb).1, Nat.le_refl _, hDl, by simp [IRel]⟩
    rintro n s' ⟨i, ρ', σ', ys, vs, rfl, hi, stY, x', f', hst', hP', hI, hfρ, hys, hpl, hir⟩
    have Dρ : D ∉ ρ' := (x'.avoid D List.mem_cons_self).2.2
    by_cases hlt : i < alen xs
    · refine wpAny_mono (It.turn i s' ρ' σ' (fun c s₂' => ∃ a h' tk, aget xs i = some a ∧ (∀ b o, b ∉ fp → s'.heap.get? b = some o → h'.get? b = some o) ∧ (∀ b, h'.get? b = none → s'.heap.get? b = none) ∧ VRel ρ' (D :: (extra ++ av)) h' a c ∧ St (i + 1) ρ' h' ∧ s₂' = { s' with heap := h', toks := tk }) noE hlt x' (fun b hb => ⟨hfρ b hb, (hfp b hb).2⟩) hP' hst'
        fun c a h' tk ha h1 h2 h3 h4 => ⟨a, h', tk, ha, h1, h2, h3, h4, rfl⟩) (fun r s₁ hr => ?_) fun _ _ e => e
      obtain ⟨c, rfl, hg⟩ := hr
      dsimp only
      refine wpAny_mono hg (fun _ s₂' hh => ?_) fun _ _ e => e
      obtain ⟨a, h', tk, ha, hk, hl, hv, hst₂, rfl⟩ := hh
      have it := iter_step (ρ := ρ') hk hl
      have kp : Kp ρ' (D :: (extra ++ av)) s'.heap ρ' (D :: (extra ++ av)) h' := it.kp (fun b o ys n hb ho hd => It.seqs i ρ' s'.heap hst' b hb o ys n ho hd) fun b hb => by obtain ⟨o, ho⟩ := (x'.avoid b hb).2.1; rw [ho]; rfl
      have keepρ : ∀ b ∈ ρ', h'.get? b = s'.heap.get? b := fun b hb => by
        obtain ⟨o, ho⟩ := x'.live b hb
        exact (hk b o (fun hm => hfρ b hm hb) ho).trans ho.symm
      have x₃ : Sim B (D :: (extra ++ av)) ρ' σ' { s' with heap := h', toks := tk } := (x'.same (s' := { s' with heap := h', toks := tk }) it kp keepρ (fun b hb => (hfp b hb).2) rfl rfl)
      have f₃ : FrameOk B (cxComp C scope (D + 1)) (D :: (extra ++ av)) ρ' lc h' := f'.move kp (fun o e => hk _ o (fun hm => fpX _ hm (.inl rfl)) e) (fun y k hk' o e => hk _ o (fun hm => ?_) e) f'.lρ fun y k hk' => (f'.cells y k hk').2.1
      rotate_left
      · have hk2 : (cellsFrom (D + 1 + 1) scope.names (closOf C.env scope.names [])).lookup y = some k := hk'
        rcases ca.one with h1 | h1
        · rw [cells_none h1] at hk2
          rcases clos_mem (mem_of_lookup hk2) with q | q
          · cases q
          · obtain ⟨o', ho'⟩ := f.liveC q.1
            rw [hfresh k hm] at ho'; cases ho'
        · rw [clos_none h1] at hk2
          exact fpX k hm (.inr ⟨y, hk2⟩)
      have hpl₃ : h'.PlainList D vs.toArray := hpl.at fun o e => hk D o fpD e
      refine wpAny_mono (hturn (D + 1) i a ys σ' ha hP' hI (D :: (extra ++ av)) ρ' _ c x₃ f₃ hv) (fun _ s₄ ⟨ρ₄, σ₄, l₄, st₄, x₄, f₄, hsub, q₄⟩ => ?_) fun _ _ e => e
      have kp4 := f₃.kp x₃ rfl st₄
      have fin4 : Step (fun b => b = D ∨ (cxComp C scope (D + 1)).X b ∨ b ∈ fp) ρ₂ h4 ρ₄ s₄.heap := (stY.trans (it.weaken fun _ y => .inr (.inr y))).trans (st₄.weaken fun _ y => .inr (.inl y))
      have hst₄ : St (i + 1) ρ₄ s₄.heap := It.frame _ _ _ _ _ hst₂ (fun b hb o e => st₄.keep b o e (hfρ b hb) (fpX b hb)) kp4
      have fp4 : ∀ b ∈ fp, b ∉ ρ₄ := fun b hb => by obtain ⟨o, ho⟩ := It.live _ _ _ hst₂ b hb; exact mem_ext st₄ ho (hfρ b hb)
      have hpl₄ : s₄.heap.PlainList D vs.toArray := hpl₃.at fun o e => st₄.keep D o e Dρ XD
      refine wpAny_mono (tests_W x₄ f₄ q₄) (fun ok s₅ ⟨ρ₅, σ₅, b, st₅, x₅, r₅, q₅⟩ => ?_) fun _ _ e => e
      have e0 : b = ok := r₅
      subst e0
      have D4 : D ∉ ρ₄ := (x₄.avoid D List.mem_cons_self).2.2
      have D5 : D ∉ ρ₅ := (x₅.avoid D List.mem_cons_self).2.2
      have kp5 := st₅.kpNo (D :: (extra ++ av))
      have f₅ := f₄.step st₅
      have hst₅ : St (i + 1) ρ₅ s₅.heap := It.frame _ _ _ _ _ hst₄ (fun b hb o e => st₅.keep b o e (fp4 b hb) fun z => z) kp5
      have fp5 : ∀ b ∈ fp, b ∉ ρ₅ := fun b hb => by obtain ⟨o, ho⟩ := It.live _ _ _ hst₄ b hb; exact mem_ext st₅ ho (fp4 b hb)
      have hpl₅ : s₅.heap.PlainList D vs.toArray := hpl₄.at fun o e => st₅.keep D o e D4 fun z => z
      have ir5 := ((hir.mono kp).mono kp4).mono kp5
      cases b with
      | false =>
        rw [if_neg (by decide)]
        exact ⟨alen xs - (i + 1), by omega, i + 1, ρ₅, σ₅, ys, vs, rfl, hlt, fin4.trans st₅.ofNo, x₅, f₅.sub hsub, hst₅, q₅.1, q₅.2, fp5, Nat.le_succ_of_le hys, hpl₅, ir5⟩
      | true =>
        rw [if_pos rfl]
        refine wp_cont (q₅ (D :: (extra ++ av)) ρ₅ s₅ x₅ f₅) fun c₆ s₆ ρ₆ σ₆ y st₆ x₆ r₆ q₆ => ?_
        have D6 : D ∉ ρ₆ := (x₆.avoid D List.mem_cons_self).2.2
        have kp6 := st₆.kpNo (D :: (extra ++ av))
        have f₆ := f₅.step st₆
        have hst₆ : St (i + 1) ρ₆ s₆.heap := It.frame _ _ _ _ _ hst₅ (fun b hb o e => st₆.keep b o e (fp5 b hb) fun z => z) kp6
        have fp6 : ∀ b ∈ fp, b ∉ ρ₆ := fun b hb => by obtain ⟨o, ho⟩ := It.live _ _ _ hst₅ b hb; exact mem_ext st₆ ho (fp5 b hb)
        have hpl₆ : s₆.heap.PlainList D vs.toArray := hpl₅.at fun o e => st₆.keep D o e D5 fun z => z
        have ir6 := irel_snoc (ir5.mono kp6) r₆
        have hsz : vs.toArray.size ≤ sizeLine := by rw [List.size_toArray, hir.length, sizeLine_eq]; omega
        refine wpAny_list_append_plain hpl₆ (fun h₇ hpl₇ hs₇ => ?_) hsz
        obtain ⟨n₇, e₇⟩ := id hpl₇
        have st₇ : Step (fun b => b = D) ρ₆ s₆.heap ρ₆ h₇ := Step.sameBut (.inr rfl) hs₇ e₇
        have kp7 : Kp ρ₆ (D :: (extra ++ av)) s₆.heap ρ₆ (D :: (extra ++ av)) h₇ := st₇.kp (fun b _ _ _ hb _ _ => by rw [hb]; exact List.mem_cons_self) fun b hb => by obtain ⟨o, ho⟩ := (x₆.avoid b hb).2.1; rw [ho]; rfl
        have x₇ : Sim B (D :: (extra ++ av)) ρ₆ σ₆ { s₆ with heap := h₇ } := x₆.same (s' := { s₆ with heap := h₇ }) st₇ kp7 (fun b hb => hs₇.2 b fun e => D6 (e ▸ hb)) (fun b hb => by rw [hb]; exact (ge_new D (Nat.le_refl _)).2) rfl rfl
        have hneD : ∀ b o, b ≠ D → s₆.heap.get? b = some o → h₇.get? b = some o := fun b o hb e => (hs₇.2 b hb).trans e
        have seqD : ∀ o, s₆.heap.get? D = some o → ∃ xs n, o.data = .seq xs n := fun o e => by obtain ⟨n, e'⟩ := hpl₆; rw [e] at e'; cases e'; exact ⟨_, _, rfl⟩
        have f₇ : FrameOk B (cxComp C scope (D + 1)) (D :: (extra ++ av)) ρ₆ lc h₇ := (f₆.sub hsub).move kp7
          (fun o e => hneD _ o (fun q => absurd (X'ge D (.inl q.symm)) (Nat.not_succ_le_self _)) e)
          (fun z k hk' o e => hneD _ o (fun q => by
            obtain ⟨⟨v, oc, hoc, hdc⟩, _⟩ := f₆.cells z k hk'
            rw [q] at hoc
            obtain ⟨_, _, hd⟩ := seqD oc hoc
            rw [hdc] at hd; cases hd) e) f₆.lρ fun z k hk' => (f₆.cells z k hk').2.1
        refine ⟨alen xs - (i + 1), by omega, i + 1, ρ₆, σ₆, asnoc ys y, vs ++ [c₆], rfl, hlt, ((fin4.trans st₅.ofNo).trans st₆.ofNo).trans (st₇.weaken fun _ y => .inl y), x₇, f₇,
          It.frame _ _ _ _ _ hst₆ (fun b hb o e => hneD b o (fun q => fpD (q ▸ hb)) e) kp7, q₆.1, q₆.2, fp6, by rw [alen_asnoc]; exact Nat.succ_le_succ hys, ?_, ir6.mono kp7⟩
        simpa using hpl₇
    · have hi' : i = alen xs := by omega
      subst hi'
      refine wpAny_mono (It.done s' ρ' σ' (fun s₁ => ∃ h' tk, (∀ b o, b ∉ fp → s'.heap.get? b = some o → h'.get? b = some o) ∧ s₁ = { s' with heap := h', toks := tk }) noE x' (fun b hb => ⟨hfρ b hb, (hfp b hb).2⟩) hP' hst' fun h' tk hk => ⟨h', tk, hk, rfl⟩) (fun r s₁ hr => ?_) fun _ _ e => e
      obtain ⟨rfl, h', tk, hk, rfl⟩ := hr
      dsimp only
      have liveS : ∀ b o, s.heap.get? b = some o → b ∉ fp := fun b o e hm => by rw [hfresh b hm] at e; cases e
      have liveE : ∀ b, b ∉ fp → h'.get? b = none → s'.heap.get? b = none := fun b hb e => by
        cases q : s'.heap.get? b with
        | none => rfl
        | some o => rw [hk b o hb q] at e; cases e
      have kpl : Kp ρ' (D :: (extra ++ av)) s'.heap ρ' (D :: av) h' := ⟨fun _ _ e => e, fun b o ys n ho hd hr hv => ⟨hk b o (fun hm => hv (It.seqs _ ρ' s'.heap hst' b hm o ys n ho hd)) ho, hr, fun hm => hv ((List.mem_cons.mp hm).elim (fun q => q ▸ List.mem_cons_self) fun q => List.mem_cons_of_mem _ (List.mem_append_right _ q))⟩⟩
      have stS : Step (fun b => b = D ∨ (cxComp C scope (D + 1)).X b ∨ b ∈ fp) ρ s.heap ρ' s'.heap := (st.ofNo.trans st4.ofNo).trans stY
      have fin : Step noX ρ s.heap ρ' h' := by
        have none_s : ∀ b, D ≤ b → s.heap.get? b = none := fun b hb => st.live b (ge_none b hb)
        refine ⟨stS.ext, fun b o e r _ => hk b o (liveS b o e) (stS.keep b o e r fun hz => ?_), fun b e => ?_⟩
        · rcases hz with q | q | q
          · rw [q, none_s D (Nat.le_refl _)] at e; cases e
          · rw [none_s b (Nat.le_of_succ_le (X'ge b q))] at e; cases e
          · exact liveS b o e q
        · cases q : s.heap.get? b with
          | none => rfl
          | some o => have := stS.live b (liveE b (liveS b o q) e); rw [q] at this; cases this
      have avl : ∀ a ∈ av, ∃ o, h'.get? a = some o := fun a ha => by
        obtain ⟨o, ho⟩ := (x.avoid a ha).2.1
        cases q : h'.get? a with
        | some o' => exact ⟨o', rfl⟩
        | none => have := fin.live a q; rw [ho] at this; cases this
      have x₃ : Sim B (D :: av) ρ' σ' { s' with heap := h', toks := tk } := x'.move (s' := { s' with heap := h', toks := tk }) kpl (fun b o e1 e2 => hk b o (fun hm => by have := (hfp b hm).2; rw [e1] at this; cases this) e2)
        (fun b hb => by
          obtain ⟨o, ho⟩ := x'.live b hb
          exact (hk b o (fun hm => hfρ b hm hb) ho).trans ho.symm) (fun a ha => (List.mem_cons.mp ha).elim (fun q => ⟨List.mem_cons.mpr (.inl q), (let ⟨n, e⟩ := hpl; q ▸ ⟨_, hk D _ fpD e⟩)⟩) fun ha => ⟨List.mem_cons_of_mem _ (List.mem_append_right _ ha), avl a ha⟩) rfl rfl
      obtain ⟨mL, hnL⟩ := f'.ns
      refine hR D (D + 1) _ ⟨⟨ρ', σ', ys, vs, fin, x₃, hpl.at fun o e => hk D o fpD e, hir.mono kpl, Dρ, f'.lρ, hend ys σ' hP' hI⟩, ⟨mL, Heap.Ns.toIt hnL fun o e => hk _ o (fun hm => fpX _ hm (.inl rfl)) e⟩, ⟨st.live _ hDn, st.live _ (ge_none _ (Nat.le_succ _)), fun hm => ?_, Nat.ne_of_lt (Nat.lt_succ_self _)⟩, (ge_new _ (Nat.le_succ _)).2, (ge_new _ (Nat.le_refl _)).2, bigD⟩
      obtain ⟨o, ho⟩ := (x.avoid D hm).2.1
      rw [st.live _ hDn] at ho; cases ho
  exact codeAny_compStart_list loop (It.self 0 _ ρ₂ _ _ hst loop)
end

section
variable {B : Base} {C : Cx} {l : Loc} {σ : Store} {av ρ : List Addr} {s : Shared}

theorem lookup_of_nodup {α : Type} : ∀ {cs : List (Str × α)} {n : Str} {c : α}, (cs.map (·.1)).Nodup → (n, c) ∈ cs → cs.lookup n = some c
  | (n', c') :: cs, n, c, hnd, hm => by
    rw [List.map_cons, List.nodup_cons] at hnd
    rw [List.lookup_cons]
    rcases List.mem_cons.mp hm with e | hm
    · cases e; simp
    · have : (n == n') = false := by
        rw [beq_eq_false_iff_ne]
        intro e
        have h1 : n ∈ cs.map (·.1) := List.mem_map.mpr ⟨(n, c), hm, rfl⟩
        exact hnd.1 (e ▸ h1)
      rw [this]
      exact lookup_of_nodup hnd.2 hm

/-- what a comprehension asks of its clause -/
abbrev CompOk (B : Base) (C : Cx) (elt target iter : Expr) (ifs : List Expr) (scope : Scope) (l lc : Loc) (σ : Store) (Q : AVal → Store → Prop) : Prop :=
  SrcOk B C target (eval iter C.env) l σ fun xs P σ₂ => alen xs ≤ 100000 ∧ ∃ Inv : Nat → AVal → Store → Prop, Inv 0 .nil σ₂ ∧ (∀ ys σ', P σ' → Inv (alen xs) ys σ' → Q ys σ') ∧
      ∀ L i a ys σ', aget xs i = some a → P σ' → Inv i ys σ' → WA B (cxComp C scope L) (assign target (cxComp C scope L).env) a lc σ' fun l₁ σ₁ => Sub lc l₁ ∧
        WT B (cxComp C scope L) ifs l₁ σ₁ fun ok σ₂ => if ok then WV B (cxComp C scope L) (eval elt (cxComp C scope L).env) l₁ σ₂ fun y σ₃ => P σ₃ ∧ Inv (i + 1) (asnoc ys y) σ₃ else P σ₂ ∧ Inv (i + 1) ys σ₂

theorem Caught.locals {scope : Scope} {lc : Loc} (ca : Caught C scope l lc) : ∀ x ∈ scope.names, x.2 = .local → scope.names.lookup x.1 = some .local :=
  fun x hx e => by have := lookup_of_nodup (n := x.1) (c := x.2) ca.nodup hx; rw [e] at this; exact this

theorem letGo_step {L : Addr} {s' : Shared} {ρ' : List Addr} {h' : Heap} (st : Step noX ρ s.heap ρ' s'.heap) (hf : s.heap.get? L = none) (hs : Heap.SameBut L s'.heap h') : Step noX ρ s.heap ρ' h' :=
  ⟨st.ext, fun b o e r x => (hs.2 b (by rintro rfl; rw [hf] at e; cases e)).trans (st.keep b o e r x), fun b e => by
    by_cases hb : b = L
    · rw [hb]; exact hf
    · exact st.live b ((hs.2 b hb).symm.trans e)⟩
theorem letGo_kp {L : Addr} {h h' : Heap} {ρ' : List Addr} (hn : ∃ m, h.Ns L m) (hs : Heap.SameBut L h h') : Kp ρ' av h ρ' av h' :=
  ⟨fun _ _ e => e, fun b o ys n ho hd hr hv => ⟨(hs.2 b (by
    rintro rfl
    obtain ⟨m, o', es, ep, ho', hd', _⟩ := hn
    rw [ho] at ho'; cases ho'; rw [hd] at hd'; cases hd')).trans ho, hr, hv⟩⟩
theorem letGo_sim {L : Addr} {s' : Shared} {ρ' : List Addr} {σ' : Store} {h' : Heap} (x : Sim B av ρ' σ' s') (hn : ∃ m, s'.heap.Ns L m) (hL : L ∉ ρ') (hv : L ∉ av) (hb : B.h₀.get? L = none) (hs : Heap.SameBut L s'.heap h') : Sim B av ρ' σ' { s' with heap := h' } := by
  have kp := letGo_kp (av := av) (ρ' := ρ') hn hs
  refine ⟨x.ok, fun b o e => (hs.2 b (by rintro rfl; rw [hb] at e; cases e)).trans (x.keep b o e), x.fresh, fun a ha => ⟨(x.avoid a ha).1, ?_, (x.avoid a ha).2.2⟩, x.big, x.nodup, x.len, fun l a o h1 h2 => (x.rep l a o h1 h2).keep kp (hs.2 a (by rintro rfl; exact hL (List.mem_of_getElem? h1))), x.gens, x.os⟩
  obtain ⟨o, ho⟩ := (x.avoid a ha).2.1
  exact ⟨o, (hs.2 a (by rintro rfl; exact hv ha)).trans ho⟩

theorem CompEnd.Lav {D L : Addr} {s' : Shared} {Q : AVal → Store → Prop} (x : Sim B av ρ σ s) (y : CompEnd B C av l ρ s.heap Q D L s') : L ∉ av := fun hm => by
  obtain ⟨o, ho⟩ := (x.avoid L hm).2.1
  rw [y.fresh.2.1] at ho; cases ho

/-- a comprehension whose list stays as it is -/
theorem r_Comp {elt target iter : Expr} {ifs : List Expr} {scope : Scope} {pos : Pos} {lc : Loc} {Q : AVal → Store → Prop} (ca : Caught C scope l lc) (h : CompOk B C elt target iter ifs scope l lc σ fun ys σ' => Q (.lst ys) σ')
    (hs : ∀ x, foldedSetIterable iter C.env x = pure x := by intro _; rfl) : WV B C (eval (.ListComp elt [⟨target, iter, ifs, 0⟩] scope pos) C.env) l σ Q := by
  intro av ρ s x f
  rw [eval_ListComp]
  refine wpAny_comprehension_free (use := none) rfl hs (closure_eq ca.free) ca.kind ca.locals ?_
  refine comp_core (R := fun acc C' => compPost (model B.prog B.w) C.A noE none (Pst B av noX ρ s.heap VRel Q) acc C') ca h x f fun D L s' y => ?_
  obtain ⟨ρ', σ', ys, vs, st, x', hpl, ir, hD, hL, q⟩ := y.to
  obtain ⟨m, hn⟩ := y.ns
  refine ⟨m, hn, fun h' hs' => ?_⟩
  have kp : Kp ρ' (D :: av) s'.heap ρ' av h' := (Kp.forget (D := D)).trans (letGo_kp ⟨m, hn⟩ hs')
  refine ⟨ρ', σ', .lst ys, letGo_step st y.fresh.2.1 hs', letGo_sim (Sim.less (extra := [D]) x') ⟨m, hn⟩ hL (CompEnd.Lav x y) y.base.1 hs', ?_, q⟩
  simp only [VRel]
  exact ⟨D, vs, rfl, hD, y.fresh.2.2.1, hpl.extBut hs'.extBut y.fresh.2.2.2, ir.mono kp⟩

/-- the list of a comprehension becomes a list of the store -/
theorem adopt {D : Addr} {ρ' : List Addr} {σ' : Store} {s' : Shared} {ys : AVal} {vs : List Value} (x : Sim B (D :: av) ρ' σ' s') (hpl : s'.heap.PlainList D (vs : List Value).toArray) (ir : IRel ρ' (D :: av) s'.heap ys vs) (hD : D ∉ ρ') (hb : B.h₀.get? D = none) (hg : mainGlobals < D)
    (hav : D ∉ av) : Sim B av (ρ' ++ [D]) (σ' ++ [.list ys]) s' := by
  have kp : Kp ρ' (D :: av) s'.heap (ρ' ++ [D]) av s'.heap := ⟨fun l a e => by rw [List.getElem?_append_left (List.getElem?_eq_some_iff.mp e).1]; exact e, fun a o xs n ho hd r v => ⟨ho, fun hm => by
    rcases List.mem_append.mp hm with hm | hm
    · exact r hm
    · exact v (List.mem_cons.mpr (.inl (List.mem_singleton.mp hm))), fun hm => v (List.mem_cons_of_mem _ hm)⟩⟩
  refine ⟨x.ok, x.keep, fun a ha => ?_, fun a ha => ⟨(x.avoid a (List.mem_cons_of_mem _ ha)).1, (x.avoid a (List.mem_cons_of_mem _ ha)).2.1, fun hm => ?_⟩, fun a ha => ?_, ?_, by simp [x.len], fun l a o h1 h2 => ?_, x.gens, x.os⟩
  · rcases List.mem_append.mp ha with ha | ha
    · exact x.fresh a ha
    · rw [List.mem_singleton.mp ha]; exact hb
  · rcases List.mem_append.mp hm with hm | hm
    · exact (x.avoid a (List.mem_cons_of_mem _ ha)).2.2 hm
    · rw [List.mem_singleton.mp hm] at ha; exact hav ha
  · rcases List.mem_append.mp ha with ha | ha
    · exact x.big a ha
    · rw [List.mem_singleton.mp ha]; exact hg
  · rw [List.nodup_append]
    refine ⟨x.nodup, by simp, fun a ha b hb => ?_⟩
    rw [List.mem_singleton.mp hb]
    exact fun e => hD (e ▸ ha)
  · by_cases hl : l < ρ'.length
    · rw [List.getElem?_append_left hl] at h1
      rw [List.getElem?_append_left (by rw [← x.len]; exact hl)] at h2
      exact (x.rep l a o h1 h2).keep kp rfl
    · have hl' : l = ρ'.length := by
        have := (List.getElem?_eq_some_iff.mp h1).1
        simp at this; omega
      subst hl'
      rw [List.getElem?_append_right (Nat.le_refl _)] at h1
      rw [x.len, List.getElem?_append_right (Nat.le_refl _)] at h2
      simp at h1 h2
      subst h1 h2
      exact ⟨vs, hpl, ir.mono kp⟩

/-- a name takes the list of a comprehension, all on one line -/
theorem s_comp_use {elt target iter : Expr} {ifs : List Expr} {scope : Scope} {pos spos py : Pos} {y : Str} {lc : Loc} {Qn : Loc → Store → Prop} {Qr : AVal → Store → Prop} (ca : Caught C scope l lc)
    (h : CompOk B C elt target iter ifs scope l lc σ fun ys σ' => Qn ((y, .lst ys) :: l) σ')
    (hsw : swapsWith (.ListComp elt [⟨target, iter, ifs, 0⟩] scope pos) (some (.Name y py)) spos.line C.env = pure true := by rfl) (hy : C.env.kindOf y = some .local := by rfl)
    (hs : ∀ x, foldedSetIterable iter C.env x = pure x := by intro _; rfl) : WS B C (exec (.Assign [.Name y py] (.ListComp elt [⟨target, iter, ifs, 0⟩] scope pos) spos) C.env) l σ Qn Qr := by
  intro av ρ s x f
  rw [exec_Assign_Name_used _ _ _ _ hsw]
  refine wpAny_bind (wpAny_standAt (wpAny_bind ?_))
  show wpAny _ C.A (do let _ ← comprehension (.ListComp elt [⟨target, iter, ifs, 0⟩] scope pos) scope C.env _ (newList []) false (eval iter C.env) (some (assign (.Name y py) C.env))) _ _ s
  refine wpAny_bind (wpAny_mono (wpAny_comprehension_free (use := some (assign (.Name y py) C.env)) (Q := fun _ s' => ∃ ρ' σ', Step C.X ρ s.heap ρ' s'.heap ∧ Sim B av ρ' σ' s' ∧ FlowOk B C av ρ' σ' s' Qn Qr .next) rfl hs (closure_eq ca.free) ca.kind ca.locals ?_)
    (fun _ s' hq => wpAny_pure (wpAny_pure hq)) fun _ _ e => e)
  refine comp_core (R := fun acc C' => compPost (model B.prog B.w) C.A noE (some (assign (.Name y py) C.env)) (fun _ s' => ∃ ρ' σ', Step C.X ρ s.heap ρ' s'.heap ∧ Sim B av ρ' σ' s' ∧ FlowOk B C av ρ' σ' s' Qn Qr .next) acc C') ca h x f fun D L s' z => ?_
  obtain ⟨ρ', σ', ys, vs, st, x', hpl, ir, hD, hL, q⟩ := z.to
  obtain ⟨m, hn⟩ := z.ns
  have x0 : Sim B av ρ' σ' s' := Sim.less (extra := [D]) x'
  have hv : VRel ρ' av s'.heap (.lst ys) (.ref D) := by
    simp only [VRel]
    exact ⟨D, vs, rfl, hD, z.fresh.2.2.1, hpl, ir.mono (Kp.forget (D := D))⟩
  have XL : ¬ C.X L := fun hX => by obtain ⟨o, ho⟩ := f.liveX hX; rw [z.fresh.2.1] at ho; cases ho
  show wpAny _ C.A (assign (.Name y py) C.env (.ref D)) _ _ s'
  refine wpAny_mono (a_local (Q := fun l' σ₁ => l' = (y, .lst ys) :: l ∧ Qn l' σ₁) ⟨rfl, q⟩ hy av ρ' s' _ x0 (f.step st) hv) (fun _ s₂ ⟨ρ₂, σ₂, l₂, st₂, x₂, f₂, e₂, q₂⟩ => ?_) fun _ _ e => e
  obtain ⟨oL, _, _, hoL, _⟩ := id hn
  have hn₂ : s₂.heap.Ns L m := Heap.Ns.toIt hn fun o e => st₂.keep L o e hL XL
  have hL₂ : L ∉ ρ₂ := mem_ext st₂ hoL hL
  refine ⟨m, hn₂, fun h' hs' => ?_⟩
  have kp := letGo_kp (av := av) (ρ' := ρ₂) ⟨m, hn₂⟩ hs'
  have stS : Step C.X ρ s.heap ρ₂ s₂.heap := st.ofNo.trans st₂
  have neL : ∀ b, (∃ o, s.heap.get? b = some o) → b ≠ L := fun b ⟨o, ho⟩ e => by rw [e, z.fresh.2.1] at ho; cases ho
  refine ⟨ρ₂, σ₂, ⟨stS.ext, fun b o e r x => (hs'.2 b (neL b ⟨o, e⟩)).trans (stS.keep b o e r x), fun b e => ?_⟩, letGo_sim x₂ ⟨m, hn₂⟩ hL₂ (CompEnd.Lav x z) z.base.1 hs', l₂, f₂.move kp (fun o e => (hs'.2 _ (neL _ f.liveL)).trans e) (fun k c hk o e => (hs'.2 _ (neL _ (f.liveC hk))).trans e) f₂.lρ fun k c hk => (f₂.cells k c hk).2.1, q₂⟩
  by_cases hb : b = L
  · rw [hb]; exact z.fresh.2.1
  · exact stS.live b ((hs'.2 b hb).symm.trans e)

theorem s_comp_useM {elt target iter : Expr} {ifs : List Expr} {scope : Scope} {pos spos py : Pos} {y : Str} {lc : Loc} {Qn : Loc → Store → Prop} {Qr : AVal → Store → Prop} (ca : Caught C scope l lc)
    (h : CompOk B C elt target iter ifs scope l lc σ fun ys σ' => Qn ((y, .loc σ'.length) :: l) (σ' ++ [.list ys]))
    (hsw : swapsWith (.ListComp elt [⟨target, iter, ifs, 0⟩] scope pos) (some (.Name y py)) spos.line C.env = pure true := by rfl) (hy : C.env.kindOf y = some .local := by rfl)
    (hs : ∀ x, foldedSetIterable iter C.env x = pure x := by intro _; rfl) : WS B C (exec (.Assign [.Name y py] (.ListComp elt [⟨target, iter, ifs, 0⟩] scope pos) spos) C.env) l σ Qn Qr := by
  intro av ρ s x f
  rw [exec_Assign_Name_used _ _ _ _ hsw]
  refine wpAny_bind (wpAny_standAt (wpAny_bind ?_))
  show wpAny _ C.A (do let _ ← comprehension (.ListComp elt [⟨target, iter, ifs, 0⟩] scope pos) scope C.env _ (newList []) false (eval iter C.env) (some (assign (.Name y py) C.env))) _ _ s
  refine wpAny_bind (wpAny_mono (wpAny_comprehension_free (use := some (assign (.Name y py) C.env)) (Q := fun _ s' => ∃ ρ' σ', Step C.X ρ s.heap ρ' s'.heap ∧ Sim B av ρ' σ' s' ∧ FlowOk B C av ρ' σ' s' Qn Qr .next) rfl hs (closure_eq ca.free) ca.kind ca.locals ?_)
    (fun _ s' hq => wpAny_pure (wpAny_pure hq)) fun _ _ e => e)
  refine comp_core (R := fun acc C' => compPost (model B.prog B.w) C.A noE (some (assign (.Name y py) C.env)) (fun _ s' => ∃ ρ' σ', Step C.X ρ s.heap ρ' s'.heap ∧ Sim B av ρ' σ' s' ∧ FlowOk B C av ρ' σ' s' Qn Qr .next) acc C') ca h x f fun D L s' z => ?_
  obtain ⟨ρ', σ', ys, vs, st, x', hpl, ir, hD, hL, q⟩ := z.to
  obtain ⟨m, hn⟩ := z.ns
  have x0 : Sim B av (ρ' ++ [D]) (σ' ++ [.list ys]) s' := adopt x' hpl ir hD z.base.2.1 z.base.2.2 z.fresh.2.2.1
  have hv : VRel (ρ' ++ [D]) av s'.heap (.loc σ'.length) (.ref D) := by
    simp only [VRel]
    exact ⟨D, rfl, by rw [← x'.len, List.getElem?_append_right (Nat.le_refl _)]; simp⟩
  have st0 : Step noX ρ s.heap (ρ' ++ [D]) s'.heap := by
    obtain ⟨e, he, hf⟩ := st.ext
    exact ⟨⟨e ++ [D], by rw [he, List.append_assoc], fun a ha => by
      rcases List.mem_append.mp ha with ha | ha
      · exact hf a ha
      · rw [List.mem_singleton.mp ha]; exact z.fresh.1⟩, st.keep, st.live⟩
  have hL0 : L ∉ ρ' ++ [D] := fun hm => by
    rcases List.mem_append.mp hm with hm | hm
    · exact hL hm
    · exact z.fresh.2.2.2 (List.mem_singleton.mp hm).symm
  have XL : ¬ C.X L := fun hX => by obtain ⟨o, ho⟩ := f.liveX hX; rw [z.fresh.2.1] at ho; cases ho
  show wpAny _ C.A (assign (.Name y py) C.env (.ref D)) _ _ s'
  refine wpAny_mono (a_local (Q := fun l' σ₁ => l' = (y, .loc σ'.length) :: l ∧ Qn l' σ₁) ⟨rfl, q⟩ hy av (ρ' ++ [D]) s' _ x0 (f.step st0) hv) (fun _ s₂ ⟨ρ₂, σ₂, l₂, st₂, x₂, f₂, e₂, q₂⟩ => ?_) fun _ _ e => e
  obtain ⟨oL, _, _, hoL, _⟩ := id hn
  have hn₂ : s₂.heap.Ns L m := Heap.Ns.toIt hn fun o e => st₂.keep L o e hL0 XL
  have hL₂ : L ∉ ρ₂ := mem_ext st₂ hoL hL0
  refine ⟨m, hn₂, fun h' hs' => ?_⟩
  have kp := letGo_kp (av := av) (ρ' := ρ₂) ⟨m, hn₂⟩ hs'
  have stS : Step C.X ρ s.heap ρ₂ s₂.heap := st0.ofNo.trans st₂
  have neL : ∀ b, (∃ o, s.heap.get? b = some o) → b ≠ L := fun b ⟨o, ho⟩ e => by rw [e, z.fresh.2.1] at ho; cases ho
  refine ⟨ρ₂, σ₂, ⟨stS.ext, fun b o e r x => (hs'.2 b (neL b ⟨o, e⟩)).trans (stS.keep b o e r x), fun b e => ?_⟩, letGo_sim x₂ ⟨m, hn₂⟩ hL₂ (CompEnd.Lav x z) z.base.1 hs', l₂, f₂.move kp (fun o e => (hs'.2 _ (neL _ f.liveL)).trans e) (fun k c hk o e => (hs'.2 _ (neL _ (f.liveC hk))).trans e) f₂.lρ fun k c hk => (f₂.cells k c hk).2.1, q₂⟩
  by_cases hb : b = L
  · rw [hb]; exact z.fresh.2.1
  · exact stS.live b ((hs'.2 b hb).symm.trans e)
end

/-- plain data of some depth -/
noncomputable def okE : Nat → AVal → Bool
  | _, .none => true | _, .int _ => true | _, .str s => PyData.strOk s | _ + 1, .nil => true
  | n + 1, .cons x xs => okE n x && okEs n xs
  | n + 1, .lst xs => okEs n xs
  | _, _ => false
where okEs : Nat → AVal → Bool
  | _, .nil => true
  | n, .cons x xs => okE n x && okEs n xs
  | _, _ => false
theorem okE_imp : ∀ (v : AVal) (n : Nat), (okE n v = true → plain v = true ∧ dep v ≤ n) ∧ (okE.okEs n v = true → plainL v = true ∧ depL v ≤ n) := by
  intro v
  induction v with
  | none => intro n; exact ⟨fun _ => ⟨rfl, by simp [dep, toPy, PyData.depth]⟩, fun h => by simp [okE.okEs] at h⟩
  | bool b => intro n; exact ⟨fun h => by simp [okE] at h, fun h => by simp [okE.okEs] at h⟩
  | int i => intro n; exact ⟨fun _ => ⟨rfl, by simp [dep, toPy, PyData.depth]⟩, fun h => by simp [okE.okEs] at h⟩
  | str s => intro n; exact ⟨fun h => ⟨by simpa [okE, plain] using h, by simp [dep, toPy, PyData.depth]⟩, fun h => by simp [okE.okEs] at h⟩
  | nil => intro n; exact ⟨fun h => ⟨rfl, by cases n with | zero => simp [okE] at h | succ n => simp [dep, toPy, PyData.depth, PyData.depthAll]⟩, fun _ => ⟨rfl, by simp [depL, toPyL, PyData.depthAll]⟩⟩
  | cons x xs ihx ihs =>
    intro n
    refine ⟨fun h => ?_, fun h => ?_⟩
    · cases n with
      | zero => simp [okE] at h
      | succ n =>
        simp only [okE, Bool.and_eq_true] at h
        obtain ⟨p1, d1⟩ := (ihx n).1 h.1
        obtain ⟨p2, d2⟩ := (ihs n).2 h.2
        refine ⟨by simp [plain, p1, p2], ?_⟩
        rw [dep_cons]; omega
    · simp only [okE.okEs, Bool.and_eq_true] at h
      obtain ⟨p1, d1⟩ := (ihx n).1 h.1
      obtain ⟨p2, d2⟩ := (ihs n).2 h.2
      refine ⟨by simp [plainL, p1, p2], ?_⟩
      rw [depL_cons]; omega
  | lst xs ih =>
    intro n
    refine ⟨fun h => ?_, fun h => by simp [okE.okEs] at h⟩
    cases n with
    | zero => simp [okE] at h
    | succ n =>
      simp only [okE] at h
      obtain ⟨p, d⟩ := (ih n).2 h
      refine ⟨by simpa [plain] using p, ?_⟩
      simp only [dep, toPy, PyData.depth]
      exact Nat.succ_le_succ d
  | _ => intro n; exact ⟨fun h => by simp [okE] at h, fun h => by simp [okE.okEs] at h⟩

section
variable {B : Base} {C : Cx} {σ : Store}

theorem CxOk.u (x : CxOk B C) : C.A.units ≤ 9000 := by have := x.units; omega

theorem o_add {a b : Int} {Q : AVal → Store → Prop} (h : Q (.int (a + b)) σ) : O2 B C (binaryOp .Add) (.int a) (.int b) σ Q := by
  intro av ρ s c d x _ r1 r2
  simp only [VRel] at r1 r2
  obtain ⟨t, rfl⟩ := r1; obtain ⟨u, rfl⟩ := r2
  exact P.add_int ⟨ρ, σ, _, Step.refl _ _ _, x.tok _, by simp only [VRel]; exact ⟨_, rfl⟩, h⟩
theorem o_sub {a b : Int} {Q : AVal → Store → Prop} (h : Q (.int (a - b)) σ) : O2 B C (binaryOp .Sub) (.int a) (.int b) σ Q := by
  intro av ρ s c d x _ r1 r2
  simp only [VRel] at r1 r2
  obtain ⟨t, rfl⟩ := r1; obtain ⟨u, rfl⟩ := r2
  exact P.sub_int ⟨ρ, σ, _, Step.refl _ _ _, x.tok _, by simp only [VRel]; exact ⟨_, rfl⟩, h⟩
theorem bits64 {a : Int} (h : a.natAbs < 2 ^ 64) : Builtin.Int.intBits a ≤ 64 := by
  unfold Builtin.Int.intBits
  by_cases h0 : a.natAbs = 0
  · have : a = 0 := by omega
    subst this; decide
  · first
      | (have := (Nat.log2_lt h0).mpr h; split <;> omega)
      | (have := (Nat.log2_lt h0).mpr h; omega)
theorem o_mul {a b : Int} {Q : AVal → Store → Prop} (hb : b.natAbs < 2 ^ 64) (h : Q (.int (a * b)) σ) : O2 B C (binaryOp .Mult) (.int a) (.int b) σ Q := by
  intro av ρ s c d x _ r1 r2
  simp only [VRel] at r1 r2
  obtain ⟨t, rfl⟩ := r1; obtain ⟨u, rfl⟩ := r2
  exact P.mul_int ⟨ρ, σ, _, Step.refl _ _ _, x.tok _, by simp only [VRel]; exact ⟨_, rfl⟩, h⟩ (IntMulOk.of_right (bits64 hb))
theorem o_mul' {a b : Int} {Q : AVal → Store → Prop} (hb : a.natAbs < 2 ^ 64) (h : Q (.int (a * b)) σ) : O2 B C (binaryOp .Mult) (.int a) (.int b) σ Q := by
  intro av ρ s c d x _ r1 r2
  simp only [VRel] at r1 r2
  obtain ⟨t, rfl⟩ := r1; obtain ⟨u, rfl⟩ := r2
  exact P.mul_int ⟨ρ, σ, _, Step.refl _ _ _, x.tok _, by simp only [VRel]; exact ⟨_, rfl⟩, h⟩ (IntMulOk.of_left (bits64 hb))
theorem o_mod {a b : Int} {Q : AVal → Store → Prop} (hb : 0 < b) (h : Q (.int (a % b)) σ) : O2 B C (binaryOp .Mod) (.int a) (.int b) σ Q := by
  intro av ρ s c d x _ r1 r2
  simp only [VRel] at r1 r2
  obtain ⟨t, rfl⟩ := r1; obtain ⟨u, rfl⟩ := r2
  refine mod_int (by omega) ⟨ρ, σ, .int (a % b), Step.refl _ _ _, x.tok _, ?_, h⟩
  rw [Int.fmod_eq_emod_of_nonneg _ (Int.le_of_lt hb)]
  simp only [VRel]; exact ⟨_, rfl⟩
theorem o_mask {a : Int} {Q : AVal → Store → Prop} (h : Q (.int (a % 4294967296)) σ) : O2 B C (binaryOp .BitAnd) (.int a) (.int 4294967295) σ Q := by
  intro av ρ s c d x _ r1 r2
  simp only [VRel] at r1 r2
  obtain ⟨t, rfl⟩ := r1; obtain ⟨u, rfl⟩ := r2
  refine PyProof.Rows.and_int ⟨ρ, σ, .int (a % 4294967296), Step.refl _ _ _, x.tok _, ?_, h⟩
  rw [bitAnd_m32]
  simp only [VRel]; exact ⟨_, rfl⟩
theorem o_band {a b : Int} {Q : AVal → Store → Prop} (h : Q (.int (Builtin.bitAnd a b)) σ) : O2 B C (binaryOp .BitAnd) (.int a) (.int b) σ Q := by
  intro av ρ s c d x _ r1 r2
  simp only [VRel] at r1 r2
  obtain ⟨t, rfl⟩ := r1; obtain ⟨u, rfl⟩ := r2
  exact PyProof.Rows.and_int ⟨ρ, σ, _, Step.refl _ _ _, x.tok _, by simp only [VRel]; exact ⟨_, rfl⟩, h⟩
theorem o_pow {a n : Int} {Q : AVal → Store → Prop} (hn : 0 ≤ n) (hn2 : n ≤ 1000000) (ha : a.natAbs < 2 ^ 64) (h : Q (.int (a ^ n.toNat)) σ) : O2 B C (binaryOp .Pow) (.int a) (.int n) σ Q := by
  intro av ρ s c d x _ r1 r2
  simp only [VRel] at r1 r2
  obtain ⟨t, rfl⟩ := r1; obtain ⟨u, rfl⟩ := r2
  exact pow_int_small hn hn2 ha ⟨ρ, σ, _, Step.refl _ _ _, x.tok _, by simp only [VRel]; exact ⟨_, rfl⟩, h⟩
theorem o_shl {a n : Int} {Q : AVal → Store → Prop} (hn : 0 ≤ n) (hn2 : n ≤ 1000000) (ha : a.natAbs < 2 ^ 64) (h : Q (.int (a * 2 ^ n.toNat)) σ) : O2 B C (binaryOp .LShift) (.int a) (.int n) σ Q := by
  intro av ρ s c d x _ r1 r2
  simp only [VRel] at r1 r2
  obtain ⟨t, rfl⟩ := r1; obtain ⟨u, rfl⟩ := r2
  exact lshift_int_small hn hn2 ha ⟨ρ, σ, _, Step.refl _ _ _, x.tok _, by simp only [VRel]; exact ⟨_, rfl⟩, h⟩
theorem o_neg {a : Int} {Q : AVal → Store → Prop} (h : Q (.int (-a)) σ) : O1 B C (unaryOp .USub) (.int a) σ Q := by
  intro av ρ s c x _ r1
  simp only [VRel] at r1
  obtain ⟨t, rfl⟩ := r1
  exact P.neg_int ⟨ρ, σ, _, Step.refl _ _ _, x.tok _, by simp only [VRel]; exact ⟨_, rfl⟩, h⟩

theorem o_lt {a b : Int} {Q : AVal → Store → Prop} (h : Q (.bool (decide (a < b))) σ) : O2 B C (compareOp .Lt) (.int a) (.int b) σ Q := by
  intro av ρ s c d x _ r1 r2
  simp only [VRel] at r1 r2
  obtain ⟨t, rfl⟩ := r1; obtain ⟨u, rfl⟩ := r2
  exact P.lt_int (Pst.here x (by simp only [VRel]) h)
theorem o_le {a b : Int} {Q : AVal → Store → Prop} (h : Q (.bool (decide (a ≤ b))) σ) : O2 B C (compareOp .LtE) (.int a) (.int b) σ Q := by
  intro av ρ s c d x _ r1 r2
  simp only [VRel] at r1 r2
  obtain ⟨t, rfl⟩ := r1; obtain ⟨u, rfl⟩ := r2
  exact P.le_int (Pst.here x (by simp only [VRel]) h)
theorem o_gt {a b : Int} {Q : AVal → Store → Prop} (h : Q (.bool (decide (a > b))) σ) : O2 B C (compareOp .Gt) (.int a) (.int b) σ Q := by
  intro av ρ s c d x _ r1 r2
  simp only [VRel] at r1 r2
  obtain ⟨t, rfl⟩ := r1; obtain ⟨u, rfl⟩ := r2
  exact P.gt_int (Pst.here x (by simp only [VRel]) h)
theorem o_ge {a b : Int} {Q : AVal → Store → Prop} (h : Q (.bool (decide (a ≥ b))) σ) : O2 B C (compareOp .GtE) (.int a) (.int b) σ Q := by
  intro av ρ s c d x _ r1 r2
  simp only [VRel] at r1 r2
  obtain ⟨t, rfl⟩ := r1; obtain ⟨u, rfl⟩ := r2
  exact P.ge_int (Pst.here x (by simp only [VRel]) h)

theorem o_eq {a b : AVal} {Q : AVal → Store → Prop} (ha : okE 50 a = true) (hb : okE 50 b = true) (h : Q (.bool (decide (a = b))) σ) : O2 B C (compareOp .Eq) a b σ Q := by
  intro av ρ s c d x cx r1 r2
  obtain ⟨p1, d1⟩ := (okE_imp a 50).1 ha
  obtain ⟨p2, d2⟩ := (okE_imp b 50).1 hb
  exact compareEq_rel p1 p2 r1 r2 (by have := cx.u; unfold cLine; omega) (Pst.here x (by simp only [VRel]) h)
theorem o_ne {a b : AVal} {Q : AVal → Store → Prop} (ha : okE 50 a = true) (hb : okE 50 b = true) (h : Q (.bool (!decide (a = b))) σ) : O2 B C (compareOp .NotEq) a b σ Q := by
  intro av ρ s c d x cx r1 r2
  obtain ⟨p1, d1⟩ := (okE_imp a 50).1 ha
  obtain ⟨p2, d2⟩ := (okE_imp b 50).1 hb
  exact compareNe_rel p1 p2 r1 r2 (by have := cx.u; unfold cLine; omega) (Pst.here x (by simp only [VRel]) h)
theorem o_eq_bool {a b : Bool} {Q : AVal → Store → Prop} (h : Q (.bool (a == b)) σ) : O2 B C (compareOp .Eq) (.bool a) (.bool b) σ Q := by
  intro av ρ s c d x cx r1 r2
  simp only [VRel] at r1 r2
  subst r1 r2
  exact eq_bool (Pst.here x (by simp only [VRel]) h)
theorem o_ne_bool {a b : Bool} {Q : AVal → Store → Prop} (h : Q (.bool (a != b)) σ) : O2 B C (compareOp .NotEq) (.bool a) (.bool b) σ Q := by
  intro av ρ s c d x cx r1 r2
  simp only [VRel] at r1 r2
  subst r1 r2
  exact ne_bool (Pst.here x (by simp only [VRel]) h)

noncomputable def isNone : AVal → Bool | .none => true | _ => false
theorem plainIs_none {ρ av : List Addr} {h : Heap} {a : AVal} {c : Value} (r : VRel ρ av h a c) (hc : ∀ v, a ≠ .con v) : plainIs c .none = true ∧ (c == Value.none) = isNone a := by
  cases a <;> simp only [VRel] at r
  case none => subst r; exact ⟨by first | rfl | decide, by first | rfl | decide⟩
  case bool b => subst r; exact ⟨by first | rfl | decide, by first | rfl | decide⟩
  case int i => obtain ⟨t, rfl⟩ := r; exact ⟨by first | rfl | decide, by first | rfl | decide⟩
  case str i => obtain ⟨t, rfl⟩ := r; exact ⟨by first | rfl | decide, by first | rfl | decide⟩
  case nil => obtain ⟨t, rfl, _⟩ := r; exact ⟨by first | rfl | decide, by first | rfl | decide⟩
  case cons => obtain ⟨t, _, _, rfl, _⟩ := r; exact ⟨by first | rfl | decide, by first | rfl | decide⟩
  case lst => obtain ⟨t, _, rfl, _⟩ := r; exact ⟨by first | rfl | decide, by first | rfl | decide⟩
  case loc => obtain ⟨t, rfl, _⟩ := r; exact ⟨by first | rfl | decide, by first | rfl | decide⟩
  case con v => exact absurd rfl (hc v)
theorem o_is_none {a : AVal} {Q : AVal → Store → Prop} (hc : ∀ v, a ≠ .con v) (h : Q (.bool (isNone a)) σ) : O2 B C (compareOp .Is) a .none σ Q := by
  intro av ρ s c d x cx r1 r2
  obtain ⟨h1, h2⟩ := plainIs_none r1 hc
  simp only [VRel] at r2
  subst r2
  exact wpAny_is_plain h1 (Pst.here x (by simp only [VRel, h2]) h)
theorem o_isnt_none {a : AVal} {Q : AVal → Store → Prop} (hc : ∀ v, a ≠ .con v) (h : Q (.bool (!isNone a)) σ) : O2 B C (compareOp .IsNot) a .none σ Q := by
  intro av ρ s c d x cx r1 r2
  obtain ⟨h1, h2⟩ := plainIs_none r1 hc
  simp only [VRel] at r2
  subst r2
  exact wpAny_isNot_plain h1 (Pst.here x (by simp only [VRel, h2]) h)

/-- an item of a tuple -/
theorem o_item {e₁ e₂ : Expr} {a : AVal} {i : Nat} {x : AVal} {Q : AVal → Store → Prop} (ha : isT a = true) (hx : aget a i = some x) (hi : i < 2 ^ 40) (h : Q x σ)
    (hs : ∀ a t, subscripted e₂ false (.ref a) (.int i t) = operate [.ref a, .int i t] (getItem (.ref a) (.int i t)) := by intro _ _; with_unfolding_all rfl) :
    O2 B C (subscriptTail e₁ e₂) a (.int i) σ Q := by
  intro av ρ s c d y cx r1 r2
  simp only [VRel] at r2
  obtain ⟨t, rfl⟩ := r2
  obtain ⟨ad, vs, rfl, _, _, ht, ir⟩ := VRel.tup ha r1
  obtain ⟨v, hv, rv⟩ := ir.get hx
  have hlt : i < vs.length := (List.getElem?_eq_some_iff.mp hv).1
  exact tail_any ht.isTuple.typeIs slot_tuple_getitem.lookup (getItem_tuple (j := i) ht.isTuple (by omega) (by omega) (by rw [seqIndex_of (by omega) (by simpa using hlt)]; simp) (by simpa using hv) (Pst.here y rv h)) (hs _ _)
/-- of a list that stays -/
theorem o_item_lst {e₁ e₂ : Expr} {a : AVal} {i : Nat} {x : AVal} {Q : AVal → Store → Prop} (hx : aget a i = some x) (hi : i < 2 ^ 40) (h : Q x σ)
    (hs : ∀ a t, subscripted e₂ false (.ref a) (.int i t) = operate [.ref a, .int i t] (getItem (.ref a) (.int i t)) := by intro _ _; with_unfolding_all rfl) :
    O2 B C (subscriptTail e₁ e₂) (.lst a) (.int i) σ Q := by
  intro av ρ s c d y cx r1 r2
  simp only [VRel] at r1 r2
  obtain ⟨t, rfl⟩ := r2
  obtain ⟨ad, vs, rfl, _, _, ht, ir⟩ := r1
  obtain ⟨v, hv, rv⟩ := ir.get hx
  have hlt : i < vs.length := (List.getElem?_eq_some_iff.mp hv).1
  exact tail_any ht.isList.typeIs slot_list_getitem.lookup (wpAny_getItem_list ht.isList (by omega) (by omega) (by simpa using hv) (Pst.here y rv h)) (hs _ _)
/-- of a list of the store -/
theorem o_item_loc {e₁ e₂ : Expr} {k : Nat} {a : AVal} {i : Nat} {x : AVal} {Q : AVal → Store → Prop} (hk : σ[k]? = some (.list a)) (hx : aget a i = some x) (hi : i < 2 ^ 40) (h : Q x σ)
    (hs : ∀ a t, subscripted e₂ false (.ref a) (.int i t) = operate [.ref a, .int i t] (getItem (.ref a) (.int i t)) := by intro _ _; with_unfolding_all rfl) :
    O2 B C (subscriptTail e₁ e₂) (.loc k) (.int i) σ Q := by
  intro av ρ s c d y cx r1 r2
  simp only [VRel] at r1 r2
  obtain ⟨t, rfl⟩ := r2
  obtain ⟨ad, rfl, hl⟩ := r1
  obtain ⟨vs, ht, ir⟩ := y.rep k ad _ hl hk
  obtain ⟨v, hv, rv⟩ := ir.get hx
  have hlt : i < vs.length := (List.getElem?_eq_some_iff.mp hv).1
  exact tail_any ht.isList.typeIs slot_list_getitem.lookup (wpAny_getItem_list ht.isList (by omega) (by omega) (by simpa using hv) (Pst.here y rv h)) (hs _ _)
end

noncomputable def dget : List (AVal × AVal) → AVal → Option AVal
  | [], _ => none
  | (k', v) :: es, k => if k' = k then some v else dget es k
noncomputable def dset : List (AVal × AVal) → AVal → AVal → List (AVal × AVal)
  | [], _, _ => []
  | (k', w) :: es, k, v => if k' = k then (k', v) :: dset es k v else (k', w) :: dset es k v
noncomputable def dput (es : List (AVal × AVal)) (k v : AVal) : List (AVal × AVal) := if (dget es k).isSome then dset es k v else es ++ [(k, v)]

/-- a key that is a tuple -/
noncomputable def isTK (k : AVal) : Bool := isT k && isKey k && okE 8 k
noncomputable def isIK : AVal → Bool | .int _ => true | _ => false

theorem tk_ref {ρ av : List Addr} {h : Heap} {k : AVal} {c : Value} (hk : isTK k = true) (r : VRel ρ av h k c) : ∃ a, c = .ref a ∧ KeyIs h k a := by
  unfold isTK at hk
  simp only [Bool.and_eq_true] at hk
  obtain ⟨ad, vs, rfl, _⟩ := VRel.tup hk.1.1 r
  exact ⟨ad, rfl, (key_forget k).1 hk.1.2 _ r, hk.1.2, ((okE_imp k 8).1 hk.2).2⟩

section
variable {prog : Program} {w : World} {ρ av : List Addr} {h : Heap} {a : Addr} {es : List (AVal × AVal)}

theorem rep_T (r : Rep prog w ρ av h a (.dict es)) (hT : ∀ p ∈ es, isT p.1 = true) : ∃ kvs, h.DictOfH (keyKind prog w) a kvs ∧ DRelT ρ av h es kvs := by
  rcases r with ⟨kvs, hd, hr⟩ | r
  · match es, kvs, hr with
    | [], [], _ =>
      obtain ⟨o, es, ep, ho, hc, hdat, hk, hp, hn⟩ := hd
      have e0 : es.toList = [] := by cases hp' : es.toList with
        | nil => rfl
        | cons x r => rw [hp'] at hp; cases hp
      exact ⟨[], ⟨o, es, ep, ho, hc, hdat, by rw [e0]; rfl, by simp, by simp⟩, trivial⟩
    | (k, v) :: es, (i, c) :: kvs, ⟨e, _⟩ =>
      have := hT (k, v) List.mem_cons_self
      rw [e] at this; cases this
  · exact r

theorem rep_I (r : Rep prog w ρ av h a (.dict es)) (hI : ∀ p ∈ es, isIK p.1 = true) : ∃ kvs, h.DictOf (intKind prog w) a kvs ∧ DRelI ρ av h es kvs := by
  rcases r with r | ⟨kvs, hd, hr⟩
  · exact r
  · match es, kvs, hr with
    | [], [], _ =>
      obtain ⟨o, es, ep, ho, hc, hdat, he, hx, hn⟩ := hd
      have e0 : es = #[] := by
        have : es.toList = [] := by simpa using he
        exact Array.toList_eq_nil_iff.mp this
      subst e0
      exact ⟨[], ⟨o, #[], ep, ho, hc, hdat, fun e he => (by simp at he), Pairs.nil, by simp⟩, trivial⟩
    | (k, v) :: es, (k', b, c) :: kvs, ⟨e, hv, _⟩ =>
      have hk := hI (k, v) List.mem_cons_self
      cases k <;> first | (simp only [VRel] at hv; obtain ⟨t, ht⟩ := hv; cases ht; done) | (simp [isIK] at hk; done)

theorem dget_T {kvs : List (AVal × Addr × Value)} (k : AVal) : ∀ {es : List (AVal × AVal)} {kvs : List (AVal × Addr × Value)}, DRelT ρ av h es kvs → match dget es k with | some v => ∃ p, atKey kvs k = some p ∧ VRel ρ av h v p.2 | none => atKey kvs k = none
  | [], [], _ => rfl
  | (k', v) :: es, (k2, b, c) :: kvs, ⟨e, hk, hv, hr⟩ => by
    subst e
    have ih := dget_T (kvs := kvs) k hr
    unfold dget atKey
    rw [List.find?_cons]
    by_cases hkk : k' = k
    · rw [if_pos hkk]
      simp only [hkk, decide_true, Option.map_some]
      exact ⟨_, rfl, hv⟩
    · rw [if_neg hkk]
      simp only [hkk, decide_false]
      exact ih
theorem dget_I (i : Int) : ∀ {es : List (AVal × AVal)} {kvs : List (Int × Value)}, DRelI ρ av h es kvs → match dget es (.int i) with | some v => ∃ c, valueAt kvs i = some c ∧ VRel ρ av h v c | none => valueAt kvs i = none
  | [], [], _ => rfl
  | (k', v) :: es, (j, c) :: kvs, ⟨e, hv, hr⟩ => by
    subst e
    have ih := dget_I i hr
    unfold dget valueAt
    rw [List.find?_cons]
    by_cases hkk : j = i
    · subst hkk
      simp only [if_true, decide_true, Option.map_some]
      exact ⟨_, rfl, hv⟩
    · rw [if_neg (fun e => hkk (AVal.int.inj e))]
      simp only [hkk, decide_false]
      exact ih

theorem dset_T (k v : AVal) {a : Addr} {c : Value} (hv : VRel ρ av h v c) : ∀ {es : List (AVal × AVal)} {kvs : List (AVal × Addr × Value)}, DRelT ρ av h es kvs → DRelT ρ av h (dset es k v) (kvs.map (putAt k c))
  | [], [], _ => trivial
  | (k', w) :: es, (k2, b, d) :: kvs, ⟨e, hk, hw, hr⟩ => by
    subst e
    have ih := dset_T (a := a) k v hv hr
    rw [List.map_cons]
    unfold dset putAt
    by_cases hkk : k' = k
    · rw [if_pos hkk]; rw [if_pos hkk]; exact ⟨rfl, hk, hv, ih⟩
    · rw [if_neg hkk]; rw [if_neg hkk]; exact ⟨rfl, hk, hw, ih⟩
theorem dapp_T (k v : AVal) {a : Addr} {c : Value} (hk : VRel ρ av h k (.ref a)) (hv : VRel ρ av h v c) : ∀ {es : List (AVal × AVal)} {kvs : List (AVal × Addr × Value)}, DRelT ρ av h es kvs → DRelT ρ av h (es ++ [(k, v)]) (kvs ++ [(k, a, c)])
  | [], [], _ => ⟨rfl, hk, hv, trivial⟩
  | (k', w) :: es, (k2, b, d) :: kvs, ⟨e, hk', hw, hr⟩ => ⟨e, hk', hw, dapp_T k v hk hv hr⟩
theorem dput_T {k v : AVal} {a : Addr} {c : Value} (hk : VRel ρ av h k (.ref a)) (hv : VRel ρ av h v c) {es : List (AVal × AVal)} {kvs : List (AVal × Addr × Value)} (r : DRelT ρ av h es kvs) : DRelT ρ av h (dput es k v) (storedH kvs k a c) := by
  have g := dget_T (kvs := kvs) k r
  unfold dput storedH
  cases hd : dget es k with
  | none => rw [hd] at g; simp only [g, Option.isSome_none, Bool.false_eq_true, if_false]; exact dapp_T k v hk hv r
  | some w => rw [hd] at g; obtain ⟨p, hp, _⟩ := g; simp only [hp, Option.isSome_some, if_true]; exact dset_T (a := a) k v hv r
theorem dset_I (i : Int) (v : AVal) {c : Value} (hv : VRel ρ av h v c) : ∀ {es : List (AVal × AVal)} {kvs : List (Int × Value)}, DRelI ρ av h es kvs → DRelI ρ av h (dset es (.int i) v) (kvs.map fun kv => if kv.1 = i then (kv.1, c) else kv)
  | [], [], _ => trivial
  | (k', w) :: es, (j, d) :: kvs, ⟨e, hw, hr⟩ => by
    subst e
    have ih := dset_I i v hv hr
    rw [List.map_cons]
    unfold dset
    by_cases hkk : j = i
    · subst hkk; rw [if_pos rfl]; rw [if_pos rfl]; exact ⟨rfl, hv, ih⟩
    · rw [if_neg (fun e => hkk (AVal.int.inj e))]; rw [if_neg hkk]; exact ⟨rfl, hw, ih⟩
theorem dapp_I (i : Int) (v : AVal) {c : Value} (hv : VRel ρ av h v c) : ∀ {es : List (AVal × AVal)} {kvs : List (Int × Value)}, DRelI ρ av h es kvs → DRelI ρ av h (es ++ [(.int i, v)]) (kvs ++ [(i, c)])
  | [], [], _ => ⟨rfl, hv, trivial⟩
  | (k', w) :: es, (k2, d) :: kvs, ⟨e, hw, hr⟩ => ⟨e, hw, dapp_I i v hv hr⟩
theorem any_valueAt (i : Int) : ∀ kvs : List (Int × Value), (kvs.any fun kv => decide (kv.1 = i)) = (valueAt kvs i).isSome
  | [] => rfl
  | (j, c) :: r => by
    have ih := any_valueAt i r
    unfold valueAt at ih ⊢
    rw [List.any_cons, List.find?_cons]
    by_cases h : j = i
    · simp [h]
    · simp only [h, decide_false, Bool.false_or]; exact ih
theorem dput_I {i : Int} {v : AVal} {c : Value} (hv : VRel ρ av h v c) {es : List (AVal × AVal)} {kvs : List (Int × Value)} (r : DRelI ρ av h es kvs) : DRelI ρ av h (dput es (.int i) v) (stored kvs i c) := by
  have g := dget_I i r
  unfold dput stored
  rw [any_valueAt]
  cases hd : dget es (.int i) with
  | none => rw [hd] at g; simp only [g, Option.isSome_none, Bool.false_eq_true, if_false]; exact dapp_I i v hv r
  | some w => rw [hd] at g; obtain ⟨p, hp, _⟩ := g; simp only [hp, Option.isSome_some, if_true]; exact dset_I i v hv r
theorem drelT_len : ∀ {es : List (AVal × AVal)} {kvs : List (AVal × Addr × Value)}, DRelT ρ av h es kvs → kvs.length = es.length
  | [], [], _ => rfl
  | _ :: _, _ :: _, ⟨_, _, _, hr⟩ => by simp [drelT_len hr]
theorem drelI_len : ∀ {es : List (AVal × AVal)} {kvs : List (Int × Value)}, DRelI ρ av h es kvs → kvs.length = es.length
  | [], [], _ => rfl
  | _ :: _, _ :: _, ⟨_, _, hr⟩ => by simp [drelI_len hr]
end

section
variable {B : Base} {C : Cx} {σ : Store}

theorem sys_ne {av ρ : List Addr} {s : Shared} (x : Sim B av ρ σ s) {d : Nat} {a : Addr} (hl : ρ[d]? = some a) : (a == sysModules) = false := by
  have h1 : (3 : Nat) < a := x.big a (List.mem_of_getElem? hl)
  rw [beq_eq_false_iff_ne]
  intro e
  have h2 : a = (1 : Nat) := e
  rw [h2] at h1
  exact absurd h1 (by decide)
theorem key_room (cx : CxOk B C) : (keyKind B.prog B.w).room C.A.in1 := by
  have := cx.u
  show C.A.units + 1 + 8 < cLine
  unfold cLine; omega

/-- dicts whose keys are tuples -/
theorem o_in_T {d : Nat} {es : List (AVal × AVal)} {k : AVal} {Q : AVal → Store → Prop} (hd : σ[d]? = some (.dict es)) (hT : ∀ p ∈ es, isT p.1 = true) (hk : isTK k = true) (h : Q (.bool (dget es k).isSome) σ) : O2 B C (compareOp .In) k (.loc d) σ Q := by
  intro av ρ s c e x cx r1 r2
  obtain ⟨a, rfl, hkey⟩ := tk_ref hk r1
  simp only [VRel] at r2
  obtain ⟨b, rfl, hl⟩ := r2
  obtain ⟨kvs, hD, hR⟩ := rep_T (x.rep d b _ hl hd) hT
  refine wpAny_in_heap (key_room cx) hkey (sys_ne x hl) hD ⟨ρ, σ, .bool (dget es k).isSome, Step.refl _ _ _, x.tok _, ?_, h⟩
  simp only [VRel]
  have g := dget_T (kvs := kvs) k hR
  cases hg : dget es k with
  | none => rw [hg] at g; rw [g]; rfl
  | some v => rw [hg] at g; obtain ⟨p, hp, _⟩ := g; rw [hp]; rfl
theorem o_nin_T {d : Nat} {es : List (AVal × AVal)} {k : AVal} {Q : AVal → Store → Prop} (hd : σ[d]? = some (.dict es)) (hT : ∀ p ∈ es, isT p.1 = true) (hk : isTK k = true) (h : Q (.bool (!(dget es k).isSome)) σ) : O2 B C (compareOp .NotIn) k (.loc d) σ Q := by
  intro av ρ s c e x cx r1 r2
  obtain ⟨a, rfl, hkey⟩ := tk_ref hk r1
  simp only [VRel] at r2
  obtain ⟨b, rfl, hl⟩ := r2
  obtain ⟨kvs, hD, hR⟩ := rep_T (x.rep d b _ hl hd) hT
  refine wpAny_notIn_heap (key_room cx) hkey (sys_ne x hl) hD ⟨ρ, σ, .bool (!(dget es k).isSome), Step.refl _ _ _, x.tok _, ?_, h⟩
  simp only [VRel]
  have g := dget_T (kvs := kvs) k hR
  cases hg : dget es k with
  | none => rw [hg] at g; rw [g]; rfl
  | some v => rw [hg] at g; obtain ⟨p, hp, _⟩ := g; rw [hp]; rfl
theorem o_get_T {e₁ e₂ : Expr} {d : Nat} {es : List (AVal × AVal)} {k v : AVal} {Q : AVal → Store → Prop} (hd : σ[d]? = some (.dict es)) (hT : ∀ p ∈ es, isT p.1 = true) (hk : isTK k = true) (hv : dget es k = some v) (h : Q v σ)
    (hs : ∀ a b, subscripted e₂ false (.ref a) (.ref b) = operate [.ref a, .ref b] (getItem (.ref a) (.ref b)) := by intro _ _; with_unfolding_all rfl) : O2 B C (subscriptTail e₁ e₂) (.loc d) k σ Q := by
  intro av ρ s e c x cx r2 r1
  obtain ⟨a, rfl, hkey⟩ := tk_ref hk r1
  simp only [VRel] at r2
  obtain ⟨b, rfl, hl⟩ := r2
  obtain ⟨kvs, hD, hR⟩ := rep_T (x.rep d b _ hl hd) hT
  have g := dget_T (kvs := kvs) k hR
  rw [hv] at g
  obtain ⟨p, hp, rv⟩ := g
  exact tail_any hD.typeIs slot_dict_getitem.lookup (wpAny_getItem_heap (key_room cx) hkey hD hp ⟨ρ, σ, v, Step.refl _ _ _, x.tok _, rv, h⟩) (hs _ _)
theorem o_set_T {d : Nat} {es : List (AVal × AVal)} {k v : AVal} {Q : Store → Prop} (hd : σ[d]? = some (.dict es)) (hT : ∀ p ∈ es, isT p.1 = true) (hk : isTK k = true) (hz : es.length ≤ 1000000) (h : Q (σ.set d (.dict (dput es k v)))) : O3 B C setItem (.loc d) k v σ Q := by
  intro av ρ s c e f x cx r1 r2 r3
  obtain ⟨a, rfl, hkey⟩ := tk_ref hk r2
  simp only [VRel] at r1
  obtain ⟨b, rfl, hl⟩ := r1
  obtain ⟨kvs, hD, hR⟩ := rep_T (x.rep d b _ hl hd) hT
  refine wpAny_setItem_heap (key_room cx) hkey hD (fun h' hD' hs' => ?_) (by rw [drelT_len hR, sizeLine_eq]; omega)
  obtain ⟨o', _, _, ho', _⟩ := id hD'
  have st : Step noX ρ s.heap ρ h' := Step.sameBut (.inl (List.mem_of_getElem? hl)) hs' ho'
  exact ⟨ρ, _, st, x.update (ao := .dict (dput es k v)) hl hs' ho' (Or.inr ⟨_, hD', (dput_T r2 r3 hR).mono (st.kpNo av)⟩) _, h⟩

/-- dicts whose keys are ints -/
theorem o_in_I {d : Nat} {es : List (AVal × AVal)} {i : Int} {Q : AVal → Store → Prop} (hd : σ[d]? = some (.dict es)) (hI : ∀ p ∈ es, isIK p.1 = true) (h : Q (.bool (dget es (.int i)).isSome) σ) : O2 B C (compareOp .In) (.int i) (.loc d) σ Q := by
  intro av ρ s c e x cx r1 r2
  simp only [VRel] at r1 r2
  obtain ⟨t, rfl⟩ := r1
  obtain ⟨b, rfl, hl⟩ := r2
  obtain ⟨kvs, hD, hR⟩ := rep_I (x.rep d b _ hl hd) hI
  refine wpAny_in_of (knd := intKind B.prog B.w) (k := i) (by simp [intKind, Value.isInt]) (sys_ne x hl) hD.mapOf ⟨ρ, σ, .bool (dget es (.int i)).isSome, Step.refl _ _ _, x.tok _, ?_, h⟩
  simp only [VRel]
  have g := dget_I i hR
  cases hg : dget es (.int i) with
  | none => rw [hg] at g; rw [g]; rfl
  | some v => rw [hg] at g; obtain ⟨p, hp, _⟩ := g; rw [hp]; rfl
theorem o_get_I {e₁ e₂ : Expr} {d : Nat} {es : List (AVal × AVal)} {i : Int} {v : AVal} {Q : AVal → Store → Prop} (hd : σ[d]? = some (.dict es)) (hI : ∀ p ∈ es, isIK p.1 = true) (hv : dget es (.int i) = some v) (h : Q v σ)
    (hs : ∀ a i t, subscripted e₂ false (.ref a) (.int i t) = operate [.ref a, .int i t] (getItem (.ref a) (.int i t)) := by intro _ _ _; with_unfolding_all rfl) : O2 B C (subscriptTail e₁ e₂) (.loc d) (.int i) σ Q := by
  intro av ρ s e c x cx r2 r1
  simp only [VRel] at r1 r2
  obtain ⟨t, rfl⟩ := r1
  obtain ⟨b, rfl, hl⟩ := r2
  obtain ⟨kvs, hD, hR⟩ := rep_I (x.rep d b _ hl hd) hI
  have g := dget_I i hR
  rw [hv] at g
  obtain ⟨p, hp, rv⟩ := g
  exact tail_any hD.typeIs slot_dict_getitem.lookup (wpAny_getItem_of (knd := intKind B.prog B.w) (k := i) (by simp [intKind, Value.isInt]) hD.mapOf hp ⟨ρ, σ, v, Step.refl _ _ _, x.tok _, rv, h⟩) (hs _ _ _)
theorem o_set_I {d : Nat} {es : List (AVal × AVal)} {i : Int} {v : AVal} {Q : Store → Prop} (hd : σ[d]? = some (.dict es)) (hI : ∀ p ∈ es, isIK p.1 = true) (hz : es.length ≤ 1000000) (h : Q (σ.set d (.dict (dput es (.int i) v)))) : O3 B C setItem (.loc d) (.int i) v σ Q := by
  intro av ρ s c e f x cx r1 r2 r3
  simp only [VRel] at r1 r2
  obtain ⟨t, rfl⟩ := r2
  obtain ⟨b, rfl, hl⟩ := r1
  obtain ⟨kvs, hD, hR⟩ := rep_I (x.rep d b _ hl hd) hI
  refine wpAny_setItem_pairs (knd := intKind B.prog B.w) (k := i) (by simp [intKind, Value.isInt]) hD (fun h' hD' hs' => ?_) (by rw [drelI_len hR, sizeLine_eq]; omega)
  obtain ⟨o', _, _, ho', _⟩ := id hD'
  have st : Step noX ρ s.heap ρ h' := Step.sameBut (.inl (List.mem_of_getElem? hl)) hs' ho'
  exact ⟨ρ, _, st, x.update (ao := .dict (dput es (.int i) v)) hl hs' ho' (Or.inl ⟨_, hD', (dput_I r3 hR).mono (st.kpNo av)⟩) _, h⟩

/-- dict.get with a default, its keys ints -/
theorem m_get {d : Nat} {es : List (AVal × AVal)} (hd : σ[d]? = some (.dict es)) : IsMeth B C (Str.ofString "get") (.loc d) σ (.builtin "dict.get") := by
  intro av ρ s c pl Q x cx r hQ
  simp only [VRel] at r
  obtain ⟨b, rfl, hl⟩ := r
  have hx : s.TypeIs (.ref b) "dict" ∧ ∃ o, s.heap.get? b = some o ∧ o.dict = none := by
    rcases x.rep d b _ hl hd with ⟨kvs, hD, _⟩ | ⟨kvs, hD, _⟩
    · obtain ⟨o, es, ep, ho, hc, _⟩ := id hD; exact ⟨hD.typeIs, o, ho, hc.2.1⟩
    · obtain ⟨o, es, ep, ho, hc, _⟩ := id hD; exact ⟨hD.typeIs, o, ho, hc.2.1⟩
  exact getMethod_builtin hx.1 F.plainAttrs_dict F.slot_dict_get F.type_dict_get (fun a e => by cases e; exact hx.2) hQ
theorem o_dget {d : Nat} {es : List (AVal × AVal)} {i : Int} {v : AVal} {Q : AVal → Store → Prop} (hd : σ[d]? = some (.dict es)) (hI : ∀ p ∈ es, isIK p.1 = true) (h : Q ((dget es (.int i)).getD v) σ) :
    OC B C (fun cs => call (.builtin "dict.get") cs) (tup [.loc d, .int i, v]) σ Q := by
  intro av ρ s cs x cx r
  simp only [IRel, VRel] at r
  obtain ⟨c1, r1, rfl, ⟨b, rfl, hl⟩, c2, r2, rfl, ⟨t, rfl⟩, c3, r3, rfl, hv, rfl⟩ := r
  obtain ⟨kvs, hD, hR⟩ := rep_I (x.rep d b _ hl hd) hI
  refine call_meetsIn F.slot_dict_get hD.typeIs F.entry_dict_get (by first | exact F.args_dict_get_3 _ _ _ | exact F.args_dict_get _ | rfl | decide) (meets_dict_get_default (intKind B.prog B.w) (k := i) b (show (intKind B.prog B.w).is i (.int i t) = true by simp [intKind, Value.isInt]) (sys_ne x hl) c3) ⟨_, hD.mapOf, ?_⟩
  refine ⟨ρ, σ, (dget es (.int i)).getD v, Step.refl _ _ _, x.tok _, ?_, h⟩
  have g := dget_I i hR
  cases hg : dget es (.int i) with
  | none => rw [hg] at g; rw [g]; exact hv
  | some w => rw [hg] at g; obtain ⟨p, hp, rv⟩ := g; rw [hp]; exact rv

/-- len -/
theorem len_dictH {prog : Program} {w : World} {A : Around} {E : Value → Shared → Prop} {s : Shared} {d : Addr} {kvs : List (AVal × Addr × Value)} {Q : Value → Shared → Prop} (hd : (d == sysModules) = false) (hm : s.heap.DictOfH (keyKind prog w) d kvs) (hfit : (kvs.length : Int) < 2 ^ 63)
    (h : Q (.int kvs.length (s.toks + 1)) { s with toks := s.toks + 1 + 1 }) : wpAny (model prog w) A (call (.builtin "len") [.ref d]) Q E s := by
  refine Calls.call_function_entry kind_len plain_len entry_len (args_len1 _) ?_
  unfold Builtin.«len»
  refine wpAny_bind (m := oneArg "len" _) (wpAny_pure ?_)
  refine wpAny_bind (m := callSpecial? (.ref d) (Str.ofString "__len__")) (wpAny_callSpecial?_slot (name := Str.ofString "__len__") hm.typeIs F.slot_dict_len
    (wpAny_call_entry F.slot_dict_len hm.typeIs F.entry_dict_len ?_ (F.args_dict_len_1 _)))
  obtain ⟨o, es, ep, ho, hc, hdat, he, hx, hn⟩ := hm
  show wpAny _ _ (dictSize d >>= _) _ _ s
  unfold dictSize
  refine wpAny_bind (wpAny_bind (wpAny_dictEntries ho hdat (wpAny_pure ?_)))
  show wpAny _ _ (Builtin.Dict.pendingCount d >>= _) _ _ s
  refine wpAny_bind (wpAny_pendingCount_other hd ?_)
  refine wpAny_ret_mkInt ?_
  have e : ((es.size : Int) + ((0 : Nat) : Int)) = (kvs.length : Int) := by rw [size_of_entries he]; simp
  rw [e]
  refine wpAny_bind (wpAny_holding (wpAny_pure ?_))
  refine wpAny_bind (wpAny_letGo ?_)
  show wpAny _ _ (if ((kvs.length : Nat) : Int) < 0 then _ else _) _ _ _
  rw [if_neg (by omega)]
  show wpAny _ _ (if ((kvs.length : Nat) : Int) ≥ 2 ^ 63 then _ else _) _ _ _
  rw [if_neg (by omega)]
  exact wpAny_bind (wpAny_mkInt (wpAny_pure ⟨_, rfl, h⟩))
theorem o_len_T {d : Nat} {es : List (AVal × AVal)} {Q : AVal → Store → Prop} (hd : σ[d]? = some (.dict es)) (hT : ∀ p ∈ es, isT p.1 = true) (hz : es.length ≤ 1000000) (h : Q (.int es.length) σ) : OC B C (fun cs => call (.builtin "len") cs) (tup [.loc d]) σ Q := by
  intro av ρ s cs x cx r
  simp only [IRel, VRel] at r
  obtain ⟨c1, r1, rfl, ⟨b, rfl, hl⟩, rfl⟩ := r
  obtain ⟨kvs, hD, hR⟩ := rep_T (x.rep d b _ hl hd) hT
  have e := drelT_len hR
  exact len_dictH (sys_ne x hl) hD (by omega) ⟨ρ, σ, .int es.length, Step.refl _ _ _, x.tok _, by simp only [VRel]; exact ⟨_, by rw [e]⟩, h⟩
theorem o_len_tup {a : AVal} {Q : AVal → Store → Prop} (ha : isT a = true) (hz : alen a ≤ 1000000) (h : Q (.int (alen a)) σ) : OC B C (fun cs => call (.builtin "len") cs) (tup [a]) σ Q := by
  intro av ρ s cs x cx r
  simp only [IRel] at r
  obtain ⟨c1, r1, rfl, hv, rfl⟩ := r
  obtain ⟨ad, vs, rfl, _, _, t, i⟩ := VRel.tup ha hv
  have e := i.length
  exact len_tuple t.isTuple (by rw [List.size_toArray]; omega) ⟨ρ, σ, .int (alen a), Step.refl _ _ _, x.tok _, by simp only [VRel]; exact ⟨_, by rw [List.size_toArray, e]⟩, h⟩
theorem o_len_lst {a : AVal} {Q : AVal → Store → Prop} (hz : alen a ≤ 1000000) (h : Q (.int (alen a)) σ) : OC B C (fun cs => call (.builtin "len") cs) (tup [.lst a]) σ Q := by
  intro av ρ s cs x cx r
  simp only [IRel, VRel] at r
  obtain ⟨c1, r1, rfl, ⟨ad, vs, rfl, _, _, t, i⟩, rfl⟩ := r
  have e := i.length
  exact call_len_list t.isList (by rw [List.size_toArray]; omega) ⟨ρ, σ, .int (alen a), Step.refl _ _ _, x.tok _, by simp only [VRel]; exact ⟨_, by rw [List.size_toArray, e]⟩, h⟩
theorem o_len_loc {k : Nat} {a : AVal} {Q : AVal → Store → Prop} (hk : σ[k]? = some (.list a)) (hz : alen a ≤ 1000000) (h : Q (.int (alen a)) σ) : OC B C (fun cs => call (.builtin "len") cs) (tup [.loc k]) σ Q := by
  intro av ρ s cs x cx r
  simp only [IRel, VRel] at r
  obtain ⟨c1, r1, rfl, ⟨ad, rfl, hl⟩, rfl⟩ := r
  obtain ⟨vs, t, i⟩ := x.rep k ad _ hl hk
  have e := i.length
  exact call_len_list t.isList (by rw [List.size_toArray]; omega) ⟨ρ, σ, .int (alen a), Step.refl _ _ _, x.tok _, by simp only [VRel]; exact ⟨_, by rw [List.size_toArray, e]⟩, h⟩

/-- a list takes one more -/
theorem m_append {k : Nat} {a : AVal} (hk : σ[k]? = some (.list a)) : IsMeth B C (Str.ofString "append") (.loc k) σ (.builtin "list.append") := by
  intro av ρ s c pl Q x cx r hQ
  simp only [VRel] at r
  obtain ⟨b, rfl, hl⟩ := r
  obtain ⟨vs, ⟨n, e⟩, i⟩ := x.rep k b _ hl hk
  exact getMethod_list_append e rfl rfl hQ
theorem o_append {k : Nat} {a v : AVal} {Q : AVal → Store → Prop} (hk : σ[k]? = some (.list a)) (hz : alen a ≤ 1000000) (h : Q .none (σ.set k (.list (asnoc a v)))) : OC B C (fun cs => call (.builtin "list.append") cs) (tup [.loc k, v]) σ Q := by
  intro av ρ s cs x cx r
  simp only [IRel, VRel] at r
  obtain ⟨c1, r1, rfl, ⟨ad, rfl, hl⟩, c2, r2, rfl, hv, rfl⟩ := r
  obtain ⟨vs, t, i⟩ := x.rep k ad _ hl hk
  have e := i.length
  refine wpAny_list_append_plain t (fun h' hp hs => ?_) (by rw [List.size_toArray, e, sizeLine_eq]; omega)
  obtain ⟨n, ho'⟩ := id hp
  have st : Step noX ρ s.heap ρ h' := Step.sameBut (.inl (List.mem_of_getElem? hl)) hs ho'
  refine ⟨ρ, _, .none, st, x.update (ao := .list (asnoc a v)) hl hs ho' ⟨vs ++ [c2], by simpa using hp, (irel_snoc i hv).mono (st.kpNo av)⟩ s.toks, by simp only [VRel], h⟩

noncomputable def aset : AVal → Nat → AVal → AVal
  | .cons _ xs, 0, v => .cons v xs
  | .cons x xs, n + 1, v => .cons x (aset xs n v)
  | a, _, _ => a
theorem irel_set {ρ av : List Addr} {h : Heap} {v : AVal} {c : Value} (hv : VRel ρ av h v c) : ∀ {a : AVal} {vs : List Value} {i : Nat}, IRel ρ av h a vs → IRel ρ av h (aset a i v) (vs.set i c)
  | .nil, vs, i, r => by simp only [IRel] at r; subst r; simp [aset, IRel]
  | .cons x xs, vs, 0, r => by
    simp only [IRel] at r
    obtain ⟨d, q, rfl, hd, hq⟩ := r
    simp only [aset, IRel, List.set_cons_zero]
    exact ⟨c, q, rfl, hv, hq⟩
  | .cons x xs, vs, i + 1, r => by
    simp only [IRel] at r
    obtain ⟨d, q, rfl, hd, hq⟩ := r
    simp only [aset, IRel, List.set_cons_succ]
    exact ⟨d, _, rfl, hd, irel_set hv hq⟩
  | .none, _, _, i | .bool _, _, _, i | .int _, _, _, i | .str _, _, _, i | .lst _, _, _, i | .loc _, _, _, i | .con _, _, _, i => by simp only [IRel] at i

theorem setItem_plain {prog : Program} {w : World} {A : Around} {E : Value → Shared → Prop} {s : Shared} {l : Addr} {items : Array Value} {k : Int} {t : Tok} {v : Value} {Q : Unit → Shared → Prop} (hp : s.heap.PlainList l items)
    (h0 : 0 ≤ k) (hfit : k < 2 ^ 63) (hn : k < items.size) (hQ : ∀ h', h'.PlainList l (items.setIfInBounds k.toNat v) → Heap.SameBut l s.heap h' → Q () { s with heap := h' }) : wpAny (model prog w) A (setItem (.ref l) (.int k t) v) Q E s := by
  obtain ⟨ne, ho⟩ := id hp
  have hl := hp.isList
  unfold setItem
  try with_reducible refine wpAny_holding ?_
  first | refine wpAny_bind (wpAny_pure ?_) | skip
  refine wpAny_bind (wpAny_sequenceKey hl.typeIs (by decide) ?_)
  refine wpAny_bind (wpAny_callSpecial?_slot (name := Str.ofString "__setitem__") hl.typeIs slot_list_setitem
    (wpAny_call_entry slot_list_setitem hl.typeIs entry_list_setitem ?_ (args_list_setitem _ _ _)))
  show wpAny _ _ (Builtin.List.listSubscript? (.int k t) >>= _) _ _ s
  refine wpAny_bind (wpAny_listSubscript_int (fitsIndex_of h0 hfit) ?_)
  clear hfit
  obtain ⟨j, rfl⟩ := Int.eq_ofNat_of_zero_le h0
  have hj : j < items.size := by omega
  have hx' : items[j]? = some items[j] := Array.getElem?_eq_getElem hj
  show wpAny _ _ ((seqItemAt l j >>= fun r => pure (r.map (j, ·))) >>= _) _ _ s
  refine wpAny_bind (wpAny_bind (wpAny_seqItemAt ho rfl (wpAny_pure ?_)))
  rw [hx']
  show wpAny _ _ (setSeqItemAt l j v >>= _) _ _ s
  have hfin : ∃ n', (s.heap.update l (Obj.mapSeq (·.setIfInBounds j v))).get? l = some { cls := .type "list", data := .seq (items.setIfInBounds j v) n' } := by
    refine ⟨?_, ?_⟩
    rotate_left
    · rw [Heap.get?_update_self _ ho (by simp [Obj.mapSeq, Obj.isFreed])]
      simp [Obj.mapSeq]
      rfl
  refine wpAny_bind (wpAny_setSeqItemAt ho rfl ?_)
  first
    | exact wpAny_bind (wpAny_pure (wpAny_pure ⟨.none, rfl, wpAny_pure (hQ _ hfin (Heap.SameBut.update ..))⟩))
    | exact wpAny_pure ⟨.none, rfl, wpAny_pure (hQ _ hfin (Heap.SameBut.update ..))⟩
theorem o_set_list {k : Nat} {a v : AVal} {i : Nat} {Q : Store → Prop} (hk : σ[k]? = some (.list a)) (hi : i < alen a) (hz : i < 2 ^ 40) (h : Q (σ.set k (.list (aset a i v)))) : O3 B C setItem (.loc k) (.int i) v σ Q := by
  intro av ρ s c e f x cx r1 r2 r3
  simp only [VRel] at r1 r2
  obtain ⟨t, rfl⟩ := r2
  obtain ⟨b, rfl, hl⟩ := r1
  obtain ⟨vs, ht, ir⟩ := x.rep k b _ hl hk
  refine setItem_plain ht (by omega) (by omega) (by rw [List.size_toArray, ir.length]; omega) fun h' hp hs => ?_
  obtain ⟨n, ho'⟩ := id hp
  have st : Step noX ρ s.heap ρ h' := Step.sameBut (.inl (List.mem_of_getElem? hl)) hs ho'
  exact ⟨ρ, _, st, x.update (ao := .list (aset a i v)) hl hs ho' ⟨vs.set i f, by simpa using hp, (irel_set r3 ir).mono (st.kpNo av)⟩ s.toks, h⟩
end

section
open PySem.SeqAt
/-- one value less than another, of ints and tuples -/
noncomputable def ltA : AVal → AVal → Bool
  | .int a, .int b => decide (a < b)
  | .cons x xs, .cons y ys => if x = y then ltA xs ys else ltA x y
  | .nil, .cons _ _ => true
  | _, _ => false
noncomputable def cmpA : AVal → AVal → Bool
  | .int _, .int _ => true
  | .cons x xs, .cons y ys => if x = y then cmpA xs ys else cmpA x y
  | .nil, .cons _ _ => true
  | .cons _ _, .nil => true
  | .nil, .nil => true
  | _, _ => false

noncomputable def LtAt (A : Around) (s : Shared) (y x : Value) (b : Bool) : Prop :=
  ∀ (prog : Program) (w : World) (E : Value → Shared → Prop) (Q : Value → Shared → Prop), Q (.bool b) s → wpAny (model prog w) A (richCompare .Lt y x) Q E s

inductive LtL (A : Around) (s : Shared) : List Value → List Value → Bool → Prop
  | nil : LtL A s [] [] false
  | nilCons {y ys} : LtL A s [] (y :: ys) true
  | consNil {x xs} : LtL A s (x :: xs) [] false
  | eq {x xs y ys b} : EqAt A s x y true → LtL A s xs ys b → LtL A s (x :: xs) (y :: ys) b
  | ne {x xs y ys b} : EqAt A s x y false → LtAt A s x y b → LtL A s (x :: xs) (y :: ys) b

theorem tuple_lt (l b : Addr) (items items2 : Array Value) (n n2 : Nat) (dd dd2 : Option Addr) (sl sl2 : Array (Option Value)) (r : Bool) :
    Meets (Builtin.«tuple.__lt__» ⟨[.ref l, .ref b], []⟩)
      (fun A R s => s.heap.get? l = some { cls := .type "tuple", dict := dd, data := .seq items n, slots := sl } ∧ s.heap.get? b = some { cls := .type "tuple", dict := dd2, data := .seq items2 n2, slots := sl2 } ∧
        LtL A.in1 s items.toList items2.toList r ∧ R (.ok (.ret (.bool r))) s) :=
  .of_wp fun prog w A R s h => by
    obtain ⟨hp, g, d, tk, os⟩ := s; obtain ⟨hl, hb, he, h⟩ := h
    have f2 := AutoSeq1.sub_tuple_tuple
    wp_walk using AutoSeq1.wpAny_loadPart' hl, AutoSeq1.wpAny_loadPart' hb, wpAny_forIn_list _ (fun rest b s' => b.1 = none ∧ s' = ⟨hp, g, d, tk, os⟩ ∧ ∃ i vs us, i + vs.length = items.size ∧ i + us.length = items2.size ∧ rest = vs.zip us ∧
      LtL A.in1 ⟨hp, g, d, tk, os⟩ vs us r) _
    case turn =>
      rintro ⟨y, x⟩ rest b s' ⟨hb', rfl, i, vs, us, h1, h2, hz, hL⟩
      cases hL with
      | nil => cases hz
      | nilCons => cases hz
      | consNil => cases hz
      | @eq x' xs y' ys b' e1 e2 =>
        rw [List.zip_cons_cons] at hz
        injection hz with hyx hrest
        injection hyx with hy hx
        subst hy hx
        refine wpAny_bind (e1 prog w _ _ ?_)
        wp_walk
        exact ⟨rfl, rfl, i + 1, xs, ys, by simp at h1; omega, by simp at h2; omega, hrest, e2⟩
      | @ne x' xs y' ys b' e1 e2 =>
        rw [List.zip_cons_cons] at hz
        injection hz with hyx hrest
        injection hyx with hy hx
        subst hy hx
        refine wpAny_bind (e1 prog w _ _ ?_)
        show wpAny _ _ (rule "tuple.compare.by-the-first-pair-that-differs" >>= fun _ => richCompare .Lt y x >>= _) _ _ _
        refine wpAny_bind (wpAny_rule (wpAny_bind (e2 prog w _ _ ?_)))
        wp_walk
        exact ⟨_, rfl, h⟩
    case fin =>
      rintro ⟨b1, b2⟩ s' ⟨hb', rfl, i, vs, us, h1, h2, hz, hL⟩
      simp only at hb'
      subst hb'
      have e : r = decide (items.size < items2.size) := by
        cases hL with
        | nil => simp at h1 h2; symm; rw [decide_eq_false_iff_not]; omega
        | nilCons => simp at h1 h2; symm; rw [decide_eq_true_eq]; omega
        | consNil => simp at h1 h2; symm; rw [decide_eq_false_iff_not]; omega
        | eq => rw [List.zip_cons_cons] at hz; cases hz
        | ne => rw [List.zip_cons_cons] at hz; cases hz
      wp_walk
      exact ⟨_, rfl, by simpa [Builtin.Tuple.tupleCompareSizes, ← e] using h⟩
    case h =>
      exact ⟨rfl, rfl, 0, _, _, by simp, by simp, rfl, he⟩

section
variable {ρ av : List Addr}
theorem ltL_rel {A : Around} {s : Shared} {n : Nat} (hu : A.units + 60 < cLine) (hn : n ≤ 50) (ih : ∀ a b c d, okE n a = true → okE n b = true → cmpA a b = true → VRel ρ av s.heap a c → VRel ρ av s.heap b d → LtAt A s c d (ltA a b)) :
    ∀ (xs ys : AVal) (vs us : List Value), okE.okEs n xs = true → okE.okEs n ys = true → cmpA xs ys = true → IRel ρ av s.heap xs vs → IRel ρ av s.heap ys us → LtL A s vs us (ltA xs ys)
  | .nil, .nil, vs, us, _, _, _, r1, r2 => by simp only [IRel] at r1 r2; subst r1 r2; exact .nil
  | .nil, .cons y ys, vs, us, _, _, _, r1, r2 => by simp only [IRel] at r1 r2; obtain ⟨v, r, rfl, _⟩ := r2; subst r1; exact .nilCons
  | .cons x xs, .nil, vs, us, _, _, _, r1, r2 => by simp only [IRel] at r1 r2; obtain ⟨v, r, rfl, _⟩ := r1; subst r2; exact .consNil
  | .cons x xs, .cons y ys, vs, us, h1, h2, hc, r1, r2 => by
    simp only [IRel] at r1 r2
    obtain ⟨v, r, rfl, hv, hr⟩ := r1
    obtain ⟨v', r', rfl, hv', hr'⟩ := r2
    simp only [okE.okEs, Bool.and_eq_true] at h1 h2
    obtain ⟨p1, d1⟩ := (okE_imp x n).1 h1.1
    obtain ⟨p2, d2⟩ := (okE_imp y n).1 h2.1
    have eq : EqAt A s v v' (decide (x = y)) := fun prog w E Q hq => eqBool_rel p1 p2 hv hv' (by omega) hq
    unfold cmpA at hc
    unfold ltA
    by_cases hxy : x = y
    · rw [if_pos hxy] at hc ⊢
      rw [decide_eq_true hxy] at eq
      exact .eq eq (ltL_rel hu hn ih xs ys r r' h1.2 h2.2 hc hr hr')
    · rw [if_neg hxy] at hc ⊢
      rw [decide_eq_false hxy] at eq
      exact .ne eq (ih x y v v' h1.1 h2.1 hc hv hv')
  | .none, _, _, _, _, _, _, r1, _ | .bool _, _, _, _, _, _, _, r1, _ | .int _, _, _, _, _, _, _, r1, _ | .str _, _, _, _, _, _, _, r1, _ | .lst _, _, _, _, _, _, _, r1, _ | .loc _, _, _, _, _, _, _, r1, _ | .con _, _, _, _, _, _, _, r1, _ => by simp only [IRel] at r1
  | .nil, .none, _, _, _, _, _, _, r2 | .nil, .bool _, _, _, _, _, _, _, r2 | .nil, .int _, _, _, _, _, _, _, r2 | .nil, .str _, _, _, _, _, _, _, r2 | .nil, .lst _, _, _, _, _, _, _, r2 | .nil, .loc _, _, _, _, _, _, _, r2 | .nil, .con _, _, _, _, _, _, _, r2 => by simp only [IRel] at r2
  | .cons _ _, .none, _, _, _, _, _, _, r2 | .cons _ _, .bool _, _, _, _, _, _, _, r2 | .cons _ _, .int _, _, _, _, _, _, _, r2 | .cons _ _, .str _, _, _, _, _, _, _, r2 | .cons _ _, .lst _, _, _, _, _, _, _, r2 | .cons _ _, .loc _, _, _, _, _, _, _, r2 | .cons _ _, .con _, _, _, _, _, _, _, r2 => by simp only [IRel] at r2

theorem lt_tuples {A : Around} {s : Shared} {l b : Addr} {vs us : List Value} {r : Bool} (h1 : TupAt s.heap l vs.toArray) (h2 : TupAt s.heap b us.toArray) (hu : A.units < cLine) (hL : LtL A.in1 s vs us r) : LtAt A s (.ref l) (.ref b) r := fun prog w E Q h => by
  obtain ⟨n1, ho⟩ := h1
  obtain ⟨n2, ho2⟩ := h2
  exact richCompare_meets_room (op := .Lt) ⟨_, ho, rfl⟩ ⟨_, ho2, rfl⟩ F.slot_tuple_lt F.entry_tuple_lt (F.args_tuple_lt_2 _ _) (tuple_lt l b _ _ n1 n2 none none #[] #[] r)
    ⟨ho, ho2, hL, show Value.bool r ≠ Value.notImplemented ∧ Q (.bool r) s from ⟨(fun x => nomatch x), h⟩⟩ hu

theorem lt_rel : ∀ (n : Nat) (a b : AVal) (A : Around) (s : Shared) (c d : Value), n ≤ 50 → okE n a = true → okE n b = true → cmpA a b = true → A.units + 61 + n < cLine → VRel ρ av s.heap a c → VRel ρ av s.heap b d → LtAt A s c d (ltA a b) := by
  intro n
  induction n with
  | zero =>
    intro a b A s c d _ h1 h2 hc hu r1 r2
    cases a <;> cases b <;> simp [okE, cmpA] at h1 h2 hc
    simp only [VRel] at r1 r2
    obtain ⟨t, rfl⟩ := r1
    obtain ⟨u, rfl⟩ := r2
    exact fun prog w E Q h => wpAny_lt_int h
  | succ n ih =>
    intro a b A s c d hn h1 h2 hc hu r1 r2
    have step : isT a = true → isT b = true → okE.okEs n a = true → okE.okEs n b = true → LtAt A s c d (ltA a b) := by
      intro ta tb o1 o2
      obtain ⟨l, vs, rfl, _, _, t1, i1⟩ := VRel.tup ta r1
      obtain ⟨l2, us, rfl, _, _, t2, i2⟩ := VRel.tup tb r2
      refine lt_tuples t1 t2 (by omega) (ltL_rel (n := n) (by show A.units + 1 + 60 < cLine; omega) (by omega) (fun a b c d k1 k2 k3 k4 k5 => ih a b A.in1 s c d (by omega) k1 k2 k3 (by show A.units + 1 + 61 + n < cLine; omega) k4 k5) a b vs us o1 o2 hc i1 i2)
    cases a with
    | int i =>
      cases b <;> simp [cmpA] at hc
      simp only [VRel] at r1 r2
      obtain ⟨t, rfl⟩ := r1
      obtain ⟨u, rfl⟩ := r2
      exact fun prog w E Q h => wpAny_lt_int h
    | nil =>
      cases b with
      | nil => exact step rfl rfl rfl rfl
      | cons y ys => exact step rfl rfl rfl (by simp only [okE] at h2; simpa [okE.okEs] using h2)
      | _ => simp [cmpA] at hc
    | cons x xs =>
      cases b with
      | nil => exact step rfl rfl (by simp only [okE] at h1; simpa [okE.okEs] using h1) rfl
      | cons y ys => exact step rfl rfl (by simp only [okE] at h1; simpa [okE.okEs] using h1) (by simp only [okE] at h2; simpa [okE.okEs] using h2)
      | _ => simp [cmpA] at hc
    | _ => simp [cmpA] at hc
end

section
variable {B : Base} {C : Cx} {σ : Store}
theorem o_lt_tup {a b : AVal} {Q : AVal → Store → Prop} (ha : okE 50 a = true) (hb : okE 50 b = true) (hc : cmpA a b = true) (h : Q (.bool (ltA a b)) σ) : O2 B C (compareOp .Lt) a b σ Q := by
  intro av ρ s c d x cx r1 r2
  exact lt_rel 50 a b C.A s c d (Nat.le_refl _) ha hb hc (by have := cx.u; unfold cLine; omega) r1 r2 _ _ _ _ (Pst.here x (by simp only [VRel]) h)

set_option maxHeartbeats 1000000 in
theorem min_two {prog : Program} {w : World} {A : Around} {E : Value → Shared → Prop} {s : Shared} {c d : Value} {r : Bool} {Q : Value → Shared → Prop} (hh : A.handled = none)
    (hc : ∀ h', (∀ b o, s.heap.get? b = some o → h'.get? b = some o) → LtAt A.in1 { s with heap := h' } d c r)
    (h : ∀ h', (∀ b o, s.heap.get? b = some o → h'.get? b = some o) → Q (if r then d else c) { s with heap := h' }) : wpAny (model prog w) A (call (.builtin "min") [c, d]) Q E s := by
  have hname : (toString "min" ++ toString ".loop" : String) = "min.loop" := by decide
  refine call_function_tree F.kind_min F.plain_min F.entry_min (F.args_min2 _ _) ?_
  show wpAny _ A.in1 (Builtin.Builtins.bindParams "min" ["key", "default"] 0 ⟨[], []⟩ >>= _) _ _ s
  refine wpAny_bind (wpAny_of_eq (show Builtin.Builtins.bindParams "min" ["key", "default"] 0 ⟨[], []⟩ = pure [none, none] from rfl) ?_)
  show wpAny _ A.in1 (newTuple [c, d] >>= _) _ _ s
  refine wpAny_bind (wpAny_newObj_type ?_)
  have hT : (s.heap.push { cls := .type "tuple", data := .seq #[c, d] }).IsTuple s.heap.objs.size #[c, d] := ⟨_, Heap.get?_push_size _ rfl, rfl, 0, rfl⟩
  refine wpAny_bind (wpAny_pyIter_tuple hT ?_)
  dsimp only
  have hsz : (s.heap.push { cls := .type "tuple", data := .seq #[c, d] }).objs.size = s.heap.objs.size + 1 := Heap.size_push ..
  rw [hsz]
  generalize hI : s.heap.objs.size + 1 = I
  generalize hT0 : s.heap.objs.size = T at hT
  generalize hh1 : (s.heap.push { cls := .type "tuple", data := .seq #[c, d] }).push { cls := .type "tuple_iterator", data := .fields #[.ref T, .int 0 0] } = h1
  have hit1 : h1.IsTupleIter I T 0 := ⟨_, by rw [← hh1, ← hI, ← hsz]; exact Heap.get?_push_size _ rfl, rfl, rfl⟩
  have hT1 : h1.IsTuple T #[c, d] := hh1 ▸ hT.push _
  have k1 : ∀ b o, s.heap.get? b = some o → h1.get? b = some o := fun b o e => hh1 ▸ Heap.get?_push_of_some _ (Heap.get?_push_of_some _ e)
  have z1 : h1.objs.size = s.heap.objs.size + 2 := by rw [← hh1, Heap.size_push, hsz]
  refine wpAny_bind (wpAny_newObj_type ?_)
  dsimp only
  generalize hS0 : h1.objs.size = S
  have hSI : S ≠ I := by rw [← hS0, ← hI, z1]; omega
  have hST : S ≠ T := by rw [← hS0, ← hT0, z1]; omega
  have hIT : I ≠ T := by rw [← hI, ← hT0]; omega
  have old : ∀ b o, s.heap.get? b = some o → b ≠ I ∧ b ≠ S ∧ b ≠ T := fun b o e => by
    have := Heap.lt_size e
    refine ⟨?_, ?_, ?_⟩
    · rw [← hI]; exact Nat.ne_of_lt (Nat.lt_succ_of_lt this)
    · rw [← hS0, z1]; exact Nat.ne_of_lt (Nat.lt_succ_of_lt (Nat.lt_succ_of_lt this))
    · rw [← hT0]; exact Nat.ne_of_lt this
  generalize hh2 : h1.push { cls := .type "list", dict := none, data := .seq ([] : List Value).toArray } = h2
  have hit2 : h2.IsTupleIter I T 0 := hit1.at fun o e => hh2 ▸ Heap.get?_push_of_some _ e
  have hT2 : h2.IsTuple T #[c, d] := hh2 ▸ hT1.push _
  have k2 : ∀ b o, s.heap.get? b = some o → h2.get? b = some o := fun b o e => hh2 ▸ Heap.get?_push_of_some _ (k1 b o e)
  have hS2 : h2.get? S = some { cls := .type "list", dict := none, data := .seq #[], slots := #[] } := by rw [← hh2, ← hS0]; exact Heap.get?_push_size _ rfl
  rw [hname]
  refine wpAny_pure ⟨plainId_quiet F.plain_min_loop _, ?_⟩
  -- the first
  refine codeAny_builtin F.entry_min_loop ?_
  rw [Around.under_plainId F.plain_min_loop _]
  show wpAny _ A.in1 (seqItems? (.ref S) >>= _) _ _ { s with heap := h2 }
  refine wpAny_bind (wpAny_seqItems hS2 rfl ?_)
  show wpAny _ A.in1 (tryCatch (pyNext (.ref I)) _ >>= _) _ _ _
  refine wpAny_bind (wpAny_tryCatch (wpAny_pyNext_tuple_item hit2 hT2 (x := c) rfl fun h3 hit3 hs3 => ?_))
  have hS3 := (hs3.2 S hSI).trans hS2
  have hT3 : h3.IsTuple T #[c, d] := hT2.extBut hs3.extBut hIT.symm
  have k3 : ∀ b o, s.heap.get? b = some o → h3.get? b = some o := fun b o e => (hs3.2 b (old b o e).1).trans (k2 b o e)
  show wpAny _ A.in1 (updateSeq S (fun _ => #[c, c]) >>= _) _ _ _
  refine wpAny_bind ?_
  refine wpAny_updateSeq hS3 rfl ?_
  have hS4 := Heap.get?_update_self (Obj.mapSeq fun _ => #[c, c]) hS3 rfl
  generalize hh4 : h3.update S (Obj.mapSeq fun _ => #[c, c]) = h4 at hS4
  have o4 : ∀ b o, b ≠ S → h3.get? b = some o → h4.get? b = some o := fun b o hb e => by rw [← hh4]; exact (Heap.get?_update_other _ _ (Ne.symm hb)).trans e
  have hit4 : h4.IsTupleIter I T 1 := hit3.at fun o e => o4 I o hSI.symm e
  have hT4 : h4.IsTuple T #[c, d] := by obtain ⟨o, ho, r⟩ := hT3; exact ⟨o, o4 T o hST.symm ho, r⟩
  have k4 : ∀ b o, s.heap.get? b = some o → h4.get? b = some o := fun b o e => o4 b o (old b o e).2.1 (k3 b o e)
  rw [hname]
  refine wpAny_pure ⟨plainId_quiet F.plain_min_loop _, ?_⟩
  -- the second
  refine codeAny_builtin F.entry_min_loop ?_
  rw [Around.under_plainId F.plain_min_loop _]
  show wpAny _ A.in1 (seqItems? (.ref S) >>= _) _ _ { s with heap := h4 }
  refine wpAny_bind (wpAny_seqItems hS4 rfl ?_)
  show wpAny _ A.in1 (tryCatch (pyNext (.ref I)) _ >>= _) _ _ _
  refine wpAny_bind (wpAny_tryCatch (wpAny_pyNext_tuple_item hit4 hT4 (x := d) rfl fun h5 hit5 hs5 => ?_))
  have hS5 := (hs5.2 S hSI).trans hS4
  have hT5 : h5.IsTuple T #[c, d] := hT4.extBut hs5.extBut hIT.symm
  have k5 : ∀ b o, s.heap.get? b = some o → h5.get? b = some o := fun b o e => (hs5.2 b (old b o e).1).trans (k4 b o e)
  show wpAny _ A.in1 (tryCatch (holding [d, d] (richCompare .Lt d c >>= _)) _ >>= _) _ _ _
  refine wpAny_bind (wpAny_tryCatch (wpAny_holding (wpAny_bind (hc h5 k5 prog w _ _ ?_))))
  refine wpAny_bind (wpAny_holding (wpAny_truthy_bool ?_))
  refine wpAny_bind (wpAny_letGo (wpAny_pure ?_))
  -- the end
  have last : ∀ (h6 : Heap) (x : Value) (n : Nat), h6.get? S = some { cls := .type "list", dict := none, data := .seq #[x, x] n, slots := #[] } → h6.IsTupleIter I T 2 → h6.IsTuple T #[c, d] → (∀ b o, s.heap.get? b = some o → h6.get? b = some o) → x = (if r then d else c) →
      codeAny (model prog w) A (.builtin "min.loop" ⟨[.ref I, .none, .ref S], []⟩) (fun r s' => match r with | .ok (.ret v) => Q v s' | .ok _ => False | .error e => E e s') { s with heap := h6 } := by
    intro h6 x n hS6 hit6 hT6 k6 hx
    refine codeAny_builtin F.entry_min_loop ?_
    rw [Around.under_plainId F.plain_min_loop _]
    show wpAny _ A.in1 (seqItems? (.ref S) >>= _) _ _ { s with heap := h6 }
    refine wpAny_bind (wpAny_seqItems hS6 rfl ?_)
    show wpAny _ A.in1 (tryCatch (pyNext (.ref I)) _ >>= _) _ _ _
    refine wpAny_bind (wpAny_tryCatch (wpAny_pyNext_tuple_end hh hit6 hT6 rfl fun h7 hs7 => ?_))
    have hS7 := hs7 S _ hSI hS6
    show wpAny _ A.in1 (updateSeq S (fun _ => #[]) >>= _) _ _ _
    refine wpAny_bind ?_
    refine wpAny_updateSeq hS7 rfl (wpAny_bind (wpAny_letGo (wpAny_pure ?_)))
    show Q x _
    rw [hx]
    exact h _ fun b o e => (Heap.get?_update_other _ _ (Ne.symm (old b o e).2.1)).trans (hs7 b o (old b o e).1 (k6 b o e))
  cases r with
  | true =>
    simp only [if_true]
    refine wpAny_bind ?_
    refine wpAny_updateSeq hS5 rfl (wpAny_bind (wpAny_letGo ?_))
    rw [hname]
    have o6 : ∀ b o, b ≠ S → h5.get? b = some o → (h5.update S (Obj.mapSeq fun _ => #[d, d])).get? b = some o := fun b o hb e => (Heap.get?_update_other _ _ (Ne.symm hb)).trans e
    exact wpAny_pure ⟨plainId_quiet F.plain_min_loop _, last _ d _ (Heap.get?_update_self _ hS5 rfl) (hit5.at fun o e => o6 I o hSI.symm e) (by obtain ⟨o, ho, r⟩ := hT5; exact ⟨o, o6 T o hST.symm ho, r⟩) (fun b o e => o6 b o (old b o e).2.1 (k5 b o e)) rfl⟩
  | false =>
    simp only [Bool.false_eq_true, if_false]
    refine wpAny_bind (wpAny_letGo ?_)
    rw [hname]
    exact wpAny_pure ⟨plainId_quiet F.plain_min_loop _, last _ c _ hS5 hit5 hT5 k5 rfl⟩

theorem o_min {a b : AVal} {Q : AVal → Store → Prop} (ha : okE 50 a = true) (hb : okE 50 b = true) (hc : cmpA b a = true) (h : Q (if ltA b a then b else a) σ) : OC B C (fun cs => call (.builtin "min") cs) (tup [a, b]) σ Q := by
  intro av ρ s cs x cx r
  simp only [IRel] at r
  obtain ⟨c1, r1, rfl, hv, c2, r2, rfl, hv2, rfl⟩ := r
  refine min_two (r := ltA b a) cx.handled (fun h' k => ?_) fun h' k => ?_
  · have kp := (Step.ofKeep (X := noX) (ρ := ρ) k).kpNo av
    exact lt_rel 50 b a C.A.in1 _ c2 c1 (Nat.le_refl _) hb ha hc (by have := cx.u; show C.A.units + 1 + 61 + 50 < cLine; unfold cLine; omega) (hv2.mono kp) (hv.mono kp)
  · have st : Step noX ρ s.heap ρ h' := Step.ofKeep k
    refine ⟨ρ, σ, if ltA b a then b else a, st, x.kept k s.toks, ?_, h⟩
    cases ltA b a with
    | true => exact hv2.mono (st.kpNo av)
    | false => exact hv.mono (st.kpNo av)
end
end

section
variable {B : Base} {C : Cx} {l : Loc} {σ : Store} {av ρ : List Addr} {s : Shared}

/-! global names -/
theorem Sim.base (x : Sim B av ρ σ s) : Kp [] [] B.h₀ ρ av s.heap :=
  ⟨fun l a e => by simp at e, fun a o xs n ho _ _ _ => ⟨x.keep a o ho, fun hm => (by rw [x.fresh a hm] at ho; cases ho), fun hm => (by rw [(x.avoid a hm).1] at ho; cases ho)⟩⟩

noncomputable def GlobIs (B : Base) (x : Str) (a : AVal) : Prop := ∃ c, nsIn B.K mainGlobals x = some (some c) ∧ VRel [] [] B.h₀ a c
noncomputable def BuiltIs (B : Base) (x : Str) (c : Value) : Prop := nsIn B.K mainGlobals x = some none ∧ bootBuiltins x = some c ∧ x ≠ "__name__"

theorem r_glob {x : Str} {pos : Pos} {a : AVal} {Q : AVal → Store → Prop} (hg : GlobIs B x a) (h : Q a σ) (hk : C.env.kindOf x = some .globalImplicit := by rfl) (hd : (x == ("__debug__" : Str)) = false := by rfl) :
    WV B C (eval (.Name x pos) C.env) l σ Q := by
  intro av ρ s y f
  obtain ⟨c, e, hv⟩ := hg
  have G := y.ok.g.keeps y.keep
  rw [← f.cx.globals] at G
  exact Name_function_global f.cx.kind hk (loadGlobal_global (env := C.env) G (mg_of y.ok.inK y.ok.g e) (Pst.here (X := noX) (Q := Q) y (hv.mono y.base) h)) hd
theorem r_builtin {x : Str} {pos : Pos} {c : Value} {Q : AVal → Store → Prop} (hg : BuiltIs B x c) (h : Q (.con c) σ) (hk : C.env.kindOf x = some .globalImplicit := by rfl) (hd : (x == ("__debug__" : Str)) = false := by rfl) :
    WV B C (eval (.Name x pos) C.env) l σ Q := by
  intro av ρ s y f
  obtain ⟨e, hb, hn⟩ := hg
  have G := y.ok.g.keeps y.keep
  have Bn := y.ok.b.keeps y.keep
  rw [← f.cx.globals] at G
  rw [← f.cx.builtins] at Bn
  exact Name_function_global f.cx.kind hk (loadGlobal_builtin (env := C.env) G (mg_none_of y.ok.inK y.ok.g e) Bn ((y.ok.boot x hn).trans hb) (Pst.here (X := noX) (Q := Q) y (by simp only [VRel]) h)) hd

/-! instances -/
structure ClsOk (K : Frag) (Cl : Addr) : Prop where
  get : findIn K (.ref Cl) "__getattribute__" = some (some (.builtin "object.__getattribute__"))
  noget : findIn K (.ref Cl) "__getattr__" = some none
  set : findIn K (.ref Cl) "__setattr__" = some (some (.builtin "object.__setattr__"))
  over : plainOver K Cl = true
  dict : hasDictIn K Cl = true
  makes : makesIn K Cl = true

noncomputable def MethIs (K : Frag) (Cl : Addr) (name : Str) (f : Addr) : Prop := findIn K (.ref Cl) name = some (some (.ref f)) ∧ typeIn K (.ref f) = some (.type "function")

theorem inst_at (x : Sim B av ρ σ s) {k dl : Nat} {Cl : Addr} {ls : List (Str × AVal)} {a : Addr} (hk : σ[k]? = some (.inst Cl dl)) (hd : σ[dl]? = some (.attrs ls)) (ha : ρ[k]? = some a) :
    ∃ d es n, ρ[dl]? = some d ∧ W.InstAt s.heap a (instObj Cl d) Cl (some (dictOf es n)) ∧ s.heap.get? d = some (dictOf es n) ∧ (∀ e ∈ es, e.refKey = false) ∧ es.length ≤ ls.length ∧ ∀ x, match ls.lookup x with
      | some v => ∃ c, getL x es = some (some c) ∧ VRel ρ av s.heap v c
      | none => getL x es = some none := by
  obtain ⟨d, e, hdl⟩ := x.rep k a _ ha hk
  obtain ⟨es, n, e', hr, hz, hx⟩ := x.rep dl d _ hdl hd
  exact ⟨d, es, n, hdl, ⟨e, rfl, rfl, e'⟩, e', hr, hz, hx⟩

theorem o_attr {k dl : Nat} {Cl : Addr} {ls : List (Str × AVal)} {name : Str} {v : AVal} {Q : AVal → Store → Prop} (hc : ClsOk B.K Cl) (hk : σ[k]? = some (.inst Cl dl)) (hd : σ[dl]? = some (.attrs ls)) (hl : ls.lookup name = some v)
    (hn : findIn B.K (.ref Cl) name = some none) (hv : ∃ m, v = .loc m) (h : Q v σ) : O1 B C (fun o => getAttr o name true) (.loc k) σ Q := by
  intro av ρ s c x cx r
  simp only [VRel] at r
  obtain ⟨a, rfl, ha⟩ := r
  obtain ⟨d, es, n, hdl, I, ho, hr, hz, hx⟩ := inst_at x hk hd ha
  have := hx name
  rw [hl] at this
  obtain ⟨c, hg, hv'⟩ := this
  have X := x.ok.inK.keeps x.keep
  refine get_value X I hc.get (findObj_own hc.dict hn rfl (by rw [lookIn_dict]; exact hg)) ?_ ⟨ρ, σ, v, Step.refl _ _ _, x.tok _, hv', h⟩
  obtain ⟨m, rfl⟩ := hv
  simp only [VRel] at hv'
  obtain ⟨b, rfl, _⟩ := hv'
  rfl

theorem m_inst {k dl : Nat} {Cl : Addr} {ls : List (Str × AVal)} {name : Str} {f : Addr} (hc : ClsOk B.K Cl) (hm : MethIs B.K Cl name f) (hk : σ[k]? = some (.inst Cl dl)) (hd : σ[dl]? = some (.attrs ls)) (hl : ls.lookup name = none) :
    IsMeth B C name (.loc k) σ (.ref f) := by
  intro av ρ s c pl Q x cx r hQ
  simp only [VRel] at r
  obtain ⟨a, rfl, ha⟩ := r
  obtain ⟨d, es, n, hdl, I, ho, hr, hz, hx⟩ := inst_at x hk hd ha
  have := hx name
  rw [hl] at this
  have X := x.ok.inK.keeps x.keep
  exact method_fn X I hc.get hc.noget hm.1 hm.2 (by show (lookIn name (dictOf es n)).map _ = _; rw [lookIn_dict, this]; rfl) hQ

/-! an attribute is set -/
theorem isStr_iff {v : Value} {x y : Str} (h : v.isStr x = true) : v.isStr y = true ↔ y = x := by
  cases v <;> simp [Value.isStr] at h ⊢
  subst h
  exact ⟨fun e => e.symm, fun e => e.symm⟩
theorem getL_cons_hit {y : Str} {e : DictEntry} {es : List DictEntry} (h : e.key.isStr y = true) : getL y (e :: es) = some (some e.val) := by
  unfold getL; rw [List.find?_cons, h]
theorem getL_cons_miss {y : Str} {e : DictEntry} {es : List DictEntry} (h : e.key.isStr y = false) (hr : e.refKey = false) : getL y (e :: es) = getL y es := by
  unfold getL; rw [List.find?_cons, h, List.any_cons, hr]; rfl
theorem refKey_key {e : DictEntry} {v : Value} (h : e.refKey = false) : (DictEntry.mk e.hash e.key v).refKey = false := by
  unfold DictEntry.refKey at h ⊢
  exact h
theorem refKey_str {hsh : Int} {x : Str} {t : Tok} {v : Value} : (DictEntry.mk hsh (.str x t) v).refKey = false := by
  unfold DictEntry.refKey
  rfl

theorem getL_putL {x y : Str} {hsh : Int} {t : Tok} {v : Value} (hk : (DictEntry.mk hsh (.str x t) v).refKey = false) : ∀ {es : List DictEntry}, (∀ e ∈ es, e.refKey = false) → getL y (putL x hsh (.str x t) v es) = if y = x then some (some v) else getL y es
  | [], _ => by
    unfold putL
    by_cases h : y = x
    · rw [if_pos h, getL_cons_hit (by simp [Value.isStr, h])]
    · rw [if_neg h, getL_cons_miss (by simp [Value.isStr, Ne.symm h]) hk]
  | e :: es, hr => by
    have ih := getL_putL (x := x) (y := y) hk (es := es) fun e' he' => hr e' (List.mem_cons_of_mem _ he')
    have he := hr e List.mem_cons_self
    unfold putL
    by_cases hx : e.key.isStr x = true
    · rw [if_pos hx]
      by_cases h : y = x
      · rw [if_pos h, getL_cons_hit (by exact (isStr_iff hx).mpr h)]
      · have hn : e.key.isStr y = false := by
          cases q : e.key.isStr y with
          | false => rfl
          | true => exact absurd ((isStr_iff hx).mp q) h
        rw [if_neg h, getL_cons_miss (e := ⟨e.hash, e.key, v⟩) hn (refKey_key he), getL_cons_miss hn he]
    · rw [if_neg hx]
      by_cases hy : e.key.isStr y = true
      · rw [getL_cons_hit hy, getL_cons_hit hy, if_neg]
        intro h
        rw [h] at hy; exact hx hy
      · have hy' : e.key.isStr y = false := by simpa using hy
        rw [getL_cons_miss hy' he, getL_cons_miss hy' he, ih]
theorem putL_ref {x : Str} {hsh : Int} {t : Tok} {v : Value} (hk : (DictEntry.mk hsh (.str x t) v).refKey = false) (hk2 : ∀ e : DictEntry, e.refKey = false → (DictEntry.mk e.hash e.key v).refKey = false) : ∀ {es : List DictEntry}, (∀ e ∈ es, e.refKey = false) → ∀ e ∈ putL x hsh (.str x t) v es, e.refKey = false
  | [], _, e, he => by unfold putL at he; rw [List.mem_singleton.mp he]; exact hk
  | e0 :: es, hr, e, he => by
    unfold putL at he
    split at he
    · rcases List.mem_cons.mp he with rfl | he
      · exact hk2 e0 (hr e0 List.mem_cons_self)
      · exact hr e (List.mem_cons_of_mem _ he)
    · rcases List.mem_cons.mp he with rfl | he
      · exact hr _ List.mem_cons_self
      · exact putL_ref hk hk2 (fun e' he' => hr e' (List.mem_cons_of_mem _ he')) e he
theorem putL_len {x : Str} {hsh : Int} {k v : Value} : ∀ {es : List DictEntry}, (putL x hsh k v es).length ≤ es.length + 1
  | [] => by simp [putL]
  | e :: es => by
    unfold putL
    have := putL_len (x := x) (hsh := hsh) (k := k) (v := v) (es := es)
    split <;> simp <;> omega
theorem osa_inst {prog : Program} {w : World} {A : Around} {R : Result → Shared → Prop} {K : Frag} {x Cl dx : Addr} {es : List DictEntry} {n : Nat} {name : Str} {tk : Tok} {v : Value} (X : K.In s.heap) (hc : ClsOk K Cl)
    (I : W.InstAt s.heap x (instObj Cl dx) Cl (some (dictOf es n))) (ho : s.heap.get? dx = some (dictOf es n)) (ht : takerIn K Cl name = some none) (hl : (getL name es).isSome = true) (hz : es.length ≤ 900)
    (h : ∀ h' hsh t, Heap.SameBut dx s.heap h' → h'.get? dx = some (dictOf (putL name hsh (.str name t) v es) (putN name es n)) → R (.ok (.ret .none)) { s with heap := h', toks := s.toks + 1 }) :
    codeAny (model prog w) A (.call (.builtin "object.__setattr__") ⟨[.ref x, .str name tk, v], []⟩) R s := by
  refine osa_open X I hc.over ht fun b => ?_
  obtain ⟨cd, hcd, hd'⟩ := any_some hc.dict
  refine wpAny_bind (wpAny_pure (wpAny_bind (wpAny_bind (wpAny_loadPart I.at_ (wpAny_bind ((looks_clsIn X hcd).here ?_))))))
  rw [hd']
  refine wpAny_pure (a := some dx) (wpAny_bind (wpAny_pure (wpAny_bind ?_)))
  unfold nsSet
  refine wpAny_bind (wpAny_bind (wpAny_askSetting (wpAny_pure (wpAny_bind (wpAny_mkText (wpAny_bind (wpAny_loadPart ho ?_)))))))
  dsimp only
  have c : (!es.toArray.any (·.key.isStr name) && es.toArray.any (·.refKey)) = false := by
    rw [← Array.any_toList, ← Array.any_toList]
    unfold getL at hl
    split at hl
    · rename_i en he
      rw [List.any_eq_true.mpr ⟨en, List.mem_of_find?_eq_some he, List.find?_some he⟩]; rfl
    · split at hl
      · cases hl
      · rename_i z; rw [Bool.not_eq_true] at z; rw [z, Bool.and_false]
  rw [aRefKeyMayBeTheName_at, c]
  refine wpAny_updatePart ho ?_
  have ho' : ∀ hsh t, (s.heap.update dx (Obj.putName name hsh (.str name t) v)).get? dx = some (dictOf (putL name hsh (.str name t) v es) (putN name es n)) := fun hsh t => by
    rw [Heap.get?_update_self _ ho (by rw [putName_dict]; rfl), putName_dict]
  refine wpAny_bind (wpAny_lookBehind (ho' _ _) (pastItsLine_dict (by
    rw [List.size_toArray, sizeLine_eq]
    exact Nat.le_trans putL_len (by omega))) ?_)
  exact wpAny_pure (h _ _ _ (Heap.SameBut.update ..) (ho' _ _))
theorem setAttr_inst {prog : Program} {w : World} {A : Around} {E : Value → Shared → Prop} {K : Frag} {x Cl dx : Addr} {es : List DictEntry} {n : Nat} {name : Str} {v : Value} {Q : Unit → Shared → Prop} (X : K.In s.heap) (hc : ClsOk K Cl)
    (I : W.InstAt s.heap x (instObj Cl dx) Cl (some (dictOf es n))) (ho : s.heap.get? dx = some (dictOf es n)) (ht : takerIn K Cl name = some none) (hl : (getL name es).isSome = true) (hz : es.length ≤ 900)
    (h : ∀ h' hsh t, Heap.SameBut dx s.heap h' → h'.get? dx = some (dictOf (putL name hsh (.str name t) v es) (putN name es n)) → Q () { s with heap := h', toks := s.toks + 2 }) :
    wpAny (model prog w) A (setAttr (.ref x) name v) Q E s :=
  set_plain X I hc.set (osa_inst (s := { s with toks := s.toks + 1 }) X hc I ho ht hl hz h)

/-- an operation that sets an attribute -/
theorem a_attr {o : Expr} {name : Str} {pos : Pos} {a : AVal} {Q : Loc → Store → Prop} {k dl : Nat} {Cl : Addr}
    (h : WV B C (eval o C.env) l σ fun b σ₁ => b = .loc k ∧ ∃ ls, ClsOk B.K Cl ∧ σ₁[k]? = some (.inst Cl dl) ∧ σ₁[dl]? = some (.attrs ls) ∧ takerIn B.K Cl name = some none ∧ ls.length ≤ 900 ∧ Q l (σ₁.set dl (.attrs ((name, a) :: ls)))) :
    WA B C (assign (.Attribute o name pos) C.env) a l σ Q := by
  intro av ρ s c x f r
  rw [assign_Attribute]
  refine wpAny_bind (wpAny_holding (wp_cont (h av ρ s x f) fun d s₁ ρ₁ σ₁ b st₁ x₁ r₁ q₁ => ?_))
  obtain ⟨rfl, ls, hc, hk, hd, ht, hz, q⟩ := q₁
  simp only [VRel] at r₁
  obtain ⟨ad, rfl, ha⟩ := r₁
  obtain ⟨dx, es, n, hdl, I, ho, hr, hzz, hx⟩ := inst_at x₁ hk hd ha
  have hl : (getL name es).isSome = true := by
    have := hx name
    cases e : ls.lookup name with
    | none => rw [e] at this; rw [this]; rfl
    | some v => rw [e] at this; obtain ⟨c, hc, _⟩ := this; rw [hc]; rfl
  refine wpAny_bind (wpAny_standAt (wpAny_bind (wpAny_holding (setAttr_inst (x₁.ok.inK.keeps x₁.keep) hc I ho ht hl (by omega) fun h' hsh t hs ho' => ?_))))
  have st₂ : Step noX ρ₁ s₁.heap ρ₁ h' := Step.sameBut (.inl (List.mem_of_getElem? hdl)) hs ho'
  have kp := st₂.kpNo av
  have rc := (r.mono (st₁.kpNo av)).mono kp
  have x₂ := x₁.update (ao := .attrs ((name, a) :: ls)) hdl hs ho' ⟨_, _, ho', putL_ref refKey_str (fun e he => refKey_key he) hr, Nat.le_trans putL_len (by simp; omega), fun y => ?_⟩ (s₁.toks + 2)
  · refine wpAny_release ⟨ρ₁, _, l, (st₁.trans st₂).ofNo, x₂, f.step (st₁.trans st₂), q⟩
  · rw [getL_putL refKey_str hr, List.lookup_cons]
    by_cases hy : y = name
    · subst hy
      simp only [if_true, beq_self_eq_true]
      exact ⟨c, rfl, rc⟩
    · have hb : (y == name) = false := by rw [beq_eq_false_iff_ne]; exact hy
      rw [if_neg hy, hb]
      have := hx y
      cases e : ls.lookup y with
      | none => rw [e] at this; exact this
      | some v => rw [e] at this; obtain ⟨c', h1, h2⟩ := this; exact ⟨c', h1, h2.mono kp⟩

/-! an object of a class is made -/
noncomputable def cxNew (C : Cx) (Cl : Addr) : Cx := { C with A := C.A.under (.builtin "type.__call__" ⟨[.ref Cl], []⟩), room := C.room - 1 }
theorem cxNew_ok {Cl : Addr} (x : CxOk B C) (hr : 1 ≤ C.room) : CxOk B (cxNew C Cl) := by
  refine ⟨x.kind, x.globals, x.builtins, x.apart, x.own, x.handled, ?_, ?_⟩
  · have h1 : (C.A.under (.builtin "type.__call__" ⟨[.ref Cl], []⟩)).depth = C.A.depth + 1 := rfl
    have := x.depth
    show (C.A.under (.builtin "type.__call__" ⟨[.ref Cl], []⟩)).depth + 2 * (C.room - 1) ≤ 600
    omega
  · have h1 : (C.A.under (.builtin "type.__call__" ⟨[.ref Cl], []⟩)).units = C.A.units + 1 := rfl
    have := x.units
    show (C.A.under (.builtin "type.__call__" ⟨[.ref Cl], []⟩)).units + 8 * (C.room - 1) ≤ 9000
    omega

theorem o_new {Cl fi : Addr} {d : Stmt} {q0 : Str} {Q : AVal → Store → Prop} (hc : ClsOk B.K Cl) (hi : MethIs B.K Cl "__init__" fi) (hf : FnAt B fi d) (hroom : 3 ≤ C.room)
    (hbind : ∀ q doc pm cdv cs, cs.length = 1 → bindArgs (fdOf d q doc pm cdv) ⟨cs, []⟩ = pure ([q0].zip cs)) (hkind : (dScope d).names.lookup q0 = some .local ∨ (dScope d).names.lookup q0 = some .cell)
    (hcells : ((cellsFrom 0 (dScope d).names []).map (·.1)).Nodup)
    (h : ∀ q doc pm cdv L, WS B (cxOf (cxNew C Cl) d q doc pm cdv L fi) (execs (dBody d) (cxOf (cxNew C Cl) d q doc pm cdv L fi).env) [(q0, .loc (σ.length + 1))] (σ ++ [.attrs [], .inst Cl σ.length]) (fun _ σ' => Q (.loc (σ.length + 1)) σ') (fun _ _ => False))
    (hco : (dScope d).isCoroutine = false := by rfl) (hgen : (dScope d).isGenerator = false := by rfl) (hk : (dScope d).kind = .function := by rfl) : OC B C (fun cs => call (.ref Cl) cs) .nil σ Q := by
  intro av ρ s cs x cx r
  simp only [IRel] at r
  subst r
  have X := x.ok.inK.keeps x.keep
  refine wpAny_call ?_
  have e1 : (s.heap.push emptyDict).objs.size = s.heap.objs.size + 1 := Heap.size_push ..
  have x1 : Sim B av (ρ ++ [s.heap.objs.size]) (σ ++ [.attrs []]) { s with heap := s.heap.push emptyDict } := x.alloc (ao := .attrs []) rfl ⟨[], 0, Heap.get?_push_size _ rfl, by simp, by simp, fun y => rfl⟩
  have x2 : Sim B av (ρ ++ [s.heap.objs.size] ++ [s.heap.objs.size + 1]) (σ ++ [.attrs []] ++ [.inst Cl σ.length]) { s with heap := (s.heap.push emptyDict).push (instObj Cl s.heap.objs.size) } := by
    have := x1.alloc (o := instObj Cl s.heap.objs.size) (ao := .inst Cl σ.length) rfl ⟨s.heap.objs.size, Heap.get?_push_size _ rfl, by
      rw [List.getElem?_append_left (by simp [x.len]), ← x.len, List.getElem?_append_right (Nat.le_refl _)]; simp⟩
    rw [e1] at this
    exact this
  have st : Step noX ρ s.heap (ρ ++ [s.heap.objs.size] ++ [s.heap.objs.size + 1]) ((s.heap.push emptyDict).push (instObj Cl s.heap.objs.size)) := by
    have := (Step.alloc (X := noX) (ρ := ρ) (h := s.heap) emptyDict).trans (Step.alloc (X := noX) (ρ := ρ ++ [s.heap.objs.size]) (h := s.heap.push emptyDict) (instObj Cl s.heap.objs.size))
    rw [e1] at this
    exact this
  obtain ⟨hp, g, dr, t, os⟩ := s
  refine make_core (makes_of X hc.makes) (looks_findIn X hi.1) (fun self => bind_fn X self hi.2) (.inl rfl) ?_
  have code := code_def (B := B) (C := cxNew C Cl) (ns := [q0]) (as := .cons (.loc (σ.length + 1)) .nil) (σ := σ ++ [.attrs []] ++ [.inst Cl σ.length]) (Q := fun v σ' => v = .none ∧ Q (.loc (σ.length + 1)) σ') hf (by show 1 ≤ C.room - 1; omega) (fun q doc pm cdv cs hl => hbind q doc pm cdv cs hl) (by simp)
    (fun n hn => by rw [List.mem_singleton.mp hn]; exact hkind) hcells (fun q doc pm cdv L => by
      have := h q doc pm cdv L
      rw [show σ ++ [AObj.attrs []] ++ [AObj.inst Cl σ.length] = σ ++ [.attrs [], .inst Cl σ.length] by simp]
      intro av ρ s y f
      refine wpAny_mono (this av ρ s y f) (fun fl s' ⟨ρ', σ', st', x', hfl⟩ => ⟨ρ', σ', st', x', ?_⟩) fun _ _ e => e
      cases fl with
      | next => obtain ⟨l', f', q⟩ := hfl; exact ⟨l', f', rfl, q⟩
      | ret c => obtain ⟨a, _, q⟩ := hfl; exact q.elim
      | brk => exact hfl
      | cont => exact hfl) hco hgen hk av _ _ [.ref (hp.objs.size + 1)] x2 (cxNew_ok cx (by omega)) (by
        simp only [IRel, VRel]
        refine ⟨_, [], rfl, ⟨_, rfl, ?_⟩, rfl⟩
        rw [show σ.length + 1 = (ρ ++ [hp.objs.size]).length by simp [x.len], List.getElem?_append_right (Nat.le_refl _)]; simp)
  refine codeAny_mono code fun r s' hr => ?_
  rcases r with e | (v | _ | _ | _)
  · exact hr.elim
  all_goals first | exact hr.elim | skip
  obtain ⟨ρ', σ', a, st', x', rv, rfl, q⟩ := hr
  simp only [VRel] at rv
  subst rv
  refine ⟨rfl, ?_⟩
  refine ⟨ρ', σ', .loc (σ.length + 1), st.trans st', x', ?_, q⟩
  simp only [VRel]
  refine ⟨_, rfl, ?_⟩
  obtain ⟨e, he, _⟩ := st'.ext
  rw [he, List.getElem?_append_left (by simp [x.len]), show σ.length + 1 = (ρ ++ [hp.objs.size]).length by simp [x.len], List.getElem?_append_right (Nat.le_refl _)]
  simp

/-- an empty dict of the store -/
theorem r_Dict {pos : Pos} {Q : AVal → Store → Prop} (h : Q (.loc σ.length) (σ ++ [.dict []])) : WV B C (eval (.Dict [] [] pos) C.env) l σ Q := by
  intro av ρ s x f
  refine wpAny_Dict_empty ⟨ρ ++ [s.heap.objs.size], σ ++ [.dict []], .loc σ.length, Step.alloc _, x.alloc (ao := .dict []) rfl (Or.inl ⟨[], ⟨_, #[], 0, Heap.get?_push_size _ rfl, ⟨rfl, rfl, rfl⟩, rfl, fun e he => (by simp at he), Pairs.nil, by simp⟩, trivial⟩), ?_, h⟩
  simp only [VRel]
  exact ⟨_, rfl, by rw [← x.len, List.getElem?_append_right (Nat.le_refl _)]; simp⟩
end

/-! the statements of the text -/
abbrev pw := PySem.Challenge.pw_sa0182_01
noncomputable def stG (p : Program) (k : Nat) : Stmt := p.main.body.getD k (.Pass default)
noncomputable def clsBody : Stmt → List Stmt | .ClassDef _ _ _ b .. => b | _ => []
noncomputable def mtG (p : Program) (k : Nat) : Stmt := (clsBody (stG p 59)).getD k (.Pass default)
noncomputable def strip : Value → Value | .int i _ => .int i 0 | .str s _ => .str s 0 | v => v

/-- a table of the text: its keys strings -/
noncomputable def TabIs (B : Base) (d : Addr) (ks : List (Str × Value)) : Prop := (d == sysModules) = false ∧ ∃ kvs, B.h₀.DictOf (PySem.strKind B.prog B.w) d kvs ∧ kvs.map (fun p => (p.1, strip p.2)) = ks

noncomputable def slook : List (Str × Value) → Str → Option Value
  | [], _ => none
  | (k, v) :: r, x => if k = x then some v else slook r x
theorem slook_at (x : Str) : ∀ kvs : List (Str × Value), slook (kvs.map fun p => (p.1, strip p.2)) x = (valueAt kvs x).map strip
  | [] => rfl
  | (k, v) :: r => by
    have ih := slook_at x r
    unfold valueAt at ih ⊢
    rw [List.map_cons, List.find?_cons]
    unfold slook
    by_cases h : k = x
    · simp [h]
    · simp only [h, if_false, decide_false]; exact ih

section
variable {B : Base} {C : Cx} {l : Loc} {σ : Store}

theorem tab_at {av ρ : List Addr} {s : Shared} (x : Sim B av ρ σ s) {d : Addr} {kvs : List (Str × Value)} (h : B.h₀.DictOf (PySem.strKind B.prog B.w) d kvs) : s.heap.DictOf (PySem.strKind B.prog B.w) d kvs := by
  obtain ⟨o, es, ep, ho, r⟩ := h
  exact ⟨o, es, ep, x.keep d o ho, r⟩
theorem o_in_tab {d : Addr} {ks : List (Str × Value)} {k : Str} {Q : AVal → Store → Prop} (ht : TabIs B d ks) (h : Q (.bool (slook ks k).isSome) σ) : O2 B C (compareOp .In) (.str k) (.con (.ref d)) σ Q := by
  intro av ρ s c e x cx r1 r2
  simp only [VRel] at r1 r2
  obtain ⟨t, rfl⟩ := r1
  subst r2
  obtain ⟨hd, kvs, hD, rfl⟩ := ht
  refine wpAny_in_of (knd := PySem.strKind B.prog B.w) (k := k) (by simp [PySem.strKind, Value.isStrOf]) hd (tab_at x hD).mapOf ⟨ρ, σ, _, Step.refl _ _ _, x.tok _, ?_, h⟩
  simp only [VRel]
  rw [slook_at, Option.isSome_map]
theorem o_get_tab {e₁ e₂ : Expr} {d a : Addr} {ks : List (Str × Value)} {k : Str} {Q : AVal → Store → Prop} (ht : TabIs B d ks) (hk : slook ks k = some (.ref a)) (h : Q (.con (.ref a)) σ)
    (hs : ∀ a i t, subscripted e₂ false (.ref a) (.str i t) = operate [.ref a, .str i t] (getItem (.ref a) (.str i t)) := by intro _ _ _; with_unfolding_all rfl) : O2 B C (subscriptTail e₁ e₂) (.con (.ref d)) (.str k) σ Q := by
  intro av ρ s e c x cx r2 r1
  simp only [VRel] at r1 r2
  obtain ⟨t, rfl⟩ := r1
  subst r2
  obtain ⟨hd, kvs, hD, rfl⟩ := ht
  rw [slook_at] at hk
  obtain ⟨v, hv, hr⟩ := Option.map_eq_some_iff.mp hk
  have hva : v = .ref a := by cases v <;> simp [strip] at hr; exact congrArg _ hr
  subst hva
  have hD' := tab_at x hD
  exact tail_any hD'.typeIs slot_dict_getitem.lookup (wpAny_getItem_of (knd := PySem.strKind B.prog B.w) (k := k) (by simp [PySem.strKind, Value.isStrOf]) hD'.mapOf hv ⟨ρ, σ, _, Step.refl _ _ _, x.tok _, by simp only [VRel], h⟩) (hs _ _ _)

/-! in a tuple -/
noncomputable def amem (x : AVal) : AVal → Bool
  | .cons y ys => decide (y = x) || amem x ys
  | _ => false
theorem amem_py {x : AVal} (px : plain x = true) : ∀ a : AVal, plainL a = true → ((toPyL a).any fun y => PyData.eqv y (toPy x)) = amem x a
  | .nil, _ => by simp [toPyL, amem]
  | .cons y ys, h => by
    simp only [plainL, Bool.and_eq_true] at h
    simp only [toPyL, List.any_cons, amem]
    rw [amem_py px ys h.2, (eqv_of y).1 h.1 x px]
  | .none, h | .bool _, h | .int _, h | .str _, h | .lst _, h | .loc _, h | .con _, h => by simp [plainL] at h
theorem o_in_tup {a x : AVal} {Q : AVal → Store → Prop} (ha : isT a = true) (oa : okE 50 a = true) (ox : okE 50 x = true) (h : Q (.bool (amem x a)) σ) : O2 B C (compareOp .In) x a σ Q := by
  intro av ρ s c d y cx r1 r2
  obtain ⟨p1, d1⟩ := (okE_imp a 50).1 oa
  obtain ⟨p2, d2⟩ := (okE_imp x 50).1 ox
  have pl : plainL a = true := by cases a <;> first | rfl | (simpa [plain, plainL] using p1) | cases ha
  obtain ⟨as, h1⟩ := (reads_of a).1 p1 d r2
  obtain ⟨bs, h2⟩ := (reads_of x).1 p2 c r1
  have e : toPy a = .tuple (toPyL a) := by cases a <;> first | rfl | (simp [toPy, toPyL]; done) | cases ha
  rw [e] at h1
  have cl := (canLay_of a).1 p1
  rw [e] at cl
  refine SeqAt.in_tuple_reads h1 h2 (by simpa [PyData.canLay0] using cl) ((canLay_of x).1 p2) ?_ ?_
  · have := cx.u
    have d3 : (toPy x).depth ≤ 50 := d2
    have := Nat.min_le_right (PyData.depthAll (toPyL a)) (toPy x).depth
    unfold cLine; omega
  · rw [amem_py p2 a pl]
    exact Pst.here y (by simp only [VRel]) h

/-! made of lists and tuples -/
theorem o_tuple {a : AVal} {Q : AVal → Store → Prop} (ha : isT a = true) (hz : alen a ≤ 1000000) (h : Q a σ) : OC B C (fun cs => call (.type "tuple") cs) (tup [.lst a]) σ Q := by
  intro av ρ s cs x cx r
  simp only [IRel, VRel] at r
  obtain ⟨c1, r1, rfl, ⟨ad, vs, rfl, hr, hv, t, i⟩, rfl⟩ := r
  refine call_tuple_list t.isList (fun h' k => ?_) (by rw [List.size_toArray, i.length, sizeLine_eq]; omega)
  have x' := x.kept k s.toks
  have st : Step noX ρ s.heap ρ h' := Step.ofKeep k
  have st2 := st.trans (Step.push (X := noX) (ρ := ρ) (h := h') ({ cls := .type "tuple", data := .seq vs.toArray } : Obj))
  have x2 := x'.push ({ cls := .type "tuple", data := .seq vs.toArray } : Obj)
  refine ⟨ρ, σ, a, st2, x2, ?_, h⟩
  exact VRel.ofTup (size_not_ρ x') (size_not_av x') ⟨0, Heap.get?_push_size _ rfl⟩ (i.mono (st2.kpNo av))

theorem o_list_tup {a : AVal} {Q : AVal → Store → Prop} (ha : isT a = true) (hz : alen a ≤ 1000000) (h : Q (.lst a) σ) : OC B C (fun cs => call (.type "list") cs) (tup [a]) σ Q := by
  intro av ρ s cs x cx r
  simp only [IRel] at r
  obtain ⟨c1, r1, rfl, hv, rfl⟩ := r
  obtain ⟨ad, vs, rfl, _, _, ⟨n, t⟩, i⟩ := VRel.tup ha hv
  refine call_list_seq ad (.inr rfl) t rfl rfl (fun h' c' k e => ?_) (by rw [List.size_toArray, i.length, sizeLine_eq]; omega)
  have st : Step noX ρ s.heap ρ h' := Step.ofKeep k
  refine ⟨ρ, σ, .lst a, st, x.kept k s.toks, ?_, h⟩
  simp only [VRel]
  exact ⟨_, vs, rfl, size_not_ρ x, size_not_av x, ⟨c', e⟩, i.mono (st.kpNo av)⟩
theorem o_list_lst {a : AVal} {Q : AVal → Store → Prop} (hz : alen a ≤ 1000000) (h : Q (.lst a) σ) : OC B C (fun cs => call (.type "list") cs) (tup [.lst a]) σ Q := by
  intro av ρ s cs x cx r
  simp only [IRel, VRel] at r
  obtain ⟨c1, r1, rfl, ⟨ad, vs, rfl, _, _, ⟨n, t⟩, i⟩, rfl⟩ := r
  refine call_list_seq ad (.inl rfl) t rfl rfl (fun h' c' k e => ?_) (by rw [List.size_toArray, i.length, sizeLine_eq]; omega)
  have st : Step noX ρ s.heap ρ h' := Step.ofKeep k
  refine ⟨ρ, σ, .lst a, st, x.kept k s.toks, ?_, h⟩
  simp only [VRel]
  exact ⟨_, vs, rfl, size_not_ρ x, size_not_av x, ⟨c', e⟩, i.mono (st.kpNo av)⟩
theorem o_int_bool {b : Bool} {Q : AVal → Store → Prop} (h : Q (.int (if b then 1 else 0)) σ) : OC B C (fun cs => call (.type "int") cs) (tup [.bool b]) σ Q := by
  intro av ρ s cs x cx r
  simp only [IRel, VRel] at r
  obtain ⟨c1, r1, rfl, rfl, rfl⟩ := r
  exact call_int_bool ⟨ρ, σ, _, Step.refl _ _ _, x.tok _, by simp only [VRel]; exact ⟨_, rfl⟩, h⟩

noncomputable def aapp : AVal → AVal → AVal
  | .cons x xs, b => .cons x (aapp xs b)
  | _, b => b
theorem irel_app {ρ av : List Addr} {h : Heap} : ∀ {a b : AVal} {vs us : List Value}, IRel ρ av h a vs → IRel ρ av h b us → IRel ρ av h (aapp a b) (vs ++ us)
  | .nil, b, vs, us, i, j => by simp only [IRel] at i; subst i; exact j
  | .cons x xs, b, vs, us, i, j => by
    simp only [IRel] at i
    obtain ⟨d, r, rfl, hd, hr⟩ := i
    simp only [aapp, IRel]
    exact ⟨d, r ++ us, rfl, hd, irel_app hr j⟩
  | .none, _, _, _, i, _ | .bool _, _, _, _, i, _ | .int _, _, _, _, i, _ | .str _, _, _, _, i, _ | .lst _, _, _, _, i, _ | .loc _, _, _, _, i, _ | .con _, _, _, _, i, _ => by simp only [IRel] at i
/-- two lists make a list of the store -/
theorem o_cat {a b : AVal} {Q : AVal → Store → Prop} (hz : alen a + alen b ≤ 1000000) (h : Q (.loc σ.length) (σ ++ [.list (aapp a b)])) : O2 B C (binaryOp .Add) (.lst a) (.lst b) σ Q := by
  intro av ρ s c d x cx r1 r2
  simp only [VRel] at r1 r2
  obtain ⟨ad, vs, rfl, _, _, ⟨n, t⟩, i⟩ := r1
  obtain ⟨bd, us, rfl, _, _, ⟨n2, t2⟩, j⟩ := r2
  refine P.add_list (items := vs.toArray) (items2 := us.toArray) t t2 ?_ (by rw [List.size_toArray, List.size_toArray, i.length, j.length, sizeLine_eq]; omega)
  have e : (vs.toArray ++ us.toArray) = (vs ++ us).toArray := by simp
  rw [e]
  refine ⟨ρ ++ [s.heap.objs.size], σ ++ [.list (aapp a b)], .loc σ.length, Step.alloc _, x.alloc (ao := .list (aapp a b)) rfl ⟨vs ++ us, ⟨0, Heap.get?_push_size _ rfl⟩, (irel_app i j).mono ((Step.alloc (X := noX) (ρ := ρ) _).kpNo av)⟩, ?_, h⟩
  simp only [VRel]
  exact ⟨_, rfl, by rw [← x.len, List.getElem?_append_right (Nat.le_refl _)]; simp⟩

end

/-! sorted keys -/
noncomputable def ofInts : List Int → AVal
  | [] => .nil
  | i :: r => .cons (.int i) (ofInts r)
theorem alen_ofInts : ∀ l : List Int, alen (ofInts l) = l.length
  | [] => rfl
  | i :: r => by simp [ofInts, alen, alen_ofInts r]
theorem irel_ints {ρ av : List Addr} {h : Heap} : ∀ {vs : List Value} {ns : List Int}, IntsAre vs ns → IRel ρ av h (ofInts ns) vs := by
  intro vs ns hI
  induction hI with
  | nil => simp [ofInts, IRel]
  | cons => simp only [ofInts, IRel, VRel]; exact ⟨_, _, rfl, ⟨_, rfl⟩, by assumption⟩
noncomputable def keysI : List (AVal × AVal) → List Int
  | (.int i, _) :: r => i :: keysI r
  | _ :: r => keysI r
  | [] => []
theorem keysI_eq {ρ av : List Addr} {h : Heap} : ∀ {es : List (AVal × AVal)} {kvs : List (Int × Value)}, DRelI ρ av h es kvs → keysI es = kvs.map (·.1)
  | [], [], _ => rfl
  | (k, v) :: es, (i, c) :: kvs, ⟨e, _, r⟩ => by subst e; simp [keysI, keysI_eq r]

theorem collect_dict {prog : Program} {w : World} {A : Around} {E : Value → Shared → Prop} {s : Shared} {d : Addr} {kvs : List (Int × Value)} {ep : Nat} {Q : List Value → Shared → Prop} (hh : A.handled = none) (lo : (d == sysModules) = false) (hat : s.heap.DictAt (PySem.intKind prog w) d kvs ep) (hz : kvs.length < 64)
    (h : ∀ (h1 : Heap) (tk : Nat) (acc : Array Value), (∀ b o, s.heap.get? b = some o → h1.get? b = some o) → PySem.ItemsOf (fun i v => ∃ k x, kvs[i]? = some (k, x) ∧ (PySem.intKind prog w).is k v = true) acc kvs.length → Q acc.toList { s with heap := h1, toks := tk }) :
    wpAny (model prog w) A (collect (.ref d)) Q E s := by
  unfold collect
  refine wpAny_bind (wpAny_runValue (codeAny_builtin entry_proto_collect' ?_))
  show wpAny _ _ (do again (.builtin "list.__iadd__" ⟨[← newList [], .ref d], []⟩)) _ _ s
  have hdlt := hat.lt_size
  refine wpAny_bind (wpAny_newList (wpAny_pure ⟨Code.quiet_builtin _ (by decide +kernel), codeAny_builtin entry_list_iadd' ?_⟩))
  show wpAny _ _ (Builtin.List.listExtendWith (.ref s.heap.objs.size) (.ref d) (.ref s.heap.objs.size)) _ _ { s with heap := s.heap.push (seqObj "list" #[] 0) }
  rw [Around.under_plainId F.plain_list_iadd _]
  refine wpAny_mono (kdl_extend (A := A) (R := fun r s' => ∃ (h1 : Heap) (tk : Nat) (acc : Array Value) (c' : Nat), r = .ok (.ret (.ref s.heap.objs.size)) ∧ s' = { s with heap := h1, toks := tk } ∧ (∀ b o, b ≠ s.heap.objs.size → (s.heap.push (seqObj "list" #[] 0)).get? b = some o → h1.get? b = some o) ∧
      h1.get? s.heap.objs.size = some { cls := .type "list", dict := none, data := .seq acc c', slots := #[] } ∧ PySem.ItemsOf (fun i v => ∃ k x, kvs[i]? = some (k, x) ∧ (PySem.intKind prog w).is k v = true) acc kvs.length)
    (s := { s with heap := s.heap.push (seqObj "list" #[] 0) }) (kdl_dict (knd := PySem.intKind prog w) (kvs := kvs) (ep := ep) lo) hh (hat.push _) s.heap.objs.size (Nat.ne_of_gt hdlt) (Nat.ne_of_gt hdlt) (.ref s.heap.objs.size) 0 (Heap.get?_push_size _ rfl)
    (fun h1 tk acc c' hk hS hacc => ⟨h1, tk, acc, c', rfl, rfl, hk, hS, hacc⟩) (by rw [sizeLine_eq]; omega)) (fun fin s' hf => ?_) fun e s' he => ?_
  · have last : ∀ (r : Result) (s' : Shared), (∃ (h1 : Heap) (tk : Nat) (acc : Array Value) (c' : Nat), r = .ok (.ret (.ref s.heap.objs.size)) ∧ s' = { s with heap := h1, toks := tk } ∧ (∀ b o, b ≠ s.heap.objs.size → (s.heap.push (seqObj "list" #[] 0)).get? b = some o → h1.get? b = some o) ∧
        h1.get? s.heap.objs.size = some { cls := .type "list", dict := none, data := .seq acc c', slots := #[] } ∧ PySem.ItemsOf (fun i v => ∃ k x, kvs[i]? = some (k, x) ∧ (PySem.intKind prog w).is k v = true) acc kvs.length) →
        match r with
        | .ok (.ret v) => wpAny (model prog w) A (match v with | .ref a => (do let o ← load a; match o.data with | .seq xs _ => pure xs.toList | _ => unsupported "internal:collect") | _ => unsupported "internal:collect") Q E s'
        | .ok _ => False
        | .error e => E e s' := by
      rintro r s' ⟨h1, tk, acc, c', rfl, rfl, hk, hS, hacc⟩
      refine wpAny_bind (wpAny_load hS (wpAny_pure ?_))
      exact h h1 tk acc (fun b o e => hk b o (Nat.ne_of_lt (Heap.lt_size e)) (Heap.get?_push_of_some _ e)) hacc
    cases fin with
    | done f => exact last _ _ hf
    | again c' => exact ⟨hf.1, codeAny_mono hf.2 fun r s' hr => last r s' hr⟩
  · obtain ⟨_, _, _, _, e', _⟩ := he
    cases e'

theorem sorted_dict {prog : Program} {w : World} {A : Around} {E : Value → Shared → Prop} {s : Shared} {d : Addr} {kvs : List (Int × Value)} {Q : Value → Shared → Prop} (hh : A.handled = none) (lo : (d == sysModules) = false) (hD : s.heap.DictOf (PySem.intKind prog w) d kvs) (h64 : kvs.length < 64)
    (h : ∀ (h' : Heap) (tk : Nat) (D : Addr) (out : List Value) (ns' : List Int) (n : Nat), (∀ b o, s.heap.get? b = some o → h'.get? b = some o) → s.heap.get? D = none → h'.get? D = some { cls := .type "list", data := .seq out.toArray n } → IntsAre out ns' → ns'.Perm (kvs.map (·.1)) → ns'.Pairwise (· ≤ ·) → Q (.ref D) { s with heap := h', toks := tk }) :
    wpAny (model prog w) A (call (.builtin "sorted") [.ref d]) Q E s := by
  obtain ⟨ep, hat⟩ := hD.dictAt
  refine Calls.call_function_entry kind_sorted plain_sorted entry_sorted (args_sorted1 _) ?_
  unfold Builtin.«sorted»
  refine wpAny_bind (m := checkCount "sorted" 1 1 _) (wpAny_pure ?_)
  refine wpAny_bind (collect_dict (A := A.in1) hh lo hat h64 fun h1 tk acc old hacc => ?_)
  have hI : ∃ ns, IntsAre acc.toList ns ∧ ns = kvs.map (·.1) := by
    have gen : ∀ (l : List Value) (kv : List (Int × Value)), l.length = kv.length → (∀ (j : Nat) (v : Value), l[j]? = some v → ∃ k x, kv[j]? = some (k, x) ∧ (PySem.intKind prog w).is k v = true) → IntsAre l (kv.map (·.1)) := by
      intro l
      induction l with
      | nil => intro kv hl _; cases kv with
        | nil => exact IntsAre.nil
        | cons => simp at hl
      | cons v r ih =>
        intro kv hl hp
        cases kv with
        | nil => simp at hl
        | cons p q =>
          obtain ⟨k, x, e, hk⟩ := hp 0 v rfl
          simp only [List.getElem?_cons_zero, Option.some.injEq] at e
          subst e
          obtain ⟨t, rfl⟩ := Value.isInt_shape hk
          rw [List.map_cons]
          exact IntsAre.cons _ _ (ih q (by simpa using hl) fun j u hu => by simpa using hp (j + 1) u (by simpa using hu))
    exact ⟨_, gen acc.toList kvs (by simpa using hacc.1) (fun j v hv => hacc.2 j v (by simpa using hv)), rfl⟩
  obtain ⟨ns, hI, rfl⟩ := hI
  have hlen : acc.toList.length < 64 := by rw [hI.length, List.length_map]; exact h64
  refine wpAny_bind (wpAny_newList ?_)
  dsimp only
  have hoL : (h1.push (seqObj "list" acc.toList.toArray 0)).get? h1.objs.size = some (seqObj "list" acc.toList.toArray 0) := Heap.get?_push_size _ rfl
  refine wpAny_bind (wpAny_holding (wpAny_call_entry slot_list_sort ⟨_, hoL, rfl⟩ entry_list_sort (list_sort_tree hoL hI hlen fun out ns' a1 a2 a3 => ⟨_, rfl, ?_⟩) (args_list_sort _)))
  obtain ⟨e, he⟩ := sortedHeap_at (out := out) hoL
  refine wpAny_pure ⟨_, rfl, h _ tk h1.objs.size out.toList ns' e (fun b o hb => ?_) ?_ (by simpa using he) a1 a2 a3⟩
  · have hb1 := old b o hb
    have hlt := Heap.lt_size hb1
    rw [sortedHeap_old (Nat.ne_of_lt hlt) (by rw [Heap.size_push]; exact Nat.lt_succ_of_lt hlt)]
    exact Heap.get?_push_of_some _ hb1
  · cases q : s.heap.get? h1.objs.size with
    | none => rfl
    | some o => exact absurd (Heap.lt_size (old _ o q)) (Nat.lt_irrefl _)

section
variable {B : Base} {C : Cx} {l : Loc} {σ : Store}
theorem o_sorted {d : Nat} {es : List (AVal × AVal)} {Q : AVal → Store → Prop} (hd : σ[d]? = some (.dict es)) (hI : ∀ p ∈ es, isIK p.1 = true) (h64 : es.length < 64)
    (h : ∀ ns : List Int, ns.Perm (keysI es) → ns.Pairwise (· ≤ ·) → Q (.lst (ofInts ns)) σ) : OC B C (fun cs => call (.builtin "sorted") cs) (tup [.loc d]) σ Q := by
  intro av ρ s cs x cx r
  simp only [IRel, VRel] at r
  obtain ⟨c1, r1, rfl, ⟨b, rfl, hl⟩, rfl⟩ := r
  obtain ⟨kvs, hD, hR⟩ := rep_I (x.rep d b _ hl hd) hI
  refine sorted_dict cx.handled (sys_ne x hl) hD (by rw [drelI_len hR]; exact h64) fun h' tk D out ns' n k hf hD' a1 a2 a3 => ?_
  have st : Step noX ρ s.heap ρ h' := Step.ofKeep k
  refine ⟨ρ, σ, .lst (ofInts ns'), st, x.kept k tk, ?_, h ns' (by rw [keysI_eq hR]; exact a2) a3⟩
  simp only [VRel]
  exact ⟨D, out, rfl, not_ρ x hf, fun hm => (by obtain ⟨o, ho⟩ := (x.avoid D hm).2.1; rw [hf] at ho; cases ho), ⟨n, hD'⟩, irel_ints a1⟩

end

/-! a slice of a list of the base -/
noncomputable def atake : Nat → AVal → AVal
  | n + 1, .cons x xs => .cons x (atake n xs)
  | _, _ => .nil
theorem atake_ints : ∀ (n : Nat) (l : List Int), atake n (ofInts l) = ofInts (l.take n)
  | 0, l => by cases l <;> simp [atake, ofInts]
  | n + 1, [] => by simp [atake, ofInts]
  | n + 1, i :: r => by simp [atake, ofInts, atake_ints n r]
theorem ints_take {vs : List Value} {ns : List Int} (h : IntsAre vs ns) : ∀ n, IntsAre (vs.take n) (ns.take n) := by
  induction h with
  | nil => intro n; simpa using IntsAre.nil
  | cons =>
    rename_i ih
    intro n
    cases n with
    | zero => simpa using IntsAre.nil
    | succ n => simp only [List.take_succ_cons]; exact IntsAre.cons _ _ (ih n)
section
variable {B : Base} {C : Cx} {l : Loc} {σ : Store}
theorem r_upto {x : Str} {n : Nat} {k : Nat} {p1 p2 p3 p4 : Pos} {a : Addr} {vs : List Value} {ns : List Int} {Q : AVal → Store → Prop} (hx : l.lookup x = some (.con (.ref a))) (hl : B.h₀.IsList a vs.toArray) (hI : IntsAre vs ns) (hz : ns.length ≤ 1000000) (h : Q (.lst (ofInts (ns.take n))) σ) (hd : (x == ("__debug__" : Str)) = false := by rfl) :
    WV B C (eval (.Subscript (.Name x p1) (.Slice none (some (.Constant (.int n) k p2)) none p3) p4) C.env) l σ Q := by
  intro av ρ s y f
  refine wpAny_Subscript_Slice (T := "list") slot_list_getitem.lookup (wp_cont (r_name (Q := fun b σ₁ => b = .con (.ref a) ∧ σ₁ = σ) hx ⟨rfl, rfl⟩ hd av ρ s y f) fun c s₁ ρ₁ σ₁ b st x₁ r q => ?_) (fun _ _ => rfl)
  obtain ⟨rfl, rfl⟩ := q
  simp only [VRel] at r
  subst r
  refine wpAny_Slice ?_
  rw [evalPart_none, evalPart_some]
  refine wpAny_pure (wpAny_Constant_int ?_)
  refine wpAny_pure ?_
  obtain ⟨o, ho, hr⟩ := hl
  have hl₁ : s₁.heap.IsList a vs.toArray := ⟨o, x₁.keep a o ho, hr⟩
  have hsz : vs.toArray.size ≤ sizeLine := by rw [List.size_toArray, hI.length, sizeLine_eq]; omega
  refine ⟨(hl₁.push _).typeIs, wpAny_getItem_list_slice (hl₁.push _) (Heap.IsSliceOf.new _ _ _ _) .none (.int _ _) .none (by decide) ?_ hsz⟩
  rw [slicePick_upto']
  have st2 : Step noX ρ₁ s₁.heap ρ₁ ((s₁.heap.push { cls := .type "slice", data := .fields #[.none, .int n s₁.toks, .none] }).push { cls := .type "list", data := .seq (vs.toArray.toList.take n).toArray }) := (Step.push _).trans (Step.push _)
  have x2 := ((x₁.push ({ cls := .type "slice", data := .fields #[.none, .int n s₁.toks, .none] } : Obj)).push ({ cls := .type "list", data := .seq (vs.toArray.toList.take n).toArray } : Obj)).tok (s₁.toks + 1)
  have nn : ∀ (o : Obj), s₁.heap.get? (s₁.heap.push o).objs.size = none := fun o => none_ge (by rw [Heap.size_push]; omega)
  refine ⟨ρ₁, _, .lst (ofInts (ns.take n)), st.trans st2, x2, ?_, h⟩
  simp only [VRel]
  refine ⟨_, vs.take n, rfl, not_ρ x₁ (nn _), fun hm => (by obtain ⟨o, ho⟩ := (x₁.avoid _ hm).2.1; rw [nn] at ho; cases ho), ⟨0, ?_⟩, irel_ints (ints_take hI n)⟩
  rw [show (vs.take n).toArray = (vs.toArray.toList.take n).toArray by simp]
  exact Heap.get?_push_size _ rfl

/-! bit_length -/
theorem m_bits {i : Int} : IsMeth B C (Str.ofString "bit_length") (.int i) σ (.builtin "int.bit_length") := by
  intro av ρ s c pl Q x cx r hQ
  simp only [VRel] at r
  obtain ⟨t, rfl⟩ := r
  exact getMethod_int_bit_length hQ
theorem o_bits {i : Int} {Q : AVal → Store → Prop} (h : Q (.int (Builtin.Int.intBits i)) σ) : OC B C (fun cs => call (.builtin "int.bit_length") cs) (tup [.int i]) σ Q := by
  intro av ρ s cs x cx r
  simp only [IRel, VRel] at r
  obtain ⟨c1, r1, rfl, ⟨t, rfl⟩, rfl⟩ := r
  exact call_int_bit_length ⟨ρ, σ, _, Step.refl _ _ _, x.tok _, by simp only [VRel]; exact ⟨_, rfl⟩, h⟩
end

structure FnOk (B : Base) (fa : Addr) (d : Stmt) : Prop where
  at_ : FnAt B fa d
  keeps : Keeps B (.ref fa)

noncomputable def fnsM : List (Nat × Addr) := [(3, 28), (14, 46), (22, 95), (25, 116), (26, 123), (30, 151), (42, 235), (48, 272), (52, 279), (63, 434), (64, 441), (65, 446), (66, 451), (67, 456), (68, 463), (69, 468), (70, 473), (71, 478)]
noncomputable def mtsM : List (Nat × Addr) := [(0, 297), (1, 304), (2, 311), (3, 318), (4, 325), (5, 330), (6, 337), (7, 344), (8, 351), (9, 356), (11, 370), (18, 419)]
noncomputable def fnTab : List (Str × Addr) := [("num", 28), ("signed_algebra", 46), ("worked", 95), ("span_of", 116), ("is_apart", 123), ("with_number", 151), ("better", 272), ("signed_values", 279), ("_law_draw", 434), ("_law_amount", 441), ("_law_all", 446),
  ("_law_row", 451), ("_law_apart", 456), ("_law_are_alike", 463), ("_law_places_right", 468), ("_law_equals_right", 473), ("Terms", 422)]
noncomputable def globTab : List (Str × AVal) := [("MASK", .int 4294967295), ("TOP_algebra", .int 2147483648), ("ROUND_algebra", .int 4294967296), ("TOP_values", .int 2147483648), ("ROUND_values", .int 4294967296), ("_law_whole", .int 4294967296),
  ("COMMUTING", .con (.ref 29)), ("COMPARES", .con (.ref 30)), ("SPANS", .con (.ref 34)), ("RULES", .con (.ref 264)), ("SUMS", .con (.ref 280)), ("EQUALS", .con (.ref 281)), ("WHOLE", tup [.int (-2147483648), .int 2147483647]),
  ("_law_numbers", tup [.int 0, .int 1, .int 2, .int 3, .int 65536, .int 4294967295, .int 2147483648, .int 4294967294, .int 2147483647, .int 16777216])]
noncomputable def builtTab : List (Str × Value) := [("range", .type "range"), ("zip", .type "zip"), ("len", .builtin "len"), ("tuple", .type "tuple"), ("list", .type "list"), ("int", .type "int"), ("sorted", .builtin "sorted"), ("min", .builtin "min")]
noncomputable def methTab : List (Str × Addr) := [("shape", 304), ("symbol", 311), ("home", 318), ("parts", 325), ("sum_of", 330), ("sum_with", 337), ("sum_shape", 344), ("told_sum", 351), ("told_equal", 356), ("told", 370), ("place_of", 419)]
noncomputable def one0 : Value := .int 1 0
noncomputable def tabsTab : List (Addr × List (Str × Value)) := [(29, [("add", one0), ("mul", one0), ("and", one0), ("or", one0), ("xor", one0), ("eq", one0), ("ne", one0)]), (30, [("lt", one0), ("ltu", one0), ("eq", one0), ("ne", one0)]),
  (34, [("sx8", .ref 35), ("zx8", .ref 36), ("sx16", .ref 37), ("zx16", .ref 38)]),
  (264, [("add", .ref 158), ("sub", .ref 165), ("mul", .ref 172), ("div", .ref 186), ("rem", .ref 186), ("divu", .ref 179), ("remu", .ref 179), ("and", .ref 193), ("or", .ref 200), ("xor", .ref 207), ("shl", .ref 214), ("shr", .ref 214), ("sar", .ref 214),
    ("lt", .ref 221), ("ltu", .ref 221), ("eq", .ref 235), ("ne", .ref 235), ("neg", .ref 242), ("not", .ref 249), ("sx8", .ref 263), ("sx16", .ref 263), ("zx8", .ref 263), ("zx16", .ref 263)]),
  (280, [("add", one0), ("sub", one0), ("neg", one0), ("not", one0)]), (281, [("eq", one0), ("ne", one0)])]

structure Facts (B : Base) : Prop where
  fn : ∀ k fa, (k, fa) ∈ fnsM → FnOk B fa (stG pw k)
  mt : ∀ k fa, (k, fa) ∈ mtsM → FnOk B fa (mtG pw k)
  fnames : ∀ x fa, fnTab.lookup x = some fa → GlobIs B x (.con (.ref fa)) ∧ Keeps B (.ref fa)
  globs : ∀ x a, globTab.lookup x = some a → GlobIs B x a
  builts : ∀ x c, builtTab.lookup x = some c → BuiltIs B x c
  meths : ∀ x fa, methTab.lookup x = some fa → MethIs B.K 422 x fa ∧ Keeps B (.ref fa)
  init : MethIs B.K 422 "__init__" 297
  attrs : ∀ x ∈ ([Str.ofString "keys", Str.ofString "sums", Str.ofString "shapes", Str.ofString "homes"] : List Str), findIn B.K (.ref 422) x = some none ∧ takerIn B.K 422 x = some none
  cls : ClsOk B.K 422
  tabs : ∀ d ks, tabsTab.lookup d = some ks → TabIs B d ks

/-- where the terms' own objects lie -/
noncomputable def attrsT : List (Str × AVal) := [("homes", .loc 6), ("shapes", .loc 5), ("sums", .loc 4), ("keys", .loc 3)]
noncomputable def SelfOk (σ : Store) : Prop := σ[2]? = some (.inst 422 1) ∧ σ[1]? = some (.attrs attrsT)

section
variable {B : Base} {C : Cx} {l : Loc} {σ : Store}

theorem r_g {x : Str} {pos : Pos} {a : AVal} {Q : AVal → Store → Prop} (F : Facts B) (hx : globTab.lookup x = some a) (h : Q a σ) (hk : C.env.kindOf x = some .globalImplicit := by rfl) (hd : (x == ("__debug__" : Str)) = false := by rfl) :
    WV B C (eval (.Name x pos) C.env) l σ Q := r_glob (F.globs x a hx) h hk hd

/-- a call of the text's functions -/
theorem r_CallF {x : Str} {p pos : Pos} {args : List Expr} {fa : Addr} {Q : AVal → Store → Prop} (F : Facts B) (hx : fnTab.lookup x = some fa)
    (h : WL B C (spliced (backTo pos (starEach args C.env))) l σ fun as σ₂ => OC B C (fun cs => call (.ref fa) cs) as σ₂ Q) (hk : C.env.kindOf x = some .globalImplicit := by rfl) (hd : (x == ("__debug__" : Str)) = false := by rfl)
    (he : eval (.Call (.Name x p) args [] pos) C.env = (do callWith pos (← eval (.Name x p) C.env) [] (backTo pos (starEach args C.env)) (backToKw pos (keywordEach [] C.env))) := by rfl)
    (hplain : (backTo pos (starEach args C.env)).any (·.1) = false := by rfl) : WV B C (eval (.Call (.Name x p) args [] pos) C.env) l σ Q :=
  r_Call (r_glob (F.fnames x fa hx).1 ⟨_, rfl, (F.fnames x fa hx).2, h⟩ hk hd) he hplain
/-- and of what is built in -/
theorem r_CallB {x : Str} {p pos : Pos} {args : List Expr} {c : Value} {Q : AVal → Store → Prop} (F : Facts B) (hx : builtTab.lookup x = some c)
    (h : WL B C (spliced (backTo pos (starEach args C.env))) l σ fun as σ₂ => OC B C (fun cs => call c cs) as σ₂ Q) (hk : C.env.kindOf x = some .globalImplicit := by rfl) (hd : (x == ("__debug__" : Str)) = false := by rfl)
    (hc : ∀ a, c ≠ .ref a := by intro a e; cases e)
    (he : eval (.Call (.Name x p) args [] pos) C.env = (do callWith pos (← eval (.Name x p) C.env) [] (backTo pos (starEach args C.env)) (backToKw pos (keywordEach [] C.env))) := by rfl)
    (hplain : (backTo pos (starEach args C.env)).any (·.1) = false := by rfl) : WV B C (eval (.Call (.Name x p) args [] pos) C.env) l σ Q :=
  r_Call (r_builtin (F.builts x c hx) ⟨_, rfl, .inr hc, h⟩ hk hd) he hplain
/-- a method of the terms -/
theorem r_MethT {o : Expr} {name : Str} {apos pos : Pos} {args : List Expr} {fa : Addr} {Q : AVal → Store → Prop} (F : Facts B) (hx : methTab.lookup name = some fa)
    (h : WV B C (eval o C.env) l σ fun a σ₁ => a = .loc 2 ∧ SelfOk σ₁ ∧ WL B C (spliced (backTo pos (starEach args C.env))) l σ₁ fun as σ₂ => OC B C (fun cs => call (.ref fa) cs) (.cons (.loc 2) as) σ₂ Q)
    (hl : attrsT.lookup name = none := by rfl)
    (he : eval (.Call (.Attribute o name apos) args [] pos) C.env = (do
      let ov ← eval o C.env
      standAt apos.atName
      let (f, first) ← holding [ov] (getMethod ov name (do return (← importBound o C.env).getD true))
      callWith pos f first (backTo pos (starEach args C.env)) []) := by rfl)
    (hplain : (backTo pos (starEach args C.env)).any (·.1) = false := by rfl) : WV B C (eval (.Call (.Attribute o name apos) args [] pos) C.env) l σ Q := by
  refine r_Meth (W.mono h fun a σ₁ q => ?_) he hplain
  obtain ⟨rfl, hs, q⟩ := q
  exact ⟨.ref fa, m_inst F.cls (F.meths name fa hx).1 hs.1 hs.2 hl, (F.meths name fa hx).2, q⟩
/-- a field of the terms -/
theorem r_AttrT {o : Expr} {name : Str} {pos : Pos} {v : AVal} {Q : AVal → Store → Prop} (F : Facts B) (h : WV B C (eval o C.env) l σ fun a σ₁ => a = .loc 2 ∧ SelfOk σ₁ ∧ Q v σ₁) (hl : attrsT.lookup name = some v := by rfl)
    (hm : name ∈ ([Str.ofString "keys", Str.ofString "sums", Str.ofString "shapes", Str.ofString "homes"] : List Str) := by simp) (hv : ∃ m, v = .loc m := by exact ⟨_, rfl⟩)
    (he : eval (.Attribute o name pos) C.env = (do
      let ov ← eval o C.env
      standAt pos.atName
      let r ← holding [ov] (getAttr ov name true)
      letTemporaryGo o ov r
      pure r) := by with_unfolding_all rfl) : WV B C (eval (.Attribute o name pos) C.env) l σ Q := by
  refine r_Attribute (W.mono h fun a σ₁ q => ?_) he
  obtain ⟨rfl, hs, q⟩ := q
  exact o_attr F.cls hs.1 hs.2 hl (F.attrs name hm).1 hv q
end

theorem te_go : @topGo = PySem.W.Fast.tw15667345088766844465 := PySem.W.Fast.te15667345088766844465
theorem te_tb : treeTable = PySem.W.Fast.tw14364793385576792824 := PySem.W.Fast.te14364793385576792824
theorem te_den : @denote = PySem.W.Fast.tw11892475500146522536 := PySem.W.Fast.te11892475500146522536
theorem te_run : @segRunT = PySem.W.Fast.tw10110043849684766642 := PySem.W.Fast.te10110043849684766642
noncomputable def envM (p : Program) : Env := { scope := p.main.scope, locals := mainNs, globals := mainNs, cells := [], code := .ref 13, frame := some 14 }
noncomputable def cM (p : Program) : Code := .body (behindTheImports p) (envM p)
noncomputable def framesM : List Frame := [topFrame default]
abbrev GoT := (String → Option Builtin) → Program → World → Nat → Option Value → Nat → Shared → Thread → Option (Shared × Thread)
abbrev RunT := (String → Option Builtin) → Program → World → Nat → Option Value → Nat → Nat → SharedT → Thread → Option (Flow × SharedT × Code × Pos)
abbrev Tb := String → Option Builtin
noncomputable def preG (go : GoT) (tb : Tb) (p : Program) (w : World) (os : OsState) : Option (Shared × Thread) := go tb p w 11 (some (.ref 6)) 12 ⟨boot_heap w.params, #[], boot_drawn, boot_toks, os⟩ (topStub p)
noncomputable def mkBT : List Obj → Nat → BT → BT
  | [], _, t => t
  | o :: r, n, t => mkBT r (n + 1) (t.ins n o)
noncomputable def toT (s : Shared) : SharedT := ⟨mkBT s.heap.objs.toList 0 .nil, s.heap.objs.size, s.heap.life, s.gens, s.drawn, s.toks, s.os⟩
noncomputable def stA (go : GoT) (tb : Tb) (p : Program) (w : World) (os : OsState) : Shared := ((preG go tb p w os).getD (⟨{}, #[], boot_drawn, 0, os⟩, topStub p)).1
noncomputable def runG (run : RunT) (go : GoT) (tb : Tb) (p : Program) (w : World) (os : OsState) : Option (Flow × SharedT × Code × Pos) :=
  run tb p w 11 (some (.ref 6)) 1 3600 (toT (stA go tb p w os)) (piecesOf (behindTheImports p) (envM p) (cM p) default framesM)

theorem pre_ok (w : World) (os : OsState) : (preG topGo treeTable pw w os).map (fun r => (r.2, (toT r.1).abs)) = some (⟨denote treeTable (cM pw), cM pw, default, framesM⟩, stA topGo treeTable pw w os) := by
  rw [te_go, te_tb, te_den]
  kernel_rfl

noncomputable def looseM (p : Program) : List Str := (p.main.scope.names.map (·.1)).dropLast
noncomputable def posM : Pos := { line := 623, col := 0, endLine := 637, endCol := 55 }
/-- what is looked at behind the top -/
noncomputable def lookG {β : Type} (seenF : Program → List Str → List Str → (Shared → Bool) → Bool → Shared → β) (mods : List Stmt → List Str) (p : Program) (h₀ : Heap) (s : Shared) : Bool × β :=
  (staticsOk (mods p.main.body) h₀ s.heap && namesBound p s.heap && gensDone s && laidKept h₀ s.heap, seenF (view p [71]) (looseM p) (mods p.main.body) (fun s => xlAt (view p [71]) [] s && recOk [] s) true s)
theorem te_seen : @openSeen = PySem.W.Fast.tw4187177175401517315 := PySem.W.Fast.te4187177175401517315
theorem te_mods : importedModules = PySem.W.Fast.tw5923862056798008813 := PySem.W.Fast.te5923862056798008813

noncomputable def fragOf (h : Heap) (as : List Addr) : Frag := as.filterMap fun a => (h.get? a).map fun o => (a, o)
noncomputable def tabsM : List Addr := [29, 30, 34, 264, 280, 281]
noncomputable def tupsM : List Addr := [39, 427]
noncomputable def asM : List Addr := [3, 421, 422] ++ (fnsM ++ mtsM).flatMap (fun p => [p.2, p.2 - 1]) ++ tabsM ++ tupsM
noncomputable def obsFn (K : Frag) (fa : Addr) : Option (FuncData × Bool × Bool × Option Value) := match K.lookup fa with
  | some ⟨_, _, .func fd, _⟩ => some ({ fd with qualname := ⟨#[]⟩, doc := .none, pyModule := .none, code := .none }, codeIn K fd.code fd.qualname, keepIn K (.ref fa), typeIn K (.ref fa))
  | _ => none
noncomputable def valFn (d : Stmt) : Option (FuncData × Bool × Bool × Option Value) := some (fdOf d ⟨#[]⟩ .none .none .none, true, true, some (.type "function"))
noncomputable def obsTab (K : Frag) (a : Addr) : Option (Value × Option Addr × Array (Option Value) × List (Int × Value × Value)) := match K.lookup a with
  | some ⟨c, d, .dict es _, sl⟩ => some (c, d, sl, es.toList.map fun e => (e.hash, strip e.key, strip e.val))
  | _ => none
noncomputable def obsTup (K : Frag) (a : Addr) : Option (Value × Option Addr × Array (Option Value) × List Value) := match K.lookup a with
  | some ⟨c, d, .seq xs _, sl⟩ => some (c, d, sl, xs.toList.map strip)
  | _ => none
noncomputable def obsNs (K : Frag) (x : Str) : Option (Option Value) := (nsIn K mainGlobals x).map (·.map strip)
noncomputable def anM : List Str := ["keys", "sums", "shapes", "homes"]
abbrev ObT := Value × Option Addr × Array (Option Value) × List Value
noncomputable def intsOf : AVal → List Int
  | .cons (.int i) r => i :: intsOf r
  | _ => []
noncomputable def obsG (K : Frag) (x : Str) : Option (Option (Value ⊕ ObT)) := (nsIn K mainGlobals x).map fun o => o.map fun v => match v with
  | .ref t => (match obsTup K t with | some r => .inr r | none => .inl (.ref t))
  | v => .inl (strip v)
noncomputable def valG (a : AVal) : Option (Option (Value ⊕ ObT)) := some (some (match a with | .int i => .inl (.int i 0) | .con v => .inl v | a => .inr (.type "tuple", none, #[], (intsOf a).map fun i => .int i 0)))
noncomputable def okG : AVal → Bool
  | .int _ => true
  | .con (.ref _) => true
  | .cons x xs => decide (tup ((intsOf (.cons x xs)).map AVal.int) = .cons x xs)
  | _ => false
structure Obs where
  fns : List (Option (FuncData × Bool × Bool × Option Value))
  mts : List (Option (FuncData × Bool × Bool × Option Value))
  fnames : List (Option (Option Value) × Bool)
  globs : List (Option (Option (Value ⊕ ObT)))
  bnames : List (Option (Option Value))
  mnames : List (Option (Option Value) × Option Value × Bool)
  init : Option (Option Value) × Option Value
  anames : List (Option (Option Value) × Option (Option Value))
  tabs : List (Option (Value × Option Addr × Array (Option Value) × List (Int × Value × Value)))
  cls : List (Option (Option Value)) × Bool × Bool × Bool
noncomputable def fnT : List (Str × Addr) := fnTab ++ [(Str.ofString "law", 478)]
noncomputable def obsM (s : Shared) : Obs :=
  let K := fragOf s.heap asM
  { fns := fnsM.map fun p => obsFn K p.2, mts := mtsM.map fun p => obsFn K p.2, fnames := fnT.map fun p => (obsNs K p.1, keepIn K (.ref p.2)), globs := globTab.map fun p => obsG K p.1, bnames := builtTab.map fun p => obsNs K p.1,
    mnames := methTab.map fun p => (findIn K (.ref 422) p.1, typeIn K (.ref p.2), keepIn K (.ref p.2)), init := (findIn K (.ref 422) "__init__", typeIn K (.ref 297)),
    anames := anM.map fun n => (findIn K (.ref 422) n, takerIn K 422 n), tabs := tabsTab.map fun x => obsTab K x.1,
    cls := ([findIn K (.ref 422) "__getattribute__", findIn K (.ref 422) "__getattr__", findIn K (.ref 422) "__setattr__"], plainOver K 422, hasDictIn K 422, makesIn K 422) }
noncomputable def tabE (P : Params) (x : Str) (v : Value) : Int × Value × Value := (PyData.keyHash P x, .str x 0, v)
noncomputable def valM (p : Program) (w : World) : Obs :=
  { fns := fnsM.map fun x => valFn (stG p x.1), mts := mtsM.map fun x => valFn (mtG p x.1), fnames := fnT.map fun p => (some (some (.ref p.2)), true), globs := globTab.map fun p => valG p.2, bnames := builtTab.map fun _ => some none,
    mnames := methTab.map fun p => (some (some (.ref p.2)), some (.type "function"), true), init := (some (some (.ref 297)), some (.type "function")),
    anames := anM.map fun _ => (some none, some none), tabs := tabsTab.map fun x => some (.type "dict", none, #[], x.2.map fun p => tabE w.params p.1 p.2),
    cls := ([some (some (.builtin "object.__getattribute__")), some none, some (some (.builtin "object.__setattr__"))], true, true, true) }
set_option maxHeartbeats 0 in
theorem look_okF (w : World) (os : OsState) : (runG segRunT topGo treeTable pw (w.withFollow "special-get-raises" false) os).map (fun r => (r.1, r.2.2, lookG openSeen importedModules pw (boot_heap w.params) r.2.1.abs, obsM r.2.1.abs)) =
    some (.next, (cM pw, posM), (true, openGood (view pw [71]) (looseM pw)), valM pw w) := by
  rw [te_go, te_tb, te_run, te_seen, te_mods]
  kernel_rfl
set_option maxHeartbeats 0 in
theorem look_okT (w : World) (os : OsState) : (runG segRunT topGo treeTable pw (w.withFollow "special-get-raises" true) os).map (fun r => (r.1, r.2.2, lookG openSeen importedModules pw (boot_heap w.params) r.2.1.abs, obsM r.2.1.abs)) =
    some (.next, (cM pw, posM), (true, openGood (view pw [71]) (looseM pw)), valM pw w) := by
  rw [te_go, te_tb, te_run, te_seen, te_mods]
  kernel_rfl
theorem look_ok (w : World) (os : OsState) : (runG segRunT topGo treeTable pw w os).map (fun r => (r.1, r.2.2, lookG openSeen importedModules pw (boot_heap w.params) r.2.1.abs, obsM r.2.1.abs)) =
    some (.next, (cM pw, posM), (true, openGood (view pw [71]) (looseM pw)), valM pw w) := by
  have e := World.withFollow_self w "special-get-raises"
  cases hb : w.params.followText "special-get-raises" <;> rw [hb] at e
  · have := look_okF w os; rw [e] at this; exact this
  · have := look_okT w os; rw [e] at this; exact this

theorem block_ok (w : World) (s : Shared) (c : Code) : segRun treeTable pw w 11 (some (.ref 6)) 1 1 s (blockOf (behindTheImports pw) (envM pw) c default framesM) = some (.next, s, c, default) := by
  kernel_rfl
theorem fin_ok (w : World) (s : Shared) (c : Code) (pos : Pos) : topRun treeTable pw w 11 (some (.ref 6)) 2 s ⟨doneF .next, c, pos, framesM⟩ = some s := by
  obtain ⟨h, g, d, t, os⟩ := s
  rfl
theorem size_ok (w : World) : ((boot_heap w.params).isNs mainGlobals, (boot_heap w.params).objs.size, (boot_heap w.params).nsMap mainGlobals "__annotations__") = (true, 11, some (.ref 6)) := by
  kernel_rfl

theorem left : LeftO pw (view pw [71]) (looseM pw) (fun s => xlAt (view pw [71]) [] s && recOk [] s) obsM (valM pw) 7130 := fun w => by
  obtain ⟨⟨h, gs, d, k, os⟩, e, e'⟩ := Option.map_eq_some_iff.mp (boot_open (p := pw) (N := 7130) rfl rfl (fun s => rfl) w)
  obtain ⟨rfl, rfl, rfl, rfl⟩ : h = boot_heap w.params ∧ gs = Array.mk [] ∧ d = boot_drawn ∧ k = boot_toks := by simpa using e'
  obtain ⟨z1, z2, z3⟩ : _ ∧ _ ∧ _ := by simpa only [Prod.mk.injEq] using size_ok w
  obtain ⟨⟨sA, tA⟩, p1, p2⟩ := Option.map_eq_some_iff.mp (pre_ok w os)
  obtain ⟨p3, p4⟩ : tA = _ ∧ (toT sA).abs = stA topGo treeTable pw w os := by simpa only [Prod.mk.injEq] using p2
  have hA : stA topGo treeTable pw w os = sA := by unfold stA; rw [p1]; rfl
  obtain ⟨⟨f, sT, c, pos⟩, r1, r2⟩ := Option.map_eq_some_iff.mp (look_ok w os)
  obtain ⟨q1, q2, q3, q4⟩ : f = Flow.next ∧ (c, pos) = (cM pw, posM) ∧ lookG openSeen importedModules pw (boot_heap w.params) sT.abs = (true, openGood (view pw [71]) (looseM pw)) ∧ obsM sT.abs = valM pw w := by simpa only [Prod.mk.injEq] using r2
  obtain ⟨q5, q6⟩ := Prod.mk.inj q2
  subst q1 q5 q6
  obtain ⟨q7, q8⟩ := Prod.mk.inj q3
  have main := segRun_of r1
  rw [hA] at main p4
  rw [p4] at main
  have fin := fin_ok w sT.abs (cM pw) posM
  have rest : topRun treeTable pw w 11 (some (.ref 6)) (3600 + 2) sA (restOf (behindTheImports pw ++ []) (envM pw) (cM pw) default framesM) = some sT.abs := piece_app main (piece_nil fin)
  rw [List.append_nil] at rest
  have blk := piece_block (block_ok w sA (cM pw)) rest
  have all : topRun treeTable pw w 11 (some (.ref 6)) (12 + (1 + (3600 + 2))) ⟨boot_heap w.params, Array.mk [], boot_drawn, boot_toks, os⟩ (topStub pw) = some sT.abs := by
    refine go_top (s' := sA) (t' := tA) ?_ ?_
    · exact p1
    · rw [p3]; exact blk
  have r := topRun_mono (7130 - (12 + (1 + (3600 + 2)))) _ _ _ _ all
  rw [show (12 + (1 + (3600 + 2))) + (7130 - (12 + (1 + (3600 + 2)))) = 7130 by omega] at r
  have t : topFrom treeTable pw w 7130 ⟨boot_heap w.params, Array.mk [], boot_drawn, boot_toks, os⟩ = some sT.abs := by
    unfold topFrom
    dsimp only
    rw [z1, z2, z3, r]
    show (match staticsOk (importedModules pw.main.body) (boot_heap w.params) sT.abs.heap && namesBound pw sT.abs.heap && gensDone sT.abs && laidKept (boot_heap w.params) sT.abs.heap with | true => _ | false => _) = _
    rw [q7]
  unfold openEnds
  rw [e]
  show (topFrom treeTable pw w 7130 _).map _ = _
  rw [t]
  exact congrArg some (Prod.ext q8 q4)

theorem fragOf_lookup {h : Heap} {a : Addr} {o : Obj} : ∀ {as : List Addr}, (fragOf h as).lookup a = some o → h.get? a = some o
  | [], e => by simp [fragOf] at e
  | b :: as, e => by
    unfold fragOf at e
    rw [List.filterMap_cons] at e
    cases hb : h.get? b with
    | none => rw [hb] at e; exact fragOf_lookup (as := as) e
    | some ob =>
      rw [hb] at e
      simp only [Option.map_some, List.lookup_cons] at e
      cases hab : a == b with
      | true => rw [hab] at e; cases e; rw [beq_iff_eq.mp hab]; exact hb
      | false => rw [hab] at e; exact fragOf_lookup (as := as) e
theorem fragOf_in (h : Heap) (as : List Addr) : (fragOf h as).In h := fun _ _ e => fragOf_lookup e

noncomputable def mkB (w : World) (s : Shared) (mg mb : Str → Option Value) : Base := ⟨pw, w, fragOf s.heap asM, s.heap, s.os, mg, mb⟩

theorem fn_of {B : Base} {fa : Addr} {d : Stmt} (e : obsFn B.K fa = valFn d) : FnOk B fa d := by
  unfold obsFn valFn at e
  split at e
  · rename_i oc od fd osl ho
    simp only [Option.some.injEq, Prod.mk.injEq] at e
    obtain ⟨e1, e2, e3, e4⟩ := e
    refine ⟨⟨fd.qualname, fd.doc, fd.pyModule, fd.code, oc, od, osl, ?_, e2⟩, .inl e3⟩
    rw [ho]
    have : fd = fdOf d fd.qualname fd.doc fd.pyModule fd.code := by
      obtain ⟨⟩ := fd
      simp only [fdOf, fnOf, FuncData.mk.injEq] at e1 ⊢
      simp_all
    rw [← this]
  · cases e
theorem ns_ref {K : Frag} {x : Str} {a : Addr} (e : obsNs K x = some (some (.ref a))) : nsIn K mainGlobals x = some (some (.ref a)) := by
  unfold obsNs at e
  cases h : nsIn K mainGlobals x with
  | none => rw [h] at e; cases e
  | some o =>
    cases o with
    | none => rw [h] at e; cases e
    | some v =>
      rw [h] at e
      simp only [Option.map_some, Option.some.injEq] at e
      cases v <;> simp [strip] at e
      rw [e]
theorem ns_none {K : Frag} {x : Str} (e : obsNs K x = some none) : nsIn K mainGlobals x = some none := by
  unfold obsNs at e
  cases h : nsIn K mainGlobals x with
  | none => rw [h] at e; cases e
  | some o =>
    cases o with
    | none => rfl
    | some v => rw [h] at e; cases e
theorem tup_of {B : Base} (hB : B.K.In B.h₀) {a : Addr} {is : List Int} (e : obsTup B.K a = some (.type "tuple", none, #[], is.map fun i => .int i 0)) : VRel [] [] B.h₀ (tup (is.map AVal.int)) (.ref a) := by
  unfold obsTup at e
  split at e
  · rename_i c d xs n sl ho
    simp only [Option.some.injEq, Prod.mk.injEq] at e
    obtain ⟨rfl, rfl, rfl, e⟩ := e
    have rel : ∀ (is : List Int) (vs : List Value), vs.map strip = is.map (fun i => Value.int i 0) → IRel [] [] B.h₀ (tup (is.map AVal.int)) vs := by
      intro is
      induction is with
      | nil => intro vs h; simp at h; subst h; simp [IRel]
      | cons i r ih =>
        intro vs h
        cases vs with
        | nil => simp at h
        | cons v q =>
          simp only [List.map_cons, List.cons.injEq] at h
          simp only [List.map_cons, IRel]
          refine ⟨v, q, rfl, ?_, ih q h.2⟩
          have hv := h.1
          cases v <;> simp [strip] at hv
          simp only [VRel]; exact ⟨_, by rw [hv]⟩
    refine VRel.ofTup (vs := xs.toList) (by simp) (by simp) ⟨n, by simpa using hB _ _ ho⟩ (rel is xs.toList e)
  · cases e
theorem tab_of {B : Base} (hB : B.K.In B.h₀) {a : Addr} {ks : List (Str × Value)} (hd : (a == sysModules) = false) (hn : (ks.map (·.1)).Nodup) (e : obsTab B.K a = some (.type "dict", none, #[], ks.map fun p => (PyData.keyHash B.w.params p.1, .str p.1 0, p.2))) : TabIs B a ks := by
  unfold obsTab at e
  split at e
  · rename_i c d es n sl ho
    simp only [Option.some.injEq, Prod.mk.injEq] at e
    obtain ⟨rfl, rfl, rfl, e⟩ := e
    have gen : ∀ (ks : List (Str × Value)) (l : List DictEntry), (l.map fun e => (e.hash, strip e.key, strip e.val)) = ks.map (fun p => (PyData.keyHash B.w.params p.1, Value.str p.1 0, p.2)) →
        ∃ kvs : List (Str × Value), Pairs (PySem.strKind B.prog B.w) l kvs ∧ (kvs.map fun p => (p.1, strip p.2)) = ks ∧ ∀ x ∈ l, ∃ k, (PySem.strKind B.prog B.w).is k x.key = true ∧ x.hash = (PySem.strKind B.prog B.w).hash k := by
      intro ks
      induction ks with
      | nil => intro l h; simp at h; subst h; exact ⟨[], .nil, rfl, by simp⟩
      | cons p r ih =>
        intro l h
        cases l with
        | nil => simp at h
        | cons x q =>
          simp only [List.map_cons, List.cons.injEq, Prod.mk.injEq] at h
          obtain ⟨⟨h1, h2, h3⟩, h4⟩ := h
          obtain ⟨kvs, hp, hk, hx⟩ := ih q h4
          have hkey : (PySem.strKind B.prog B.w).is p.1 x.key = true := by
            cases hxk : x.key <;> rw [hxk] at h2 <;> simp [strip] at h2
            simp [PySem.strKind, Value.isStrOf, h2]
          refine ⟨(p.1, x.val) :: kvs, .cons hkey rfl hp, by rw [List.map_cons, hk, h3], fun y hy => ?_⟩
          rcases List.mem_cons.mp hy with rfl | hy
          · exact ⟨p.1, hkey, h1⟩
          · exact hx y hy
    obtain ⟨kvs, hp, hk, hx⟩ := gen ks es.toList e
    refine ⟨hd, kvs, ⟨_, es, n, hB _ _ ho, ⟨rfl, rfl, rfl⟩, rfl, fun x hxm => hx x (Array.mem_toList_iff.mpr hxm), hp, ?_⟩, hk⟩
    rw [← hk, List.map_map] at hn
    exact hn
  · cases e

theorem mem_of_lookup'' {α : Type} : ∀ {l : List (Addr × α)} {n : Addr} {c : α}, l.lookup n = some c → (n, c) ∈ l
  | (m, d) :: r, n, c, h => by
    rw [List.lookup_cons] at h
    cases e : n == m with
    | true => rw [e] at h; cases h; rw [beq_iff_eq.mp e]; exact List.mem_cons_self
    | false => rw [e] at h; exact List.mem_cons_of_mem _ (mem_of_lookup'' h)

theorem glob_of {B : Base} (hB : B.K.In B.h₀) {x : Str} {a : AVal} (ok : okG a = true) (e : obsG B.K x = valG a) : GlobIs B x a := by
  unfold obsG at e
  cases h : nsIn B.K mainGlobals x with
  | none => rw [h] at e; cases e
  | some o =>
    cases o with
    | none => rw [h] at e; cases e
    | some v =>
      rw [h] at e
      simp only [Option.map_some, valG, Option.some.injEq] at e
      refine ⟨v, h, ?_⟩
      split at e
      · rename_i t
        split at e
        · rename_i r hr
          cases a with
          | int i => cases e
          | con c => cases e
          | cons y ys =>
            simp only [okG, decide_eq_true_eq] at ok
            rw [← ok]
            simp only [Sum.inr.injEq] at e
            rw [e] at hr
            exact tup_of hB hr
          | _ => cases ok
        · cases a with
          | con c => cases e; simp only [VRel]
          | int i => cases e
          | _ => cases e
      · rename_i hv
        cases a with
        | int i => cases v <;> simp [strip] at e; simp only [VRel]; exact ⟨_, by rw [e]⟩
        | con c =>
          cases c with
          | ref r => cases v <;> simp [strip] at e; exact absurd rfl (hv _)
          | _ => cases ok
        | _ => cases e
theorem law_of {w : World} {s : Shared} (e : obsM s = valM pw w) : nsIn (fragOf s.heap asM) mainGlobals (Str.ofString "law") = some (some (.ref 478)) := by
  have h : fnT.map (fun p => (obsNs (fragOf s.heap asM) p.1, keepIn (fragOf s.heap asM) (.ref p.2))) = fnT.map fun p => (some (some (.ref p.2)), true) := congrArg Obs.fnames e
  have h := List.map_inj_left.mp h (Str.ofString "law", 478) (List.mem_append_right _ (List.mem_singleton.mpr rfl))
  exact ns_ref (Prod.mk.inj h).1
theorem facts_of {w : World} {s : Shared} {mg mb : Str → Option Value} (e : obsM s = valM pw w) : Facts (mkB w s mg mb) := by
  have hin : (mkB w s mg mb).K.In (mkB w s mg mb).h₀ := fragOf_in _ _
  have e1 : fnsM.map (fun p => obsFn (fragOf s.heap asM) p.2) = fnsM.map (fun x => valFn (stG pw x.1)) := congrArg Obs.fns e
  have e1 := List.map_inj_left.mp e1
  have e2 : mtsM.map (fun p => obsFn (fragOf s.heap asM) p.2) = mtsM.map (fun x => valFn (mtG pw x.1)) := congrArg Obs.mts e
  have e2 := List.map_inj_left.mp e2
  have e3 : fnT.map (fun p => (obsNs (fragOf s.heap asM) p.1, keepIn (fragOf s.heap asM) (.ref p.2))) = fnT.map (fun p => (some (some (.ref p.2)), true)) := congrArg Obs.fnames e
  have e3 := List.map_inj_left.mp e3
  have e4 : globTab.map (fun p => obsG (fragOf s.heap asM) p.1) = globTab.map (fun p => valG p.2) := congrArg Obs.globs e
  have e4 := List.map_inj_left.mp e4
  have e5 : builtTab.map (fun p => obsNs (fragOf s.heap asM) p.1) = builtTab.map (fun _ => some none) := congrArg Obs.bnames e
  have e5 := List.map_inj_left.mp e5
  have e6 : methTab.map (fun p => (findIn (fragOf s.heap asM) (.ref 422) p.1, typeIn (fragOf s.heap asM) (.ref p.2), keepIn (fragOf s.heap asM) (.ref p.2))) = methTab.map (fun p => (some (some (.ref p.2)), some (.type "function"), true)) := congrArg Obs.mnames e
  have e6 := List.map_inj_left.mp e6
  have e7 : anM.map (fun n => (findIn (fragOf s.heap asM) (.ref 422) n, takerIn (fragOf s.heap asM) 422 n)) = anM.map (fun _ => (some none, some none)) := congrArg Obs.anames e
  have e7 := List.map_inj_left.mp e7
  have e8 : tabsTab.map (fun x => obsTab (fragOf s.heap asM) x.1) = tabsTab.map (fun x => some (.type "dict", none, #[], x.2.map fun p => tabE w.params p.1 p.2)) := congrArg Obs.tabs e
  have e8 := List.map_inj_left.mp e8
  have e9 := Prod.mk.inj (congrArg Obs.init e)
  have e10 := congrArg Obs.cls e
  clear e
  have g1 : ∀ p ∈ globTab, okG p.2 = true := by decide +kernel
  have g2 : ∀ p ∈ builtTab, bootBuiltins p.1 = some p.2 ∧ p.1 ≠ Str.ofString "__name__" := by decide +kernel
  have g3 : ∀ p ∈ tabsTab, (p.1 == sysModules) = false ∧ (p.2.map (·.1)).Nodup := by decide +kernel
  refine ⟨fun k fa h => fn_of (B := mkB w s mg mb) (e1 (k, fa) h), fun k fa h => fn_of (B := mkB w s mg mb) (e2 (k, fa) h), fun x fa h => ?_, fun x a h => ?_, fun x c h => ?_, fun x fa h => ?_, e9, fun x h => Prod.mk.inj (e7 x h), ?_, fun d ks h => ?_⟩
  · obtain ⟨h1, h2⟩ := Prod.mk.inj (e3 (x, fa) (List.mem_append_left _ (mem_of_lookup h)))
    exact ⟨⟨_, ns_ref h1, by simp only [VRel]⟩, .inl h2⟩
  · have hm := mem_of_lookup h
    exact glob_of hin (g1 _ hm) (e4 _ hm)
  · have hm := mem_of_lookup h
    exact ⟨ns_none (e5 _ hm), g2 _ hm⟩
  · obtain ⟨h1, h2⟩ := Prod.mk.inj (e6 (x, fa) (mem_of_lookup h))
    obtain ⟨h2, h3⟩ := Prod.mk.inj h2
    exact ⟨⟨h1, h2⟩, .inl h3⟩
  · obtain ⟨h1, h2⟩ := Prod.mk.inj e10
    obtain ⟨h2, h3⟩ := Prod.mk.inj h2
    obtain ⟨h3, h4⟩ := Prod.mk.inj h3
    obtain ⟨a1, h1⟩ := List.cons.inj h1
    obtain ⟨a2, h1⟩ := List.cons.inj h1
    exact ⟨a1, a2, (List.cons.inj h1).1, h2, h3, h4⟩
  · have hm := mem_of_lookup'' h
    exact tab_of hin (g3 _ hm).1 (g3 _ hm).2 (e8 _ hm)

theorem itT {b : Bool} {X Y : Prop} (hb : b = true) (h : X) : if b = true then X else Y := by rw [if_pos hb]; exact h
theorem itF {b : Bool} {X Y : Prop} (hb : b = false) (h : Y) : if b = true then X else Y := by rw [if_neg (by rw [hb]; exact Bool.false_ne_true)]; exact h
theorem itC {b : Bool} {X Y : Prop} (h1 : b = true → X) (h2 : b = false → Y) : if b = true then X else Y := by
  cases b
  · exact itF rfl (h2 rfl)
  · exact itT rfl (h1 rfl)
theorem ifd {p : Prop} [Decidable p] {X Y : Prop} (h1 : p → X) (h2 : ¬ p → Y) : if decide p = true then X else Y := by
  by_cases h : p
  · rw [if_pos (decide_eq_true h)]; exact h1 h
  · rw [if_neg (by simpa using h)]; exact h2 h

section
variable {B : Base} {C : Cx} {σ : Store}
theorem c_num (F : Facts B) (hr : 1 ≤ C.room) {v : Int} {Q : AVal → Store → Prop} (h : Q (tup [.str (Str.ofString "k"), .int (v % 4294967296)]) σ) :
    OC B C (fun cs => call (.ref 28) cs) (tup [.int v]) σ Q := by
  refine call_def (ns := [Str.ofString "value"]) (F.fn 3 28 (by decide)).at_ hr ?_ (by decide) ?_ List.nodup_nil fun q doc pm cdv L => ?_
  · exact args1 fun _ _ _ _ _ => rfl
  · intro n hn
    rw [List.mem_singleton.mp hn]
    exact .inl rfl
  refine s_cons ?_
  refine s_return ?_
  refine r_Tuple ?_
  refine r_cons ?_
  refine r_str ?_
  refine r_cons ?_
  refine r_BinOp ?_
  refine r_name rfl ?_
  refine r_g F rfl ?_
  refine o_mask ?_
  refine r_nil ?_
  exact ⟨Nat.le_of_ble_eq_true rfl, h⟩
theorem c_signedA (F : Facts B) (hr : 1 ≤ C.room) {v : Int} {Q : AVal → Store → Prop} (h : Q (.int (if v ≥ 2147483648 then v - 4294967296 else v)) σ) : OC B C (fun cs => call (.ref 46) cs) (tup [.int v]) σ Q := by
  refine call_def (ns := [Str.ofString "value"]) (F.fn 14 46 (by decide)).at_ hr ?_ (by decide) ?_ List.nodup_nil fun q doc pm cdv L => ?_
  · exact args1 fun _ _ _ _ _ => rfl
  · intro n hn
    rw [List.mem_singleton.mp hn]
    exact .inl rfl
  refine s_cons ?_
  refine s_return ?_
  refine r_IfExp ?_
  refine t_Compare ?_
  refine r_name rfl ?_
  refine r_g F rfl ?_
  refine o_ge ?_
  refine ⟨_, rfl, ?_⟩
  refine ifd (fun hv => ?_) (fun hv => ?_)
  · rw [if_pos hv] at h
    refine r_BinOp ?_
    refine r_name rfl ?_
    refine r_g F rfl ?_
    refine o_sub ?_
    exact h
  · rw [if_neg hv] at h
    refine r_name rfl ?_
    exact h
end

/-! the terms' own things -/
abbrev MM : Int := 4294967296
abbrev kK (v : Int) : AVal := tup [.str (Str.ofString "k"), .int v]
abbrev kR (n : Nat) : AVal := tup [.str (Str.ofString "r"), .int n]
noncomputable def keysD : Nat → List AVal → List (AVal × AVal)
  | _, [] => []
  | n, k :: r => (k, kR n) :: keysD (n + 1) r
theorem keysD_len : ∀ (n : Nat) (ks : List AVal), (keysD n ks).length = ks.length
  | _, [] => rfl
  | n, _ :: r => by simp [keysD, keysD_len (n + 1) r]
theorem keysD_mem : ∀ {n : Nat} {ks : List AVal} {p : AVal × AVal}, p ∈ keysD n ks → p.1 ∈ ks
  | _, [], p, h => by cases h
  | n, k :: r, p, h => by
    rcases List.mem_cons.mp h with e | h
    · rw [e]; exact List.mem_cons_self ..
    · exact List.mem_cons_of_mem _ (keysD_mem h)
theorem keysD_none : ∀ {n : Nat} {ks : List AVal} {k : AVal}, k ∉ ks → dget (keysD n ks) k = none
  | _, [], k, h => rfl
  | n, k' :: r, k, h => by
    rw [keysD, dget, if_neg (fun e : k' = k => h (e ▸ List.mem_cons_self ..)), keysD_none (fun hm => h (List.mem_cons_of_mem _ hm))]
theorem keysD_some : ∀ {n : Nat} {ks : List AVal} {k : AVal} {i : Nat}, ks.Nodup → ks[i]? = some k → dget (keysD n ks) k = some (kR (n + i))
  | _, [], k, i, _, h => by simp at h
  | n, k' :: r, k, 0, hn, h => by
    simp only [List.getElem?_cons_zero, Option.some.injEq] at h
    rw [keysD, dget, if_pos h]; rfl
  | n, k' :: r, k, i + 1, hn, h => by
    rw [List.nodup_cons] at hn
    simp only [List.getElem?_cons_succ] at h
    rw [keysD, dget, if_neg (fun e : k' = k => hn.1 (e ▸ List.mem_of_getElem? h)), keysD_some hn.2 h, Nat.add_right_comm, Nat.add_assoc]
theorem keysD_snoc (k : AVal) : ∀ (n : Nat) (ks : List AVal), keysD n (ks ++ [k]) = keysD n ks ++ [(k, kR (n + ks.length))]
  | n, [] => rfl
  | n, _ :: r => by
    rw [List.cons_append, keysD, keysD, keysD_snoc k (n + 1) r, List.length_cons, show n + 1 + r.length = n + (r.length + 1) by omega]; first | done | rfl
theorem keysD_put {ks : List AVal} {k : AVal} (h : k ∉ ks) : dput (keysD 0 ks) k (kR ks.length) = keysD 0 (ks ++ [k]) := by
  rw [dput, keysD_none h, keysD_snoc]; simp
theorem dget_dset {k k' v : AVal} : ∀ {es : List (AVal × AVal)}, dget (dset es k v) k' = if k' = k then (dget es k).map (fun _ => v) else dget es k'
  | [] => by simp [dset, dget]
  | (a, b) :: es => by
    have ih := dget_dset (k := k) (k' := k') (v := v) (es := es)
    by_cases h : a = k
    · by_cases h2 : k' = k
      · simp [dset, dget, h, h2]
      · rw [if_neg h2] at ih ⊢
        have : a ≠ k' := fun e => h2 (e ▸ h)
        simp [dset, dget, h, ih, Ne.symm h2]
    · by_cases h2 : k' = k
      · subst h2
        rw [if_pos rfl] at ih ⊢
        simp [dset, dget, h, ih]
      · rw [if_neg h2] at ih ⊢
        simp [dset, dget, h, ih]
theorem dget_snoc {k k' v : AVal} : ∀ {es : List (AVal × AVal)}, dget (es ++ [(k, v)]) k' = match dget es k' with | some x => some x | none => if k = k' then some v else none
  | [] => by simp [dget]
  | (a, b) :: es => by
    rw [List.cons_append, dget, dget]
    by_cases h : a = k'
    · rw [if_pos h, if_pos h]
    · rw [if_neg h, if_neg h, dget_snoc]
theorem dget_dput {es : List (AVal × AVal)} {k k' v : AVal} : dget (dput es k v) k' = if k' = k then some v else dget es k' := by
  rw [dput]
  cases h : dget es k with
  | none =>
    simp only [Option.isSome_none, Bool.false_eq_true, if_false]
    rw [dget_snoc]
    by_cases e : k' = k
    · subst e; rw [h]
    · rw [if_neg e]
      cases dget es k' with
      | some x => rfl
      | none => simp [Ne.symm e]
  | some x =>
    simp only [Option.isSome_some, if_true]
    rw [dget_dset, h]; rfl
theorem dset_len {k v : AVal} : ∀ {es : List (AVal × AVal)}, (dset es k v).length = es.length
  | [] => rfl
  | (a, b) :: es => by
    rw [dset]; split <;> simp [dset_len]
theorem dput_len {es : List (AVal × AVal)} {k v : AVal} : (dput es k v).length ≤ es.length + 1 := by
  rw [dput]; split
  · rw [dset_len]; omega
  · simp
theorem dset_mem {k v : AVal} : ∀ {es : List (AVal × AVal)} {p : AVal × AVal}, p ∈ dset es k v → ∃ q ∈ es, p.1 = q.1
  | [], p, h => by cases h
  | (a, b) :: es, p, h => by
    rw [dset] at h
    split at h <;> rcases List.mem_cons.mp h with e | h
    · exact ⟨_, List.mem_cons_self .., by rw [e]⟩
    · obtain ⟨q, hq, e⟩ := dset_mem h; exact ⟨q, List.mem_cons_of_mem _ hq, e⟩
    · exact ⟨_, List.mem_cons_self .., by rw [e]⟩
    · obtain ⟨q, hq, e⟩ := dset_mem h; exact ⟨q, List.mem_cons_of_mem _ hq, e⟩
theorem dput_all {P : AVal → Prop} {es : List (AVal × AVal)} {k v : AVal} (h : ∀ p ∈ es, P p.1) (hk : P k) : ∀ p ∈ dput es k v, P p.1 := by
  intro p hp
  rw [dput] at hp
  split at hp
  · obtain ⟨q, hq, e⟩ := dset_mem hp; rw [e]; exact h q hq
  · rcases List.mem_append.mp hp with hp | hp
    · exact h p hp
    · rw [List.mem_singleton.mp hp]; exact hk

/-- of the five, each -/
theorem lt5 {P : Nat → Prop} (h0 : P 0) (h1 : P 1) (h2 : P 2) (h3 : P 3) (h4 : P 4) (n : Nat) (h : n < 5) : P n := by
  cases n with
  | zero => exact h0
  | succ n => cases n with
    | zero => exact h1
    | succ n => cases n with
      | zero => exact h2
      | succ n => cases n with
        | zero => exact h3
        | succ n => cases n with
          | zero => exact h4
          | succ n => exact absurd h (Nat.not_lt_of_le (Nat.le_add_left 5 n))
structure TS where
  ks : List AVal
  sm : List (AVal × AVal)
  sh : List (AVal × AVal)
  hm : List (AVal × AVal)
structure TOk (N : Nat) (σ : Store) (T : TS) : Prop where
  self : SelfOk σ
  keys : σ[3]? = some (.dict (keysD 0 T.ks))
  sums : σ[4]? = some (.dict T.sm)
  shapes : σ[5]? = some (.dict T.sh)
  homes : σ[6]? = some (.dict T.hm)
  nodup : T.ks.Nodup
  tk : ∀ k ∈ T.ks, isTK k = true
  smI : ∀ p ∈ T.sm, isIK p.1 = true
  shI : ∀ p ∈ T.sh, isIK p.1 = true
  hmI : ∀ p ∈ T.hm, isIK p.1 = true
  ksL : T.ks.length ≤ N
  smL : T.sm.length ≤ N
  shL : T.sh.length ≤ N
  hmL : T.hm.length ≤ N
  small : N ≤ 900000
/-- all but the terms' own four places -/
noncomputable def Fr (σ σ' : Store) : Prop := ∀ k o, σ[k]? = some o → k ≠ 3 → k ≠ 4 → k ≠ 5 → k ≠ 6 → σ'[k]? = some o
theorem Fr.refl (σ : Store) : Fr σ σ := fun _ _ h _ _ _ _ => h
theorem Fr.trans {a b c : Store} (x : Fr a b) (y : Fr b c) : Fr a c := fun k o h h3 h4 h5 h6 => y k o (x k o h h3 h4 h5 h6) h3 h4 h5 h6
theorem isTK_T {k : AVal} (h : isTK k = true) : isT k = true := by
  rw [isTK] at h; simp only [Bool.and_eq_true] at h; exact h.1.1
theorem TOk.keysT {N : Nat} {σ : Store} {T : TS} (x : TOk N σ T) : ∀ p ∈ keysD 0 T.ks, isT p.1 = true := fun p hp => isTK_T (x.tk _ (keysD_mem hp))
theorem set_ne {σ : Store} {i j : Nat} {o : AObj} (h : i ≠ j) : (σ.set i o)[j]? = σ[j]? := List.getElem?_set_ne h
theorem set_at {σ : Store} {i : Nat} {o o' : AObj} (h : σ[i]? = some o') : (σ.set i o)[i]? = some o := by
  have := (List.getElem?_eq_some_iff.mp h).1
  rw [List.getElem?_set_self this]
theorem SelfOk.set {σ : Store} {i : Nat} {o : AObj} (x : SelfOk σ) (h1 : i ≠ 1) (h2 : i ≠ 2) : SelfOk (σ.set i o) := ⟨(set_ne h2).trans x.1, (set_ne h1).trans x.2⟩
theorem Fr.set {σ : Store} {i : Nat} {o : AObj} (hi : i = 3 ∨ i = 4 ∨ i = 5 ∨ i = 6) : Fr σ (σ.set i o) := fun k o' h h3 h4 h5 h6 =>
  (set_ne fun e => hi.elim (fun r => h3 (e.symm.trans r)) fun hi => hi.elim (fun r => h4 (e.symm.trans r)) fun hi => hi.elim (fun r => h5 (e.symm.trans r)) fun r => h6 (e.symm.trans r)).trans h
theorem app_at {σ τ : Store} {i : Nat} {o : AObj} (h : σ[i]? = some o) : (σ ++ τ)[i]? = some o := by
  rw [List.getElem?_append_left (List.getElem?_eq_some_iff.mp h).1]; exact h
theorem Fr.app (σ τ : Store) : Fr σ (σ ++ τ) := fun k o h _ _ _ _ => app_at h
theorem SelfOk.app {σ τ : Store} (x : SelfOk σ) : SelfOk (σ ++ τ) := ⟨app_at x.1, app_at x.2⟩
theorem TOk.app {N : Nat} {σ τ : Store} {T : TS} (x : TOk N σ T) : TOk N (σ ++ τ) T :=
  { x with self := x.self.app, keys := app_at x.keys, sums := app_at x.sums, shapes := app_at x.shapes, homes := app_at x.homes }
/-- a place beyond the terms' changes -/
theorem TOk.other {N : Nat} {σ : Store} {T : TS} {i : Nat} {o : AObj} (x : TOk N σ T) (hi : 7 ≤ i ∨ i = 0) : TOk N (σ.set i o) T :=
  { x with self := x.self.set (by omega) (by omega), keys := (set_ne (by omega)).trans x.keys, sums := (set_ne (by omega)).trans x.sums, shapes := (set_ne (by omega)).trans x.shapes, homes := (set_ne (by omega)).trans x.homes }
theorem TOk.more {N N' : Nat} {σ : Store} {T : TS} (x : TOk N σ T) (h : N ≤ N') (hs : N' ≤ 900000) : TOk N' σ T :=
  { x with ksL := Nat.le_trans x.ksL h, smL := Nat.le_trans x.smL h, shL := Nat.le_trans x.shL h, hmL := Nat.le_trans x.hmL h, small := hs }
theorem TOk.addKey {N : Nat} {σ : Store} {T : TS} {k : AVal} (x : TOk N σ T) (hk : isTK k = true) (hn : k ∉ T.ks) (hs : N + 1 ≤ 900000) :
    TOk (N + 1) (σ.set 3 (.dict (keysD 0 (T.ks ++ [k])))) { T with ks := T.ks ++ [k] } where
  self := x.self.set (by omega) (by omega)
  keys := set_at x.keys
  sums := (set_ne (by omega)).trans x.sums
  shapes := (set_ne (by omega)).trans x.shapes
  homes := (set_ne (by omega)).trans x.homes
  nodup := by
    refine List.nodup_append.mpr ⟨x.nodup, by simp, fun a ha b hb e => ?_⟩
    rw [List.mem_singleton.mp hb] at e
    exact hn (e ▸ ha)
  tk := fun a ha => (List.mem_append.mp ha).elim (x.tk a) fun h => by rw [List.mem_singleton.mp h]; exact hk
  smI := x.smI
  shI := x.shI
  hmI := x.hmI
  ksL := by have := x.ksL; simp; omega
  smL := by have := x.smL; simp only; omega
  shL := by have := x.shL; simp only; omega
  hmL := by have := x.hmL; simp only; omega
  small := hs
theorem TOk.putSum {N : Nat} {σ : Store} {T : TS} {i : Int} {v : AVal} (x : TOk N σ T) (hs : N + 1 ≤ 900000) : TOk (N + 1) (σ.set 4 (.dict (dput T.sm (.int i) v))) { T with sm := dput T.sm (.int i) v } :=
  { (x.more (by omega) hs : TOk (N + 1) σ T) with self := x.self.set (by omega) (by omega), keys := (set_ne (by omega)).trans x.keys, sums := set_at x.sums, shapes := (set_ne (by omega)).trans x.shapes, homes := (set_ne (by omega)).trans x.homes, smI := dput_all (P := fun k => isIK k = true) x.smI rfl, smL := Nat.le_trans dput_len (Nat.succ_le_succ x.smL) }
theorem TOk.putShape {N : Nat} {σ : Store} {T : TS} {i : Int} {v : AVal} (x : TOk N σ T) (hs : N + 1 ≤ 900000) : TOk (N + 1) (σ.set 5 (.dict (dput T.sh (.int i) v))) { T with sh := dput T.sh (.int i) v } :=
  { (x.more (by omega) hs : TOk (N + 1) σ T) with self := x.self.set (by omega) (by omega), keys := (set_ne (by omega)).trans x.keys, sums := (set_ne (by omega)).trans x.sums, shapes := set_at x.shapes, homes := (set_ne (by omega)).trans x.homes, shI := dput_all (P := fun k => isIK k = true) x.shI rfl, shL := Nat.le_trans dput_len (Nat.succ_le_succ x.shL) }
theorem TOk.putHome {N : Nat} {σ : Store} {T : TS} {i : Int} {v : AVal} (x : TOk N σ T) (hs : N + 1 ≤ 900000) : TOk (N + 1) (σ.set 6 (.dict (dput T.hm (.int i) v))) { T with hm := dput T.hm (.int i) v } :=
  { (x.more (by omega) hs : TOk (N + 1) σ T) with self := x.self.set (by omega) (by omega), keys := (set_ne (by omega)).trans x.keys, sums := (set_ne (by omega)).trans x.sums, shapes := (set_ne (by omega)).trans x.shapes, homes := set_at x.homes, hmI := dput_all (P := fun k => isIK k = true) x.hmI rfl, hmL := Nat.le_trans dput_len (Nat.succ_le_succ x.hmL) }

/-! forms: a whole number and a times for each of the five -/
structure Form where
  w : Int
  c : Nat → Int
noncomputable def itemsFrom (c : Nat → Int) : List Nat → List (Nat × Int)
  | [] => []
  | n :: r => if c n % MM = 0 then itemsFrom c r else (n, c n % MM) :: itemsFrom c r
noncomputable def Form.its (f : Form) : List (Nat × Int) := itemsFrom f.c [0, 1, 2, 3, 4]
noncomputable def pairsV : List (Nat × Int) → AVal
  | [] => .nil
  | (n, k) :: r => .cons (tup [.int n, .int k]) (pairsV r)
theorem pairsV_ok : ∀ l : List (Nat × Int), isT (pairsV l) = true ∧ isKey (pairsV l) = true ∧ isKeyL (pairsV l) = true ∧ okE 4 (pairsV l) = true ∧ okE.okEs 3 (pairsV l) = true
  | [] => ⟨rfl, rfl, rfl, rfl, rfl⟩
  | (n, k) :: r => by
    obtain ⟨_, h1, h2, h3, h4⟩ := pairsV_ok r
    refine ⟨rfl, ?_, ?_, ?_, ?_⟩
    · simp only [pairsV, isKey, isKeyL, h2, Bool.and_self]
    · simp only [pairsV, isKey, isKeyL, h2, Bool.and_self]
    · simp only [pairsV, okE, okE.okEs, h4, Bool.and_self]
    · simp only [pairsV, okE, okE.okEs, h4, Bool.and_self]
theorem pairsV_len : ∀ l : List (Nat × Int), alen (pairsV l) = l.length
  | [] => rfl
  | (n, k) :: r => by simp [pairsV, alen, pairsV_len r]
theorem pairs_small {l : List (Nat × Int)} (h : l.length ≤ 5) : alen (pairsV l) ≤ 1000000 := by rw [pairsV_len]; exact Nat.le_trans h (by decide)
theorem pairsV_inj : ∀ {l m : List (Nat × Int)}, pairsV l = pairsV m → l = m
  | [], [], _ => rfl
  | [], (_, _) :: _, h => by simp [pairsV] at h
  | (_, _) :: _, [], h => by simp [pairsV] at h
  | (n, k) :: r, (n', k') :: r', h => by
    simp only [pairsV, AVal.cons.injEq, AVal.int.injEq, and_true] at h
    obtain ⟨⟨h1, h2⟩, h3⟩ := h
    rw [pairsV_inj h3, h2, Int.ofNat.inj h1]
noncomputable def headKey (s : String) (w : Int) (l : List (Nat × Int)) : AVal := tup [.str (Str.ofString s), .int w, pairsV l]
abbrev sumKey (w : Int) (l : List (Nat × Int)) : AVal := headKey "sum" w l
theorem okE_str {n : Nat} {s : Str} (h : PyData.strOk s = true) : okE n (.str s) = true := by cases n <;> simpa [okE] using h
theorem okE_int {n : Nat} {i : Int} : okE n (.int i) = true := by cases n <;> rfl
theorem headKey_tk {s : String} {w : Int} {l : List (Nat × Int)} (hs : PyData.strOk (Str.ofString s) = true) : isTK (headKey s w l) = true := by
  obtain ⟨_, h1, h2, h3, h4⟩ := pairsV_ok l
  have h5 : okE 7 (pairsV l) = true := by
    match l, h3 with
    | [], _ => rfl
    | (n, k) :: r, h =>
      obtain ⟨_, _, _, _, h4⟩ := pairsV_ok r
      clear h1 h2 h3
      simp only [pairsV, okE, okE.okEs]
      have : ∀ r : List (Nat × Int), okE.okEs 6 (pairsV r) = true := by
        intro r
        induction r with
        | nil => rfl
        | cons x r ih => obtain ⟨n, k⟩ := x; simp only [pairsV, okE, okE.okEs, ih, Bool.and_self]
      simp only [this, Bool.and_self]
  simp only [headKey, isTK, isT, isKey, isKeyL, h1, hs, okE, okE.okEs, h5, Bool.and_self]
noncomputable def atomKeys : List AVal := [tup [.str (Str.ofString "in"), .int 0], tup [.str (Str.ofString "in"), .int 1], tup [.str (Str.ofString "in"), .int 2],
  tup [.str (Str.ofString "home"), tup [.str (Str.ofString "name"), .str (Str.ofString "x")]], tup [.str (Str.ofString "home"), tup [.str (Str.ofString "slot"), .int 0]]]
noncomputable def nameShape : AVal := tup [.str (Str.ofString "name"), .lst .nil, tup [.str (Str.ofString "x"), .int 0]]
noncomputable def homeOf (i : Nat) : Option AVal := if i = 3 then some (tup [.str (Str.ofString "name"), .str (Str.ofString "x")]) else if i = 4 then some (tup [.str (Str.ofString "slot"), .int 0]) else none
structure Good (T : TS) : Prop where
  atoms : ∃ r, T.ks = atomKeys ++ r
  sums : ∀ (i : Nat) w l, T.ks[i]? = some (sumKey w l) → dget T.sm (.int i) = some (tup [.int w, pairsV l])
  nosum : ∀ i : Nat, i < 5 → dget T.sm (.int i) = none
  shapes : ∀ i : Nat, i < 5 → dget T.sh (.int i) = if i = 3 then some nameShape else none
  homes : ∀ i : Nat, i < 5 → dget T.hm (.int i) = homeOf i
/-- a term stands for a whole and items -/
inductive WTerm (ks : List AVal) (w : Int) (l : List (Nat × Int)) (t : AVal) : Prop
  | k (hi : l = []) (ht : t = kK w)
  | a (n : Nat) (hn : n < 5) (hw : w = 0) (hi : l = [(n, 1)]) (ht : t = kR n)
  | s (i : Nat) (h0 : l ≠ []) (h1 : ¬ (w = 0 ∧ ∃ n, l = [(n, 1)])) (hk : ks[i]? = some (sumKey w l)) (ht : t = kR i)
/-- and so for a form -/
abbrev TermIs (ks : List AVal) (t : AVal) (f : Form) : Prop := WTerm ks (f.w % MM) f.its t
theorem prefix_get {ks ks' : List AVal} (h : ks <+: ks') {i : Nat} {k : AVal} (e : ks[i]? = some k) : ks'[i]? = some k := by
  obtain ⟨r, rfl⟩ := h
  rw [List.getElem?_append_left (List.getElem?_eq_some_iff.mp e).1]; exact e
theorem WTerm.mono {ks ks' : List AVal} {w : Int} {l : List (Nat × Int)} {t : AVal} (h : ks <+: ks') : WTerm ks w l t → WTerm ks' w l t
  | .k y z => .k y z
  | .a n u v y z => .a n u v y z
  | .s i u v y z => .s i u v (prefix_get h y) z
structure Nxt (N : Nat) (σ : Store) (T : TS) (σ' : Store) (T' : TS) : Prop where
  fr : Fr σ σ'
  ok : TOk N σ' T'
  good : Good T'
  pre : T.ks <+: T'.ks
theorem Nxt.trans {N N' : Nat} {a b c : Store} {A B D : TS} (x : Nxt N a A b B) (y : Nxt N' b B c D) : Nxt N' a A c D := ⟨x.fr.trans y.fr, y.ok, y.good, x.pre.trans y.pre⟩
theorem Nxt.here {N N' : Nat} {σ : Store} {T : TS} (x : TOk N σ T) (g : Good T) (h : N ≤ N') (hs : N' ≤ 900000) : Nxt N' σ T σ T := ⟨Fr.refl σ, x.more h hs, g, List.prefix_refl _⟩
theorem Nxt.more {N N' : Nat} {a b : Store} {A B : TS} (x : Nxt N a A b B) (h : N ≤ N') (hs : N' ≤ 900000) : Nxt N' a A b B := ⟨x.fr, x.ok.more h hs, x.good, x.pre⟩
theorem room_le {C : Cx} {d : Stmt} {q : Str} {doc pm cdv : Value} {L fa : Addr} {n : Nat} (h : n + 1 ≤ C.room) : n ≤ (cxOf C d q doc pm cdv L fa).room := Nat.le_sub_of_add_le h
theorem room_of {C : Cx} {d : Stmt} {q : Str} {doc pm cdv : Value} {L fa : Addr} {m n : Nat} (h : m ≤ C.room) (e : Nat.ble (n + 1) m = true := by rfl) : n ≤ (cxOf C d q doc pm cdv L fa).room := room_le (Nat.le_trans (Nat.le_of_ble_eq_true e) h)
theorem room_comp {C : Cx} {scope : Scope} {L : Addr} {n : Nat} (h : n ≤ C.room) : n ≤ (cxComp C scope L).room := h
noncomputable def two : AVal → Option (AVal × AVal)
  | .cons x (.cons y .nil) => some (x, y)
  | _ => none
noncomputable def three : AVal → Option (AVal × AVal × AVal)
  | .cons x (.cons y (.cons z .nil)) => some (x, y, z)
  | _ => none
theorem two_eq {a : AVal} {p : AVal × AVal} (h : two a = some p) : a = tup [p.1, p.2] := by
  unfold two at h
  split at h
  · cases h; rfl
  · cases h
theorem three_eq {a : AVal} {p : AVal × AVal × AVal} (h : three a = some p) : a = tup [p.1, p.2.1, p.2.2] := by
  unfold three at h
  split at h
  · cases h; rfl
  · cases h
section
variable {B : Base} {C : Cx} {l : Loc} {σ : Store}
theorem s_swap2 {t : Expr} {value : Expr} {pos} {n1 n2 : Str} {Qn : Loc → Store → Prop} {Qr : AVal → Store → Prop}
    (h : WV B C (eval value C.env) l σ fun a σ₁ => ∃ p, two a = some p ∧ Qn ((n1, p.1) :: (n2, p.2) :: l) σ₁)
    (hw : swappedStores [t] value C.env = pure (some [n1, n2]) := by rfl) (hs : swapsWithSole [t] value pos.line C.env = pure false := by rfl)
    (k1 : C.env.kindOf n1 = some .local := by rfl) (k2 : C.env.kindOf n2 = some .local := by rfl) :
    WS B C (exec (.Assign [t] value pos) C.env) l σ Qn Qr := by
  refine s_swap (W.mono h fun a σ₁ q => ?_) hs hw
  obtain ⟨p, hp, q⟩ := q
  rw [two_eq hp]
  refine ⟨rfl, rfl, tup [p.2, p.1], ?_, as_cons (b_local (as_cons (b_local (as_nil q) k1)) k2)⟩
  intro ρ av h vs i
  simp only [IRel] at i ⊢
  obtain ⟨v, r, rfl, hv, v', r', rfl, hv', rfl⟩ := i
  exact ⟨v', [v], rfl, hv', v, [], rfl, hv, rfl⟩
theorem s_swap3 {t : Expr} {value : Expr} {pos} {n1 n2 n3 : Str} {Qn : Loc → Store → Prop} {Qr : AVal → Store → Prop}
    (h : WV B C (eval value C.env) l σ fun a σ₁ => ∃ p, three a = some p ∧ Qn ((n1, p.1) :: (n2, p.2.1) :: (n3, p.2.2) :: l) σ₁)
    (hw : swappedStores [t] value C.env = pure (some [n1, n2, n3]) := by rfl) (hs : swapsWithSole [t] value pos.line C.env = pure false := by rfl)
    (k1 : C.env.kindOf n1 = some .local := by rfl) (k2 : C.env.kindOf n2 = some .local := by rfl) (k3 : C.env.kindOf n3 = some .local := by rfl) :
    WS B C (exec (.Assign [t] value pos) C.env) l σ Qn Qr := by
  refine s_swap (W.mono h fun a σ₁ q => ?_) hs hw
  obtain ⟨p, hp, q⟩ := q
  rw [three_eq hp]
  refine ⟨rfl, rfl, tup [p.2.2, p.2.1, p.1], ?_, as_cons (b_local (as_cons (b_local (as_cons (b_local (as_nil q) k1)) k2)) k3)⟩
  intro ρ av h vs i
  simp only [IRel] at i ⊢
  obtain ⟨v, r, rfl, hv, v', r', rfl, hv', v'', r'', rfl, hv'', rfl⟩ := i
  exact ⟨v'', [v', v], rfl, hv'', v', [v], rfl, hv', v, [], rfl, hv, rfl⟩
end
local macro_rules | `(tactic| walk_at "m") => `(tactic| first
  | with_reducible first | refine r_int ?_ | refine r_str ?_ | refine r_Subscript ?_ | refine r_Tuple ?_ | refine r_BinOp ?_ | refine r_Compare ?_ | refine r_UnaryOp ?_ | refine r_List ?_ | refine r_IfExp ?_ | refine r_bool ?_ | refine r_none ?_ | refine r_Dict ?_ | refine r_And ?_ | refine r_Or ?_ | refine r_BoolOp_one ?_ | refine s_cons ?_ | refine s_nil ?_ | refine s_return ?_ | refine s_if ?_ | refine t_Compare ?_ | refine t_not ?_ | refine t_and ?_ | refine t_and_nil ?_ | refine t_or ?_ | refine t_or_nil ?_ | refine o_truthy_bool ?_ | refine o_add ?_ | refine o_sub ?_ | refine o_mask ?_ | refine o_neg ?_ | refine o_lt ?_ | refine o_le ?_ | refine o_gt ?_ | refine o_ge ?_
  | (with_reducible refine (?_ : WV _ _ (eval (.Name _ _) _) _ _ _)); first | refine r_name rfl ?_ | refine r_g (by assumption) rfl ?_
  | (with_reducible refine (?_ : WL _ _ _ _ _ _)); first | refine r_cons ?_ | refine r_nil ?_
  | (with_reducible refine (?_ : ∃ _, _)); refine ⟨_, rfl, ?_⟩
  | (with_reducible refine (?_ : _ ∧ _)); first | refine ⟨rfl, ?_⟩ | refine ⟨by assumption, ?_⟩ | refine ⟨Nat.le_of_ble_eq_true rfl, ?_⟩
  | (with_reducible refine (?_ : WV _ _ (eval (.Call (.Name _ _) _ _ _) _) _ _ _)); first | refine r_CallF (by assumption) rfl ?_ | refine r_CallB (by assumption) rfl ?_
  | (with_reducible refine (?_ : WV _ _ (eval (.Call (.Attribute _ _ _) _ _ _) _) _ _ _)); refine r_MethT (by assumption) rfl ?_
  | (with_reducible refine (?_ : WV _ _ (eval (.Attribute _ _ _) _) _ _ _)); refine r_AttrT (by assumption) ?_
  | (with_reducible refine (?_ : O2 _ _ _ _ _ _ _)); first
    | (with_reducible refine (?_ : O2 _ _ (subscriptTail _ _) _ _ _ _)); first | ((with_reducible refine (?_ : O2 _ _ _ (.lst _) _ _ _)); refine o_item_lst rfl (by decide) ?_) | refine o_item rfl rfl (by decide) ?_
    | with_reducible refine o_eq (by with_unfolding_all rfl) (by with_unfolding_all rfl) ?_
    | with_reducible refine o_ne (by with_unfolding_all rfl) (by with_unfolding_all rfl) ?_
    | with_reducible refine o_in_tab (Facts.tabs (by assumption) _ _ (by with_unfolding_all rfl)) ?_
    | with_reducible refine o_in_tup rfl (by with_unfolding_all rfl) (by with_unfolding_all rfl) ?_
    | with_reducible refine o_is_none (by with_unfolding_all first | assumption | (intro v e; cases e)) ?_
    | with_reducible refine o_isnt_none (by with_unfolding_all first | assumption | (intro v e; cases e)) ?_
  | (with_reducible refine (?_ : WS _ _ _ _ _ _ _)); first
    | (with_reducible refine (?_ : WS _ _ (execs _ _) _ _ _ _)); first | refine s_cons ?_ | refine s_nil ?_
    | (with_reducible refine (?_ : WS _ _ (exec (.Assign _ _ _) _) _ _ _ _)); first | refine s_assign ?_ | refine s_swap2 ?_ | refine s_swap3 ?_
    | (with_reducible refine (?_ : WS _ _ (exec (.Expr _ _) _) _ _ _ _)); refine s_expr ?_
  | (with_reducible refine (?_ : WA _ _ _ _ _ _ _)); first | refine a_local ?_ | refine a_cell ?_ | refine a_tuple rfl rfl ?_ | refine a_tuple_lst rfl ?_ | refine a_sub ?_
  | (with_reducible refine (?_ : WAs _ _ _ _ _ _ _)); first | refine as_cons ?_ | refine as_nil ?_
  | (with_reducible refine (?_ : WB _ _ _ _ _ _)); refine t_plain ?_
  | (with_reducible refine (?_ : OC _ _ (fun cs => call (.ref 28) cs) _ _ _)); first | refine c_num (by assumption) (room_of (by assumption)) ?_ | refine c_num (by assumption) (room_le (by omega)) ?_
  | (with_reducible refine (?_ : OC _ _ (fun cs => call (.ref 46) cs) _ _ _)); refine c_signedA (by assumption) (room_of (by assumption)) ?_
  | with_reducible first | refine itT (by with_unfolding_all rfl) ?_ | refine itF (by with_unfolding_all rfl) ?_)
local macro_rules | `(tactic| walk_at "b") => `(tactic| ((fail_if_success with_reducible refine (?_ : WB _ _ (isTrue (.BoolOp _ _ _) _ _) _ _ _)); walk_at "m"))

section
variable {B : Base} {C : Cx} {σ : Store} {N : Nat} {T : TS}
theorem c_symbol (F : Facts B) (hr : 1 ≤ C.room) (H : TOk N σ T) {k : AVal} (hk : isTK k = true) {Q : AVal → Store → Prop} (h1 : ∀ i, T.ks[i]? = some k → Q (kR i) σ)
    (h2 : k ∉ T.ks → Q (kR T.ks.length) (σ.set 3 (.dict (keysD 0 (T.ks ++ [k]))))) : OC B C (fun cs => call (.ref 311) cs) (tup [.loc 2, k]) σ Q := by
  refine call_def (ns := [Str.ofString "self", Str.ofString "key"]) (F.mt 2 311 (by decide)).at_ hr ?_ (by decide) ?_ List.nodup_nil fun q doc pm cdv L => ?_
  · exact args2 fun _ _ _ _ _ _ => rfl
  · intro n hn
    rcases List.mem_cons.mp hn with e | hn
    · rw [e]; exact .inl rfl
    · rw [List.mem_singleton.mp hn]; exact .inl rfl
  have hs := H.self
  repeat walk_at "m"
  refine o_nin_T H.keys H.keysT hk ?_
  repeat walk_at "m"
  by_cases hm : k ∈ T.ks
  · obtain ⟨i, hi⟩ := List.mem_iff_getElem?.mp hm
    have hg := keysD_some (n := 0) H.nodup hi
    rw [Nat.zero_add] at hg
    rw [hg]
    repeat walk_at "m"
    refine o_get_T H.keys H.keysT hk hg ?_
    exact h1 i hi
  · rw [keysD_none hm]
    have hz : T.ks.length ≤ 900000 := Nat.le_trans H.ksL H.small
    repeat walk_at "m"
    refine o_len_T H.keys H.keysT (by rw [keysD_len]; omega) ?_
    rw [keysD_len]
    repeat walk_at "m"
    refine o_set_T H.keys H.keysT hk (by rw [keysD_len]; omega) ?_
    rw [keysD_put hm]
    have hs2 : SelfOk (σ.set 3 (.dict (keysD 0 (T.ks ++ [k])))) := hs.set (by omega) (by omega)
    repeat walk_at "m"
    have hg : dget (keysD 0 (T.ks ++ [k])) k = some (kR T.ks.length) := by rw [← keysD_put hm, dget_dput, if_pos rfl]
    refine o_get_T (set_at H.keys) (fun p hp => ?_) hk hg ?_
    rotate_left
    · exact h2 hm
    rcases List.mem_append.mp (keysD_mem hp) with h | h
    · exact isTK_T (H.tk _ h)
    · rw [List.mem_singleton.mp h]; exact isTK_T hk
end

/-- what a call binds, each name a local -/
theorem t_fix {B : Base} {C : Cx} {l : Loc} {σ : Store} {t : Sem Bool} {Q : Bool → Store → Prop} (b : Bool) (h1 : WB B C t l σ fun b' σ' => b' = b ∧ σ' = σ) (h2 : Q b σ) : WB B C t l σ Q := by
  refine W.mono h1 fun a σ₁ q => ?_
  obtain ⟨rfl, rfl⟩ := q
  exact h2
theorem names_of {d : Stmt} {ns : List Str} (h : ns.all (fun n => (dScope d).names.lookup n == some .local || (dScope d).names.lookup n == some .cell) = true) : ∀ n ∈ ns, (dScope d).names.lookup n = some .local ∨ (dScope d).names.lookup n = some .cell := fun n hn => by
  have := List.all_eq_true.mp h n hn
  simp only [Bool.or_eq_true, beq_iff_eq] at this
  exact this
section
variable {B : Base} {C : Cx} {σ : Store} {N : Nat} {T : TS}
theorem c_parts (F : Facts B) (hr : 1 ≤ C.room) (H : TOk N σ T) (G : Good T) {t : AVal} {w : Int} {l : List (Nat × Int)} (ht : WTerm T.ks w l t) {Q : AVal → Store → Prop} (h : Q (tup [.int w, pairsV l]) σ) :
    OC B C (fun cs => call (.ref 325) cs) (tup [.loc 2, t]) σ Q := by
  refine call_def (ns := [Str.ofString "self", Str.ofString "term"]) (F.mt 4 325 (by decide)).at_ hr ?_ (by decide) (names_of rfl) List.nodup_nil fun q doc pm cdv L => ?_
  · exact args2 fun _ _ _ _ _ _ => rfl
  have hs := H.self
  cases ht with
  | k hi ht =>
    subst ht
    rw [hi] at h
    repeat walk_at "m"
    exact h
  | a n hn hw hi ht =>
    subst ht
    rw [hi, hw] at h
    repeat walk_at "m"
    refine o_in_I H.sums H.smI ?_
    rw [G.nosum n hn]
    repeat walk_at "m"
    exact h
  | s i h0 h1 hk ht =>
    subst ht
    have hg := G.sums i _ _ hk
    repeat walk_at "m"
    refine o_in_I H.sums H.smI ?_
    rw [hg]
    repeat walk_at "m"
    refine o_get_I H.sums H.smI hg ?_
    exact h
theorem c_shape (F : Facts B) (hr : 1 ≤ C.room) (H : TOk N σ T) {n : Nat} {Q : AVal → Store → Prop} (h : Q ((dget T.sh (.int n)).getD .none) σ) :
    OC B C (fun cs => call (.ref 304) cs) (tup [.loc 2, kR n]) σ Q := by
  refine call_def (ns := [Str.ofString "self", Str.ofString "term"]) (F.mt 1 304 (by decide)).at_ hr ?_ (by decide) (names_of rfl) List.nodup_nil fun q doc pm cdv L => ?_
  · exact args2 fun _ _ _ _ _ _ => rfl
  have hs := H.self
  repeat walk_at "m"
  refine r_Meth ?_
  repeat walk_at "m"
  refine ⟨.builtin "dict.get", m_get H.shapes, .inr (by intro a e; cases e), ?_⟩
  repeat walk_at "m"
  exact o_dget H.shapes H.shI h
end

noncomputable def WithOk (B : Base) (r c : Nat) (w : Int) (l : List (Nat × Int)) : Prop :=
  ∀ (C : Cx) (σ : Store) (N : Nat) (T : TS) (Q : AVal → Store → Prop), r ≤ C.room → TOk N σ T → Good T → N + c ≤ 900000 → (∀ t σ' T', Nxt (N + c) σ T σ' T' → WTerm T'.ks w l t → Q t σ') →
    OC B C (fun cs => call (.ref 337) cs) (tup [.loc 2, .int w, pairsV l]) σ Q
noncomputable def ShapeOk (B : Base) (r c : Nat) (w : Int) (l : List (Nat × Int)) : Prop :=
  ∀ (C : Cx) (σ : Store) (N : Nat) (T : TS) (Q : AVal → Store → Prop), r ≤ C.room → TOk N σ T → Good T → N + c ≤ 900000 → (∀ v σ' T', Nxt (N + c) σ T σ' T' → (∀ c, v ≠ .con c) → Q v σ') →
    OC B C (fun cs => call (.ref 344) cs) (tup [.loc 2, .int w, pairsV l]) σ Q
theorem dec_int {a b : Int} : (decide (AVal.int a = AVal.int b)) = decide (a = b) := by simp
theorem okP (l : List (Nat × Int)) : okE 50 (pairsV l) = true := by
  have : ∀ (n : Nat) (r : List (Nat × Int)), okE.okEs (n + 3) (pairsV r) = true ∧ okE (n + 4) (pairsV r) = true := by
    intro n r
    induction r with
    | nil => exact ⟨rfl, rfl⟩
    | cons x r ih => obtain ⟨n, k⟩ := x; simp only [pairsV, okE, okE.okEs, ih.1, Bool.and_self, and_self]
  exact (this 46 l).2
section
variable {B : Base}
set_option maxHeartbeats 4000000 in
theorem c_sumshape (F : Facts B) {r c : Nat} {w : Int} {l : List (Nat × Int)} (h1 : 1 ≤ r) (HW : w ≠ 0 → WithOk B r c 0 l) (hl : l ≠ []) (h5 : l.length ≤ 5) : ShapeOk B (r + 1) c w l := by
  intro C σ N T Q hr H G hN hQ
  refine call_def (ns := [Str.ofString "self", Str.ofString "whole", Str.ofString "items"]) (F.mt 7 344 (by decide)).at_ (by omega) ?_ (by decide) (names_of rfl) List.nodup_nil fun q doc pm cdv L => ?_
  · exact args3 fun _ _ _ _ _ _ _ => rfl
  have hs := H.self
  have hQ0 : ∀ v, (∀ c, v ≠ .con c) → Q v σ := fun v hv => hQ v σ T (Nxt.here H G (by omega) hN) hv
  rcases l with _ | ⟨⟨n1, k1⟩, _ | ⟨⟨n2, k2⟩, _ | ⟨⟨n3, k3⟩, r3⟩⟩⟩
  · exact absurd rfl hl
  · repeat walk_at "b"
    refine t_fix (decide (w = 4294967295) && decide (k1 = 4294967295)) ?_ ?_
    · repeat walk_at "m"
      refine o_len_tup rfl (Nat.le_of_ble_eq_true rfl) ?_
      repeat walk_at "m"
      rw [dec_int]
      refine itC (fun h => ?_) (fun h => ?_)
      · repeat walk_at "m"
        rw [dec_int]
        refine itC (fun h' => ?_) (fun h' => ?_)
        · repeat walk_at "m"
          rw [h, h']; exact ⟨rfl, rfl⟩
        · rw [h, h']; exact ⟨rfl, rfl⟩
      · rw [h]; exact ⟨rfl, rfl⟩
    refine itC (fun h => ?_) (fun h => ?_)
    · repeat walk_at "m"
      exact hQ0 _ (by intro c e; cases e)
    repeat walk_at "m"
    rw [dec_int]
    refine itC (fun hw => ?_) (fun hw => ?_)
    · repeat walk_at "m"
      refine HW (by simpa using hw) _ σ N T _ (room_le (by omega)) H G hN (fun t σ' T' x ht => ?_)
      repeat walk_at "m"
      exact hQ _ σ' T' x (by intro c e; cases e)
    · repeat walk_at "m"
      refine o_len_tup rfl (Nat.le_of_ble_eq_true rfl) ?_
      repeat walk_at "m"
      rw [dec_int]
      refine itC (fun h => ?_) (fun h => ?_)
      · repeat walk_at "m"
        exact hQ0 _ (by intro c e; cases e)
      repeat walk_at "m"
      refine o_band ?_
      generalize Builtin.bitAnd k1 (k1 - 1) = z
      repeat walk_at "m"
      rw [dec_int]
      refine itC (fun h => ?_) (fun h => ?_)
      · repeat walk_at "m"
        refine r_Meth ?_
        repeat walk_at "m"
        refine ⟨.builtin "int.bit_length", m_bits, .inr (by intro a e; cases e), ?_⟩
        repeat walk_at "m"
        refine o_bits ?_
        repeat walk_at "m"
        exact hQ0 _ (by intro c e; cases e)
      · repeat walk_at "m"
        exact hQ0 _ (by intro c e; cases e)
  · repeat walk_at "b"
    refine t_fix false ?_ ?_
    · repeat walk_at "m"
      refine o_len_tup rfl (Nat.le_of_ble_eq_true rfl) ?_
      repeat walk_at "m"
      rfl
    repeat walk_at "m"
    rw [dec_int]
    refine itC (fun hw => ?_) (fun hw => ?_)
    · repeat walk_at "m"
      refine HW (by simpa using hw) _ σ N T _ (room_le (by omega)) H G hN (fun t σ' T' x ht => ?_)
      repeat walk_at "m"
      exact hQ _ σ' T' x (by intro c e; cases e)
    · repeat walk_at "m"
      refine o_len_tup rfl (Nat.le_of_ble_eq_true rfl) ?_
      repeat walk_at "m"
      refine o_len_tup rfl (Nat.le_of_ble_eq_true rfl) ?_
      repeat walk_at "m"
      refine itC (fun h => ?_) (fun h => ?_)
      · repeat walk_at "m"
        exact hQ0 _ (by intro c e; cases e)
      repeat walk_at "m"
      refine itC (fun h => ?_) (fun h => ?_)
      · repeat walk_at "m"
        exact hQ0 _ (by intro c e; cases e)
      repeat walk_at "m"
      refine itC (fun h => ?_) (fun h => ?_)
      · repeat walk_at "m"
        exact hQ0 _ (by intro c e; cases e)
      · repeat walk_at "m"
        exact hQ0 _ (by intro c e; cases e)
  · have hlen : alen (pairsV ((n1, k1) :: (n2, k2) :: (n3, k3) :: r3)) ≤ 1000000 := by rw [pairsV_len]; omega
    repeat walk_at "b"
    refine t_fix false ?_ ?_
    · repeat walk_at "m"
      refine o_len_tup rfl hlen ?_
      repeat walk_at "m"
      rfl
    repeat walk_at "m"
    rw [dec_int]
    refine itC (fun hw => ?_) (fun hw => ?_)
    · repeat walk_at "m"
      refine HW (by simpa using hw) _ σ N T _ (room_le (by omega)) H G hN (fun t σ' T' x ht => ?_)
      repeat walk_at "m"
      exact hQ _ σ' T' x (by intro c e; cases e)
    · repeat walk_at "m"
      refine o_len_tup rfl hlen ?_
      repeat walk_at "m"
      refine o_len_tup rfl hlen ?_
      repeat walk_at "m"
      refine itT (decide_eq_true (by rw [pairsV_len]; simp; omega)) ?_
      repeat walk_at "m"
      exact hQ0 _ (by intro c e; cases e)
end

theorem atom_lt {T : TS} (G : Good T) {i : Nat} {k : AVal} (h : T.ks[i]? = some k) (hk : k ∉ atomKeys) : 5 ≤ i := by
  obtain ⟨r, hr⟩ := G.atoms
  rcases Nat.lt_or_ge i 5 with hi | hi
  · rw [hr, List.getElem?_append_left (by exact hi)] at h
    exact absurd (List.mem_of_getElem? h) hk
  · exact hi
theorem ks_len {T : TS} (G : Good T) : 5 ≤ T.ks.length := by
  obtain ⟨r, hr⟩ := G.atoms
  rw [hr, List.length_append]; exact Nat.le_add_right 5 _
theorem sumKey_atom {w : Int} {l : List (Nat × Int)} : sumKey w l ∉ atomKeys := by
  intro h
  simp only [atomKeys, headKey, List.mem_cons, List.not_mem_nil, or_false, AVal.cons.injEq, AVal.str.injEq] at h
  have n1 : Str.ofString "sum" ≠ Str.ofString "in" := by decide +kernel
  have n2 : Str.ofString "sum" ≠ Str.ofString "home" := by decide +kernel
  simp [n1, n2] at h
theorem headKey_inj {s s' : String} {w w' : Int} {l l' : List (Nat × Int)} (h : headKey s w l = headKey s' w' l') : Str.ofString s = Str.ofString s' ∧ w = w' ∧ l = l' := by
  simp only [headKey, AVal.cons.injEq, AVal.str.injEq, AVal.int.injEq, and_true] at h
  exact ⟨h.1, h.2.1, pairsV_inj h.2.2⟩
/-- a new key that is no sum -/
theorem Good.key {T : TS} (G : Good T) {k : AVal} (hk : ∀ w l, k ≠ sumKey w l) : Good { T with ks := T.ks ++ [k] } where
  atoms := let ⟨r, hr⟩ := G.atoms; ⟨r ++ [k], by simp only [hr, List.append_assoc]⟩
  sums := fun i w l h => by
    rcases Nat.lt_or_ge i T.ks.length with hi | hi
    · exact G.sums i w l (by rw [List.getElem?_append_left hi] at h; exact h)
    · simp only at h
      rw [List.getElem?_append_right hi] at h
      cases hj : i - T.ks.length with
      | zero => rw [hj] at h; exact absurd (Option.some.inj h) (hk w l)
      | succ j => rw [hj] at h; simp at h
  nosum := G.nosum
  shapes := G.shapes
  homes := G.homes
/-- a new sum -/
theorem Good.sum {T : TS} (G : Good T) (hn : T.ks.Nodup) {w : Int} {l : List (Nat × Int)} (hm : sumKey w l ∉ T.ks) : Good { T with ks := T.ks ++ [sumKey w l], sm := dput T.sm (.int (T.ks.length : Nat)) (tup [.int w, pairsV l]) } where
  atoms := let ⟨r, hr⟩ := G.atoms; ⟨r ++ [sumKey w l], by simp only [hr, List.append_assoc]⟩
  sums := fun i w' l' h => by
    simp only at h ⊢
    rw [dget_dput]
    rcases Nat.lt_or_ge i T.ks.length with hi | hi
    · rw [if_neg (by intro e; injection e with e; omega)]
      exact G.sums i w' l' (by rw [List.getElem?_append_left hi] at h; exact h)
    · rw [List.getElem?_append_right hi] at h
      cases hj : i - T.ks.length with
      | zero =>
        rw [hj] at h
        obtain ⟨_, rfl, rfl⟩ := headKey_inj (Option.some.inj h)
        rw [if_pos (by congr 1; omega)]
      | succ j => rw [hj] at h; simp at h
  nosum := fun i hi => by
    have := ks_len G
    simp only
    rw [dget_dput, if_neg (by intro e; injection e with e; omega)]
    exact G.nosum i hi
  shapes := G.shapes
  homes := G.homes
theorem Good.shape {T : TS} (G : Good T) {i : Nat} (hi : 5 ≤ i) {v : AVal} : Good { T with sh := dput T.sh (.int i) v } where
  atoms := G.atoms
  sums := G.sums
  nosum := G.nosum
  shapes := fun j hj => by
    simp only
    rw [dget_dput, if_neg (by intro e; injection e with e; omega)]
    exact G.shapes j hj
  homes := G.homes
section
variable {B : Base}
set_option maxHeartbeats 4000000 in
theorem c_with (F : Facts B) {r c : Nat} {w : Int} {l : List (Nat × Int)} (h1 : 1 ≤ r) (HS : l ≠ [] → ShapeOk B r c w l) (h5 : l.length ≤ 5) (hat : ∀ p ∈ l, p.1 < 5) : WithOk B (r + 1) (c + 3) w l := by
  intro C σ N T Q hr H G hN hQ
  refine call_def (ns := [Str.ofString "self", Str.ofString "whole", Str.ofString "items"]) (F.mt 6 337 (by decide)).at_ (Nat.le_trans (Nat.le_add_left 1 r) hr) ?_ (by decide) (names_of rfl) List.nodup_nil fun q doc pm cdv L => ?_
  · exact args3 fun _ _ _ _ _ _ _ => rfl
  have hs := H.self
  have hQ0 : ∀ t, WTerm T.ks w l t → Q t σ := fun v hv => hQ v σ T (Nxt.here H G (Nat.le_add_right N _) hN) hv
  rcases l with _ | ⟨⟨n1, k1⟩, r1⟩
  · repeat walk_at "m"
    exact hQ0 _ (.k rfl rfl)
  have hlen := pairs_small h5
  have hN3 : N + 1 + 1 + c + 1 ≤ 900000 := by omega
  have hN2 : N + 1 + 1 ≤ 900000 := by omega
  have hN1 : N + 1 ≤ 900000 := Nat.le_of_succ_le hN2
  have hN4 : N + 1 + 1 + c + 1 ≤ N + (c + 3) := by omega
  repeat walk_at "b"
  refine o_eq (okP _) rfl ?_
  repeat walk_at "b"
  refine t_fix (decide (w = 0) && (decide (r1 = []) && decide (k1 = 1))) ?_ ?_
  · repeat walk_at "m"
    rw [dec_int]
    refine itC (fun h => ?_) (fun h => ?_)
    · rw [h]
      repeat walk_at "m"
      refine o_len_tup rfl hlen ?_
      cases r1 with
      | cons x r =>
        obtain ⟨n2, k2⟩ := x
        repeat walk_at "m"
        rfl
      | nil =>
        repeat walk_at "m"
        rw [dec_int]
        refine itC (fun h => ?_) (fun h => ?_)
        · rw [h]
          repeat walk_at "m"
          rfl
        · rw [h]; exact ⟨rfl, rfl⟩
    · rw [h]; exact ⟨rfl, rfl⟩
  refine itC (fun h => ?_) (fun h => ?_)
  · simp only [Bool.and_eq_true, decide_eq_true_eq] at h
    obtain ⟨rfl, rfl, rfl⟩ := h
    repeat walk_at "m"
    exact hQ0 _ (.a n1 (hat _ (List.mem_cons_self ..)) rfl rfl rfl)
  have hno : ¬ (w = 0 ∧ ∃ n, (n1, k1) :: r1 = [(n, 1)]) := by
    rintro ⟨rfl, n, e⟩
    cases e
    simp at h
  have htk : isTK (sumKey w ((n1, k1) :: r1)) = true := headKey_tk (by with_unfolding_all rfl)
  repeat walk_at "m"
  refine o_nin_T H.keys H.keysT htk ?_
  repeat walk_at "m"
  by_cases hm : sumKey w ((n1, k1) :: r1) ∈ T.ks
  · obtain ⟨i, hi⟩ := List.mem_iff_getElem?.mp hm
    have hg := keysD_some (n := 0) H.nodup hi
    refine c_symbol F (room_le (Nat.le_trans (Nat.succ_le_succ h1) hr)) H htk ?_ (fun h => absurd hm h)
    intro j hj
    erw [hg]
    repeat walk_at "m"
    exact hQ0 _ (.s j (by simp) hno hj rfl)
  · erw [keysD_none hm]
    refine c_symbol F (room_le (Nat.le_trans (Nat.succ_le_succ h1) hr)) H htk (fun i h => absurd (List.mem_of_getElem? h) hm) ?_
    intro _
    have H1 := H.addKey htk hm hN1
    have H2 := H1.putSum (i := (T.ks.length : Nat)) (v := tup [.int w, pairsV ((n1, k1) :: r1)]) hN2
    have G2 := G.sum H.nodup hm
    have hs1 := H1.self
    have hs2 := H2.self
    repeat walk_at "m"
    refine o_set_I H1.sums H1.smI (Nat.le_trans H1.smL (Nat.le_trans hN1 (by decide))) ?_
    repeat walk_at "m"
    refine HS (by simp) _ _ (N + 1 + 1) _ _ (room_le hr) H2 G2 (Nat.le_of_succ_le hN3) (fun v σ3 T3 x hv => ?_)
    have x0 : Nxt (N + 1 + 1) σ T _ _ := ⟨(Fr.set (.inl rfl)).trans (Fr.set (.inr (.inl rfl))), H2, G2, List.prefix_append ..⟩
    have x1 := x0.trans x
    have hs3 := x.ok.self
    have hk3 : T3.ks[T.ks.length]? = some (sumKey w ((n1, k1) :: r1)) := prefix_get x.pre (by simp)
    repeat walk_at "m"
    refine itC (fun h => ?_) (fun h => ?_)
    · repeat walk_at "m"
      refine o_set_I x.ok.shapes x.ok.shI (Nat.le_trans x.ok.shL (Nat.le_trans (Nat.le_of_succ_le hN3) (by decide))) ?_
      have x4 := x.ok.putShape (i := (T.ks.length : Nat)) (v := v) hN3
      repeat walk_at "m"
      refine hQ _ _ _ ⟨x1.fr.trans (Fr.set (.inr (.inr (.inl rfl)))), x4.more hN4 hN, x1.good.shape (ks_len G), x1.pre⟩ ?_
      exact .s _ (by simp) hno hk3 rfl
    · repeat walk_at "m"
      exact hQ _ _ _ (x1.more (Nat.le_of_succ_le hN4) hN) (.s _ (by simp) hno hk3 rfl)
theorem withOk (F : Facts B) {w : Int} {l : List (Nat × Int)} (h5 : l.length ≤ 5) (hat : ∀ p ∈ l, p.1 < 5) : WithOk B 5 6 w l :=
  c_with F (Nat.le_of_ble_eq_true rfl) (fun hl => c_sumshape F (Nat.le_of_ble_eq_true rfl) (fun _ => c_with F (Nat.le_of_ble_eq_true rfl) (fun hl => c_sumshape (r := 1) (c := 0) F (Nat.le_refl 1) (fun h => absurd rfl h) hl h5) h5 hat) hl h5) h5 hat
end

/-! sums of items, in plain Lean -/
noncomputable def addItems (c : Nat → Int) (b : Int) : List (Nat × Int) → Nat → Int
  | [] => c
  | (n, k) :: r => addItems (fun m => if m = n then c n + k * b else c m) b r
theorem addItems_snoc (b : Int) (n : Nat) (k : Int) : ∀ (l : List (Nat × Int)) (c : Nat → Int), addItems c b (l ++ [(n, k)]) = fun m => if m = n then addItems c b l n + k * b else addItems c b l m
  | [], c => rfl
  | (n', k') :: r, c => by rw [List.cons_append, addItems, addItems_snoc b n k r, addItems]
theorem addItems_from (b : Int) (g : Nat → Int) : ∀ (ns : List Nat) (c : Nat → Int), ns.Nodup → ∀ n, addItems c b (itemsFrom g ns) n = if n ∈ ns then c n + (g n % MM) * b else c n
  | [], c, _, n => by simp [itemsFrom, addItems]
  | m :: r, c, hn, n => by
    rw [List.nodup_cons] at hn
    rw [itemsFrom]
    split
    · rename_i h0
      rw [addItems_from b g r c hn.2 n]
      by_cases hm : n = m
      · subst hm; rw [if_neg hn.1, if_pos (List.mem_cons_self ..), h0]; simp
      · simp [hm]
    · rw [addItems, addItems_from b g r _ hn.2 n]
      by_cases hm : n = m
      · subst hm; rw [if_neg hn.1, if_pos (List.mem_cons_self ..), if_pos rfl]
      · simp [hm]
theorem itemsFrom_snoc (c : Nat → Int) (n : Nat) : ∀ ns : List Nat, itemsFrom c (ns ++ [n]) = if c n % MM = 0 then itemsFrom c ns else itemsFrom c ns ++ [(n, c n % MM)]
  | [] => by rw [List.nil_append, itemsFrom, itemsFrom]; split <;> rfl
  | m :: r => by
    rw [List.cons_append, itemsFrom, itemsFrom, itemsFrom_snoc c n r]
    split <;> split <;> simp_all
theorem pairsV_snoc (n : Nat) (k : Int) : ∀ l : List (Nat × Int), asnoc (pairsV l) (tup [.int n, .int k]) = pairsV (l ++ [(n, k)])
  | [] => rfl
  | (m, j) :: r => by rw [List.cons_append, pairsV, pairsV, asnoc, pairsV_snoc n k r]
theorem pairsV_get : ∀ {l : List (Nat × Int)} {i : Nat} {a : AVal}, aget (pairsV l) i = some a → ∃ n k, l[i]? = some (n, k) ∧ a = tup [.int n, .int k]
  | [], i, a, h => by simp [pairsV, aget] at h
  | (n, k) :: r, 0, a, h => by simp only [pairsV, aget, Option.some.injEq] at h; exact ⟨n, k, rfl, h.symm⟩
  | (n, k) :: r, i + 1, a, h => by simp only [pairsV, aget] at h; simpa using pairsV_get h
theorem itemsFrom_mem {c : Nat → Int} : ∀ {ns : List Nat} {p : Nat × Int}, p ∈ itemsFrom c ns → p.1 ∈ ns ∧ p.2 = c p.1 % MM ∧ p.2 ≠ 0
  | [], p, h => by cases h
  | n :: r, p, h => by
    rw [itemsFrom] at h
    split at h
    · have := itemsFrom_mem h; exact ⟨List.mem_cons_of_mem _ this.1, this.2⟩
    · rename_i h0
      rcases List.mem_cons.mp h with e | h
      · rw [e]; exact ⟨List.mem_cons_self .., rfl, h0⟩
      · have := itemsFrom_mem h; exact ⟨List.mem_cons_of_mem _ this.1, this.2⟩
theorem itemsFrom_len {c : Nat → Int} : ∀ {ns : List Nat}, (itemsFrom c ns).length ≤ ns.length
  | [] => Nat.le_refl _
  | n :: r => by
    rw [itemsFrom]
    have := @itemsFrom_len c r
    split <;> simp <;> omega
theorem itemsFrom_congr {c d : Nat → Int} : ∀ {ns : List Nat}, (∀ n ∈ ns, c n % MM = d n % MM) → itemsFrom c ns = itemsFrom d ns
  | [], _ => rfl
  | n :: r, h => by
    rw [itemsFrom, itemsFrom, h n (List.mem_cons_self ..), itemsFrom_congr fun m hm => h m (List.mem_cons_of_mem _ hm)]
theorem itemsFrom_inj {c d : Nat → Int} : ∀ {ns : List Nat}, ns.Nodup → itemsFrom c ns = itemsFrom d ns → ∀ n ∈ ns, c n % MM = d n % MM
  | [], _, _, n, hn => by cases hn
  | m :: r, hd, h, n, hn => by
    rw [List.nodup_cons] at hd
    have key : c m % MM = d m % MM ∧ itemsFrom c r = itemsFrom d r := by
      rw [itemsFrom, itemsFrom] at h
      split at h <;> split at h
      · rename_i h1 h2; exact ⟨h1.trans h2.symm, h⟩
      · exfalso
        have := itemsFrom_mem (c := c) (ns := r) (p := (m, d m % MM)) (by rw [h]; exact List.mem_cons_self ..)
        exact hd.1 this.1
      · exfalso
        have := itemsFrom_mem (c := d) (ns := r) (p := (m, c m % MM)) (by rw [← h]; exact List.mem_cons_self ..)
        exact hd.1 this.1
      · rw [List.cons.injEq, Prod.mk.injEq] at h; exact ⟨h.1.2, h.2⟩
    rcases List.mem_cons.mp hn with e | hn
    · rw [e]; exact key.1
    · exact itemsFrom_inj hd.2 key.2 n hn
/-- an ascending list that has all that is not nought gives the same items -/
theorem itemsFrom_asc {c : Nat → Int} : ∀ (k a : Nat) (ms : List Nat), ms.Pairwise (· < ·) → (∀ m ∈ ms, a ≤ m ∧ m < a + k) → (∀ n, a ≤ n → n < a + k → n ∉ ms → c n % MM = 0) → itemsFrom c ms = itemsFrom c (List.range' a k)
  | 0, a, [], _, _, _ => rfl
  | 0, a, m :: r, _, h, _ => by have := h m (List.mem_cons_self ..); omega
  | k + 1, a, ms, hp, h, hz => by
    rw [List.range'_succ, itemsFrom]
    match ms, hp, h, hz with
    | [], _, _, hz =>
      rw [if_pos (hz a (Nat.le_refl _) (by omega) (by simp)), ← itemsFrom_asc k (a + 1) [] List.Pairwise.nil (by simp) (fun n h1 h2 h3 => hz n (by omega) (by omega) h3)]
    | m :: r, hp, h, hz =>
      rw [List.pairwise_cons] at hp
      by_cases e : m = a
      · subst e
        have := itemsFrom_asc (c := c) k (m + 1) r hp.2 (fun x hx => by have := hp.1 x hx; have := h x (List.mem_cons_of_mem _ hx); omega)
          (fun n h1 h2 h3 => hz n (by omega) (by omega) (by simp; exact ⟨by omega, h3⟩))
        rw [itemsFrom, this]
      · have hm := h m (List.mem_cons_self ..)
        have ha : a ∉ m :: r := by
          intro hx
          rcases List.mem_cons.mp hx with e' | hx
          · exact e e'.symm
          · have := hp.1 a hx; omega
        rw [if_pos (hz a (Nat.le_refl _) (by omega) ha)]
        exact itemsFrom_asc k (a + 1) (m :: r) (List.pairwise_cons.mpr hp) (fun x hx => by
          have h1 := h x hx
          rcases List.mem_cons.mp hx with e' | hx
          · subst e'; omega
          · have := hp.1 x hx; omega) (fun n h1 h2 h3 => hz n (by omega) (by omega) h3)
theorem its_le (f : Form) : f.its.length ≤ 5 := itemsFrom_len (ns := [0, 1, 2, 3, 4])
theorem lt_of_five {n : Nat} (h : n ∈ [0, 1, 2, 3, 4]) : n < 5 := (by decide : ∀ m ∈ [0, 1, 2, 3, 4], m < 5) n h
theorem five_of_lt {n : Nat} (h : n < 5) : n ∈ [0, 1, 2, 3, 4] := lt5 (P := fun n => n ∈ [0, 1, 2, 3, 4]) (by decide) (by decide) (by decide) (by decide) (by decide) n h
theorem its_lt (f : Form) : ∀ p ∈ f.its, p.1 < 5 := fun p hp => lt_of_five (itemsFrom_mem (ns := [0, 1, 2, 3, 4]) hp).1
theorem sub_lt40 {i n : Nat} (h : i < n) (hn : n ≤ 1000) : i < 2 ^ 40 := Nat.lt_of_lt_of_le h (Nat.le_trans hn (by decide))

theorem dget_mem {k v : AVal} : ∀ {es : List (AVal × AVal)}, dget es k = some v → (k, v) ∈ es
  | (a, b) :: es, h => by
    rw [dget] at h
    split at h
    · rename_i e; cases h; subst e; exact List.mem_cons_self ..
    · exact List.mem_cons_of_mem _ (dget_mem h)
theorem dget_isSome {k : AVal} : ∀ {es : List (AVal × AVal)}, k ∈ es.map (·.1) → (dget es k).isSome = true
  | (a, b) :: es, h => by
    rw [dget]
    split
    · rfl
    · rename_i e
      rcases List.mem_cons.mp h with h | h
      · exact absurd h.symm e
      · exact dget_isSome h
theorem dset_fst {k v : AVal} : ∀ {es : List (AVal × AVal)}, (dset es k v).map (·.1) = es.map (·.1)
  | [] => rfl
  | (a, b) :: es => by rw [dset]; split <;> simp [dset_fst]
theorem dput_nodup {es : List (AVal × AVal)} {k v : AVal} (h : (es.map (·.1)).Nodup) : ((dput es k v).map (·.1)).Nodup := by
  rw [dput]
  split
  · rw [dset_fst]; exact h
  · rename_i hn
    rw [List.map_append]
    refine List.nodup_append.mpr ⟨h, by simp, fun a ha b hb e => ?_⟩
    simp only [List.map_cons, List.map_nil, List.mem_singleton] at hb
    subst hb; subst e
    exact hn (dget_isSome ha)
structure TimesOk (k : Nat) (es : List (AVal × AVal)) (c : Nat → Int) : Prop where
  keys : ∀ p ∈ es, ∃ n : Nat, n < 5 ∧ p.1 = .int n
  nodup : (es.map (·.1)).Nodup
  val : ∀ n : Nat, n < 5 → (dget es (.int n)).getD (.int 0) = .int (c n)
  len : es.length ≤ k
theorem TimesOk.nil : TimesOk 0 [] (fun _ => 0) := ⟨by simp, by simp, fun _ _ => rfl, Nat.le_refl _⟩
theorem TimesOk.isI {k : Nat} {es : List (AVal × AVal)} {c : Nat → Int} (x : TimesOk k es c) : ∀ p ∈ es, isIK p.1 = true := fun p hp => by
  obtain ⟨n, _, e⟩ := x.keys p hp; rw [e]; rfl
theorem TimesOk.put {k : Nat} {es : List (AVal × AVal)} {c : Nat → Int} (x : TimesOk k es c) {n : Nat} (hn : n < 5) {v : Int} : TimesOk (k + 1) (dput es (.int n) (.int v)) (fun m => if m = n then v else c m) where
  keys := dput_all (P := fun a => ∃ n : Nat, n < 5 ∧ a = .int n) x.keys ⟨n, hn, rfl⟩
  nodup := dput_nodup x.nodup
  val := fun m hm => by
    rw [dget_dput]
    by_cases e : m = n
    · subst e; rw [if_pos rfl]; simp
    · rw [if_neg (by intro h; injection h with h; omega), if_neg e]; exact x.val m hm
  len := Nat.le_trans dput_len (Nat.succ_le_succ x.len)
theorem TimesOk.more {k k' : Nat} {es : List (AVal × AVal)} {c : Nat → Int} (x : TimesOk k es c) (h : k ≤ k') : TimesOk k' es c := { x with len := Nat.le_trans x.len h }
theorem mem_keysI {i : Int} : ∀ {es : List (AVal × AVal)}, i ∈ keysI es ↔ .int i ∈ es.map (·.1)
  | [] => by simp [keysI]
  | (a, b) :: es => by
    cases a <;> simp [keysI, mem_keysI (es := es)]
theorem keysI_nodup : ∀ {es : List (AVal × AVal)}, (es.map (·.1)).Nodup → (keysI es).Nodup
  | [], _ => by simp [keysI]
  | (a, b) :: es, h => by
    simp only [List.map_cons, List.nodup_cons] at h
    have ih := keysI_nodup h.2
    cases a <;> simp only [keysI] <;> first | exact ih | skip
    refine List.nodup_cons.mpr ⟨fun hm => h.1 (mem_keysI.mp hm), ih⟩
theorem TimesOk.sorted {k : Nat} {es : List (AVal × AVal)} {c : Nat → Int} (x : TimesOk k es c) {ns : List Int} (hp : ns.Perm (keysI es)) (hs : ns.Pairwise (· ≤ ·)) :
    ∃ ms : List Nat, ns = ms.map Int.ofNat ∧ ms.Pairwise (· < ·) ∧ (∀ m ∈ ms, m < 5 ∧ dget es (.int m) = some (.int (c m))) ∧ ∀ n : Nat, n < 5 → n ∉ ms → c n = 0 := by
  have hk : ∀ i ∈ ns, ∃ n : Nat, n < 5 ∧ i = n ∧ dget es (.int n) = some (.int (c n)) := fun i hi => by
    have hm := mem_keysI.mp (hp.mem_iff.mp hi)
    obtain ⟨p, hp1, hp2⟩ := List.mem_map.mp hm
    obtain ⟨n, hn, e⟩ := x.keys p hp1
    rw [e] at hp2
    injection hp2 with hp2
    subst hp2
    refine ⟨n, hn, rfl, ?_⟩
    obtain ⟨v, hv⟩ := Option.isSome_iff_exists.mp (dget_isSome hm)
    have := x.val n hn
    rw [hv] at this ⊢
    simp only [Option.getD_some] at this
    rw [this]
  have hnd : ns.Nodup := hp.nodup_iff.mpr (keysI_nodup x.nodup)
  refine ⟨ns.map Int.toNat, ?_, ?_, ?_, ?_⟩
  · rw [List.map_map]
    conv => lhs; rw [← List.map_id ns]
    apply List.map_congr_left
    intro i hi
    obtain ⟨n, _, rfl, _⟩ := hk i hi
    rfl
  · rw [List.pairwise_map]
    refine List.Pairwise.imp_of_mem ?_ (hs.and hnd)
    intro a b ha hb hab
    obtain ⟨n, _, rfl, _⟩ := hk a ha
    obtain ⟨m, _, rfl, _⟩ := hk b hb
    have := hab.1
    have := hab.2
    simp only [Int.toNat_natCast]
    omega
  · intro m hm
    obtain ⟨i, hi, rfl⟩ := List.mem_map.mp hm
    obtain ⟨n, hn, rfl, hd⟩ := hk i hi
    exact ⟨hn, hd⟩
  · intro n hn hm
    have := x.val n hn
    cases hd : dget es (.int n) with
    | none => rw [hd] at this; simp at this; exact this.symm
    | some v =>
      exfalso
      apply hm
      have h1 : AVal.int (n : Int) ∈ es.map (·.1) := List.mem_map.mpr ⟨_, dget_mem hd, rfl⟩
      exact List.mem_map.mpr ⟨(n : Int), hp.mem_iff.mpr (mem_keysI.mpr h1), rfl⟩
/-- parts of a sum: a term, how often, its form -/
abbrev Part := AVal × Int × Form
noncomputable def pairsArg : List Part → AVal
  | [] => .nil
  | (t, b, _) :: r => .cons (tup [t, .int b]) (pairsArg r)
theorem pairsArg_len : ∀ l : List Part, alen (pairsArg l) = l.length
  | [] => rfl
  | (n, k, _) :: r => by simp [pairsArg, alen, pairsArg_len r]
theorem pairsArg_get : ∀ {l : List Part} {i : Nat} {a : AVal}, aget (pairsArg l) i = some a → ∃ t b f, l[i]? = some (t, b, f) ∧ a = tup [t, .int b]
  | [], i, a, h => by simp [pairsArg, aget] at h
  | (t, b, f) :: r, 0, a, h => by simp only [pairsArg, aget, Option.some.injEq] at h; exact ⟨t, b, f, rfl, h.symm⟩
  | (t, b, f) :: r, i + 1, a, h => by simp only [pairsArg, aget] at h; simpa using pairsArg_get h
noncomputable def accW (a : Int) : List Part → Int
  | [] => a
  | (_, b, f) :: r => accW (a + f.w % MM * b) r
noncomputable def accC (c : Nat → Int) : List Part → Nat → Int
  | [] => c
  | (_, b, f) :: r => accC (addItems c b f.its) r
theorem accW_snoc (t : AVal) (b : Int) (f : Form) : ∀ (l : List Part) (a : Int), accW a (l ++ [(t, b, f)]) = accW a l + f.w % MM * b
  | [], a => rfl
  | (_, _, _) :: r, a => by rw [List.cons_append, accW, accW, accW_snoc t b f r]
/-! rests of sums -/
theorem cg_mod (a : Int) : (a % 4294967296) % 4294967296 = a % 4294967296 := Int.emod_emod _ _
theorem cg_add {a a' b b' : Int} (h : a % 4294967296 = a' % 4294967296) (g : b % 4294967296 = b' % 4294967296) : (a + b) % 4294967296 = (a' + b') % 4294967296 := by
  rw [Int.add_emod, h, g, ← Int.add_emod]
theorem cg_sub {a a' b b' : Int} (h : a % 4294967296 = a' % 4294967296) (g : b % 4294967296 = b' % 4294967296) : (a - b) % 4294967296 = (a' - b') % 4294967296 := by
  rw [Int.sub_emod, h, g, ← Int.sub_emod]
theorem cg_neg {a b : Int} (h : a % 4294967296 = b % 4294967296) : (-a) % 4294967296 = (-b) % 4294967296 := by
  rw [← Int.zero_sub, ← Int.zero_sub b]; exact cg_sub rfl h
theorem cg_can {a b c d : Int} (h : a % 4294967296 = b % 4294967296) (g : (a + c) % 4294967296 = (b + d) % 4294967296) : c % 4294967296 = d % 4294967296 := by
  have := cg_sub g h
  rwa [Int.add_comm a, Int.add_comm b, Int.add_sub_cancel, Int.add_sub_cancel] at this
theorem cg_up {a c : Int} (h : c % 4294967296 = 0) : (a + c) % 4294967296 = a % 4294967296 := by
  have := cg_add (rfl : a % 4294967296 = a % 4294967296) (show c % 4294967296 = 0 % 4294967296 from h)
  rwa [Int.add_zero] at this
theorem cg_dn {a c : Int} (h : (a + c) % 4294967296 = a % 4294967296) : c % 4294967296 = 0 :=
  cg_can (d := 0) (rfl : a % 4294967296 = a % 4294967296) (by rw [Int.add_zero]; exact h)
theorem cg_lin {a b c : Int} (h : a % 4294967296 = b % 4294967296) (g : b = c) : a % 4294967296 = c % 4294967296 := g ▸ h
theorem cg_zero {a b : Int} : (a * 1 + (b * -1 + 0)) % 4294967296 = 0 ↔ a % 4294967296 = b % 4294967296 := by
  rw [Int.emod_eq_emod_iff_emod_sub_eq_zero, Int.mul_one, Int.add_zero, Int.mul_neg, Int.mul_one, Int.sub_eq_add_neg]
theorem cg_nz {a : Int} : a % 4294967296 = 0 ↔ (-a) % 4294967296 = 0 :=
  ⟨fun h => cg_neg (b := 0) h, fun h => by have := cg_neg (b := 0) h; rwa [Int.neg_neg] at this⟩
theorem accC_snoc (t : AVal) (b : Int) (f : Form) : ∀ (l : List Part) (c : Nat → Int), accC c (l ++ [(t, b, f)]) = addItems (accC c l) b f.its
  | [], a => rfl
  | (_, _, _) :: r, a => by rw [List.cons_append, accC, accC, accC_snoc t b f r]
noncomputable def sumF : List Part → Form
  | [] => ⟨0, fun _ => 0⟩
  | (_, b, f) :: r => ⟨f.w * b + (sumF r).w, fun n => f.c n * b + (sumF r).c n⟩
theorem mod_mul_add (x b y : Int) : (x % MM * b + y) % MM = (x * b + y) % MM := by
  rw [Int.add_emod, Int.mul_emod, Int.emod_emod, ← Int.mul_emod, ← Int.add_emod]
theorem accW_eq : ∀ (l : List Part) (a : Int), accW a l % MM = (a + (sumF l).w) % MM
  | [], a => by simp [accW, sumF]
  | (t, b, f) :: r, a => by
    rw [accW, accW_eq r, sumF]
    simp only
    have := mod_mul_add f.w b (a + (sumF r).w)
    rw [show a + f.w % MM * b + (sumF r).w = f.w % MM * b + (a + (sumF r).w) by rw [Int.add_assoc, Int.add_left_comm], this, Int.add_left_comm]
theorem accC_eq {n : Nat} (hn : n < 5) : ∀ (l : List Part) (c : Nat → Int), accC c l n % MM = (c n + (sumF l).c n) % MM
  | [], c => by simp [accC, sumF]
  | (t, b, f) :: r, c => by
    rw [accC, accC_eq hn r, sumF, Form.its, addItems_from b f.c [0, 1, 2, 3, 4] c (by decide), if_pos (five_of_lt hn)]
    simp only
    have := mod_mul_add (f.c n) b (c n + (sumF r).c n)
    rw [show c n + f.c n % MM * b + (sumF r).c n = f.c n % MM * b + (c n + (sumF r).c n) by rw [Int.add_assoc, Int.add_left_comm], this, Int.add_left_comm]

theorem sub_nil {l : Loc} : Sub [] l := fun _ _ h => by cases h
theorem sub_cons {lc l : Loc} {n : Str} {a : AVal} (h : l.lookup n = some a) (hs : Sub lc l) : Sub ((n, a) :: lc) l := by
  intro x b hx
  rw [List.lookup_cons] at hx
  split at hx
  · rename_i e; cases hx; rw [beq_iff_eq.mp e]; exact h
  · exact hs x b hx
section
variable {B : Base} {C : Cx} {l lc : Loc} {σ : Store}
theorem WA.sub {t : Value → Sem Unit} {a : AVal} {Q : Loc → Store → Prop} (hs : Sub lc l) (h : WA B C t a lc σ Q) : WA B C t a l σ Q := fun av ρ s c x f r => h av ρ s c x (f.sub hs) r
theorem WS.sub {t : Sem Flow} {Qn : Loc → Store → Prop} {Qr : AVal → Store → Prop} (hs : Sub lc l) (h : WS B C t lc σ Qn Qr) : WS B C t l σ Qn Qr := fun av ρ s x f => h av ρ s x (f.sub hs)
end
theorem items_tup {a : AVal} {σ : Store} {Qs : AVal → (Store → Prop) → Store → Prop} (ha : isT a = true) (h : Qs a (fun _ => True) σ) : ItemsOf a σ Qs := by
  cases a <;> first | exact h | cases ha
noncomputable def CN (C : Cx) (scope : Scope) (l lc : Loc) : Prop := ∀ x a, lc.lookup x = some a → l.lookup x = some a ∧ scope.names.lookup x = some .free ∧ C.env.kindOf x = some .cell
theorem cn_nil {C : Cx} {scope : Scope} {l : Loc} : CN C scope l [] := fun _ _ h => by cases h
theorem cn_cons {C : Cx} {scope : Scope} {l lc : Loc} {n : Str} {a : AVal} (h : l.lookup n = some a) (hs : CN C scope l lc) (h2 : scope.names.lookup n = some .free := by rfl) (h3 : C.env.kindOf n = some .cell := by rfl) : CN C scope l ((n, a) :: lc) := by
  intro x b hx
  rw [List.lookup_cons] at hx
  split at hx
  · rename_i e; cases hx; rw [beq_iff_eq.mp e]; exact ⟨h, h2, h3⟩
  · exact hs x b hx
theorem caught {C : Cx} {scope : Scope} {l lc : Loc} (hn : CN C scope l lc) (one : scope.names.all (fun p => p.2 != .cell) = true := by rfl) (nodup : (scope.names.map (·.1)).Nodup := by with_unfolding_all decide)
    (kind : scope.kind = .function := by rfl) (free : scope.names.all (fun p => p.2 != .free || (C.env.cells.lookup p.1).isSome) = true := by rfl) : Caught C scope l lc where
  names := hn
  one := .inl fun p hp e => by have := List.all_eq_true.mp one p hp; rw [e] at this; simp at this
  nodup := nodup
  kind := kind
  free := fun p hp e => by have := List.all_eq_true.mp free p hp; rw [e] at this; simpa using this
theorem ofInts_get : ∀ {l : List Int} {i : Nat} {a : AVal}, aget (ofInts l) i = some a → ∃ n, l[i]? = some n ∧ a = .int n
  | [], i, a, h => by simp [ofInts, aget] at h
  | n :: r, 0, a, h => by simp only [ofInts, aget, Option.some.injEq] at h; exact ⟨n, rfl, h.symm⟩
  | n :: r, i + 1, a, h => by simp only [ofInts, aget] at h; simpa using ofInts_get h
theorem keysI_len : ∀ es : List (AVal × AVal), (keysI es).length ≤ es.length
  | [] => Nat.le_refl _
  | (a, b) :: es => by
    have := keysI_len es
    cases a <;> simp [keysI] <;> omega
theorem app_last {σ : Store} {o : AObj} : (σ ++ [o])[σ.length]? = some o := by simp
theorem set_last {σ : Store} {o o' : AObj} : (σ ++ [o]).set σ.length o' = σ ++ [o'] := by simp
theorem take_snoc {α : Type} {l : List α} {i : Nat} {x : α} (h : l[i]? = some x) : l.take (i + 1) = l.take i ++ [x] := by
  rw [List.take_add_one, h]; rfl
section
variable {B : Base} {C : Cx} {σ : Store} {N : Nat} {T : TS}
set_option maxHeartbeats 4000000 in
theorem c_sumof (F : Facts B) (hr : 7 ≤ C.room) (H : TOk N σ T) (G : Good T) {ps : List Part} (hp : ∀ p ∈ ps, TermIs T.ks p.1 p.2.2 ∧ p.2.1.natAbs < 2 ^ 64) (hl : ps.length ≤ 3) (hN : N + 6 ≤ 900000)
    {Q : AVal → Store → Prop} (hQ : ∀ t σ' T', Nxt (N + 6) σ T σ' T' → TermIs T'.ks t (sumF ps) → Q t σ') : OC B C (fun cs => call (.ref 330) cs) (tup [.loc 2, .lst (pairsArg ps)]) σ Q := by
  refine call_def (ns := [Str.ofString "self", Str.ofString "pairs"]) (F.mt 5 330 (by decide)).at_ (one_le hr) ?_ (by decide) (names_of rfl) (by with_unfolding_all decide) fun q doc pm cdv L => ?_
  · exact args2 fun _ _ _ _ _ _ => rfl
  have hs := H.self
  have hs0 := hs
  repeat walk_at "m"
  refine s_for (src_val ?_)
  repeat walk_at "m"
  simp only [ItemsOf]
  refine ⟨fun i l' σ' => ∃ es, σ' = σ ++ [.dict es] ∧ Sub [(Str.ofString "self", .loc 2), (Str.ofString "whole", .int (accW 0 (ps.take i))), (Str.ofString "times", .loc σ.length)] l' ∧ TimesOk (5 * i) es (accC (fun _ => 0) (ps.take i)), ?_, ?_, ?_⟩
  · exact ⟨[], rfl, sub_cons rfl (sub_cons rfl (sub_cons rfl sub_nil)), TimesOk.nil⟩
  · rintro l' σ' - ⟨es, rfl, hsub, ht⟩
    refine WS.sub hsub ?_
    rw [pairsArg_len] at ht
    rw [pairsArg_len, List.take_length]
    rw [List.take_length] at ht
    generalize hc : accC (fun _ => 0) ps = c at ht
    repeat walk_at "m"
    refine r_Comp (lc := [(Str.ofString "times", .loc σ.length)]) (caught (cn_cons rfl cn_nil)) (src_val ?_)
    repeat walk_at "m"
    refine o_sorted app_last ht.isI (Nat.lt_of_le_of_lt ht.len (by omega)) fun ns hp hs => ?_
    obtain ⟨ms, rfl, hms, hmem, hz⟩ := ht.sorted hp hs
    simp only [ItemsOf]
    refine ⟨?_, fun i ys σ' => σ' = σ ++ [.dict es] ∧ ys = pairsV (itemsFrom c (ms.take i)), ⟨rfl, by simp [itemsFrom, pairsV]⟩, ?_, ?_⟩
    · rw [alen_ofInts]
      have := hp.length_eq
      have := keysI_len es
      have := ht.len
      omega
    · rintro ys σ' - ⟨rfl, rfl⟩
      repeat walk_at "m"
      have hit : itemsFrom c (ms.take (alen (ofInts (ms.map Int.ofNat)))) = (sumF ps).its := by
        rw [alen_ofInts, List.length_map, List.take_length, itemsFrom_asc 5 0 ms hms (fun m hm => ⟨Nat.zero_le _, by have := (hmem m hm).1; omega⟩) (fun n _ h hn => by rw [hz n (by omega) hn]; rfl)]
        refine itemsFrom_congr (ns := [0, 1, 2, 3, 4]) fun n hn => ?_
        have hn : n < 5 := lt_of_five hn
        rw [← hc, accC_eq hn, Int.zero_add]
      rw [hit]
      have hlen := its_le (sumF ps)
      refine o_tuple (pairsV_ok _).1 (pairs_small hlen) ?_
      have hs1 : SelfOk (σ ++ [.dict es]) := hs0.app
      repeat walk_at "m"
      refine withOk F hlen (its_lt _) _ _ N T _ (room_of hr) H.app G hN fun t σ' T' x hx => ?_
      refine hQ t σ' T' ⟨(Fr.app _ _).trans x.fr, x.ok, x.good, x.pre⟩ ?_
      have hw := accW_eq ps 0
      rw [Int.zero_add] at hw
      rw [TermIs, ← hw]
      exact hx
    · rintro L2 i a ys σ' ha - ⟨rfl, rfl⟩
      obtain ⟨m, hm, rfl⟩ := ofInts_get ha
      rw [List.getElem?_map, Option.map_eq_some_iff] at hm
      obtain ⟨n, hn, rfl⟩ := hm
      obtain ⟨h5, hd⟩ := hmem n (List.mem_of_getElem? hn)
      rw [show Int.ofNat n = (n : Int) from rfl]
      repeat walk_at "m"
      refine ⟨sub_cons rfl sub_nil, ?_⟩
      simp only [WT]
      repeat walk_at "m"
      refine o_get_I app_last ht.isI hd ?_
      repeat walk_at "m"
      rw [dec_int]
      refine itC (fun h => ?_) (fun h => ?_)
      · repeat walk_at "m"
        refine o_get_I app_last ht.isI hd ?_
        repeat walk_at "m"
        refine ⟨trivial, rfl, ?_⟩
        rw [take_snoc hn, itemsFrom_snoc, if_neg (by simpa using h), ← pairsV_snoc]
      · refine ⟨trivial, rfl, ?_⟩
        rw [take_snoc hn, itemsFrom_snoc, if_pos (by simpa using h)]
  · rintro i a l' σ' ha - ⟨es, rfl, hsub, ht⟩
    refine WA.sub hsub ?_
    obtain ⟨t, b, f, hi, rfl⟩ := pairsArg_get ha
    have hm : TermIs T.ks t f ∧ b.natAbs < 2 ^ 64 := hp _ (List.mem_of_getElem? hi)
    have hs1 : SelfOk (σ ++ [.dict es]) := hs.app
    have ht1 := hm.1
    repeat walk_at "m"
    refine c_parts F (room_of hr) H.app G ht1 ?_
    repeat walk_at "m"
    refine o_mul hm.2 ?_
    repeat walk_at "m"
    refine s_for (src_val ?_)
    repeat walk_at "m"
    refine items_tup (pairsV_ok _).1 ?_
    refine ⟨fun j l' σ' => ∃ es, σ' = σ ++ [.dict es] ∧ Sub [(Str.ofString "self", .loc 2), (Str.ofString "by", .int b), (Str.ofString "whole", .int (accW 0 (ps.take i) + f.w % MM * b)), (Str.ofString "times", .loc σ.length)] l' ∧
      TimesOk (5 * i + j) es (addItems (accC (fun _ => 0) (ps.take i)) b (f.its.take j)), ?_, ?_, ?_⟩
    · exact ⟨es, rfl, sub_cons rfl (sub_cons rfl (sub_cons rfl (sub_cons rfl sub_nil))), ht⟩
    · rintro l' σ' - ⟨es, rfl, hsub, ht⟩
      refine WS.sub hsub ?_
      repeat walk_at "m"
      refine ⟨trivial, es, rfl, ?_, ?_⟩
      · rw [take_snoc hi, accW_snoc]
        exact sub_cons rfl (sub_cons rfl (sub_cons rfl sub_nil))
      · rw [take_snoc hi, accC_snoc]
        rw [pairsV_len, List.take_length] at ht
        have h5 := its_le f
        exact ht.more (by omega)
    · rintro j a l' σ' ha - ⟨es, rfl, hsub, ht⟩
      refine WA.sub hsub ?_
      obtain ⟨n, k, hj, rfl⟩ := pairsV_get ha
      have hn : n < 5 := by
        have := (itemsFrom_mem (List.mem_of_getElem? hj)).1
        simp at this; omega
      repeat walk_at "m"
      refine r_Meth ?_
      repeat walk_at "m"
      refine ⟨.builtin "dict.get", m_get app_last, .inr (by intro a e; cases e), ?_⟩
      repeat walk_at "m"
      refine o_dget app_last ht.isI ?_
      rw [ht.val n hn]
      repeat walk_at "m"
      refine o_mul hm.2 ?_
      repeat walk_at "m"
      refine o_set_I app_last ht.isI (Nat.le_trans ht.len (by have := (List.getElem?_eq_some_iff.mp hi).1; have := (List.getElem?_eq_some_iff.mp hj).1; have h5 := its_le f; omega)) ?_
      rw [set_last]
      repeat walk_at "m"
      refine ⟨trivial, _, rfl, sub_cons rfl (sub_cons rfl (sub_cons rfl (sub_cons rfl sub_nil))), ?_⟩
      rw [take_snoc hj, addItems_snoc]
      exact ht.put hn
end

/-- the number's form -/
noncomputable def kF (v : Int) : Form := ⟨v, fun _ => 0⟩
theorem kF_its (v : Int) : (kF v).its = [] := rfl
theorem term_k {ks : List AVal} {v : Int} (h0 : 0 ≤ v) (h1 : v < MM) : TermIs ks (kK v) (kF v) := .k rfl (by rw [kF]; simp only; rw [Int.emod_eq_of_lt h0 h1])
section
variable {B : Base} {C : Cx} {σ : Store} {N : Nat} {T : TS}
set_option maxHeartbeats 4000000 in
theorem c_toldsum (F : Facts B) (hr : 8 ≤ C.room) (H : TOk N σ T) (G : Good T) {op : String} {args : AVal} {ps : List Part}
    (hop : (op = "add" ∧ ∃ t u f g, args = tup [t, u] ∧ ps = [(t, 1, f), (u, 1, g)]) ∨ (op = "sub" ∧ ∃ t u f g, args = tup [t, u] ∧ ps = [(t, 1, f), (u, -1, g)]) ∨
      (op = "neg" ∧ ∃ t f, args = tup [t] ∧ ps = [(t, -1, f), (kK 0, 1, kF 0)]) ∨ (op = "not" ∧ ∃ t f, args = tup [t] ∧ ps = [(t, -1, f), (kK 4294967295, 1, kF 4294967295)]))
    (hp : ∀ p ∈ ps, TermIs T.ks p.1 p.2.2) (hN : N + 6 ≤ 900000)
    {Q : AVal → Store → Prop} (hQ : ∀ t σ' T', Nxt (N + 6) σ T σ' T' → TermIs T'.ks t (sumF ps) → Q t σ') : OC B C (fun cs => call (.ref 351) cs) (tup [.loc 2, .str (Str.ofString op), .lst args]) σ Q := by
  refine call_def (ns := [Str.ofString "self", Str.ofString "op", Str.ofString "args"]) (F.mt 8 351 (by decide)).at_ (one_le hr) ?_ (by decide) (names_of rfl) (by with_unfolding_all decide) fun q doc pm cdv L => ?_
  · exact args3 fun _ _ _ _ _ _ _ => rfl
  have hs := H.self
  rcases hop with ⟨rfl, t, u, f, g, rfl, rfl⟩ | ⟨rfl, t, u, f, g, rfl, rfl⟩ | ⟨rfl, t, f, rfl, rfl⟩ | ⟨rfl, t, f, rfl, rfl⟩
  all_goals
    repeat walk_at "m"
    refine c_sumof F (room_of hr) H G (ps := _) (fun p hm => ⟨hp p hm, ?_⟩) (Nat.le_of_ble_eq_true rfl) hN hQ
    simp only [List.mem_cons, List.not_mem_nil, or_false] at hm
    rcases hm with rfl | rfl <;> exact Nat.le_of_ble_eq_true rfl
end

abbrev nameX : AVal := tup [.str (Str.ofString "name"), .str (Str.ofString "x")]
abbrev slot0 : AVal := tup [.str (Str.ofString "slot"), .int 0]
abbrev homeKey (b : AVal) : AVal := tup [.str (Str.ofString "home"), b]
section
variable {B : Base} {C : Cx} {σ : Store} {N : Nat} {T : TS}
set_option maxHeartbeats 4000000 in
theorem c_home (F : Facts B) (hr : 2 ≤ C.room) (H : TOk N σ T) {base : AVal} {sh' : Nat → List (AVal × AVal)} (hb : (base = nameX ∧ sh' = fun i : Nat => dput T.sh (.int (i : Int)) nameShape) ∨ (base = slot0 ∧ sh' = fun _ => T.sh)) (hN : N + 3 ≤ 900000)
    {Q : AVal → Store → Prop} (hQ : ∀ i ks' σ', ks'[i]? = some (homeKey base) → (ks' = T.ks ∨ (homeKey base ∉ T.ks ∧ i = T.ks.length ∧ ks' = T.ks ++ [homeKey base])) → Fr σ σ' → σ'.length = σ.length → TOk (N + 3) σ' ⟨ks', T.sm, sh' i, dput T.hm (.int i) base⟩ → Q (kR i) σ') :
    OC B C (fun cs => call (.ref 318) cs) (tup [.loc 2, base]) σ Q := by
  refine call_def (ns := [Str.ofString "self", Str.ofString "base"]) (F.mt 3 318 (by decide)).at_ (one_le hr) ?_ (by decide) (names_of rfl) (by with_unfolding_all decide) fun q doc pm cdv L => ?_
  · exact args2 fun _ _ _ _ _ _ => rfl
  have hs := H.self
  have key : ∀ (i : Nat) ks' σ' sm, ks'[i]? = some (homeKey base) → (ks' = T.ks ∨ (homeKey base ∉ T.ks ∧ i = T.ks.length ∧ ks' = T.ks ++ [homeKey base])) → Fr σ σ' → σ'.length = σ.length → TOk (N + 1) σ' ⟨ks', T.sm, T.sh, T.hm⟩ → sm = σ' →
      WS B (cxOf C (mtG pw 3) q doc pm cdv L 318) (execs ((dBody (mtG pw 3)).drop 1) (cxOf C (mtG pw 3) q doc pm cdv L 318).env) [(Str.ofString "term", kR i), (Str.ofString "self", .loc 2), (Str.ofString "base", base)] sm (fun _ σ' => Q .none σ') Q := by
    rintro i ks' σ' _ h1 h2 h3 hl h4 rfl
    have hs := h4.self
    have h5 := h4.putHome (i := i) (v := base) (by omega)
    have hs5 := h5.self
    rcases hb with ⟨rfl, rfl⟩ | ⟨rfl, rfl⟩
    · repeat walk_at "m"
      refine o_set_I h4.homes h4.hmI (Nat.le_trans h4.hmL (by omega)) ?_
      repeat walk_at "m"
      refine o_set_I h5.shapes h5.shI (Nat.le_trans h5.shL (by omega)) ?_
      repeat walk_at "m"
      refine hQ i ks' _ h1 h2 ((h3.trans (Fr.set (by decide))).trans (Fr.set (by decide))) (by simp only [List.length_set]; exact hl) (h5.putShape (i := i) (v := nameShape) (by omega))
    · repeat walk_at "m"
      refine o_set_I h4.homes h4.hmI (Nat.le_trans h4.hmL (by omega)) ?_
      repeat walk_at "m"
      refine hQ i ks' _ h1 h2 (h3.trans (Fr.set (by decide))) (by simp only [List.length_set]; exact hl) (h5.more (by omega) (by omega))
  have htk : isTK (homeKey base) = true := by rcases hb with ⟨rfl, _⟩ | ⟨rfl, _⟩ <;> with_unfolding_all rfl
  refine s_cons (s_assign ?_)
  repeat walk_at "m"
  refine c_symbol F (room_of hr) H htk (fun i hi => ?_) (fun hn => ?_)
  · refine a_local ?_
    exact key i T.ks σ σ hi (.inl rfl) (Fr.refl σ) rfl (H.more (by omega) (by omega)) rfl
  · refine a_local ?_
    exact key _ _ _ _ (by simp) (.inr ⟨hn, rfl, rfl⟩) (Fr.set (by decide)) (List.length_set ..) (H.addKey htk hn (by omega)) rfl
end

noncomputable def wholeV : AVal := tup [.int (-2147483648), .int 2147483647]
section
variable {B : Base} {C : Cx} {σ : Store} {N : Nat} {T : TS}
theorem c_worked (F : Facts B) (hr : 1 ≤ C.room) {op : Str} {i : Nat} {v : Int} {Q : AVal → Store → Prop} (hQ : Q .none σ) : OC B C (fun cs => call (.ref 95) cs) (tup [.str op, .lst (tup [kR i, kK v])]) σ Q := by
  refine call_def (ns := [Str.ofString "op", Str.ofString "args"]) (F.fn 22 95 (by decide)).at_ (one_le hr) ?_ (by decide) (names_of rfl) (by with_unfolding_all decide) fun q doc pm cdv L => ?_
  · exact args2 fun _ _ _ _ _ _ => rfl
  repeat walk_at "m"
  refine s_for (src_val ?_)
  repeat walk_at "m"
  simp only [ItemsOf]
  refine ⟨fun i l' σ' => i = 0 ∧ σ' = σ, ⟨rfl, rfl⟩, fun l' σ' _ h => absurd h.1 (by simp [alen]), ?_⟩
  rintro j a l' σ' ha - ⟨rfl, rfl⟩
  cases ha
  repeat walk_at "m"
  exact hQ
theorem c_span_k (F : Facts B) (hr : 2 ≤ C.room) {v : Int} {Q : AVal → Store → Prop} (hQ : ∀ u : Int, u = (if v ≥ 2147483648 then v - 4294967296 else v) → Q (tup [.int u, .int u]) σ) : OC B C (fun cs => call (.ref 116) cs) (tup [kK v, .loc 2]) σ Q := by
  refine call_def (ns := [Str.ofString "operand", Str.ofString "facts"]) (F.fn 25 116 (by decide)).at_ (one_le hr) ?_ (by decide) (names_of rfl) (by with_unfolding_all decide) fun q doc pm cdv L => ?_
  · exact args2 fun _ _ _ _ _ _ => rfl
  have hr2 : 2 ≤ C.room := hr
  repeat walk_at "m"
  exact hQ _ rfl
set_option maxHeartbeats 4000000 in
theorem c_span_r (F : Facts B) (hr : 2 ≤ C.room) (H : TOk N σ T) (G : Good T) {i : Nat} (hi : i < 5) {Q : AVal → Store → Prop} (hQ : Q wholeV σ) : OC B C (fun cs => call (.ref 116) cs) (tup [kR i, .loc 2]) σ Q := by
  refine call_def (ns := [Str.ofString "operand", Str.ofString "facts"]) (F.fn 25 116 (by decide)).at_ (one_le hr) ?_ (by decide) (names_of rfl) (by with_unfolding_all decide) fun q doc pm cdv L => ?_
  · exact args2 fun _ _ _ _ _ _ => rfl
  have hs := H.self
  repeat walk_at "m"
  refine c_shape F (room_of hr) H ?_
  rw [G.shapes i hi]
  by_cases h3 : i = 3
  · rw [if_pos h3]
    unfold nameShape
    repeat walk_at "m"
    refine o_len_lst (Nat.le_of_ble_eq_true rfl) ?_
    repeat walk_at "m"
    exact hQ
  · rw [if_neg h3]
    repeat walk_at "m"
    exact hQ
theorem c_apart (F : Facts B) (hr : 1 ≤ C.room) {u : Int} (h1 : -2147483648 ≤ u) (h2 : u ≤ 2147483647) {Q : AVal → Store → Prop} (hQ : Q (.bool false) σ) : OC B C (fun cs => call (.ref 123) cs) (tup [wholeV, tup [.int u, .int u]]) σ Q := by
  refine call_def (ns := [Str.ofString "one", Str.ofString "other"]) (F.fn 26 123 (by decide)).at_ (one_le hr) ?_ (by decide) (names_of rfl) (by with_unfolding_all decide) fun q doc pm cdv L => ?_
  · exact args2 fun _ _ _ _ _ _ => rfl
  unfold wholeV
  repeat walk_at "m"
  refine itF (decide_eq_false (by omega)) ?_
  repeat walk_at "m"
  rw [show decide (u < -2147483648) = false from decide_eq_false (by omega)]
  exact hQ
end

section
variable {B : Base} {C : Cx} {σ : Store} {N : Nat} {T : TS}
theorem c_withnum (F : Facts B) (hr : 1 ≤ C.room) {op : String} (hop : op = "add" ∨ op = "xor") {Q : AVal → Store → Prop} (hQ : Q (.bool false) σ) : OC B C (fun cs => call (.ref 151) cs) (tup [nameShape, .str (Str.ofString op)]) σ Q := by
  refine call_def (ns := [Str.ofString "shape", Str.ofString "op"]) (F.fn 30 151 (by decide)).at_ (one_le hr) ?_ (by decide) (names_of rfl) (by with_unfolding_all decide) fun q doc pm cdv L => ?_
  · exact args2 fun _ _ _ _ _ _ => rfl
  unfold nameShape
  rcases hop with rfl | rfl
  · repeat walk_at "m"
    exact hQ
  · repeat walk_at "m"
    exact hQ
set_option maxHeartbeats 4000000 in
theorem c_eqrule (F : Facts B) (hr : 3 ≤ C.room) (H : TOk N σ T) (G : Good T) {op : String} (hop : op = "eq" ∨ op = "ne") {i : Nat} (hi : i < 5) {v : Int} (h0 : 0 ≤ v) (h1 : v < MM) {Q : AVal → Store → Prop} (hQ : Q .none σ) :
    OC B C (fun cs => call (.ref 235) cs) (tup [.str (Str.ofString op), .lst (tup [kR i, kK v]), .loc 2]) σ Q := by
  refine call_def (ns := [Str.ofString "op", Str.ofString "args", Str.ofString "facts"]) (F.fn 42 235 (by decide)).at_ (one_le hr) ?_ (by decide) (names_of rfl) (by with_unfolding_all decide) fun q doc pm cdv L => ?_
  · exact args3 fun _ _ _ _ _ _ _ => rfl
  have hs := H.self
  have h1 : v < 4294967296 := h1
  repeat walk_at "m"
  refine c_span_r F (room_of hr) H G hi ?_
  repeat walk_at "m"
  refine c_span_k F (room_of hr) fun u hu => ?_
  repeat walk_at "m"
  refine c_apart F (room_of hr) (by rw [hu]; split <;> omega) (by rw [hu]; split <;> omega) ?_
  repeat walk_at "m"
  refine c_shape F (room_of hr) H ?_
  rw [G.shapes i hi]
  by_cases h3 : i = 3
  · rw [if_pos h3]
    repeat walk_at "m"
    refine c_withnum F (room_of hr) (.inl rfl) ?_
    repeat walk_at "m"
    refine c_withnum F (room_of hr) (.inr rfl) ?_
    repeat walk_at "m"
    exact hQ
  · rw [if_neg h3]
    repeat walk_at "m"
    exact hQ
set_option maxHeartbeats 4000000 in
theorem c_better (F : Facts B) (hr : 4 ≤ C.room) (H : TOk N σ T) (G : Good T) {op : String} (hop : op = "eq" ∨ op = "ne") {i : Nat} (hi : i < 5) {v : Int} (h0 : 0 ≤ v) (h1 : v < MM) {Q : AVal → Store → Prop} (hQ : Q .none σ) :
    OC B C (fun cs => call (.ref 272) cs) (tup [.str (Str.ofString op), .lst (tup [kR i, kK v]), .loc 2]) σ Q := by
  refine call_def (ns := [Str.ofString "op", Str.ofString "args", Str.ofString "facts"]) (F.fn 48 272 (by decide)).at_ (one_le hr) ?_ (by decide) (names_of rfl) (by with_unfolding_all decide) fun q doc pm cdv L => ?_
  · exact args3 fun _ _ _ _ _ _ _ => rfl
  have hs := H.self
  rcases hop with rfl | rfl
  all_goals
    repeat walk_at "m"
    refine c_worked F (room_of hr) ?_
    repeat walk_at "m"
    refine r_Call ?_
    repeat walk_at "m"
    refine o_get_tab (F.tabs 264 _ rfl) (by with_unfolding_all rfl) ?_
    refine ⟨_, rfl, (F.fn 42 235 (by decide)).keeps, ?_⟩
    repeat walk_at "m"
  · exact c_eqrule F (room_of hr) H G (.inl rfl) hi h0 h1 hQ
  · exact c_eqrule F (room_of hr) H G (.inr rfl) hi h0 h1 hQ
end

theorem wt_nil {B : Base} {C : Cx} {l : Loc} {σ : Store} {Q : Bool → Store → Prop} (h : Q true σ) : WT B C [] l σ Q := h
theorem wt_one {B : Base} {C : Cx} {c : Expr} {l : Loc} {σ : Store} {Q : Bool → Store → Prop} (h : WB B C (isTrue c C.env (eval c C.env)) l σ Q) : WT B C [c] l σ Q := h
/-! the two turnings of a difference -/
noncomputable def turnL (l : List (Nat × Int)) : List (Nat × Int) := l.map fun p => (p.1, (-p.2) % MM)
abbrev eqV (w : Int) (l : List (Nat × Int)) : AVal := tup [pairsV l, .int w]
noncomputable def canon (w : Int) (l : List (Nat × Int)) : Int × List (Nat × Int) := if ltA (eqV ((-w) % MM) (turnL l)) (eqV w l) = true then ((-w) % MM, turnL l) else (w, l)
noncomputable def EqRes (ks : List AVal) (op : String) (w : Int) (l : List (Nat × Int)) (v : AVal) : Prop :=
  (l = [] ∧ v = kK (if (decide (w = 0) == decide (op = "eq")) = true then 1 else 0)) ∨ (l ≠ [] ∧ ∃ i : Nat, ks[i]? = some (headKey op (canon w l).1 (canon w l).2) ∧ v = kR i)
theorem turnL_snoc (n : Nat) (k : Int) (l : List (Nat × Int)) : turnL (l ++ [(n, k)]) = turnL l ++ [(n, (-k) % MM)] := by simp [turnL]
theorem okEs_pairs : ∀ (n : Nat) (r : List (Nat × Int)), okE.okEs (n + 3) (pairsV r) = true ∧ okE (n + 4) (pairsV r) = true := by
  intro n r
  induction r with
  | nil => exact ⟨rfl, rfl⟩
  | cons x r ih => obtain ⟨n, k⟩ := x; simp only [pairsV, okE, okE.okEs, ih.1, Bool.and_self, and_self]
theorem okEqV (w : Int) (l : List (Nat × Int)) : okE 50 (eqV w l) = true := by
  simp only [eqV, okE, okE.okEs, (okEs_pairs 45 l).2, Bool.and_self]
theorem cmp_pairs : ∀ l m : List (Nat × Int), cmpA (pairsV l) (pairsV m) = true
  | [], [] => rfl
  | [], (_, _) :: _ => rfl
  | (_, _) :: _, [] => rfl
  | (n, k) :: l, (n', k') :: m => by
    simp only [pairsV, cmpA]
    split
    · exact cmp_pairs l m
    · split
      · split
        · simp only
        · simp only
      · simp only
theorem cmpEqV (w w' : Int) (l m : List (Nat × Int)) : cmpA (eqV w l) (eqV w' m) = true := by
  simp only [eqV, cmpA]
  split
  · split <;> simp only
  · exact cmp_pairs l m
theorem turn_ne {l : List (Nat × Int)} (h : l ≠ []) : turnL l ≠ [] := by simpa [turnL] using h
theorem canon_len {w : Int} {l : List (Nat × Int)} : (canon w l).2.length = l.length := by
  unfold canon; split <;> simp [turnL]
theorem canon_at {w : Int} {l : List (Nat × Int)} (h : ∀ p ∈ l, p.1 < 5) : ∀ p ∈ (canon w l).2, p.1 < 5 := by
  unfold canon; split
  · intro p hp
    obtain ⟨q, hq, rfl⟩ := List.mem_map.mp hp
    exact h q hq
  · exact h
theorem opKey_atom {op : String} (hop : op = "eq" ∨ op = "ne") {w : Int} {l : List (Nat × Int)} : headKey op w l ∉ atomKeys := by
  intro h
  simp only [atomKeys, headKey, List.mem_cons, List.not_mem_nil, or_false, AVal.cons.injEq, AVal.str.injEq] at h
  have n1 : Str.ofString "eq" ≠ Str.ofString "in" := by decide +kernel
  have n2 : Str.ofString "eq" ≠ Str.ofString "home" := by decide +kernel
  have n3 : Str.ofString "ne" ≠ Str.ofString "in" := by decide +kernel
  have n4 : Str.ofString "ne" ≠ Str.ofString "home" := by decide +kernel
  rcases hop with rfl | rfl <;> simp [n1, n2, n3, n4] at h
theorem opKey_sum {op : String} (hop : op = "eq" ∨ op = "ne") {w : Int} {l : List (Nat × Int)} : ∀ w' l', headKey op w l ≠ sumKey w' l' := by
  intro w' l' h
  have := (headKey_inj h).1
  have n1 : Str.ofString "eq" ≠ Str.ofString "sum" := by decide +kernel
  have n3 : Str.ofString "ne" ≠ Str.ofString "sum" := by decide +kernel
  rcases hop with rfl | rfl <;> simp [n1, n3] at this
section
variable {B : Base} {C : Cx} {σ : Store} {N : Nat} {T : TS}
set_option maxHeartbeats 4000000 in
theorem c_toldequal (F : Facts B) (hr : 8 ≤ C.room) (H : TOk N σ T) (G : Good T) {op : String} (hop : op = "eq" ∨ op = "ne") {t u : AVal} {f g : Form} (h1 : TermIs T.ks t f) (h2 : TermIs T.ks u g) (hN : N + 20 ≤ 900000)
    {Q : AVal → Store → Prop} (hQ : ∀ v σ' T', Nxt (N + 20) σ T σ' T' → EqRes T'.ks op ((sumF [(t, 1, f), (u, -1, g)]).w % MM) (sumF [(t, 1, f), (u, -1, g)]).its v → Q v σ') :
    OC B C (fun cs => call (.ref 356) cs) (tup [.loc 2, .str (Str.ofString op), t, u]) σ Q := by
  refine call_def (ns := [Str.ofString "self", Str.ofString "op", Str.ofString "one", Str.ofString "other"]) (F.mt 9 356 (by decide)).at_ (one_le hr) ?_ (by decide) (names_of rfl) (by with_unfolding_all decide) fun q doc pm cdv L => ?_
  · exact args4 fun _ _ _ _ _ _ _ _ => rfl
  have hs := H.self
  repeat walk_at "m"
  refine c_sumof F (room_of hr) H G (ps := [(t, 1, f), (u, -1, g)]) (fun p hm => ?_) (Nat.le_of_ble_eq_true rfl) (nle hN) fun t1 σ1 T1 x1 ht1 => ?_
  · simp only [List.mem_cons, List.not_mem_nil, or_false] at hm
    rcases hm with rfl | rfl
    · exact ⟨h1, Nat.le_of_ble_eq_true rfl⟩
    · exact ⟨h2, Nat.le_of_ble_eq_true rfl⟩
  have hlen : (sumF [(t, 1, f), (u, -1, g)]).its.length ≤ 5 := its_le _
  have hat : ∀ p ∈ (sumF [(t, 1, f), (u, -1, g)]).its, p.1 < 5 := its_lt _
  unfold TermIs at ht1
  have hw0 : 0 ≤ (sumF [(t, 1, f), (u, -1, g)]).w % MM ∧ (sumF [(t, 1, f), (u, -1, g)]).w % MM < MM := ⟨Int.emod_nonneg _ (by decide), Int.emod_lt_of_pos _ (by decide)⟩
  obtain ⟨w, hw⟩ : ∃ w, (sumF [(t, 1, f), (u, -1, g)]).w % MM = w := ⟨_, rfl⟩
  obtain ⟨l, hl⟩ : ∃ l, (sumF [(t, 1, f), (u, -1, g)]).its = l := ⟨_, rfl⟩
  rw [hw] at hQ ht1 hw0
  rw [hl] at hQ ht1 hlen hat
  clear hw hl
  have hs1 := x1.ok.self
  repeat walk_at "m"
  refine c_parts F (room_of hr) x1.ok x1.good ht1 ?_
  repeat walk_at "m"
  have hso : PyData.strOk (Str.ofString op) = true := by rcases hop with rfl | rfl <;> with_unfolding_all rfl
  have hQ1 : ∀ v, EqRes T1.ks op w l v → Q v σ1 := fun v hv => hQ v σ1 T1 (x1.more (nll N) hN) hv
  obtain ⟨w2, hw2⟩ : ∃ x, (canon w l).1 = x := ⟨_, rfl⟩
  obtain ⟨l2, hl2⟩ : ∃ x, (canon w l).2 = x := ⟨_, rfl⟩
  have hlen3 : l2.length ≤ 5 := by rw [← hl2, canon_len]; exact hlen
  have hat3 : ∀ p ∈ l2, p.1 < 5 := hl2 ▸ canon_at hat
  have htk : isTK (headKey op w2 l2) = true := headKey_tk hso
  have rest3 : l ≠ [] → ∀ (i : Nat) l' σ2 T2, T2.ks[i]? = some (headKey op w2 l2) → Nxt (N + 7) σ T σ2 T2 → Sub [(Str.ofString "self", .loc 2), (Str.ofString "op", .str (Str.ofString op)), (Str.ofString "whole", .int w2), (Str.ofString "items", pairsV l2), (Str.ofString "term", kR i)] l' →
      WS B (cxOf C (mtG pw 9) q doc pm cdv L 356) (execs ((dBody (mtG pw 9)).drop 6) (cxOf C (mtG pw 9) q doc pm cdv L 356).env) l' σ2 (fun _ σ' => Q .none σ') Q := by
    intro hl0 i l' σ2 T2 hi x2 hsub
    refine WS.sub hsub ?_
    have hs2 := x2.ok.self
    repeat walk_at "m"
    refine withOk F hlen3 hat3 _ _ (N + 7) T2 _ (room_of hr) x2.ok x2.good (nle (a := 13) hN) fun t3 σ3 T3 x3 _ => ?_
    have hs3 := x3.ok.self
    repeat walk_at "m"
    have hi3 : T3.ks[i]? = some (headKey op w2 l2) := prefix_get x3.pre hi
    refine o_set_I x3.ok.shapes x3.ok.shI (Nat.le_trans x3.ok.shL (Nat.le_trans (nle (a := 13) hN) (by decide))) ?_
    repeat walk_at "m"
    refine hQ _ _ _ ⟨(x2.fr.trans x3.fr).trans (Fr.set (by decide)), (x3.ok.putShape (nle (a := 14) hN)).more (nll N (a := 14)) hN, x3.good.shape (atom_lt x3.good hi3 (opKey_atom hop)), x2.pre.trans x3.pre⟩ (.inr ⟨hl0, i, ?_, rfl⟩)
    rw [hw2, hl2]; exact hi3
  have rest2 : l ≠ [] → ∀ l', Sub [(Str.ofString "self", .loc 2), (Str.ofString "op", .str (Str.ofString op)), (Str.ofString "whole", .int w2), (Str.ofString "items", pairsV l2)] l' →
      WS B (cxOf C (mtG pw 9) q doc pm cdv L 356) (execs ((dBody (mtG pw 9)).drop 5) (cxOf C (mtG pw 9) q doc pm cdv L 356).env) l' σ1 (fun _ σ' => Q .none σ') Q := by
    intro hl0 l' hsub
    refine WS.sub hsub ?_
    repeat walk_at "m"
    refine c_symbol F (room_of hr) x1.ok htk (fun i hi => ?_) (fun hn => ?_)
    · refine a_local ?_
      exact rest3 hl0 i _ _ T1 hi (x1.more (nll N) (nle hN)) (sub_cons rfl (sub_cons rfl (sub_cons rfl (sub_cons rfl (sub_cons rfl sub_nil)))))
    · refine a_local ?_
      refine rest3 hl0 _ _ _ { T1 with ks := T1.ks ++ [headKey op w2 l2] } (by simp) ⟨x1.fr.trans (Fr.set (by decide)), x1.ok.addKey htk hn (nle (a := 7) hN), x1.good.key (opKey_sum hop), x1.pre.trans (List.prefix_append ..)⟩ (sub_cons rfl (sub_cons rfl (sub_cons rfl (sub_cons rfl (sub_cons rfl sub_nil)))))
  have rest : l ≠ [] → ∀ l', Sub [(Str.ofString "self", .loc 2), (Str.ofString "op", .str (Str.ofString op)), (Str.ofString "whole", .int w), (Str.ofString "items", pairsV l)] l' →
      WS B (cxOf C (mtG pw 9) q doc pm cdv L 356) (execs ((dBody (mtG pw 9)).drop 3) (cxOf C (mtG pw 9) q doc pm cdv L 356).env) l' σ1 (fun _ σ' => Q .none σ') Q := by
    intro hl0 l' hsub
    refine WS.sub hsub ?_
    repeat walk_at "m"
    refine r_Comp (lc := []) (caught cn_nil) (src_val ?_)
    repeat walk_at "m"
    refine items_tup (pairsV_ok _).1 ?_
    refine ⟨Nat.le_trans (pairsV_len _ ▸ hlen) (by decide), fun i ys σ' => σ' = σ1 ∧ ys = pairsV (turnL (l.take i)), ⟨rfl, rfl⟩, ?_, ?_⟩
    · rintro ys σ' - ⟨rfl, rfl⟩
      rw [pairsV_len, List.take_length]
      repeat walk_at "m"
      refine o_tuple (pairsV_ok _).1 (pairs_small (by unfold turnL; rw [List.length_map]; exact hlen)) ?_
      repeat walk_at "m"
      refine o_lt_tup (okEqV _ _) (okEqV _ _) (cmpEqV _ _ _ _) ?_
      repeat walk_at "m"
      refine itC (fun h => ?_) (fun h => ?_)
      · have hc : canon w l = ((-w) % MM, turnL l) := if_pos h
        rw [hc] at hw2 hl2
        simp only at hw2 hl2
        repeat first | ((with_reducible refine (?_ : WS _ _ (execs _ _) _ _ _ _)); refine rest2 hl0 _ ?_) | walk_at "m"
        rw [← hw2, ← hl2]
        exact sub_cons rfl (sub_cons rfl (sub_cons rfl (sub_cons rfl sub_nil)))
      · have hc : canon w l = (w, l) := if_neg (by rw [h]; decide)
        rw [hc] at hw2 hl2
        simp only at hw2 hl2
        repeat first | ((with_reducible refine (?_ : WS _ _ (execs _ _) _ _ _ _)); refine rest2 hl0 _ ?_) | walk_at "m"
        rw [← hw2, ← hl2]
        exact sub_cons rfl (sub_cons rfl (sub_cons rfl (sub_cons rfl sub_nil)))
    · rintro L2 i a ys σ' ha - ⟨rfl, rfl⟩
      obtain ⟨n, k, hi, rfl⟩ := pairsV_get ha
      repeat walk_at "m"
      refine ⟨sub_nil, ?_⟩
      refine wt_nil ?_
      repeat walk_at "m"
      refine ⟨trivial, rfl, ?_⟩
      rw [take_snoc hi, turnL_snoc, ← pairsV_snoc]
  clear rest2 rest3 htk hlen3 hat3 hw2 hl2
  rcases l with _ | ⟨⟨n1, k1⟩, _ | ⟨⟨n2, k2⟩, r1⟩⟩
  · repeat walk_at "m"
    refine o_eq (okE_str hso) (okE_str (by with_unfolding_all rfl)) ?_
    refine o_eq_bool ?_
    repeat walk_at "m"
    refine o_int_bool ?_
    repeat walk_at "m"
    refine hQ1 _ (.inl ⟨rfl, ?_⟩)
    have n1 : Str.ofString "ne" ≠ Str.ofString "eq" := by decide +kernel
    have n2 : ("ne" : String) ≠ "eq" := by decide
    rcases hop with rfl | rfl <;> by_cases h0 : w = 0 <;> simp [h0, n1, n2, kK]
  · have rest := rest (by simp)
    have hn1 : n1 < 5 := hat _ (List.mem_cons_self ..)
    repeat walk_at "b"
    refine t_fix (amem (.int k1) (tup [.int 1, .int 4294967295])) ?_ ?_
    · repeat walk_at "m"
      refine o_len_tup rfl (Nat.le_of_ble_eq_true rfl) ?_
      repeat walk_at "m"
      refine itC (fun h => ?_) (fun h => ?_)
      · repeat walk_at "m"
        rw [h]; exact ⟨rfl, rfl⟩
      · rw [h]; exact ⟨rfl, rfl⟩
    refine itC (fun h => ?_) (fun h => ?_)
    · repeat walk_at "m"
      rw [dec_int]
      refine itC (fun h => ?_) (fun h => ?_)
      · repeat walk_at "m"
        refine c_better F (room_of hr) x1.ok x1.good hop hn1 (Int.emod_nonneg _ (by decide)) (Int.emod_lt_of_pos _ (by decide)) ?_
        repeat first | ((with_reducible refine (?_ : WS _ _ (execs _ _) _ _ _ _)); refine rest _ ?_) | walk_at "m"
        exact sub_cons rfl (sub_cons rfl (sub_cons rfl (sub_cons rfl sub_nil)))
      · repeat walk_at "m"
        refine c_better F (room_of hr) x1.ok x1.good hop hn1 (Int.emod_nonneg _ (by decide)) (Int.emod_lt_of_pos _ (by decide)) ?_
        repeat first | ((with_reducible refine (?_ : WS _ _ (execs _ _) _ _ _ _)); refine rest _ ?_) | walk_at "m"
        exact sub_cons rfl (sub_cons rfl (sub_cons rfl (sub_cons rfl sub_nil)))
    · repeat first | ((with_reducible refine (?_ : WS _ _ (execs _ _) _ _ _ _)); refine rest _ ?_) | walk_at "m"
      exact (sub_cons rfl (sub_cons rfl (sub_cons rfl (sub_cons rfl sub_nil))))
  · have rest := rest (by simp)
    have hlen2 := pairs_small hlen
    repeat walk_at "b"
    refine o_eq (okP _) rfl ?_
    repeat walk_at "b"
    refine t_fix false ?_ ?_
    · repeat walk_at "m"
      refine o_len_tup rfl hlen2 ?_
      repeat walk_at "m"
      rfl
    repeat first | ((with_reducible refine (?_ : WS _ _ (execs _ _) _ _ _ _)); refine rest _ ?_) | walk_at "m"
    exact sub_cons rfl (sub_cons rfl (sub_cons rfl (sub_cons rfl sub_nil)))
end

/-! forms that come to the same -/
noncomputable def FEq (f g : Form) : Prop := f.w % MM = g.w % MM ∧ ∀ n, n < 5 → f.c n % MM = g.c n % MM
theorem FEq.its {f g : Form} (h : FEq f g) : f.its = g.its := itemsFrom_congr (ns := [0, 1, 2, 3, 4]) fun n hn => h.2 n (lt_of_five hn)
theorem FEq.term {f g : Form} (h : FEq f g) {ks : List AVal} {t : AVal} (x : TermIs ks t f) : TermIs ks t g := by
  unfold TermIs at x ⊢; rw [← h.1, ← h.its]; exact x
theorem its_nil {f : Form} (h : f.its = []) : ∀ n, n < 5 → f.c n % MM = 0 := by
  have : f.its = itemsFrom (fun _ => 0) [0, 1, 2, 3, 4] := h
  intro n hn
  have := itemsFrom_inj (by decide) this n (five_of_lt hn)
  simpa using this
noncomputable def mulF (f : Form) (b : Int) : Form := ⟨f.w * b, fun n => f.c n * b⟩
noncomputable def atomF (n : Nat) : Form := ⟨0, fun m => if m = n then 1 else 0⟩
theorem atom_term {ks : List AVal} {n : Nat} (h : n < 5) : TermIs ks (kR n) (atomF n) := by
  exact .a n h rfl (lt5 (P := fun n => (atomF n).its = [(n, 1)]) rfl rfl rfl rfl rfl n h) rfl
theorem nodup_at {α : Type} : ∀ {l : List α} {i j : Nat} {x : α}, l.Nodup → l[i]? = some x → l[j]? = some x → i = j
  | [], i, j, x, _, h, _ => by simp at h
  | a :: l, 0, 0, x, _, _, _ => rfl
  | a :: l, 0, j + 1, x, hn, h, h' => by
    rw [List.nodup_cons] at hn
    simp only [List.getElem?_cons_zero, Option.some.injEq] at h
    simp only [List.getElem?_cons_succ] at h'
    exact absurd (h ▸ List.mem_of_getElem? h') hn.1
  | a :: l, i + 1, 0, x, hn, h, h' => by
    rw [List.nodup_cons] at hn
    simp only [List.getElem?_cons_zero, Option.some.injEq] at h'
    simp only [List.getElem?_cons_succ] at h
    exact absurd (h' ▸ List.mem_of_getElem? h) hn.1
  | a :: l, i + 1, j + 1, x, hn, h, h' => by
    rw [List.nodup_cons] at hn
    simp only [List.getElem?_cons_succ] at h h'
    rw [nodup_at hn.2 h h']
theorem Good.at {T : TS} (G : Good T) {i : Nat} {k : AVal} (h : atomKeys[i]? = some k) : T.ks[i]? = some k := by
  obtain ⟨r, hr⟩ := G.atoms
  rw [hr, List.getElem?_append_left (List.getElem?_eq_some_iff.mp h).1]; exact h
theorem Good.name {T : TS} (G : Good T) : Good ⟨T.ks, T.sm, dput T.sh (.int (3 : Nat)) nameShape, dput T.hm (.int (3 : Nat)) nameX⟩ where
  atoms := G.atoms
  sums := G.sums
  nosum := G.nosum
  shapes := fun j hj => by
    simp only
    rw [dget_dput]
    by_cases h : j = 3
    · subst h; rw [if_pos rfl, if_pos rfl]
    · rw [if_neg (by intro e; injection e with e; omega), G.shapes j hj]
  homes := fun j hj => by
    simp only
    rw [dget_dput]
    by_cases h : j = 3
    · subst h; rw [if_pos rfl]; rfl
    · rw [if_neg (by intro e; injection e with e; omega), G.homes j hj]
section
variable {B : Base} {C : Cx} {σ : Store} {N : Nat} {T : TS}
theorem c_told_copy (F : Facts B) (hr : 1 ≤ C.room) {t : AVal} {Q : AVal → Store → Prop} (hQ : Q t σ) : OC B C (fun cs => call (.ref 370) cs) (tup [.loc 2, .str (Str.ofString "copy"), .lst (tup [t]), .int 0]) σ Q := by
  refine call_def (ns := [Str.ofString "self", Str.ofString "op", Str.ofString "args", Str.ofString "more"]) (F.mt 11 370 (by decide)).at_ (one_le hr) ?_ (by decide) (names_of rfl) (by with_unfolding_all decide) fun q doc pm cdv L => ?_
  · exact args4 fun _ _ _ _ _ _ _ _ => rfl
  repeat walk_at "m"
  exact hQ
set_option maxHeartbeats 4000000 in
theorem c_told_sum (F : Facts B) (hr : 9 ≤ C.room) (H : TOk N σ T) (G : Good T) {op : String} {args : AVal} {ps : List Part}
    (hop : (op = "add" ∧ ∃ t u f g, args = tup [t, u] ∧ ps = [(t, 1, f), (u, 1, g)]) ∨ (op = "sub" ∧ ∃ t u f g, args = tup [t, u] ∧ ps = [(t, 1, f), (u, -1, g)]) ∨
      (op = "neg" ∧ ∃ t f, args = tup [t] ∧ ps = [(t, -1, f), (kK 0, 1, kF 0)]) ∨ (op = "not" ∧ ∃ t f, args = tup [t] ∧ ps = [(t, -1, f), (kK 4294967295, 1, kF 4294967295)]))
    (hp : ∀ p ∈ ps, TermIs T.ks p.1 p.2.2) (hN : N + 6 ≤ 900000)
    {Q : AVal → Store → Prop} (hQ : ∀ t σ' T', Nxt (N + 6) σ T σ' T' → TermIs T'.ks t (sumF ps) → Q t σ') : OC B C (fun cs => call (.ref 370) cs) (tup [.loc 2, .str (Str.ofString op), .lst args, .int 0]) σ Q := by
  refine call_def (ns := [Str.ofString "self", Str.ofString "op", Str.ofString "args", Str.ofString "more"]) (F.mt 11 370 (by decide)).at_ (one_le hr) ?_ (by decide) (names_of rfl) (by with_unfolding_all decide) fun q doc pm cdv L => ?_
  · exact args4 fun _ _ _ _ _ _ _ _ => rfl
  have hs := H.self
  have key : ∀ {q doc pm cdv L}, OC B (cxOf C (mtG pw 11) q doc pm cdv L 370) (fun cs => call (.ref 351) cs) (tup [.loc 2, .str (Str.ofString op), .lst args]) σ Q := fun {q doc pm cdv L} => c_toldsum F (room_of hr) H G hop hp hN hQ
  clear hQ
  have hop : op = "add" ∨ op = "sub" ∨ op = "neg" ∨ op = "not" := by
    rcases hop with ⟨e, _⟩ | ⟨e, _⟩ | ⟨e, _⟩ | ⟨e, _⟩ <;> simp [e]
  rcases hop with rfl | rfl | rfl | rfl
  all_goals
    repeat walk_at "m"
    exact key
set_option maxHeartbeats 4000000 in
theorem c_told_eq (F : Facts B) (hr : 9 ≤ C.room) (H : TOk N σ T) (G : Good T) {op : String} (hop : op = "eq" ∨ op = "ne") {t u : AVal} {f g : Form} (h1 : TermIs T.ks t f) (h2 : TermIs T.ks u g) (hN : N + 20 ≤ 900000)
    {Q : AVal → Store → Prop} (hQ : ∀ v σ' T', Nxt (N + 20) σ T σ' T' → EqRes T'.ks op ((sumF [(t, 1, f), (u, -1, g)]).w % MM) (sumF [(t, 1, f), (u, -1, g)]).its v → Q v σ') :
    OC B C (fun cs => call (.ref 370) cs) (tup [.loc 2, .str (Str.ofString op), .lst (tup [t, u]), .int 0]) σ Q := by
  refine call_def (ns := [Str.ofString "self", Str.ofString "op", Str.ofString "args", Str.ofString "more"]) (F.mt 11 370 (by decide)).at_ (one_le hr) ?_ (by decide) (names_of rfl) (by with_unfolding_all decide) fun q doc pm cdv L => ?_
  · exact args4 fun _ _ _ _ _ _ _ _ => rfl
  have hs := H.self
  have key : ∀ {q doc pm cdv L}, OC B (cxOf C (mtG pw 11) q doc pm cdv L 370) (fun cs => call (.ref 356) cs) (tup [.loc 2, .str (Str.ofString op), t, u]) σ Q := fun {q doc pm cdv L} => c_toldequal F (room_of hr) H G hop h1 h2 hN hQ
  clear hQ
  rcases hop with rfl | rfl
  all_goals
    repeat walk_at "m"
    exact key
/-- a number times a term, on either side -/
theorem mul_k {f : Form} {v : Int} {t : AVal} (h : f.its = []) : FEq (sumF [(t, f.w % MM, kF v)]) (sumF [(t, v, f)]) := by
  refine ⟨?_, fun n hn => ?_⟩
  · simp only [sumF, kF, Int.add_zero]
    rw [Int.mul_comm, Int.mul_emod, Int.emod_emod, ← Int.mul_emod]
  · simp only [sumF, kF, Int.add_zero, Int.zero_mul]
    rw [Int.mul_emod, its_nil h n hn]; simp
set_option maxHeartbeats 4000000 in
theorem c_told_mul (F : Facts B) (hr : 9 ≤ C.room) (H : TOk N σ T) (G : Good T) {t args : AVal} {f : Form} {v : Int} (h0 : 0 ≤ v) (h1 : v < MM) (ha : args = tup [t, kK v] ∨ args = tup [kK v, t]) (ht : TermIs T.ks t f) (hN : N + 6 ≤ 900000)
    {Q : AVal → Store → Prop} (hQ : ∀ t' σ' T', Nxt (N + 6) σ T σ' T' → TermIs T'.ks t' (sumF [(t, v, f)]) → Q t' σ') :
    OC B C (fun cs => call (.ref 370) cs) (tup [.loc 2, .str (Str.ofString "mul"), .lst args, .int 0]) σ Q := by
  refine call_def (ns := [Str.ofString "self", Str.ofString "op", Str.ofString "args", Str.ofString "more"]) (F.mt 11 370 (by decide)).at_ (one_le hr) ?_ (by decide) (names_of rfl) (by with_unfolding_all decide) fun q doc pm cdv L => ?_
  · exact args4 fun _ _ _ _ _ _ _ _ => rfl
  have hs := H.self
  have key : ∀ {q doc pm cdv L}, OC B (cxOf C (mtG pw 11) q doc pm cdv L 370) (fun cs => call (.ref 330) cs) (tup [.loc 2, .lst (tup [tup [t, .int v]])]) σ Q := fun {q doc pm cdv L} =>
    c_sumof F (room_of hr) H G (ps := [(t, v, f)]) (fun p hm => by rw [List.mem_singleton.mp hm]; exact ⟨ht, by simp only [MM] at h1; simp only; omega⟩) (Nat.le_of_ble_eq_true rfl) hN hQ
  have key2 : ∀ {q doc pm cdv L}, f.its = [] → OC B (cxOf C (mtG pw 11) q doc pm cdv L 370) (fun cs => call (.ref 330) cs) (tup [.loc 2, .lst (tup [tup [kK v, .int (f.w % MM)]])]) σ Q := fun {q doc pm cdv L} hi =>
    c_sumof F (room_of hr) H G (ps := [(kK v, f.w % MM, kF v)]) (fun p hm => by rw [List.mem_singleton.mp hm]; exact ⟨term_k h0 h1, by simp only; have := Int.emod_nonneg f.w (b := MM) (by decide); have := Int.emod_lt_of_pos f.w (b := MM) (by decide); simp only [MM] at *; omega⟩) (Nat.le_of_ble_eq_true rfl) hN
      fun t' σ' T' x y => hQ t' σ' T' x ((show FEq (sumF [(kK v, f.w % MM, kF v)]) (sumF [(t, v, f)]) from mul_k (t := t) hi).term y)
  clear hQ
  rcases ha with rfl | rfl
  · have keyR : ∀ n : Nat, t = kR n → WS B (cxOf C (mtG pw 11) q doc pm cdv L 370) (execs (dBody (mtG pw 11)) (cxOf C (mtG pw 11) q doc pm cdv L 370).env)
        (zipArgs [Str.ofString "self", Str.ofString "op", Str.ofString "args", Str.ofString "more"] (tup [.loc 2, .str (Str.ofString "mul"), .lst (tup [t, kK v]), .int 0])) σ (fun _ σ' => Q .none σ') Q := by
      intro n e
      subst e
      repeat walk_at "m"
      exact key
    cases ht with
    | k hi ht =>
      subst ht
      repeat walk_at "m"
      exact key2 hi
    | a n hn hw hi ht => exact keyR n ht
    | s i h0 h1 hk ht => exact keyR i ht
  · repeat walk_at "m"
    exact key
set_option maxHeartbeats 4000000 in
theorem c_told_shl (F : Facts B) (hr : 9 ≤ C.room) (H : TOk N σ T) (G : Good T) {t : AVal} {f : Form} {v : Int} (h0 : 0 ≤ v) (h1 : v < 32) (ht : TermIs T.ks t f) (hN : N + 6 ≤ 900000)
    {Q : AVal → Store → Prop} (hQ : ∀ t' σ' T', Nxt (N + 6) σ T σ' T' → TermIs T'.ks t' (sumF [(t, 1 * 2 ^ v.toNat, f)]) → Q t' σ') :
    OC B C (fun cs => call (.ref 370) cs) (tup [.loc 2, .str (Str.ofString "shl"), .lst (tup [t, kK v]), .int 0]) σ Q := by
  refine call_def (ns := [Str.ofString "self", Str.ofString "op", Str.ofString "args", Str.ofString "more"]) (F.mt 11 370 (by decide)).at_ (one_le hr) ?_ (by decide) (names_of rfl) (by with_unfolding_all decide) fun q doc pm cdv L => ?_
  · exact args4 fun _ _ _ _ _ _ _ _ => rfl
  have hs := H.self
  have hb : (1 * 2 ^ v.toNat : Int).natAbs < 2 ^ 64 := by
    have : v.toNat < 32 := by omega
    rw [Int.one_mul, Int.natAbs_pow]
    exact Nat.lt_of_lt_of_le (Nat.pow_lt_pow_right (by decide) this) (Nat.le_of_ble_eq_true rfl)
  repeat walk_at "m"
  refine itT (decide_eq_true h1) ?_
  repeat walk_at "m"
  refine o_shl h0 (by omega) (by decide) ?_
  repeat walk_at "m"
  refine c_sumof F (room_of hr) H G (ps := [(t, 1 * 2 ^ v.toNat, f)]) (fun p hm => by rw [List.mem_singleton.mp hm]; exact ⟨ht, hb⟩) (Nat.le_of_ble_eq_true rfl) hN hQ
set_option maxHeartbeats 4000000 in
theorem c_told_name (F : Facts B) (hr : 9 ≤ C.room) (H : TOk N σ T) (G : Good T) {v : Int} (hN : N + 9 ≤ 900000)
    {Q : AVal → Store → Prop} (hQ : ∀ t' σ' T', Nxt (N + 9) σ T σ' T' → TermIs T'.ks t' (sumF [(kR 3, 1, atomF 3), (kK (v % 4294967296), 1, kF (v % 4294967296))]) → Q t' σ') :
    OC B C (fun cs => call (.ref 370) cs) (tup [.loc 2, .str (Str.ofString "name"), .lst .nil, tup [.str (Str.ofString "x"), .int v]]) σ Q := by
  refine call_def (ns := [Str.ofString "self", Str.ofString "op", Str.ofString "args", Str.ofString "more"]) (F.mt 11 370 (by decide)).at_ (one_le hr) ?_ (by decide) (names_of rfl) (by with_unfolding_all decide) fun q doc pm cdv L => ?_
  · exact args4 fun _ _ _ _ _ _ _ _ => rfl
  have hs := H.self
  have h3 : T.ks[3]? = some (homeKey nameX) := G.at (i := 3) rfl
  repeat walk_at "m"
  refine c_home F (room_of hr) H (.inl ⟨rfl, rfl⟩) (nle hN) fun i ks' σ' hi hks hfr _ hok => ?_
  have hks : ks' = T.ks := by
    rcases hks with e | ⟨hn, _, _⟩
    · exact e
    · exact absurd (List.mem_of_getElem? h3) hn
  subst hks
  obtain rfl : i = 3 := nodup_at H.nodup hi h3
  have hs2 := hok.self
  repeat walk_at "m"
  refine c_sumof F (room_of hr) hok G.name (ps := [(kR 3, 1, atomF 3), (kK (v % 4294967296), 1, kF (v % 4294967296))]) (fun p hm => ?_) (Nat.le_of_ble_eq_true rfl) hN fun t' σ2 T2 x2 ht => hQ t' σ2 T2 ⟨hfr.trans x2.fr, x2.ok, x2.good, x2.pre⟩ ht
  simp only [List.mem_cons, List.not_mem_nil, or_false] at hm
  rcases hm with rfl | rfl
  · exact ⟨atom_term (by decide), Nat.le_of_ble_eq_true rfl⟩
  · exact ⟨term_k (Int.emod_nonneg _ (by decide)) (Int.emod_lt_of_pos _ (by decide)), Nat.le_of_ble_eq_true rfl⟩
end

noncomputable def sgn (w : Int) : Int := if w ≥ 2147483648 then w - 4294967296 else w
abbrev kV (n : Nat) : AVal := tup [.str (Str.ofString "v"), .int n]
inductive BaseIs (ks : List AVal) (l : List (Nat × Int)) (b : AVal) : Prop
  | k (hl : l = []) (hb : b = kK 0)
  | h (n : Nat) (hn : n < 5) (hl : l = [(n, 1)]) (hb : homeOf n = some b)
  | v (i : Nat) (h0 : l ≠ []) (h1 : ∀ n, l = [(n, 1)] → homeOf n = none) (ht : WTerm ks 0 l (kR i)) (hb : b = kV i)
theorem BaseIs.mono {ks ks' : List AVal} {l : List (Nat × Int)} {b : AVal} (h : ks <+: ks') : BaseIs ks l b → BaseIs ks' l b
  | .k x y => .k x y
  | .h n x y z => .h n x y z
  | .v i x y z u => .v i x y (z.mono h) u
theorem o_item2 {B : Base} {C : Cx} {σ : Store} {e₁ e₂ : Expr} {x y : AVal} {Q : AVal → Store → Prop} (h : Q y σ)
    (hs : ∀ a t, subscripted e₂ false (.ref a) (.int 1 t) = operate [.ref a, .int 1 t] (getItem (.ref a) (.int 1 t)) := by intro _ _; with_unfolding_all rfl) : O2 B C (subscriptTail e₁ e₂) (tup [x, y]) (.int 1) σ Q :=
  o_item (i := 1) rfl rfl (by decide) h hs
section
variable {B : Base} {C : Cx} {σ : Store} {N : Nat} {T : TS}
theorem c_signedV (F : Facts B) (hr : 1 ≤ C.room) {v : Int} (h0 : 0 ≤ v) (h1 : v < MM) {Q : AVal → Store → Prop} (h : Q (.int (sgn v)) σ) : OC B C (fun cs => call (.ref 279) cs) (tup [.int v]) σ Q := by
  refine call_def (ns := [Str.ofString "value"]) (F.fn 52 279 (by decide)).at_ hr ?_ (by decide) (names_of rfl) List.nodup_nil fun q doc pm cdv L => ?_
  · exact args1 fun _ _ _ _ _ => rfl
  repeat walk_at "m"
  refine o_mod (by decide) ?_
  rw [Int.emod_eq_of_lt h0 h1]
  unfold sgn at h
  repeat walk_at "m"
  refine ifd (fun hv => ?_) (fun hv => ?_)
  · rw [if_pos hv] at h
    repeat walk_at "m"
    exact h
  · rw [if_neg hv] at h
    repeat walk_at "m"
    exact h
set_option maxHeartbeats 4000000 in
theorem c_placeof (F : Facts B) (hr : 7 ≤ C.room) (H : TOk N σ T) (G : Good T) {t : AVal} {w : Int} {l : List (Nat × Int)} (h0 : 0 ≤ w) (h1 : w < MM) (hlen : l.length ≤ 5) (hat : ∀ p ∈ l, p.1 < 5) (ht : WTerm T.ks w l t) (hN : N + 6 ≤ 900000)
    {Q : AVal → Store → Prop} (hQ : ∀ b σ' T', Nxt (N + 6) σ T σ' T' → BaseIs T'.ks l b → Q (tup [b, .int (sgn w), .int 4]) σ') : OC B C (fun cs => call (.ref 419) cs) (tup [.loc 2, t, .int 4]) σ Q := by
  refine call_def (ns := [Str.ofString "self", Str.ofString "term", Str.ofString "width"]) (F.mt 18 419 (by decide)).at_ (one_le hr) ?_ (by decide) (names_of rfl) (by with_unfolding_all decide) fun q doc pm cdv L => ?_
  · exact args3 fun _ _ _ _ _ _ _ => rfl
  have hs := H.self
  have hQ0 : ∀ b, BaseIs T.ks l b → Q (tup [b, .int (sgn w), .int 4]) σ := fun v hv => hQ v σ T (Nxt.here H G (Nat.le_add_right N 6) hN) hv
  repeat walk_at "m"
  refine c_parts F (room_of hr) H G ht ?_
  have last : ∀ ss l', ss = (dBody (mtG pw 18)).drop 3 → l ≠ [] → (∀ n, l = [(n, 1)] → homeOf n = none) → Sub [(Str.ofString "self", .loc 2), (Str.ofString "width", .int 4), (Str.ofString "whole", .int w), (Str.ofString "items", pairsV l)] l' →
      WS B (cxOf C (mtG pw 18) q doc pm cdv L 419) (execs ss (cxOf C (mtG pw 18) q doc pm cdv L 419).env) l' σ (fun _ σ' => Q .none σ') Q := by
    intro ss l' hss hl0 hno hsub
    subst hss
    refine WS.sub hsub ?_
    repeat walk_at "m"
    refine withOk F hlen hat _ _ N T _ (room_of hr) H G hN fun t3 σ3 T3 x3 ht3 => ?_
    have key : ∃ i : Nat, t3 = kR i ∧ WTerm T3.ks 0 l (kR i) := by
      cases ht3 with
      | k hi ht => exact absurd hi hl0
      | a n hn hw hi ht => exact ⟨n, ht, .a n hn rfl hi rfl⟩
      | s i h0 h1 hk ht => exact ⟨i, ht, .s i h0 h1 hk rfl⟩
    obtain ⟨i, rfl, ht3⟩ := key
    have hs3 := x3.ok.self
    repeat walk_at "m"
    refine c_signedV F (room_of hr) h0 h1 ?_
    repeat walk_at "m"
    exact hQ _ σ3 T3 x3 (.v i hl0 hno ht3 rfl)
  rcases l with _ | ⟨⟨n1, k1⟩, _ | ⟨⟨n2, k2⟩, r1⟩⟩
  · repeat walk_at "m"
    refine c_signedV F (room_of hr) h0 h1 ?_
    repeat walk_at "m"
    exact hQ0 _ (.k rfl rfl)
  · have hn1 : n1 < 5 := hat _ (List.mem_cons_self ..)
    repeat walk_at "b"
    refine t_fix (decide (k1 = 1) && (homeOf n1).isSome) ?_ ?_
    · repeat walk_at "m"
      refine o_len_tup rfl (Nat.le_of_ble_eq_true rfl) ?_
      repeat walk_at "m"
      rw [dec_int]
      refine itC (fun h => ?_) (fun h => ?_)
      · repeat walk_at "m"
        refine o_in_I H.homes H.hmI ?_
        rw [G.homes n1 hn1]
        rw [h]
        generalize (homeOf n1).isSome = bb
        repeat walk_at "m"
        refine itC (fun h => ?_) (fun h => ?_)
        · rw [h]
          repeat walk_at "m"
          first | exact ⟨rfl, rfl⟩ | rfl
        · rw [h]; first | exact ⟨rfl, rfl⟩ | rfl
      · rw [h]; first | exact ⟨rfl, rfl⟩ | rfl
    refine itC (fun h => ?_) (fun h => ?_)
    · simp only [Bool.and_eq_true, decide_eq_true_eq] at h
      obtain ⟨rfl, h⟩ := h
      obtain ⟨b, hb⟩ := Option.isSome_iff_exists.mp h
      repeat walk_at "m"
      refine o_get_I H.homes H.hmI ((G.homes n1 hn1).trans hb) ?_
      repeat walk_at "m"
      refine c_signedV F (room_of hr) h0 h1 ?_
      repeat walk_at "m"
      exact hQ0 _ (.h n1 hn1 rfl hb)
    · repeat first | (with_reducible refine last _ _ (by with_unfolding_all rfl) (by simp) ?_ ?_) | walk_at "m"
      · intro n e
        cases e
        cases hh : homeOf n1 with
        | none => rfl
        | some b => rw [hh] at h; simp at h
      · exact sub_cons rfl (sub_cons rfl (sub_cons rfl (sub_cons rfl sub_nil)))
  · have hlen2 := pairs_small hlen
    repeat walk_at "b"
    refine o_eq (okP _) rfl ?_
    repeat walk_at "b"
    refine t_fix false ?_ ?_
    · repeat walk_at "m"
      refine o_len_tup rfl hlen2 ?_
      repeat walk_at "m"
      rfl
    repeat first | (with_reducible refine last _ _ (by with_unfolding_all rfl) (by simp) ?_ ?_) | walk_at "m"
    · intro n e; cases e
    · exact sub_cons rfl (sub_cons rfl (sub_cons rfl (sub_cons rfl sub_nil)))
end

theorem ofInts_at : ∀ {l : List Int} {i : Nat} {n : Int}, l[i]? = some n → aget (ofInts l) i = some (.int n)
  | [], i, n, h => by simp at h
  | x :: l, 0, n, h => by simp at h; rw [ofInts, aget, h]
  | x :: l, i + 1, n, h => by simp only [List.getElem?_cons_succ] at h; rw [ofInts, aget, ofInts_at h]
theorem ofInts_snoc (n : Int) : ∀ l : List Int, asnoc (ofInts l) (.int n) = ofInts (l ++ [n])
  | [] => rfl
  | x :: l => by rw [ofInts, asnoc, ofInts_snoc n l]; rfl
theorem ofInts_isT : ∀ l : List Int, isT (ofInts l) = true
  | [] => rfl
  | _ :: _ => rfl
theorem ofInts_ok : ∀ (n : Nat) (l : List Int), okE (n + 1) (ofInts l) = true ∧ okE.okEs n (ofInts l) = true
  | n, [] => ⟨rfl, rfl⟩
  | n, x :: l => by simp [ofInts, okE, okE.okEs, (ofInts_ok n l).2, okE_int]
theorem ofInts_inj : ∀ {l m : List Int}, ofInts l = ofInts m → l = m
  | [], [], _ => rfl
  | [], _ :: _, h => by simp [ofInts] at h
  | _ :: _, [], h => by simp [ofInts] at h
  | x :: l, y :: m, h => by simp only [ofInts, AVal.cons.injEq, AVal.int.injEq] at h; rw [h.1, ofInts_inj h.2]
theorem tup_len : ∀ l : List AVal, alen (tup l) = l.length
  | [] => rfl
  | _ :: l => by simp [tup, alen, tup_len l]
theorem tup_at : ∀ {l : List AVal} {i : Nat}, aget (tup l) i = l[i]?
  | [], i => by simp [tup, aget]
  | x :: l, 0 => rfl
  | x :: l, i + 1 => by simp only [tup, aget, List.getElem?_cons_succ, tup_at (l := l)]
theorem tup_snoc (a : AVal) : ∀ l : List AVal, asnoc (tup l) a = tup (l ++ [a])
  | [] => rfl
  | x :: l => by rw [tup, asnoc, tup_snoc a l]; rfl
theorem tup_app : ∀ l m : List AVal, aapp (tup l) (tup m) = tup (l ++ m)
  | [], m => by cases m <;> rfl
  | x :: l, m => by rw [tup, aapp, tup_app l m]; rfl
theorem map_take {α β : Type} {g : α → β} {l : List α} {i : Nat} {x : α} (h : l[i]? = some x) : (l.take (i + 1)).map g = (l.take i).map g ++ [g x] := by
  rw [take_snoc h, List.map_append]; rfl
noncomputable def zipI (g : Int → Int → Int) : List Int → List Int → List Int
  | x :: l, y :: m => g x y :: zipI g l m
  | _, _ => []
theorem zipI_snoc {g : Int → Int → Int} : ∀ {l m : List Int} {i : Nat} {x y : Int}, l[i]? = some x → m[i]? = some y → zipI g (l.take (i + 1)) (m.take (i + 1)) = zipI g (l.take i) (m.take i) ++ [g x y]
  | [], _, i, x, y, h, _ => by simp at h
  | _ :: _, [], i, x, y, _, h => by simp at h
  | a :: l, b :: m, 0, x, y, h, h' => by simp at h h'; subst h; subst h'; simp [zipI]
  | a :: l, b :: m, i + 1, x, y, h, h' => by
    simp only [List.getElem?_cons_succ] at h h'
    simp only [List.take_succ_cons, zipI, zipI_snoc h h', List.cons_append]
theorem zipv_ints : ∀ {l m : List Int} {i : Nat} {a : AVal}, aget (zipv (ofInts l) (ofInts m)) i = some a → ∃ x y, l[i]? = some x ∧ m[i]? = some y ∧ a = tup [.int x, .int y]
  | [], m, i, a, h => by simp [ofInts, zipv, aget] at h
  | x :: l, [], i, a, h => by simp [ofInts, zipv, aget] at h
  | x :: l, y :: m, 0, a, h => by simp only [ofInts, zipv, aget, Option.some.injEq] at h; exact ⟨x, y, rfl, rfl, h.symm⟩
  | x :: l, y :: m, i + 1, a, h => by
    simp only [ofInts, zipv, aget] at h
    simpa using zipv_ints h
theorem filter_take {p : Int → Bool} {l : List Int} {i : Nat} {x : Int} (h : l[i]? = some x) : (l.take (i + 1)).filter p = (l.take i).filter p ++ (if p x = true then [x] else []) := by
  rw [take_snoc h, List.filter_append, List.filter_cons]; split <;> rfl
section
variable {B : Base} {C : Cx} {l lc : Loc} {σ : Store}
/-- a comprehension that maps ints -/
theorem comp_map {elt target iter : Expr} {scope : Scope} {pos : Pos} {Q : AVal → Store → Prop} (L : List Int) (g : Int → Int) (ca : Caught C scope l lc) (hz : L.length ≤ 100000)
    (h : WV B C (eval iter C.env) l σ fun a σ₁ => σ₁ = σ ∧ (a = ofInts L ∨ a = .lst (ofInts L)))
    (hstep : ∀ L2 n, n ∈ L → WA B (cxComp C scope L2) (assign target (cxComp C scope L2).env) (.int n) lc σ fun l₁ σ₁ => Sub lc l₁ ∧ WV B (cxComp C scope L2) (eval elt (cxComp C scope L2).env) l₁ σ₁ fun y σ₂ => y = .int (g n) ∧ σ₂ = σ)
    (hQ : Q (.lst (ofInts (L.map g))) σ) (hs : ∀ x, foldedSetIterable iter C.env x = pure x := by intro _; rfl) : WV B C (eval (.ListComp elt [⟨target, iter, [], 0⟩] scope pos) C.env) l σ Q := by
  refine r_Comp ca (src_val (W.mono h fun a σ₁ q => ?_)) hs
  obtain ⟨rfl, ha⟩ := q
  have main : alen (ofInts L) ≤ 100000 ∧ ∃ Inv : Nat → AVal → Store → Prop, Inv 0 .nil σ₁ ∧ (∀ ys σ', True → Inv (alen (ofInts L)) ys σ' → Q (.lst ys) σ') ∧
      ∀ L2 i a ys σ', aget (ofInts L) i = some a → True → Inv i ys σ' → WA B (cxComp C scope L2) (assign target (cxComp C scope L2).env) a lc σ' fun l₁ σ₁ => Sub lc l₁ ∧
        WT B (cxComp C scope L2) [] l₁ σ₁ fun ok σ₂ => if ok then WV B (cxComp C scope L2) (eval elt (cxComp C scope L2).env) l₁ σ₂ fun y σ₃ => True ∧ Inv (i + 1) (asnoc ys y) σ₃ else True ∧ Inv (i + 1) ys σ₂ := by
    refine ⟨by rw [alen_ofInts]; exact hz, fun i ys σ' => ys = ofInts ((L.take i).map g) ∧ σ' = σ₁, ⟨rfl, rfl⟩, ?_, ?_⟩
    · rintro ys σ' - ⟨rfl, rfl⟩
      rw [alen_ofInts, List.take_length]; exact hQ
    · rintro L2 i a ys σ' hi - ⟨rfl, rfl⟩
      obtain ⟨n, hn, rfl⟩ := ofInts_get hi
      refine WA.mono (hstep L2 n (List.mem_of_getElem? hn)) fun l₁ σ₁ q => ⟨q.1, wt_nil ?_⟩
      refine itT rfl ?_
      refine W.mono q.2 fun a σ₁ q => ⟨trivial, ?_, q.2⟩
      rw [q.1, ofInts_snoc, map_take hn]
  rcases ha with rfl | rfl
  · exact items_tup (ofInts_isT L) main
  · exact main
/-- and one that keeps some -/
theorem comp_filter {elt target iter c : Expr} {scope : Scope} {pos : Pos} {Q : AVal → Store → Prop} (L : List Int) (p : Int → Bool) (ca : Caught C scope l lc) (hz : L.length ≤ 100000)
    (h : WV B C (eval iter C.env) l σ fun a σ₁ => σ₁ = σ ∧ (a = ofInts L ∨ a = .lst (ofInts L)))
    (hstep : ∀ L2 n, n ∈ L → WA B (cxComp C scope L2) (assign target (cxComp C scope L2).env) (.int n) lc σ fun l₁ σ₁ => Sub lc l₁ ∧ WB B (cxComp C scope L2) (isTrue c (cxComp C scope L2).env (eval c (cxComp C scope L2).env)) l₁ σ₁ fun b σ₂ => b = p n ∧ σ₂ = σ ∧
      WV B (cxComp C scope L2) (eval elt (cxComp C scope L2).env) l₁ σ₂ fun y σ₂ => y = .int n ∧ σ₂ = σ)
    (hQ : Q (.lst (ofInts (L.filter p))) σ) (hs : ∀ x, foldedSetIterable iter C.env x = pure x := by intro _; rfl) : WV B C (eval (.ListComp elt [⟨target, iter, [c], 0⟩] scope pos) C.env) l σ Q := by
  refine r_Comp ca (src_val (W.mono h fun a σ₁ q => ?_)) hs
  obtain ⟨rfl, ha⟩ := q
  have main : alen (ofInts L) ≤ 100000 ∧ ∃ Inv : Nat → AVal → Store → Prop, Inv 0 .nil σ₁ ∧ (∀ ys σ', True → Inv (alen (ofInts L)) ys σ' → Q (.lst ys) σ') ∧
      ∀ L2 i a ys σ', aget (ofInts L) i = some a → True → Inv i ys σ' → WA B (cxComp C scope L2) (assign target (cxComp C scope L2).env) a lc σ' fun l₁ σ₁ => Sub lc l₁ ∧
        WT B (cxComp C scope L2) [c] l₁ σ₁ fun ok σ₂ => if ok then WV B (cxComp C scope L2) (eval elt (cxComp C scope L2).env) l₁ σ₂ fun y σ₃ => True ∧ Inv (i + 1) (asnoc ys y) σ₃ else True ∧ Inv (i + 1) ys σ₂ := by
    refine ⟨by rw [alen_ofInts]; exact hz, fun i ys σ' => ys = ofInts ((L.take i).filter p) ∧ σ' = σ₁, ⟨rfl, rfl⟩, ?_, ?_⟩
    · rintro ys σ' - ⟨rfl, rfl⟩
      rw [alen_ofInts, List.take_length]; exact hQ
    · rintro L2 i a ys σ' hi - ⟨rfl, rfl⟩
      obtain ⟨n, hn, rfl⟩ := ofInts_get hi
      refine WA.mono (hstep L2 n (List.mem_of_getElem? hn)) fun l₁ σ₁ q => ⟨q.1, wt_one ?_⟩
      refine W.mono q.2 fun a σ₁ q => ?_
      obtain ⟨rfl, rfl, q⟩ := q
      refine itC (fun hp => ?_) (fun hp => ?_)
      · refine W.mono q fun a σ₁ q => ⟨trivial, ?_, q.2⟩
        rw [q.1, ofInts_snoc, filter_take hn, if_pos hp]
      · refine ⟨trivial, ?_, rfl⟩
        rw [filter_take hn, if_neg (by rw [hp]; decide), List.append_nil]
  rcases ha with rfl | rfl
  · exact items_tup (ofInts_isT L) main
  · exact main
/-- over a zip of two rows of ints -/
theorem comp_zip {elt func : Expr} {elts args : List Expr} {tk : Nat} {tp p0 : Pos} {scope : Scope} {pos : Pos} {Q : AVal → Store → Prop} (L M : List Int) (g : Int → Int → Int) (ca : Caught C scope l lc) (hz : L.length ≤ 100000) (hLM : L.length = M.length)
    (h : WV B C (eval func C.env) l σ fun a σ₁ => a = .con (.type "zip") ∧ WL B C (spliced (backTo p0 (starEach args C.env))) l σ₁ fun as σ₂ => as = .cons (ofInts L) (.cons (ofInts M) .nil) ∧ σ₂ = σ)
    (hstep : ∀ L2 m n, m ∈ L → n ∈ M → WA B (cxComp C scope L2) (assign (.Tuple elts tk tp) (cxComp C scope L2).env) (tup [.int m, .int n]) lc σ fun l₁ σ₁ => Sub lc l₁ ∧ WV B (cxComp C scope L2) (eval elt (cxComp C scope L2).env) l₁ σ₁ fun y σ₂ => y = .int (g m n) ∧ σ₂ = σ)
    (hQ : Q (.lst (ofInts (zipI g L M))) σ) (hs : ∀ x, foldedSetIterable (.Call func args [] p0) C.env x = pure x := by intro _; rfl)
    (he : eval (.Call func args [] p0) C.env = (do callWith p0 (← eval func C.env) [] (backTo p0 (starEach args C.env)) (backToKw p0 (keywordEach [] C.env))) := by rfl)
    (hplain : (backTo p0 (starEach args C.env)).any (·.1) = false := by rfl) : WV B C (eval (.ListComp elt [⟨.Tuple elts tk tp, .Call func args [] p0, [], 0⟩] scope pos) C.env) l σ Q := by
  refine r_Comp ca (src_zip (W.mono h fun a σ₁ q => ⟨q.1, ?_⟩) he hplain) hs
  refine W.mono q.2 fun a σ₁ q => ?_
  obtain ⟨rfl, rfl⟩ := q
  refine ⟨ofInts L, ofInts M, rfl, ?_⟩
  refine items_tup (ofInts_isT L) ?_
  refine items_tup (ofInts_isT M) ?_
  refine ⟨by rw [alen_ofInts, alen_ofInts, hLM], ?_, ?_⟩
  · rw [zipv_len (by rw [alen_ofInts, alen_ofInts, hLM]), alen_ofInts]; exact hz
  refine ⟨fun i ys σ' => ys = ofInts (zipI g (L.take i) (M.take i)) ∧ σ' = σ₁, ⟨by simp [zipI, ofInts], rfl⟩, ?_, ?_⟩
  · rintro ys σ' - ⟨rfl, rfl⟩
    rw [zipv_len (by rw [alen_ofInts, alen_ofInts, hLM]), alen_ofInts, List.take_length, hLM, List.take_length]; exact hQ
  · rintro L2 i a ys σ' hi - ⟨rfl, rfl⟩
    obtain ⟨m, n, hm, hn, rfl⟩ := zipv_ints hi
    refine WA.mono (hstep L2 m n (List.mem_of_getElem? hm) (List.mem_of_getElem? hn)) fun l₁ σ₁ q => ⟨q.1, wt_nil ?_⟩
    refine itT rfl ?_
    refine W.mono q.2 fun a σ₁ q => ⟨⟨trivial, trivial⟩, ?_, q.2⟩
    rw [q.1, ofInts_snoc, zipI_snoc hm hn]
end

noncomputable def wellO (S : List Int) (k : Nat) : AObj := .list (tup [.lst (ofInts S), .int k])
noncomputable def numsV : AVal := tup [.int 0, .int 1, .int 2, .int 3, .int 65536, .int 4294967295, .int 2147483648, .int 4294967294, .int 2147483647, .int 16777216]
noncomputable def numsL : List Int := [0, 1, 2, 3, 65536, 4294967295, 2147483648, 4294967294, 2147483647, 16777216]
theorem nums_at (n : Nat) (h : n < 10) : ∃ v, aget numsV n = some (.int v) ∧ 0 ≤ v ∧ v < MM := by
  have hg : numsL[n]? = some (numsL[n]'h) := List.getElem?_eq_getElem h
  have hr : ∀ x ∈ numsL, 0 ≤ x ∧ x < MM := by decide
  exact ⟨numsL[n]'h, ofInts_at (l := numsL) hg, hr _ (List.getElem_mem h)⟩
noncomputable def modL (L : List Int) : List Int := L.map fun x => x % 4294967296
section
variable {B : Base} {C : Cx} {σ : Store} {N : Nat} {T : TS}
set_option maxHeartbeats 4000000 in
theorem c_draw (F : Facts B) (hr : 1 ≤ C.room) {S : List Int} {k : Nat} (hw : σ[0]? = some (wellO S k)) (hk : k ≤ 1000000) (hS : S.length ≤ 60) {size : Int} (h0 : 0 < size)
    {Q : AVal → Store → Prop} (hQ : ∀ v, 0 ≤ v → v < size → Q (.int v) (σ.set 0 (wellO S (k + 1)))) : OC B C (fun cs => call (.ref 434) cs) (tup [.loc 0, .int size]) σ Q := by
  refine call_def (ns := [Str.ofString "well", Str.ofString "size"]) (F.fn 63 434 (by decide)).at_ (one_le hr) ?_ (by decide) (names_of rfl) (by with_unfolding_all decide) fun q doc pm cdv L => ?_
  · exact args2 fun _ _ _ _ _ _ => rfl
  have hw' := hw
  unfold wellO at hw
  have hw2 : (σ.set 0 (wellO S (k + 1)))[0]? = some (.list (tup [.lst (ofInts S), .int (k + 1 : Nat)])) := set_at hw'
  have hlen : alen (ofInts S) ≤ 1000000 := by rw [alen_ofInts]; omega
  repeat walk_at "m"
  refine o_item_loc (i := 1) hw rfl (by decide) ?_
  repeat walk_at "m"
  refine o_set_list (i := 1) hw (Nat.le_of_ble_eq_true rfl) (by decide) ?_
  rw [show (AObj.list (aset (tup [AVal.lst (ofInts S), AVal.int (k : Int)]) 1 (AVal.int ((k : Int) + 1)))) = wellO S (k + 1) from rfl]
  repeat walk_at "m"
  refine o_item_loc (i := 0) hw2 rfl (by decide) ?_
  repeat walk_at "m"
  refine o_len_lst hlen ?_
  rw [alen_ofInts]
  repeat walk_at "m"
  refine ifd (fun hlt => ?_) (fun hge => ?_)
  · have hlt : k < S.length := by omega
    repeat walk_at "m"
    refine o_item_loc (i := 0) hw2 rfl (by decide) ?_
    repeat walk_at "m"
    refine o_item_lst (i := k) (ofInts_at (List.getElem?_eq_getElem hlt)) (by omega) ?_
    repeat walk_at "m"
    refine o_mod h0 ?_
    exact hQ _ (Int.emod_nonneg _ (by omega)) (Int.emod_lt_of_pos _ h0)
  · repeat walk_at "m"
    refine o_mul' (by decide) ?_
    repeat walk_at "m"
    refine o_mul (by omega) ?_
    repeat walk_at "m"
    refine o_mul' (by decide) ?_
    repeat walk_at "m"
    refine o_item_loc (i := 0) hw2 rfl (by decide) ?_
    repeat walk_at "m"
    refine o_len_lst hlen ?_
    repeat walk_at "m"
    refine o_mul' (by decide) ?_
    repeat walk_at "m"
    refine o_mod (by decide) ?_
    repeat walk_at "m"
    refine o_mod h0 ?_
    exact hQ _ (Int.emod_nonneg _ (by omega)) (Int.emod_lt_of_pos _ h0)
set_option maxHeartbeats 4000000 in
theorem c_amount (F : Facts B) (hr : 2 ≤ C.room) {S : List Int} {k : Nat} (hw : σ[0]? = some (wellO S k)) (hk : k + 2 ≤ 1000000) (hS : S.length ≤ 60)
    {Q : AVal → Store → Prop} (hQ : ∀ v k', k' ≤ k + 2 → 0 ≤ v → v < MM → Q (.int v) (σ.set 0 (wellO S k'))) : OC B C (fun cs => call (.ref 441) cs) (tup [.loc 0]) σ Q := by
  refine call_def (ns := [Str.ofString "well"]) (F.fn 64 441 (by decide)).at_ (one_le hr) ?_ (by decide) (names_of rfl) (by with_unfolding_all decide) fun q doc pm cdv L => ?_
  · exact args1 fun _ _ _ _ _ => rfl
  repeat walk_at "m"
  refine c_draw F (room_of hr) hw (by omega) hS (by decide) fun v h0 h1 => ?_
  repeat walk_at "m"
  refine ifd (fun hlt => ?_) (fun hge => ?_)
  · obtain ⟨n, rfl⟩ := Int.eq_ofNat_of_zero_le h0
    obtain ⟨v, hv, hv0, hv1⟩ := nums_at n (by omega)
    repeat walk_at "m"
    refine o_item (i := n) rfl hv (by omega) ?_
    exact hQ v _ (by omega) hv0 hv1
  · repeat walk_at "m"
    refine c_draw F (room_of hr) (set_at hw) (by omega) hS (by decide) fun v h0 h1 => ?_
    rw [List.set_set]
    exact hQ v _ (by omega) h0 h1
set_option maxHeartbeats 4000000 in
theorem c_all (F : Facts B) (hr : 1 ≤ C.room) {M : List Int} (hz : M.length ≤ 1000) {Q : AVal → Store → Prop} (hQ : Q (ofInts (modL M)) σ) : OC B C (fun cs => call (.ref 446) cs) (tup [.lst (ofInts M)]) σ Q := by
  refine call_def (ns := [Str.ofString "worth"]) (F.fn 65 446 (by decide)).at_ (one_le hr) ?_ (by decide) (names_of rfl) (by with_unfolding_all decide) fun q doc pm cdv L => ?_
  · exact args1 fun _ _ _ _ _ => rfl
  repeat walk_at "m"
  refine comp_map (lc := []) M (fun x => x % 4294967296) (caught cn_nil) (by omega) ?_ ?_ ?_
  · repeat walk_at "m"
    exact .inr rfl
  · intro L2 n hn
    repeat walk_at "m"
    refine ⟨sub_nil, ?_⟩
    repeat walk_at "m"
    refine o_mod (by decide) ?_
    exact ⟨rfl, rfl⟩
  · repeat walk_at "m"
    refine o_tuple (ofInts_isT _) (by rw [alen_ofInts, List.length_map]; omega) ?_
    exact hQ
set_option maxHeartbeats 4000000 in
theorem c_apartL (F : Facts B) (hr : 2 ≤ C.room) {M M' : List Int} (hz : M.length ≤ 1000) (hl : M.length = M'.length) {Q : AVal → Store → Prop} (hQ : Q (ofInts (modL (zipI (fun x y => x - y) M M'))) σ) :
    OC B C (fun cs => call (.ref 456) cs) (tup [ofInts M, ofInts M']) σ Q := by
  refine call_def (ns := [Str.ofString "one", Str.ofString "other"]) (F.fn 67 456 (by decide)).at_ (one_le hr) ?_ (by decide) (names_of rfl) (by with_unfolding_all decide) fun q doc pm cdv L => ?_
  · exact args2 fun _ _ _ _ _ _ => rfl
  have hlen : ∀ (l m : List Int), (zipI (fun x y => x - y) l m).length ≤ l.length := by
    intro l
    induction l with
    | nil => intro m; cases m <;> simp [zipI]
    | cons x l ih => intro m; cases m <;> simp [zipI, ih]
  repeat walk_at "m"
  refine comp_zip (lc := []) M M' (fun x y => x - y) (caught cn_nil) (by omega) hl ?_ ?_ ?_
  · refine r_builtin (F.builts _ _ rfl) ?_
    repeat walk_at "m"
    first | exact ⟨rfl, rfl⟩ | rfl
  · intro L2 m n hm hn
    repeat walk_at "m"
    refine ⟨sub_nil, ?_⟩
    repeat walk_at "m"
    first | exact ⟨rfl, rfl⟩ | rfl
  · repeat walk_at "m"
    refine c_all F (room_of hr) (by have := hlen M M'; omega) hQ
end

/-! what a form is worth -/
noncomputable def worthL (f : Form) : List Int := [f.w % 4294967296, (f.w + f.c 0) % 4294967296, (f.w + f.c 1) % 4294967296, (f.w + f.c 2) % 4294967296, (f.w + f.c 3) % 4294967296, (f.w + f.c 4) % 4294967296]
theorem worth_len (f : Form) : (worthL f).length = 6 := rfl
theorem worth_range (f : Form) : ∀ x ∈ worthL f, 0 ≤ x ∧ x < MM := by
  intro x hx
  simp only [worthL, List.mem_cons, List.not_mem_nil, or_false] at hx
  have : ∀ a : Int, 0 ≤ a % 4294967296 ∧ a % 4294967296 < 4294967296 := fun a => ⟨Int.emod_nonneg _ (by decide), Int.emod_lt_of_pos _ (by decide)⟩
  rcases hx with rfl | rfl | rfl | rfl | rfl | rfl <;> exact this _
theorem modL_worth (f : Form) : modL (worthL f) = worthL f := by
  simp only [modL, worthL, List.map_cons, List.map_nil, Int.emod_emod]
theorem worth_add (t u : AVal) (f g : Form) : modL (zipI (fun x y => x + 1 * y) (worthL f) (worthL g)) = worthL (sumF [(t, 1, f), (u, 1, g)]) := by
  have h0 : ∀ a b : Int, (a % 4294967296 + 1 * (b % 4294967296)) % 4294967296 = (a * 1 + (b * 1 + 0)) % 4294967296 := fun a b => by rw [Int.one_mul, Int.mul_one, Int.mul_one, Int.add_zero]; exact cg_add (cg_mod _) (cg_mod _)
  have h1 : ∀ a c b d : Int, ((a + c) % 4294967296 + 1 * ((b + d) % 4294967296)) % 4294967296 = (a * 1 + (b * 1 + 0) + (c * 1 + (d * 1 + 0))) % 4294967296 := fun a c b d => by simp only [Int.one_mul, Int.mul_one, Int.add_zero]; exact cg_lin (cg_add (cg_mod _) (cg_mod _)) (by simp +arith only)
  simp only [modL, zipI, worthL, sumF, List.map_cons, List.map_nil, List.cons.injEq, and_true]
  exact ⟨h0 _ _, h1 _ _ _ _, h1 _ _ _ _, h1 _ _ _ _, h1 _ _ _ _, h1 _ _ _ _⟩
theorem worth_sub (t u : AVal) (f g : Form) : modL (zipI (fun x y => x + -1 * y) (worthL f) (worthL g)) = worthL (sumF [(t, 1, f), (u, -1, g)]) := by
  have h0 : ∀ a b : Int, (a % 4294967296 + -1 * (b % 4294967296)) % 4294967296 = (a * 1 + (b * -1 + 0)) % 4294967296 := fun a b => by rw [Int.neg_mul, Int.one_mul, Int.mul_one, Int.add_zero, Int.mul_neg, Int.mul_one]; exact cg_add (cg_mod _) (cg_neg (cg_mod _))
  have h1 : ∀ a c b d : Int, ((a + c) % 4294967296 + -1 * ((b + d) % 4294967296)) % 4294967296 = (a * 1 + (b * -1 + 0) + (c * 1 + (d * -1 + 0))) % 4294967296 := fun a c b d => by rw [Int.neg_mul, Int.one_mul]; exact cg_lin (cg_add (cg_mod _) (cg_neg (cg_mod _))) (by simp +arith only)
  simp only [modL, zipI, worthL, sumF, List.map_cons, List.map_nil, List.cons.injEq, and_true]
  exact ⟨h0 _ _, h1 _ _ _ _, h1 _ _ _ _, h1 _ _ _ _, h1 _ _ _ _, h1 _ _ _ _⟩
theorem worth_apart (t u : AVal) (f g : Form) : modL (zipI (fun x y => x - y) (worthL f) (worthL g)) = worthL (sumF [(t, 1, f), (u, -1, g)]) := by
  have e : (fun x y : Int => x - y) = fun x y => x + -1 * y := by funext x y; rw [Int.neg_mul, Int.one_mul, Int.sub_eq_add_neg]
  rw [e]; exact worth_sub t u f g
theorem worth_negk (t u : AVal) (f : Form) (v v' : Int) (hv : v % 4294967296 = v' % 4294967296) : modL ((worthL f).map fun x => v - x) = worthL (sumF [(t, -1, f), (u, 1, kF v')]) := by
  have h0 : ∀ a : Int, (v - a % 4294967296) % 4294967296 = (a * -1 + (v' * 1 + 0)) % 4294967296 := fun a => cg_lin (cg_sub hv (cg_mod _)) (by simp +arith only)
  have h1 : ∀ a c : Int, (v - (a + c) % 4294967296) % 4294967296 = (a * -1 + (v' * 1 + 0) + (c * -1 + (0 * 1 + 0))) % 4294967296 := fun a c => cg_lin (cg_sub hv (cg_mod _)) (by simp +arith only)
  simp only [modL, worthL, sumF, kF, List.map_cons, List.map_nil, List.cons.injEq, and_true]
  exact ⟨h0 _, h1 _ _, h1 _ _, h1 _ _, h1 _ _, h1 _ _⟩
theorem worth_neg (t u : AVal) (f : Form) : modL ((worthL f).map fun x => 0 - x) = worthL (sumF [(t, -1, f), (u, 1, kF 0)]) := worth_negk t u f 0 0 rfl
theorem worth_not (t u : AVal) (f : Form) : modL ((worthL f).map fun x => 0 - 1 - x) = worthL (sumF [(t, -1, f), (u, 1, kF 4294967295)]) := worth_negk t u f (0 - 1) 4294967295 rfl
theorem worth_from (t u : AVal) (f : Form) (v : Int) : modL ((worthL f).map fun x => v - x) = worthL (sumF [(u, 1, kF v), (t, -1, f)]) := by
  rw [worth_negk t u f v v rfl]
  simp only [worthL, sumF, Int.add_zero, Int.add_comm (v * 1), Int.add_comm ((kF v).w * 1), Int.add_comm ((kF v).c _ * 1), Int.zero_add]
theorem worth_away (t u : AVal) (f : Form) (v : Int) : modL ((worthL f).map fun x => x + v) = worthL (sumF [(t, 1, f), (u, 1, kF (v % 4294967296))]) := by
  have h0 : ∀ a : Int, (a % 4294967296 + v) % 4294967296 = (a * 1 + (v % 4294967296 * 1 + 0)) % 4294967296 := fun a => cg_lin (cg_add (cg_mod _) (cg_mod _).symm) (by rw [Int.mul_one, Int.mul_one, Int.add_zero])
  have h1 : ∀ a c : Int, ((a + c) % 4294967296 + v) % 4294967296 = (a * 1 + (v % 4294967296 * 1 + 0) + (c * 1 + (0 * 1 + 0))) % 4294967296 := fun a c => cg_lin (cg_add (cg_mod _) (cg_mod _).symm) (by rw [Int.mul_one, Int.mul_one, Int.mul_one, Int.zero_mul, Int.add_zero, Int.add_zero, Int.add_zero]; exact Int.add_right_comm _ _ _)
  simp only [modL, worthL, sumF, kF, List.map_cons, List.map_nil, List.cons.injEq, and_true]
  exact ⟨h0 _, h1 _ _, h1 _ _, h1 _ _, h1 _ _, h1 _ _⟩
noncomputable def negF (f : Form) : Form := ⟨-f.w, fun n => -f.c n⟩
theorem worth_negF (f : Form) : modL ((worthL f).map fun x => 0 - x) = worthL (negF f) := by
  have h0 : ∀ a : Int, (0 - a % 4294967296) % 4294967296 = (-a) % 4294967296 := fun a => by rw [Int.zero_sub]; exact cg_neg (cg_mod _)
  have h1 : ∀ a c : Int, (0 - (a + c) % 4294967296) % 4294967296 = (-a + -c) % 4294967296 := fun a c => by rw [Int.zero_sub, ← Int.neg_add]; exact cg_neg (cg_mod _)
  simp only [modL, worthL, negF, List.map_cons, List.map_nil, List.cons.injEq, and_true]
  exact ⟨h0 _, h1 _ _, h1 _ _, h1 _ _, h1 _ _, h1 _ _⟩
theorem worth_mul (t : AVal) (f : Form) (v : Int) : modL ((worthL f).map fun x => x * v) = worthL (sumF [(t, v, f)]) := by
  have e : ∀ x : Int, (x % 4294967296 * v) % 4294967296 = (x * v) % 4294967296 := fun x => by rw [Int.mul_emod, Int.emod_emod, ← Int.mul_emod]
  simp only [modL, worthL, sumF, List.map_cons, List.map_nil, List.cons.injEq, and_true, e, Int.add_zero, Int.add_mul]
theorem worth_mul' (t : AVal) (f : Form) (v : Int) : modL ((worthL f).map fun x => x * v) = worthL (sumF [(t, 1 * v, f)]) := by rw [Int.one_mul]; exact worth_mul t f v

/-! the law's own state -/
noncomputable def Fr0 (σ σ' : Store) : Prop := ∀ k o, σ[k]? = some o → k ≠ 0 → k ≠ 3 → k ≠ 4 → k ≠ 5 → k ≠ 6 → σ'[k]? = some o
structure LS (S : List Int) (a N : Nat) (σ : Store) (T : TS) : Prop where
  ok : TOk N σ T
  good : Good T
  well : ∃ k, k ≤ a ∧ σ[0]? = some (wellO S k)
structure LN (S : List Int) (a N : Nat) (σ : Store) (T : TS) (σ' : Store) (T' : TS) : Prop where
  fr : Fr0 σ σ'
  ls : LS S a N σ' T'
  pre : T.ks <+: T'.ks
theorem LN.trans {S : List Int} {a b N M : Nat} {σ σ' σ'' : Store} {T T' T'' : TS} (x : LN S a N σ T σ' T') (y : LN S b M σ' T' σ'' T'') : LN S b M σ T σ'' T'' :=
  ⟨fun k o h h0 h3 h4 h5 h6 => y.fr k o (x.fr k o h h0 h3 h4 h5 h6) h0 h3 h4 h5 h6, y.ls, x.pre.trans y.pre⟩
theorem LN.refl {S : List Int} {a N : Nat} {σ : Store} {T : TS} (x : LS S a N σ T) : LN S a N σ T σ T := ⟨fun _ _ h _ _ _ _ _ => h, x, List.prefix_refl _⟩
theorem LN.told {S : List Int} {a N M : Nat} {σ σ' : Store} {T T' : TS} (x : LS S a N σ T) (y : Nxt M σ T σ' T') : LN S a M σ T σ' T' :=
  ⟨fun k o h _ h3 h4 h5 h6 => y.fr k o h h3 h4 h5 h6, ⟨y.ok, y.good, let ⟨k, hk, hw⟩ := x.well; ⟨k, hk, y.fr 0 _ hw (by decide) (by decide) (by decide) (by decide)⟩⟩, y.pre⟩
theorem LS.more {S : List Int} {a b N M : Nat} {σ : Store} {T : TS} (x : LS S a N σ T) (h : a ≤ b) (h2 : N ≤ M) (h3 : M ≤ 900000) : LS S b M σ T := ⟨x.ok.more h2 h3, x.good, let ⟨k, hk, hw⟩ := x.well; ⟨k, Nat.le_trans hk h, hw⟩⟩
theorem LN.more {S : List Int} {a b N M : Nat} {σ σ' : Store} {T T' : TS} (x : LN S a N σ T σ' T') (h : a ≤ b) (h2 : N ≤ M) (h3 : M ≤ 900000) : LN S b M σ T σ' T' := ⟨x.fr, x.ls.more h h2 h3, x.pre⟩
/-- a place beyond: the law's own lists -/
theorem LS.other {S : List Int} {a N : Nat} {σ : Store} {T : TS} (x : LS S a N σ T) {i : Nat} {o : AObj} (hi : 7 ≤ i) : LS S a N (σ.set i o) T := ⟨x.ok.other (.inl hi), x.good, let ⟨k, hk, hw⟩ := x.well; ⟨k, hk, (set_ne (by omega)).trans hw⟩⟩
theorem LS.app {S : List Int} {a N : Nat} {σ τ : Store} {T : TS} (x : LS S a N σ T) : LS S a N (σ ++ τ) T := ⟨x.ok.app, x.good, let ⟨k, hk, hw⟩ := x.well; ⟨k, hk, app_at hw⟩⟩
theorem LS.self {S : List Int} {a N : Nat} {σ : Store} {T : TS} (x : LS S a N σ T) : SelfOk σ := x.ok.self
abbrev worthV (f : Form) : AVal := ofInts (worthL f)
structure Rows (ks : List AVal) (σ : Store) (ts : List AVal) (fs : List Form) : Prop where
  ones : σ[7]? = some (.list (tup ts))
  worths : σ[8]? = some (.list (tup (fs.map worthV)))
  len : ts.length = fs.length
  lo : 5 ≤ ts.length
  hi : ts.length ≤ 100
  term : ∀ (i : Nat) (t : AVal) (f : Form), ts[i]? = some t → fs[i]? = some f → TermIs ks t f
  home : fs[3]? = some (atomF 3)
theorem Rows.mono {ks ks' : List AVal} {σ σ' : Store} {ts : List AVal} {fs : List Form} (x : Rows ks σ ts fs) (h : Fr0 σ σ') (hk : ks <+: ks') : Rows ks' σ' ts fs :=
  { x with ones := h _ _ x.ones (by decide) (by decide) (by decide) (by decide) (by decide), worths := h _ _ x.worths (by decide) (by decide) (by decide) (by decide) (by decide), term := fun i t f h1 h2 => (x.term i t f h1 h2).mono hk }
theorem Rows.ln {S : List Int} {a N : Nat} {σ σ' : Store} {T T' : TS} {ts : List AVal} {fs : List Form} (x : Rows T.ks σ ts fs) (h : LN S a N σ T σ' T') : Rows T'.ks σ' ts fs := x.mono h.fr h.pre
theorem Rows.at {ks : List AVal} {σ : Store} {ts : List AVal} {fs : List Form} (x : Rows ks σ ts fs) {i : Nat} (h : i < ts.length) : ∃ t f, ts[i]? = some t ∧ fs[i]? = some f ∧ TermIs ks t f := by
  have h2 : i < fs.length := x.len ▸ h
  exact ⟨ts[i], fs[i], List.getElem?_eq_getElem h, List.getElem?_eq_getElem h2, x.term i _ _ (List.getElem?_eq_getElem h) (List.getElem?_eq_getElem h2)⟩
theorem Rows.small {ks : List AVal} {σ : Store} {ts : List AVal} {fs : List Form} (x : Rows ks σ ts fs) : alen (tup ts) ≤ 1000000 := by rw [tup_len]; exact Nat.le_trans x.hi (by decide)
theorem Rows.pos {ks : List AVal} {σ : Store} {ts : List AVal} {fs : List Form} (x : Rows ks σ ts fs) : (0 : Int) < (ts.length : Int) := Int.ofNat_lt.mpr (Nat.lt_of_lt_of_le (by decide) x.lo)
theorem Rows.lt40 {ks : List AVal} {σ : Store} {ts : List AVal} {fs : List Form} (x : Rows ks σ ts fs) {i : Nat} (h : i < ts.length) : i < 2 ^ 40 := Nat.lt_of_lt_of_le h (Nat.le_trans x.hi (by decide))
theorem worth_le (f : Form) {n : Nat} (h : Nat.ble 6 n = true := by rfl) : (worthL f).length ≤ n := Nat.le_of_ble_eq_true h
section
variable {B : Base} {C : Cx} {σ : Store} {N : Nat} {T : TS} {S : List Int} {a : Nat}
theorem c_drawL (F : Facts B) (hr : 1 ≤ C.room) (H : LS S a N σ T) (ha : a ≤ 1000000) (hS : S.length ≤ 60) {size : Int} (h0 : 0 < size)
    {Q : AVal → Store → Prop} (hQ : ∀ (v : Nat) σ', (v : Int) < size → LN S (a + 1) N σ T σ' T → Q (.int v) σ') : OC B C (fun cs => call (.ref 434) cs) (tup [.loc 0, .int size]) σ Q := by
  obtain ⟨k, hk, hw⟩ := H.well
  refine c_draw F hr hw (Nat.le_trans hk ha) hS h0 fun v h1 h2 => ?_
  obtain ⟨n, rfl⟩ := Int.eq_ofNat_of_zero_le h1
  refine hQ n _ h2 ⟨fun k o h h0 _ _ _ _ => (set_ne (Ne.symm h0)).trans h, ⟨H.ok.other (.inr rfl), H.good, k + 1, Nat.succ_le_succ hk, set_at hw⟩, List.prefix_refl _⟩
theorem c_amountL (F : Facts B) (hr : 2 ≤ C.room) (H : LS S a N σ T) (ha : a + 2 ≤ 1000000) (hS : S.length ≤ 60)
    {Q : AVal → Store → Prop} (hQ : ∀ (v : Int) σ', 0 ≤ v → v < MM → LN S (a + 2) N σ T σ' T → Q (.int v) σ') : OC B C (fun cs => call (.ref 441) cs) (tup [.loc 0]) σ Q := by
  obtain ⟨k, hk, hw⟩ := H.well
  refine c_amount F hr hw (Nat.le_trans (Nat.add_le_add_right hk 2) ha) hS fun v k' hk' h1 h2 => ?_
  refine hQ v _ h1 h2 ⟨fun k o h h0 _ _ _ _ => (set_ne (Ne.symm h0)).trans h, ⟨H.ok.other (.inr rfl), H.good, k', Nat.le_trans hk' (Nat.add_le_add_right hk 2), set_at hw⟩, List.prefix_refl _⟩
end

theorem worthV_at {fs : List Form} {i : Nat} {f : Form} (h : fs[i]? = some f) : aget (tup (fs.map worthV)) i = some (worthV f) := by rw [tup_at, List.getElem?_map, h]; rfl
theorem ones_at {ts : List AVal} {i : Nat} {t : AVal} (h : ts[i]? = some t) : aget (tup ts) i = some t := by rw [tup_at, h]
theorem nat64 {x : Int} (h : 0 ≤ x ∧ x < MM) : x.natAbs < 2 ^ 64 := by simp only [MM] at h; omega
section
variable {B : Base} {C : Cx} {σ : Store} {N : Nat} {T : TS} {S : List Int} {a : Nat} {ts : List AVal} {fs : List Form}
set_option maxHeartbeats 8000000 in
theorem c_row (F : Facts B) (hr : 10 ≤ C.room) (H : LS S a N σ T) (R : Rows T.ks σ ts fs) (ha : a + 10 ≤ 1000000) (hS : S.length ≤ 60) (hN : N + 20 ≤ 900000)
    {Q : AVal → Store → Prop} (hQ : ∀ t L f σ' T', LN S (a + 6) (N + 20) σ T σ' T' → TermIs T'.ks t f → modL L = worthL f → Q (tup [t, .lst (ofInts L)]) σ') :
    OC B C (fun cs => call (.ref 451) cs) (tup [.loc 0, .loc 2, .loc 7, .loc 8]) σ Q := by
  refine call_def (ns := [Str.ofString "well", Str.ofString "terms", Str.ofString "ones", Str.ofString "worths"]) (F.fn 66 451 (by decide)).at_ (one_le hr) ?_ (by decide) (names_of rfl) (by with_unfolding_all decide) fun q doc pm cdv L => ?_
  · exact args4 fun _ _ _ _ _ _ _ _ => rfl
  have hlen := R.small
  repeat walk_at "m"
  refine c_drawL F (room_of hr) H (nl0 ha) hS (by decide) fun way σ1 hway x1 => ?_
  have R1 := R.ln x1
  repeat walk_at "m"
  refine o_len_loc R1.ones hlen ?_
  rw [tup_len]
  repeat walk_at "m"
  refine c_drawL F (room_of hr) x1.ls (nle ha) hS R.pos fun at1 σ2 hat x2' => ?_
  have hat := Int.ofNat_lt.mp hat
  have x2 := x1.trans x2'
  have R2 := R.ln x2
  obtain ⟨t, f, ht, hf, htf⟩ := R2.at (i := at1) hat
  have hs2 := x2.ls.self
  have hat40 := R.lt40 hat
  have H2 := x2.ls.ok
  have G2 := x2.ls.good
  repeat walk_at "m"
  refine ifd (fun hlt => ?_) (fun hge => ?_)
  · repeat walk_at "m"
    refine o_len_loc R2.ones hlen ?_
    rw [tup_len]
    repeat walk_at "m"
    refine c_drawL F (room_of hr) x2.ls (nle (a := 2) ha) hS R.pos fun at2 σ3 hat2 x3' => ?_
    have hat2 := Int.ofNat_lt.mp hat2
    have x3 := x2.trans x3'
    have R3 := R.ln x3
    have hs3 := x3.ls.self
    have hat40' := R.lt40 hat2
    obtain ⟨u, g, hu, hg, hug⟩ := R3.at (i := at2) hat2
    have hw : way = 0 ∨ way = 1 := by omega
    rcases hw with rfl | rfl
    · repeat walk_at "m"
      refine o_mul' (by decide) ?_
      repeat walk_at "m"
      refine o_item_loc (i := at1) R3.ones (ones_at ht) hat40 ?_
      repeat walk_at "m"
      refine o_item_loc (i := at2) R3.ones (ones_at hu) hat40' ?_
      repeat walk_at "m"
      refine c_told_sum F (room_of hr) x3.ls.ok x3.ls.good (ps := [(t, 1, f), (u, 1, g)]) (.inl ⟨rfl, t, u, f, g, rfl, rfl⟩) (fun p hp => ?_) (nle hN) fun t' σ4 T4 x4 ht' => ?_
      · simp only [List.mem_cons, List.not_mem_nil, or_false] at hp
        rcases hp with rfl | rfl
        · exact htf
        · exact hug
      have x5 := x3.trans (LN.told x3.ls x4)
      have R4 := R.ln x5
      have hs4 := x5.ls.self
      repeat walk_at "m"
      refine comp_zip (lc := [(Str.ofString "sign", .int 1)]) (worthL f) (worthL g) (fun x y => x + 1 * y) (caught (cn_cons rfl cn_nil)) (worth_le _) rfl ?_ ?_ ?_
      · refine r_builtin (F.builts _ _ rfl) ?_
        repeat walk_at "m"
        refine o_item_loc (i := at1) R4.worths (worthV_at hf) hat40 ?_
        repeat walk_at "m"
        refine o_item_loc (i := at2) R4.worths (worthV_at hg) hat40' ?_
        repeat walk_at "m"
        first | exact ⟨rfl, rfl⟩ | rfl
      · intro L2 m n hm hn
        repeat walk_at "m"
        refine ⟨sub_cons rfl sub_nil, ?_⟩
        repeat walk_at "m"
        refine o_mul' (by decide) ?_
        repeat walk_at "m"
        first | exact ⟨rfl, rfl⟩ | rfl
      · repeat walk_at "m"
        exact hQ _ _ _ _ _ (x5.more (nll a (a := 3)) (nll N) hN) ht' (worth_add t u f g)
    · repeat walk_at "m"
      refine o_mul' (by decide) ?_
      repeat walk_at "m"
      refine o_item_loc (i := at1) R3.ones (ones_at ht) hat40 ?_
      repeat walk_at "m"
      refine o_item_loc (i := at2) R3.ones (ones_at hu) hat40' ?_
      repeat walk_at "m"
      refine c_told_sum F (room_of hr) x3.ls.ok x3.ls.good (ps := [(t, 1, f), (u, -1, g)]) (.inr (.inl ⟨rfl, t, u, f, g, rfl, rfl⟩)) (fun p hp => ?_) (nle hN) fun t' σ4 T4 x4 ht' => ?_
      · simp only [List.mem_cons, List.not_mem_nil, or_false] at hp
        rcases hp with rfl | rfl
        · exact htf
        · exact hug
      have x5 := x3.trans (LN.told x3.ls x4)
      have R4 := R.ln x5
      have hs4 := x5.ls.self
      repeat walk_at "m"
      refine comp_zip (lc := [(Str.ofString "sign", .int (-1))]) (worthL f) (worthL g) (fun x y => x + -1 * y) (caught (cn_cons rfl cn_nil)) (worth_le _) rfl ?_ ?_ ?_
      · refine r_builtin (F.builts _ _ rfl) ?_
        repeat walk_at "m"
        refine o_item_loc (i := at1) R4.worths (worthV_at hf) hat40 ?_
        repeat walk_at "m"
        refine o_item_loc (i := at2) R4.worths (worthV_at hg) hat40' ?_
        repeat walk_at "m"
        first | exact ⟨rfl, rfl⟩ | rfl
      · intro L2 m n hm hn
        repeat walk_at "m"
        refine ⟨sub_cons rfl sub_nil, ?_⟩
        repeat walk_at "m"
        refine o_mul' (by decide) ?_
        repeat walk_at "m"
        first | exact ⟨rfl, rfl⟩ | rfl
      · repeat walk_at "m"
        exact hQ _ _ _ _ _ (x5.more (nll a (a := 3)) (nll N) hN) ht' (worth_sub t u f g)
  · skip
    repeat walk_at "m"
    rw [dec_int]
    refine itC (fun hw => ?_) (fun hw => ?_)
    · have X := x2
      repeat walk_at "m"
      refine o_item_loc (i := at1) R2.ones (ones_at ht) hat40 ?_
      repeat walk_at "m"
      refine c_told_sum F (room_of hr) x2.ls.ok x2.ls.good (ps := [(t, -1, f), (kK 0, 1, kF 0)]) (.inr (.inr (.inl ⟨rfl, t, f, rfl, rfl⟩))) (fun p hp => ?_) (nle hN) fun t' σ4 T4 x4 ht' => ?_
      · simp only [List.mem_cons, List.not_mem_nil, or_false] at hp
        rcases hp with rfl | rfl
        · exact htf
        · exact term_k (by decide) (by decide)
      have x5 := X.trans (LN.told X.ls x4)
      have R4 := R.ln x5
      have hs4 := x5.ls.self
      repeat walk_at "m"
      refine comp_map (lc := []) (worthL f) (fun x => 0 - x) (caught cn_nil) (worth_le _) ?_ ?_ ?_
      · repeat walk_at "m"
        refine o_item_loc (i := at1) R4.worths (worthV_at hf) hat40 ?_
        exact ⟨rfl, .inl rfl⟩
      · intro L2 n hn
        repeat walk_at "m"
        refine ⟨sub_nil, ?_⟩
        repeat walk_at "m"
        first | exact ⟨rfl, rfl⟩ | rfl
      · repeat walk_at "m"
        exact hQ _ _ _ _ _ (x5.more (nll a (a := 2)) (nll N) hN) ht' (worth_neg t (kK 0) f)
    repeat walk_at "m"
    rw [dec_int]
    refine itC (fun hw => ?_) (fun hw => ?_)
    · have X := x2
      repeat walk_at "m"
      refine o_item_loc (i := at1) R2.ones (ones_at ht) hat40 ?_
      repeat walk_at "m"
      refine c_told_sum F (room_of hr) x2.ls.ok x2.ls.good (ps := [(t, -1, f), (kK 4294967295, 1, kF 4294967295)]) (.inr (.inr (.inr ⟨rfl, t, f, rfl, rfl⟩))) (fun p hp => ?_) (nle hN) fun t' σ4 T4 x4 ht' => ?_
      · simp only [List.mem_cons, List.not_mem_nil, or_false] at hp
        rcases hp with rfl | rfl
        · exact htf
        · exact term_k (by decide) (by decide)
      have x5 := X.trans (LN.told X.ls x4)
      have R4 := R.ln x5
      have hs4 := x5.ls.self
      repeat walk_at "m"
      refine comp_map (lc := []) (worthL f) (fun x => 0 - 1 - x) (caught cn_nil) (worth_le _) ?_ ?_ ?_
      · repeat walk_at "m"
        refine o_item_loc (i := at1) R4.worths (worthV_at hf) hat40 ?_
        exact ⟨rfl, .inl rfl⟩
      · intro L2 n hn
        repeat walk_at "m"
        refine ⟨sub_nil, ?_⟩
        repeat walk_at "m"
        first | exact ⟨rfl, rfl⟩ | rfl
      · repeat walk_at "m"
        exact hQ _ _ _ _ _ (x5.more (nll a (a := 2)) (nll N) hN) ht' (worth_not t (kK 4294967295) f)
    repeat walk_at "m"
    rw [dec_int]
    refine itC (fun hw => ?_) (fun hw => ?_)
    · repeat walk_at "m"
      refine c_drawL F (room_of hr) x2.ls (nle (a := 2) ha) hS (by decide) fun places σ3 hpl x3' => ?_
      have X := x2.trans x3'
      have R3 := R.ln X
      have hs3 := X.ls.self
      repeat walk_at "m"
      refine o_item_loc (i := at1) R3.ones (ones_at ht) hat40 ?_
      repeat walk_at "m"
      refine c_told_shl F (room_of hr) X.ls.ok X.ls.good (t := t) (f := f) (Int.natCast_nonneg _) hpl htf (nle hN) fun t' σ4 T4 x4 ht' => ?_
      have x5 := X.trans (LN.told X.ls x4)
      have R4 := R.ln x5
      have hs4 := x5.ls.self
      repeat walk_at "m"
      refine comp_map (lc := [(Str.ofString "places", .int places)]) (worthL f) (fun x => x * 2 ^ (places : Int).toNat) (caught (cn_cons rfl cn_nil)) (worth_le _) ?_ ?_ ?_
      · repeat walk_at "m"
        refine o_item_loc (i := at1) R4.worths (worthV_at hf) hat40 ?_
        exact ⟨rfl, .inl rfl⟩
      · intro L2 n hn
        repeat walk_at "m"
        refine ⟨sub_cons rfl sub_nil, ?_⟩
        repeat walk_at "m"
        refine o_pow (Int.natCast_nonneg _) (Int.le_trans (Int.le_of_lt hpl) (by decide)) (by decide) ?_
        repeat walk_at "m"
        refine o_mul' (nat64 (worth_range f n hn)) ?_
        first | exact ⟨rfl, rfl⟩ | rfl
      · repeat walk_at "m"
        exact hQ _ _ _ _ _ (x5.more (nll a (a := 3)) (nll N) hN) ht' (worth_mul' t f _)
    repeat walk_at "m"
    rw [dec_int]
    refine itC (fun hw => ?_) (fun hw => ?_)
    · have X := x2
      repeat walk_at "m"
      refine o_item_loc (i := at1) R2.ones (ones_at ht) hat40 ?_
      repeat walk_at "m"
      refine c_told_copy F (room_of hr) ?_
      repeat walk_at "m"
      refine o_item_loc (i := at1) R2.worths (worthV_at hf) hat40 ?_
      repeat walk_at "m"
      refine o_list_tup (ofInts_isT _) (by rw [alen_ofInts]; exact worth_le _) ?_
      repeat walk_at "m"
      exact hQ _ _ _ _ _ (x2.more (nll a (a := 2)) (Nat.le_add_right N 20) hN) htf (modL_worth f)
    repeat walk_at "m"
    refine c_amountL F (room_of hr) x2.ls (nle (a := 4) ha) hS fun v σ3 hv0 hv1 x3' => ?_
    have X := x2.trans x3'
    have R3 := R.ln X
    have hs3 := X.ls.self
    repeat walk_at "m"
    rw [dec_int]
    refine itC (fun hw => ?_) (fun hw => ?_)
    · repeat walk_at "m"
      refine o_item_loc (i := at1) R3.ones (ones_at ht) hat40 ?_
      repeat walk_at "m"
      refine c_told_mul F (room_of hr) X.ls.ok X.ls.good (t := t) (f := f) hv0 hv1 (.inl rfl) htf (nle hN) fun t' σ4 T4 x4 ht' => ?_
      have x5 := X.trans (LN.told X.ls x4)
      have R4 := R.ln x5
      have hs4 := x5.ls.self
      repeat walk_at "m"
      refine comp_map (lc := [(Str.ofString "amount", .int v)]) (worthL f) (fun x => x * v) (caught (cn_cons rfl cn_nil)) (worth_le _) ?_ ?_ ?_
      · repeat walk_at "m"
        refine o_item_loc (i := at1) R4.worths (worthV_at hf) hat40 ?_
        exact ⟨rfl, .inl rfl⟩
      · intro L2 n hn
        repeat walk_at "m"
        refine ⟨sub_cons rfl sub_nil, ?_⟩
        repeat walk_at "m"
        refine o_mul' (nat64 (worth_range f n hn)) ?_
        first | exact ⟨rfl, rfl⟩ | rfl
      · repeat walk_at "m"
        exact hQ _ _ _ _ _ (x5.more (nll a (a := 4)) (nll N) hN) ht' (worth_mul t f _)
    repeat walk_at "m"
    rw [dec_int]
    refine itC (fun hw => ?_) (fun hw => ?_)
    · repeat walk_at "m"
      refine o_item_loc (i := at1) R3.ones (ones_at ht) hat40 ?_
      repeat walk_at "m"
      refine o_mod (by decide) ?_
      repeat walk_at "m"
      rw [dec_int]
      refine itC (fun hw => ?_) (fun hw => ?_)
      · repeat walk_at "m"
        refine c_told_mul F (room_of hr) X.ls.ok X.ls.good (t := t) (f := f) hv0 hv1 (.inr rfl) htf (nle hN) fun t' σ4 T4 x4 ht' => ?_
        have x5 := X.trans (LN.told X.ls x4)
        have R4 := R.ln x5
        have hs4 := x5.ls.self
        repeat walk_at "m"
        refine comp_map (lc := [(Str.ofString "amount", .int v)]) (worthL f) (fun x => x * v) (caught (cn_cons rfl cn_nil)) (worth_le _) ?_ ?_ ?_
        · repeat walk_at "m"
          refine o_item_loc (i := at1) R4.worths (worthV_at hf) hat40 ?_
          exact ⟨rfl, .inl rfl⟩
        · intro L2 n hn
          repeat walk_at "m"
          refine ⟨sub_cons rfl sub_nil, ?_⟩
          repeat walk_at "m"
          refine o_mul' (nat64 (worth_range f n hn)) ?_
          first | exact ⟨rfl, rfl⟩ | rfl
        · repeat walk_at "m"
          exact hQ _ _ _ _ _ (x5.more (nll a (a := 4)) (nll N) hN) ht' (worth_mul t f _)
      · repeat walk_at "m"
        refine c_told_sum F (room_of hr) X.ls.ok X.ls.good (ps := [(kK v, 1, kF v), (t, -1, f)]) (.inr (.inl ⟨rfl, kK v, t, kF v, f, rfl, rfl⟩)) (fun p hp => ?_) (nle hN) fun t' σ4 T4 x4 ht' => ?_
        · simp only [List.mem_cons, List.not_mem_nil, or_false] at hp
          rcases hp with rfl | rfl
          · exact term_k hv0 hv1
          · exact htf
        have x5 := X.trans (LN.told X.ls x4)
        have R4 := R.ln x5
        have hs4 := x5.ls.self
        repeat walk_at "m"
        refine comp_map (lc := [(Str.ofString "amount", .int v)]) (worthL f) (fun x => v - x) (caught (cn_cons rfl cn_nil)) (worth_le _) ?_ ?_ ?_
        · repeat walk_at "m"
          refine o_item_loc (i := at1) R4.worths (worthV_at hf) hat40 ?_
          exact ⟨rfl, .inl rfl⟩
        · intro L2 n hn
          repeat walk_at "m"
          refine ⟨sub_cons rfl sub_nil, ?_⟩
          repeat walk_at "m"
          first | exact ⟨rfl, rfl⟩ | rfl
        · repeat walk_at "m"
          exact hQ _ _ _ _ _ (x5.more (nll a (a := 4)) (nll N) hN) ht' (worth_from t (kK v) f v)
    repeat walk_at "m"
    refine o_mod (by decide) ?_
    repeat walk_at "m"
    refine c_told_name F (room_of hr) X.ls.ok X.ls.good (v := v % 4096 - 2048) (nle hN) fun t' σ4 T4 x4 ht' => ?_
    have x5 := X.trans (LN.told X.ls x4)
    have R4 := R.ln x5
    have hs4 := x5.ls.self
    repeat walk_at "m"
    refine comp_map (lc := [(Str.ofString "away", .int (v % 4096 - 2048))]) (worthL (atomF 3)) (fun x => x + (v % 4096 - 2048)) (caught (cn_cons rfl cn_nil)) (worth_le _) ?_ ?_ ?_
    · repeat walk_at "m"
      refine o_item_loc (i := 3) R4.worths (worthV_at R.home) (by decide) ?_
      exact ⟨rfl, .inl rfl⟩
    · intro L2 n hn
      repeat walk_at "m"
      refine ⟨sub_cons rfl sub_nil, ?_⟩
      repeat walk_at "m"
      first | exact ⟨rfl, rfl⟩ | rfl
    · repeat walk_at "m"
      exact hQ _ _ _ _ _ (x5.more (nll a (a := 4)) (nll N) hN) ht' (worth_away (kR 3) (kK ((v % 4096 - 2048) % 4294967296)) (atomF 3) _)
end

/-! terms and forms, in plain Lean -/
theorem FEq.refl (f : Form) : FEq f f := ⟨rfl, fun _ _ => rfl⟩
theorem FEq.symm {f g : Form} (h : FEq f g) : FEq g f := ⟨h.1.symm, fun n hn => (h.2 n hn).symm⟩
theorem FEq.trans {f g e : Form} (h : FEq f g) (h' : FEq g e) : FEq f e := ⟨h.1.trans h'.1, fun n hn => (h.2 n hn).trans (h'.2 n hn)⟩
theorem feq_its {f g : Form} : FEq f g ↔ (f.w % MM = g.w % MM ∧ f.its = g.its) :=
  ⟨fun h => ⟨h.1, h.its⟩, fun h => ⟨h.1, fun n hn => itemsFrom_inj (by decide) h.2 n (five_of_lt hn)⟩⟩
theorem feq_worth {f g : Form} : FEq f g ↔ worthL f = worthL g := by
  have up : ∀ a b c d : Int, a % 4294967296 = b % 4294967296 → c % 4294967296 = d % 4294967296 → (a + c) % 4294967296 = (b + d) % 4294967296 := fun _ _ _ _ => cg_add
  have dn : ∀ {a b c d : Int}, a % 4294967296 = b % 4294967296 → (a + c) % 4294967296 = (b + d) % 4294967296 → c % 4294967296 = d % 4294967296 := cg_can
  unfold FEq worthL MM
  simp only [List.cons.injEq, and_true]
  constructor
  · rintro ⟨h, hc⟩
    exact ⟨h, up _ _ _ _ h (hc 0 (by decide)), up _ _ _ _ h (hc 1 (by decide)), up _ _ _ _ h (hc 2 (by decide)), up _ _ _ _ h (hc 3 (by decide)), up _ _ _ _ h (hc 4 (by decide))⟩
  · rintro ⟨h, h0, h1, h2, h3, h4⟩
    exact ⟨h, lt5 (dn h h0) (dn h h1) (dn h h2) (dn h h3) (dn h h4)⟩
theorem neg_mod {a b : Int} (h : a % 4294967296 = b % 4294967296) : (-a) % 4294967296 = (-b) % 4294967296 := cg_neg h
theorem FEq.neg {f g : Form} (h : FEq f g) : FEq (negF f) (negF g) := ⟨neg_mod h.1, fun n hn => neg_mod (h.2 n hn)⟩
theorem negneg (f : Form) : FEq (negF (negF f)) f := by
  unfold FEq negF
  simp
theorem turn_its (f : Form) : turnL f.its = (negF f).its := by
  have : ∀ ns : List Nat, turnL (itemsFrom f.c ns) = itemsFrom (negF f).c ns := by
    intro ns
    induction ns with
    | nil => rfl
    | cons n r ih =>
      have e1 : f.c n % MM = 0 ↔ (negF f).c n % MM = 0 := cg_nz
      have e2 : (-(f.c n % MM)) % MM = (negF f).c n % MM := cg_neg (cg_mod _)
      rw [itemsFrom, itemsFrom]
      by_cases h : f.c n % MM = 0
      · rw [if_pos h, if_pos (e1.mp h), ih]
      · rw [if_neg h, if_neg (fun h' => h (e1.mpr h')), ← ih, ← e2]; rfl
  exact this _
theorem neg_w (f : Form) : (-(f.w % MM)) % MM = (negF f).w % MM := cg_neg (cg_mod _)
/-! of two, the one that comes first -/
noncomputable def shp : AVal → AVal → Bool
  | .int _, .int _ => true
  | .nil, .nil => true
  | .cons x xs, .cons y ys => shp x y && shp xs ys
  | _, _ => false
theorem tri : ∀ a b : AVal, shp a b = true → a = b ∨ (ltA a b = true ∧ ltA b a = false) ∨ (ltA a b = false ∧ ltA b a = true) := by
  intro a
  induction a with
  | int a =>
    intro b h
    cases b with
    | int b =>
      show AVal.int a = .int b ∨ (decide (a < b) = true ∧ decide (b < a) = false) ∨ (decide (a < b) = false ∧ decide (b < a) = true)
      rcases Int.lt_trichotomy a b with h | h | h
      · exact .inr (.inl ⟨decide_eq_true h, decide_eq_false (Int.not_lt.mpr (Int.le_of_lt h))⟩)
      · exact .inl (congrArg AVal.int h)
      · exact .inr (.inr ⟨decide_eq_false (Int.not_lt.mpr (Int.le_of_lt h)), decide_eq_true h⟩)
    | _ => cases h
  | nil =>
    intro b h
    cases b with
    | nil => exact .inl rfl
    | _ => cases h
  | cons x xs ihx ihs =>
    intro b h
    cases b with
    | cons y ys =>
      obtain ⟨h1, h2⟩ := Bool.and_eq_true_iff.mp (show (shp x y && shp xs ys) = true from h)
      show AVal.cons x xs = .cons y ys ∨ ((if x = y then ltA xs ys else ltA x y) = true ∧ (if y = x then ltA ys xs else ltA y x) = false) ∨ ((if x = y then ltA xs ys else ltA x y) = false ∧ (if y = x then ltA ys xs else ltA y x) = true)
      by_cases e : x = y
      · subst e
        rw [if_pos rfl, if_pos rfl]
        exact (ihs ys h2).imp (fun h => by rw [h]) id
      · rw [if_neg e, if_neg (Ne.symm e)]
        exact .inr ((ihx y h1).resolve_left e)
    | _ => cases h
  | _ => intro b h; cases b <;> cases h
theorem choose_iff {X : Type} (K : Form → X) (k : X → AVal) (hK : ∀ d e, K d = K e ↔ FEq d e) (ht : ∀ d, shp (k (K (negF d))) (k (K d)) = true) (hk : ∀ x y, k x = k y → x = y) (d e : Form) :
    ((if ltA (k (K (negF d))) (k (K d)) = true then K (negF d) else K d) = (if ltA (k (K (negF e))) (k (K e)) = true then K (negF e) else K e)) ↔ (FEq d e ∨ FEq d (negF e)) := by
  have back : ∀ {f g : Form}, FEq (negF f) g → FEq f (negF g) := fun h => (negneg _).symm.trans h.neg
  constructor
  · intro h
    split at h <;> split at h
    · exact .inl (((negneg d).symm.trans ((hK _ _).mp h).neg).trans (negneg e))
    · exact .inr (back ((hK _ _).mp h))
    · exact .inr ((hK _ _).mp h)
    · exact .inl ((hK _ _).mp h)
  · rintro (h | h)
    · rw [(hK _ _).mpr h, (hK _ _).mpr h.neg]
    · have h1 : K d = K (negF e) := (hK _ _).mpr h
      have h2 : K (negF d) = K e := (hK _ _).mpr (h.neg.trans (negneg e))
      rw [h1, h2]
      rcases tri _ _ (ht e) with h | ⟨h, h'⟩ | ⟨h, h'⟩
      · rw [hk _ _ h]
      · rw [h, h']; simp
      · rw [h, h']; simp
theorem shp_pairs (c d : Nat → Int) : ∀ ns : List Nat, (∀ n ∈ ns, c n % MM = 0 ↔ d n % MM = 0) → shp (pairsV (itemsFrom c ns)) (pairsV (itemsFrom d ns)) = true
  | [], _ => rfl
  | n :: r, h => by
    have ih := shp_pairs c d r fun m hm => h m (List.mem_cons_of_mem _ hm)
    have h := h n (List.mem_cons_self ..)
    rw [itemsFrom, itemsFrom]
    by_cases h0 : c n % MM = 0
    · rw [if_pos h0, if_pos (h.mp h0)]; exact ih
    · rw [if_neg h0, if_neg (fun h' => h0 (h.mpr h'))]
      simp only [pairsV, shp, ih, Bool.and_self]
theorem shp_ints : ∀ {l m : List Int}, l.length = m.length → shp (ofInts l) (ofInts m) = true
  | [], [], _ => rfl
  | [], _ :: _, h => by simp at h
  | _ :: _, [], h => by simp at h
  | x :: l, y :: m, h => by simp only [ofInts, shp, Bool.true_and]; exact shp_ints (by simpa using h)
theorem canon_iff (d e : Form) : canon (d.w % MM) d.its = canon (e.w % MM) e.its ↔ (FEq d e ∨ FEq d (negF e)) := by
  have := choose_iff (fun f => (f.w % MM, f.its)) (fun x => eqV x.1 x.2) (fun d e => by rw [feq_its, Prod.mk.injEq]) (fun d => ?_) (fun x y h => ?_) d e
  · unfold canon
    rw [neg_w, neg_w, turn_its, turn_its]
    exact this
  · simp only [eqV, shp, Bool.and_self, Bool.and_true]
    exact shp_pairs _ _ [0, 1, 2, 3, 4] fun n _ => by unfold MM negF; simp only; omega
  · simp only [AVal.cons.injEq, AVal.int.injEq, and_true] at h
    exact Prod.ext h.2 (pairsV_inj h.1)
noncomputable def minW (d : Form) : List Int := if ltA (worthV (negF d)) (worthV d) = true then worthL (negF d) else worthL d
theorem minW_iff (d e : Form) : minW d = minW e ↔ (FEq d e ∨ FEq d (negF e)) :=
  choose_iff worthL ofInts (fun d e => feq_worth.symm) (fun d => shp_ints rfl) (fun x y h => ofInts_inj h) d e
/-! terms are the same just where their forms are -/
theorem str_kr : Str.ofString "k" ≠ Str.ofString "r" := by decide +kernel
theorem WTerm.iff {T : TS} (G : Good T) (hn : T.ks.Nodup) {w w' : Int} {l l' : List (Nat × Int)} {t t' : AVal} (x : WTerm T.ks w l t) (y : WTerm T.ks w' l' t') : t = t' ↔ (w = w' ∧ l = l') := by
  have kr : ∀ {v : Int} {n : Nat}, kK v ≠ kR n := fun h => by simp only [AVal.cons.injEq, AVal.str.injEq] at h; exact str_kr h.1
  have rr : ∀ {n m : Nat}, kR n = kR m ↔ n = m := by
    intro n m
    simp only [AVal.cons.injEq, AVal.int.injEq, true_and, and_true]
    omega
  cases x with
  | k hi ht =>
    subst ht
    cases y with
    | k hi' ht' => subst ht'; simp [hi, hi']
    | a n hn hw hi' ht' => subst ht'; exact ⟨fun h => absurd h kr, fun h => by rw [← h.2, hi] at hi'; cases hi'⟩
    | s i h0 h1 hk ht' => subst ht'; exact ⟨fun h => absurd h kr, fun h => absurd (h.2.symm.trans hi) h0⟩
  | a n hn5 hw hi ht =>
    subst ht
    cases y with
    | k hi' ht' => subst ht'; exact ⟨fun h => absurd h.symm kr, fun h => by rw [h.2, hi'] at hi; cases hi⟩
    | a m hm5 hw' hi' ht' =>
      subst ht'
      rw [rr, hw, hw', hi, hi']
      simp
    | s i h0 h1 hk ht' =>
      subst ht'
      rw [rr]
      refine ⟨fun h => ?_, fun h => ?_⟩
      · have := atom_lt G hk sumKey_atom; omega
      · exact absurd ⟨h.1.symm.trans hw, n, h.2.symm.trans hi⟩ h1
  | s i h0 h1 hk ht =>
    subst ht
    cases y with
    | k hi' ht' => subst ht'; exact ⟨fun h => absurd h.symm kr, fun h => absurd (h.2.trans hi') h0⟩
    | a m hm5 hw' hi' ht' =>
      subst ht'
      rw [rr]
      refine ⟨fun h => ?_, fun h => ?_⟩
      · have := atom_lt G hk sumKey_atom; omega
      · exact absurd ⟨h.1.trans hw', m, h.2.trans hi'⟩ h1
    | s j h0' h1' hk' ht' =>
      subst ht'
      rw [rr]
      refine ⟨fun h => ?_, fun h => ?_⟩
      · subst h
        have := headKey_inj (Option.some.inj (hk.symm.trans hk'))
        exact this.2
      · rw [h.1, h.2] at hk
        exact nodup_at hn hk hk'
theorem term_iff {T : TS} (G : Good T) (hn : T.ks.Nodup) {f g : Form} {t u : AVal} (x : TermIs T.ks t f) (y : TermIs T.ks u g) : t = u ↔ worthL f = worthL g := by
  rw [WTerm.iff G hn x y, ← feq_its, feq_worth]
theorem home_k {n : Nat} {b : AVal} (h : homeOf n = some b) : (n = 3 ∧ b = nameX) ∨ (n = 4 ∧ b = slot0) := by
  unfold homeOf at h
  split at h
  · exact .inl ⟨by assumption, (Option.some.inj h).symm⟩
  · split at h
    · exact .inr ⟨by assumption, (Option.some.inj h).symm⟩
    · cases h
theorem base_iff {T : TS} (G : Good T) (hn : T.ks.Nodup) {l l' : List (Nat × Int)} {b b' : AVal} (x : BaseIs T.ks l b) (y : BaseIs T.ks l' b') : b = b' ↔ l = l' := by
  have n1 : Str.ofString "k" ≠ Str.ofString "name" := by decide +kernel
  have n2 : Str.ofString "k" ≠ Str.ofString "slot" := by decide +kernel
  have n3 : Str.ofString "k" ≠ Str.ofString "v" := by decide +kernel
  have n4 : Str.ofString "name" ≠ Str.ofString "slot" := by decide +kernel
  have n5 : Str.ofString "v" ≠ Str.ofString "name" := by decide +kernel
  have n6 : Str.ofString "v" ≠ Str.ofString "slot" := by decide +kernel
  cases x with
  | k hl hb =>
    cases y with
    | k hl' hb' => rw [hl, hl', hb, hb']; simp
    | h n hn hl' hb' => rcases home_k hb' with ⟨rfl, rfl⟩ | ⟨rfl, rfl⟩ <;> rw [hl, hl', hb] <;> simp [n1, n2]
    | v i h0 h1 ht hb' => rw [hl, hb, hb']; simp [n3, Ne.symm h0]
  | h n hn5 hl hb =>
    cases y with
    | k hl' hb' => rcases home_k hb with ⟨rfl, rfl⟩ | ⟨rfl, rfl⟩ <;> rw [hl, hl', hb'] <;> simp [Ne.symm n1, Ne.symm n2]
    | h m hm hl' hb' =>
      rcases home_k hb with ⟨rfl, rfl⟩ | ⟨rfl, rfl⟩ <;> rcases home_k hb' with ⟨rfl, rfl⟩ | ⟨rfl, rfl⟩ <;> rw [hl, hl'] <;> simp [n4, Ne.symm n4]
    | v i h0 h1 ht hb' =>
      refine ⟨fun h => ?_, fun h => ?_⟩
      · rw [h, hb'] at hb
        rcases home_k hb with ⟨_, h⟩ | ⟨_, h⟩ <;> simp [n5, n6] at h
      · have := h1 n (h.symm.trans hl); rw [this] at hb; cases hb
  | v i h0 h1 ht hb =>
    cases y with
    | k hl' hb' => rw [hl', hb, hb']; simp [Ne.symm n3, h0]
    | h n hn hl' hb' =>
      refine ⟨fun h => ?_, fun h => ?_⟩
      · rw [← h, hb] at hb'
        rcases home_k hb' with ⟨_, h⟩ | ⟨_, h⟩ <;> simp [n5, n6] at h
      · have := h1 n (h.trans hl'); rw [this] at hb'; cases hb'
    | v j h0' h1' ht' hb' =>
      have := WTerm.iff G hn ht ht'
      simp only [true_and] at this
      rw [← this, hb, hb']
      simp
/-! what is the same at every row -/
theorem same_iff (f : Form) : (worthL f).filter (fun x => !decide (x = f.w % 4294967296)) = [] ↔ f.its = [] := by
  rw [List.filter_eq_nil_iff]
  have h0 : f.its = [] ↔ FEq f (kF f.w) := by rw [feq_its, kF_its]; exact ⟨fun h => ⟨rfl, h⟩, fun h => h.2⟩
  rw [h0]
  have up : ∀ a c : Int, c % 4294967296 = 0 → (a + c) % 4294967296 = a % 4294967296 := fun a c h => by rw [Int.add_emod, h, Int.add_zero, Int.emod_emod]
  have dn : ∀ {a c : Int}, (a + c) % 4294967296 = a % 4294967296 → c % 4294967296 = 0 := cg_dn
  unfold FEq kF worthL MM
  simp only [List.mem_cons, List.not_mem_nil, or_false, Bool.not_eq_true', decide_eq_false_iff_not, Decidable.not_not, forall_eq_or_imp, forall_eq, true_and, Int.zero_emod]
  constructor
  · rintro ⟨h0, h1, h2, h3, h4⟩
    exact lt5 (dn h0) (dn h1) (dn h2) (dn h3) (dn h4)
  · intro h
    exact ⟨up _ _ (h 0 (by decide)), up _ _ (h 1 (by decide)), up _ _ (h 2 (by decide)), up _ _ (h 3 (by decide)), up _ _ (h 4 (by decide))⟩
theorem diff_its (t u : AVal) (f g : Form) : (sumF [(t, 1, f), (u, -1, g)]).its = [] ↔ f.its = g.its := by
  constructor
  · intro h
    refine itemsFrom_congr (ns := [0, 1, 2, 3, 4]) fun n hn => ?_
    exact cg_zero.mp (its_nil h n (lt_of_five hn))
  · intro h
    have h2 := itemsFrom_inj (by decide) h
    show itemsFrom _ [0, 1, 2, 3, 4] = itemsFrom (fun _ => 0) [0, 1, 2, 3, 4]
    refine itemsFrom_congr fun n hn => ?_
    exact cg_zero.mpr (h2 n hn)
theorem sgn_k (w : Int) : ∃ k, sgn w = w + 4294967296 * k := by
  unfold sgn
  split
  · exact ⟨-1, rfl⟩
  · exact ⟨0, by rw [Int.mul_zero, Int.add_zero]⟩
theorem diff_sgn (t u : AVal) (f g : Form) : (sgn (f.w % MM) - sgn (g.w % MM) - (sumF [(t, 1, f), (u, -1, g)]).w % 4294967296) % 4294967296 = 0 := by
  obtain ⟨k, hk⟩ := sgn_k (f.w % MM)
  obtain ⟨j, hj⟩ := sgn_k (g.w % MM)
  rw [hk, hj]
  show (f.w % 4294967296 + 4294967296 * k - (g.w % 4294967296 + 4294967296 * j) - (f.w * 1 + (g.w * -1 + 0)) % 4294967296) % 4294967296 = 0
  have e : ∀ z l : Int, (z % 4294967296 + 4294967296 * l) % 4294967296 = z % 4294967296 := fun z l => by rw [Int.add_mul_emod_self_left]; exact cg_mod z
  have := cg_sub (cg_sub (e f.w k) (e g.w j)) (cg_mod (f.w * 1 + (g.w * -1 + 0)))
  rw [this, Int.mul_one, Int.add_zero, Int.mul_neg, Int.mul_one, ← Int.sub_eq_add_neg, Int.sub_self]; rfl

theorem iot_get : ∀ {n i : Nat} {b : Int} {a : AVal}, aget (iot b n) i = some a → i < n ∧ a = .int (b + (i : Int))
  | 0, i, b, a, h => by simp [iot, aget] at h
  | n + 1, 0, b, a, h => by simp only [iot, aget, Option.some.injEq] at h; exact ⟨by omega, by rw [← h]; simp⟩
  | n + 1, i + 1, b, a, h => by
    simp only [iot, aget] at h
    obtain ⟨h1, h2⟩ := iot_get h
    exact ⟨by omega, by rw [h2]; congr 1; omega⟩
theorem iot0_get {n i : Nat} {a : AVal} (h : aget (iot 0 n) i = some a) : i < n ∧ a = .int (i : Int) := by
  obtain ⟨h1, h2⟩ := iot_get h
  rw [Int.zero_add] at h2
  exact ⟨h1, h2⟩
theorem bne_iff {x y u v : AVal} (h : x = y ↔ u = v) : (decide (x = y) != decide (u = v)) = false := by
  by_cases e : x = y
  · simp [e, h.mp e]
  · have e' : ¬ u = v := fun h' => e (h.mpr h')
    simp [e, e']
section
variable {B : Base} {C : Cx} {σ : Store} {N : Nat} {T : TS} {S : List Int} {a : Nat} {ts : List AVal} {fs : List Form}
set_option maxHeartbeats 8000000 in
theorem c_alike (F : Facts B) (hr : 1 ≤ C.room) {kf kd : Nat} {fl dl : List AVal} (h1 : σ[kf]? = some (.list (tup fl))) (h2 : σ[kd]? = some (.list (tup dl))) (hlen : fl.length = dl.length) (hz : fl.length ≤ 1000)
    (okF : ∀ x ∈ fl, okE 50 x = true) (okD : ∀ x ∈ dl, okE 50 x = true) (alike : ∀ (i j : Nat) (x y u v : AVal), fl[i]? = some x → fl[j]? = some y → dl[i]? = some u → dl[j]? = some v → (x = y ↔ u = v))
    {Q : AVal → Store → Prop} (hQ : Q (.bool true) σ) : OC B C (fun cs => call (.ref 463) cs) (tup [.loc kf, .loc kd]) σ Q := by
  refine call_def (ns := [Str.ofString "found", Str.ofString "due"]) (F.fn 68 463 (by decide)).at_ (one_le hr) ?_ (by decide) (names_of rfl) (by with_unfolding_all decide) fun q doc pm cdv L => ?_
  · exact args2 fun _ _ _ _ _ _ => rfl
  have hl1 : alen (tup fl) ≤ 1000000 := by rw [tup_len]; exact Nat.le_trans hz (by decide)
  repeat walk_at "m"
  refine s_for (src_range ?_)
  refine r_builtin (F.builts _ _ rfl) ?_
  repeat walk_at "m"
  refine o_len_loc h1 hl1 ?_
  rw [tup_len]
  repeat walk_at "m"
  refine ⟨Nat.lt_of_le_of_lt hz (by decide), ?_⟩
  refine ⟨fun i l' σ' => σ' = σ ∧ Sub [(Str.ofString "found", .loc kf), (Str.ofString "due", .loc kd)] l', ⟨rfl, sub_cons rfl (sub_cons rfl sub_nil)⟩, ?_, ?_⟩
  · rintro l' σ' - ⟨rfl, hsub⟩
    repeat walk_at "m"
    exact hQ
  rintro i av l' σ' hi - ⟨rfl, hsub⟩
  obtain ⟨hi5, rfl⟩ := iot0_get hi
  refine WA.sub hsub ?_
  repeat walk_at "m"
  refine s_for (src_range ?_)
  refine r_builtin (F.builts _ _ rfl) ?_
  repeat walk_at "m"
  refine ⟨sub_lt40 hi5 hz, ?_⟩
  refine ⟨fun j l' σ'' => σ'' = σ' ∧ Sub [(Str.ofString "found", .loc kf), (Str.ofString "due", .loc kd), (Str.ofString "at", .int i)] l', ⟨rfl, sub_cons rfl (sub_cons rfl (sub_cons rfl sub_nil))⟩, ?_, ?_⟩
  · rintro l' σ'' - ⟨rfl, hsub⟩
    refine WS.sub hsub ?_
    repeat walk_at "m"
    exact ⟨trivial, rfl, sub_cons rfl (sub_cons rfl sub_nil)⟩
  rintro j av l' σ'' hj - ⟨rfl, hsub⟩
  obtain ⟨hj5, rfl⟩ := iot0_get hj
  refine WA.sub hsub ?_
  have gi : fl[i]? = some (fl[i]'hi5) := List.getElem?_eq_getElem hi5
  have hj2 := Nat.lt_trans hj5 hi5
  have gj : fl[j]? = some (fl[j]'hj2) := List.getElem?_eq_getElem hj2
  have di : dl[i]? = some (dl[i]'(hlen ▸ hi5)) := List.getElem?_eq_getElem (hlen ▸ hi5)
  have dj : dl[j]? = some (dl[j]'(hlen ▸ hj2)) := List.getElem?_eq_getElem (hlen ▸ hj2)
  repeat walk_at "m"
  refine o_item_loc (i := i) h1 (ones_at gi) (sub_lt40 hi5 hz) ?_
  repeat walk_at "m"
  refine o_item_loc (i := j) h1 (ones_at gj) (sub_lt40 hj2 hz) ?_
  refine o_eq (okF _ (List.mem_of_getElem? gi)) (okF _ (List.mem_of_getElem? gj)) ?_
  repeat walk_at "m"
  refine o_item_loc (i := i) h2 (ones_at di) (sub_lt40 hi5 hz) ?_
  repeat walk_at "m"
  refine o_item_loc (i := j) h2 (ones_at dj) (sub_lt40 hj2 hz) ?_
  refine o_eq (okD _ (List.mem_of_getElem? di)) (okD _ (List.mem_of_getElem? dj)) ?_
  refine o_ne_bool ?_
  rw [bne_iff (alike i j _ _ _ _ gi gj di dj)]
  repeat walk_at "m"
  exact ⟨trivial, rfl, sub_cons rfl (sub_cons rfl (sub_cons rfl sub_nil))⟩
end

theorem BaseIs.ok {ks : List AVal} {l : List (Nat × Int)} {b : AVal} (h : BaseIs ks l b) : okE 50 b = true := by
  cases h with
  | k hl hb => rw [hb]; with_unfolding_all rfl
  | h n hn hl hb => rcases home_k hb with ⟨_, rfl⟩ | ⟨_, rfl⟩ <;> with_unfolding_all rfl
  | v i h0 h1 ht hb => rw [hb]; with_unfolding_all rfl
theorem lst_eq_nil (l : List Int) : decide (AVal.lst (ofInts l) = AVal.lst .nil) = decide (l = []) := by
  cases l <;> simp [ofInts]
theorem okLst (l : List Int) : okE 50 (.lst (ofInts l)) = true := by
  simp only [okE]; exact (ofInts_ok 49 l).2
structure Places (ks : List AVal) (fs : List Form) (i : Nat) (ps : List AVal) : Prop where
  len : ps.length = i
  at_ : ∀ (j : Nat) (p : AVal) (f : Form), ps[j]? = some p → fs[j]? = some f → ∃ b, p = tup [b, .int (sgn (f.w % MM)), .int 4] ∧ BaseIs ks f.its b
theorem Places.snoc {ks ks' : List AVal} {fs : List Form} {i : Nat} {ps : List AVal} (x : Places ks fs i ps) (hk : ks <+: ks') {f : Form} (hf : fs[i]? = some f) {b : AVal} (hb : BaseIs ks' f.its b) : Places ks' fs (i + 1) (ps ++ [tup [b, .int (sgn (f.w % MM)), .int 4]]) where
  len := by rw [List.length_append, x.len]; rfl
  at_ := fun j p g hp hg => by
    rcases Nat.lt_or_ge j ps.length with hj | hj
    · rw [List.getElem?_append_left hj] at hp
      obtain ⟨b, e, h⟩ := x.at_ j p g hp hg
      exact ⟨b, e, h.mono hk⟩
    · rw [List.getElem?_append_right hj] at hp
      cases hz : j - ps.length with
      | zero =>
        rw [hz] at hp
        have hji : j = i := by rw [x.len] at hj hz; omega
        subst hji
        obtain rfl := Option.some.inj (hf.symm.trans hg)
        exact ⟨b, (Option.some.inj hp).symm, hb⟩
      | succ m => rw [hz] at hp; simp at hp
section
variable {B : Base} {C : Cx} {σ : Store} {N : Nat} {T : TS} {S : List Int} {a : Nat} {ts : List AVal} {fs : List Form}
set_option maxHeartbeats 8000000 in
theorem c_places (F : Facts B) (hr : 9 ≤ C.room) (H : LS S a N σ T) (R : Rows T.ks σ ts fs) (hN : N + 1000 ≤ 900000)
    {Q : AVal → Store → Prop} (hQ : ∀ σ' T', LN S a (N + 1000) σ T σ' T' → Q (.bool true) σ') : OC B C (fun cs => call (.ref 468) cs) (tup [.loc 2, .loc 7, .loc 8]) σ Q := by
  refine call_def (ns := [Str.ofString "terms", Str.ofString "ones", Str.ofString "worths"]) (F.fn 69 468 (by decide)).at_ (one_le hr) ?_ (by decide) (names_of rfl) (by with_unfolding_all decide) fun q doc pm cdv L => ?_
  · exact args3 fun _ _ _ _ _ _ _ => rfl
  have hlen := R.small
  have h100 := R.hi
  refine s_cons (s_comp_use (lc := [(Str.ofString "terms", .loc 2)]) (caught (cn_cons rfl cn_nil)) (src_val ?_))
  repeat walk_at "m"
  simp only [ItemsOf]
  refine ⟨tup ts, R.ones, by rw [tup_len]; exact Nat.le_trans h100 (by decide), fun i ys σ' => ∃ T' ps, LN S a (N + 6 * i) σ T σ' T' ∧ Places T'.ks fs i ps ∧ ys = tup ps, ⟨T, [], LN.refl H, ⟨rfl, by simp⟩, rfl⟩, ?_, ?_⟩
  rotate_left
  · rintro L2 i av ys σ' hi hP ⟨T', ps, x, P, rfl⟩
    rw [tup_at] at hi
    have hlt := (List.getElem?_eq_some_iff.mp hi).1
    have hlt2 : i < fs.length := R.len ▸ hlt
    have hf : fs[i]? = some fs[i] := List.getElem?_eq_getElem hlt2
    have htf := (R.ln x).term i _ _ hi hf
    have hs := x.ls.self
    repeat walk_at "m"
    refine ⟨sub_cons rfl sub_nil, wt_nil ?_⟩
    repeat walk_at "m"
    refine c_placeof F (room_comp (room_of hr)) x.ls.ok x.ls.good (Int.emod_nonneg _ (by decide)) (Int.emod_lt_of_pos _ (by decide)) (its_le _) (its_lt _) htf (by omega) fun b σ2 T2 x2 hb => ?_
    have x3 := x.trans (LN.told x.ls x2)
    exact ⟨(R.ln x3).ones, T2, _, x3, P.snoc x2.pre hf hb, by rw [tup_snoc]⟩
  rintro ys σ0 - ⟨T0, ps, x0, P, rfl⟩
  rw [tup_len] at x0 P
  have R0 := R.ln x0
  have hs0 := x0.ls.self
  have x0' : LN S a (N + 1000) σ T σ0 T0 := x0.more (Nat.le_refl _) (by omega) hN
  repeat walk_at "m"
  refine s_for (src_range ?_)
  refine r_builtin (F.builts _ _ rfl) ?_
  repeat walk_at "m"
  refine o_len_loc R0.ones hlen ?_
  rw [tup_len]
  repeat walk_at "m"
  refine ⟨Nat.lt_of_le_of_lt h100 (by decide), ?_⟩
  refine ⟨fun i l' σ' => σ' = σ0 ∧ Sub [(Str.ofString "worths", .loc 8), (Str.ofString "told_places", .lst (tup ps))] l', ⟨rfl, sub_cons rfl (sub_cons rfl sub_nil)⟩, ?_, ?_⟩
  · rintro l' σ' - ⟨rfl, hsub⟩
    repeat walk_at "m"
    exact hQ _ _ x0'
  rintro i av l' σ' hi - ⟨rfl, hsub⟩
  obtain ⟨hi5, rfl⟩ := iot0_get hi
  refine WA.sub hsub ?_
  repeat walk_at "m"
  refine s_for (src_range ?_)
  refine r_builtin (F.builts _ _ rfl) ?_
  repeat walk_at "m"
  refine ⟨R.lt40 hi5, ?_⟩
  refine ⟨fun j l' σ'' => σ'' = σ' ∧ Sub [(Str.ofString "worths", .loc 8), (Str.ofString "told_places", .lst (tup ps)), (Str.ofString "at", .int i)] l', ⟨rfl, sub_cons rfl (sub_cons rfl (sub_cons rfl sub_nil))⟩, ?_, ?_⟩
  · rintro l' σ'' - ⟨rfl, hsub⟩
    refine WS.sub hsub ?_
    repeat walk_at "m"
    exact ⟨trivial, rfl, sub_cons rfl (sub_cons rfl sub_nil)⟩
  rintro j av l' σ'' hj - ⟨rfl, hsub⟩
  obtain ⟨hj5, rfl⟩ := iot0_get hj
  refine WA.sub hsub ?_
  obtain ⟨t, f, ht, hf, htf⟩ := R0.at (i := i) hi5
  have hj2 := Nat.lt_trans hj5 hi5
  obtain ⟨u, g, hu, hg, hug⟩ := R0.at (i := j) hj2
  have pi : ps[i]? = some (ps[i]'(by rw [P.len]; exact hi5)) := List.getElem?_eq_getElem _
  have pj : ps[j]? = some (ps[j]'(by rw [P.len]; exact hj2)) := List.getElem?_eq_getElem _
  obtain ⟨b, hb, hbi⟩ := P.at_ i _ f pi hf
  obtain ⟨b', hb', hbi'⟩ := P.at_ j _ g pj hg
  rw [hb] at pi
  rw [hb'] at pj
  have hbb := base_iff x0.ls.good x0.ls.ok.nodup hbi hbi'
  have hsg := diff_sgn t u f g
  have hsame := same_iff (sumF [(t, 1, f), (u, -1, g)])
  rw [diff_its] at hsame
  repeat walk_at "m"
  refine o_item_loc (i := i) R0.worths (worthV_at hf) (R.lt40 hi5) ?_
  repeat walk_at "m"
  refine o_item_loc (i := j) R0.worths (worthV_at hg) (R.lt40 hj2) ?_
  repeat walk_at "m"
  refine c_apartL F (room_of hr) (M := worthL f) (M' := worthL g) (worth_le _) rfl ?_
  rw [worth_apart t u f g]
  generalize hd : sumF [(t, 1, f), (u, -1, g)] = d at hsg hsame ⊢
  repeat walk_at "m"
  refine comp_filter (lc := [(Str.ofString "apart", worthV d)]) (worthL d) (fun x => !decide (x = d.w % 4294967296)) (caught (cn_cons rfl cn_nil)) (worth_le _) ?_ ?_ ?_
  · repeat walk_at "m"
    exact .inl rfl
  · intro L2 n hn
    repeat walk_at "m"
    refine ⟨sub_cons rfl sub_nil, ?_⟩
    repeat walk_at "m"
    rw [dec_int]
    refine ⟨rfl, rfl, ?_⟩
    repeat walk_at "m"
    first | exact ⟨rfl, rfl⟩ | rfl
  · repeat walk_at "m"
    refine o_eq (okLst _) rfl ?_
    rw [lst_eq_nil]
    obtain ⟨one, hone⟩ : ∃ x, decide ((worthL d).filter (fun x => !decide (x = d.w % 4294967296)) = []) = x := ⟨_, rfl⟩
    rw [hone]
    have hone2 : decide (b = b') = one := by rw [← hone]; exact decide_eq_decide.mpr (hbb.trans hsame.symm)
    repeat walk_at "m"
    refine o_item_lst (i := i) (ones_at pi) (R.lt40 hi5) ?_
    repeat walk_at "m"
    refine o_item_lst (i := j) (ones_at pj) (R.lt40 hj2) ?_
    repeat walk_at "m"
    refine o_eq hbi.ok hbi'.ok ?_
    rw [hone2]
    repeat walk_at "m"
    refine o_ne_bool ?_
    rw [bne_self_eq_false]
    repeat walk_at "m"
    refine itC (fun h1 => ?_) (fun h1 => ?_)
    · repeat walk_at "m"
      refine o_mod (by decide) ?_
      rw [hsg]
      repeat walk_at "m"
      exact ⟨trivial, rfl, sub_cons rfl (sub_cons rfl (sub_cons rfl sub_nil))⟩
    · repeat walk_at "m"
      exact ⟨trivial, rfl, sub_cons rfl (sub_cons rfl (sub_cons rfl sub_nil))⟩
end

noncomputable def dueV (e : String × Form) : AVal := tup [.str (Str.ofString e.1), ofInts (minW e.2)]
noncomputable def eqKey (e : String × Form) : AVal := headKey e.1 (canon (e.2.w % MM) e.2.its).1 (canon (e.2.w % MM) e.2.its).2
structure Founds (ks : List AVal) (fl : List AVal) (es : List (String × Form)) (n : Nat) : Prop where
  len : fl.length = es.length
  le : es.length ≤ n
  op : ∀ e ∈ es, e.1 = "eq" ∨ e.1 = "ne"
  at_ : ∀ (j : Nat) (t : AVal) (e : String × Form), fl[j]? = some t → es[j]? = some e → ∃ i : Nat, ks[i]? = some (eqKey e) ∧ t = kR i
theorem Founds.mono {ks ks' fl : List AVal} {es : List (String × Form)} {n m : Nat} (x : Founds ks fl es n) (h : ks <+: ks') (hn : n ≤ m) : Founds ks' fl es m :=
  ⟨x.len, Nat.le_trans x.le hn, x.op, fun j t e h1 h2 => let ⟨i, h3, h4⟩ := x.at_ j t e h1 h2; ⟨i, prefix_get h h3, h4⟩⟩
theorem Founds.snoc {ks fl : List AVal} {es : List (String × Form)} {n : Nat} (x : Founds ks fl es n) {i : Nat} {e : String × Form} (he : e.1 = "eq" ∨ e.1 = "ne") (hi : ks[i]? = some (eqKey e)) : Founds ks (fl ++ [kR i]) (es ++ [e]) (n + 1) where
  len := by simp [x.len]
  le := by have := x.le; simp; omega
  op := fun e' h => (List.mem_append.mp h).elim (x.op e') fun h => by rw [List.mem_singleton.mp h]; exact he
  at_ := fun j t e' h1 h2 => by
    rcases Nat.lt_or_ge j fl.length with hj | hj
    · rw [List.getElem?_append_left hj] at h1
      rw [List.getElem?_append_left (x.len ▸ hj)] at h2
      exact x.at_ j t e' h1 h2
    · rw [List.getElem?_append_right hj] at h1
      rw [List.getElem?_append_right (x.len ▸ hj), ← x.len] at h2
      cases hz : j - fl.length with
      | zero =>
        rw [hz] at h1 h2
        have h1 := Option.some.inj h1
        have h2 := Option.some.inj h2
        subst h1; subst h2
        exact ⟨i, hi, rfl⟩
      | succ m => rw [hz] at h1; simp at h1
theorem Founds.alike {ks fl : List AVal} {es : List (String × Form)} {n : Nat} (x : Founds ks fl es n) (hn : ks.Nodup) (i j : Nat) (t u p q : AVal) (h1 : fl[i]? = some t) (h2 : fl[j]? = some u) (h3 : (es.map dueV)[i]? = some p) (h4 : (es.map dueV)[j]? = some q) : t = u ↔ p = q := by
  rw [List.getElem?_map, Option.map_eq_some_iff] at h3 h4
  obtain ⟨e, he, rfl⟩ := h3
  obtain ⟨e', he', rfl⟩ := h4
  obtain ⟨m, hm, rfl⟩ := x.at_ i t e h1 he
  obtain ⟨m', hm', rfl⟩ := x.at_ j u e' h2 he'
  have hc := (canon_iff e.2 e'.2).trans (minW_iff e.2 e'.2).symm
  constructor
  · intro h
    simp only [AVal.cons.injEq, AVal.int.injEq, true_and, and_true] at h
    obtain rfl : m = m' := by omega
    obtain ⟨h1, h2, h3⟩ := headKey_inj (Option.some.inj (hm.symm.trans hm'))
    unfold dueV
    rw [h1, hc.mp (Prod.ext h2 h3)]
  · intro h
    unfold dueV at h
    simp only [AVal.cons.injEq, AVal.str.injEq, and_true] at h
    have h2 := hc.mpr (ofInts_inj h.2)
    have e1 : eqKey e = eqKey e' := by unfold eqKey headKey; rw [h.1, h2]
    rw [← e1] at hm'
    rw [nodup_at hn hm hm']
theorem cmp_ints : ∀ l m : List Int, cmpA (ofInts l) (ofInts m) = true
  | [], [] => rfl
  | [], _ :: _ => rfl
  | _ :: _, [] => rfl
  | x :: l, y :: m => by
    simp only [ofInts, cmpA]
    split
    · exact cmp_ints l m
    · rfl
theorem minV_eq (d : Form) : (if ltA (worthV (negF d)) (worthV d) = true then worthV (negF d) else worthV d) = ofInts (minW d) := by
  unfold minW; split <;> rfl
theorem op_of (v : Nat) (h : v < 2) : ∃ op, (op = "eq" ∨ op = "ne") ∧ aget (tup [.str (Str.ofString "eq"), .str (Str.ofString "ne")]) v = some (.str (Str.ofString op)) := by
  cases v with
  | zero => exact ⟨"eq", .inl rfl, rfl⟩
  | succ v => cases v with
    | zero => exact ⟨"ne", .inr rfl, rfl⟩
    | succ v => exact absurd h (Nat.not_lt_of_le (Nat.le_add_left 2 v))
theorem eq_num {op : String} (hop : op = "eq" ∨ op = "ne") (w : Int) : (if (decide (AVal.int w = AVal.int 0) == decide (AVal.str (Str.ofString op) = AVal.str (Str.ofString "eq"))) = true then (1 : Int) else 0) = if (decide (w = 0) == decide (op = "eq")) = true then 1 else 0 := by
  have n1 : Str.ofString "ne" ≠ Str.ofString "eq" := by decide +kernel
  have n2 : ("ne" : String) ≠ "eq" := by decide
  rcases hop with rfl | rfl <;> by_cases h0 : w = 0 <;> simp [h0, n1, n2]
section
variable {B : Base} {C : Cx} {σ : Store} {N : Nat} {T : TS} {S : List Int} {a : Nat} {ts : List AVal} {fs : List Form}
set_option maxHeartbeats 8000000 in
theorem c_equals (F : Facts B) (hr : 10 ≤ C.room) (H : LS S a N σ T) (R : Rows T.ks σ ts fs) (hS : S.length ≤ 60) (ha : a + 12 ≤ 1000000) (hN : N + 80 ≤ 900000)
    {Q : AVal → Store → Prop} (hQ : ∀ σ', Q (.bool true) σ') : OC B C (fun cs => call (.ref 473) cs) (tup [.loc 0, .loc 2, .loc 7, .loc 8]) σ Q := by
  refine call_def (ns := [Str.ofString "well", Str.ofString "terms", Str.ofString "ones", Str.ofString "worths"]) (F.fn 70 473 (by decide)).at_ (one_le hr) ?_ (by decide) (names_of rfl) (by with_unfolding_all decide) fun q doc pm cdv L => ?_
  · exact args4 fun _ _ _ _ _ _ _ _ => rfl
  have hlen := R.small
  have h9 : 8 < σ.length := (List.getElem?_eq_some_iff.mp R.worths).1
  refine s_cons (s_swap2 (r_Tuple (r_cons (r_ListM (r_nil ⟨Nat.le_of_ble_eq_true rfl, r_cons (r_ListM (r_nil ⟨Nat.le_of_ble_eq_true rfl, r_nil ⟨Nat.le_of_ble_eq_true rfl, _, rfl, ?_⟩⟩))⟩)))))
  have e2 : (σ ++ [AObj.list .nil]).length = σ.length + 1 := by simp
  rw [e2, List.append_assoc, List.singleton_append]
  have hf0 : (σ ++ [AObj.list .nil, AObj.list .nil])[σ.length]? = some (.list (tup [])) := by simp
  have hd0 : (σ ++ [AObj.list .nil, AObj.list .nil])[σ.length + 1]? = some (.list (tup [])) := by simp
  obtain ⟨kf, hkf⟩ : ∃ k, σ.length = k := ⟨_, rfl⟩
  refine s_cons (s_for (src_range ?_))
  refine r_builtin (F.builts _ _ rfl) ?_
  repeat walk_at "m"
  rw [hkf] at hf0 hd0 ⊢
  have base : ∀ σ' : Store, Fr0 σ σ' → ∀ (k : Nat) (o : AObj), kf ≤ k → Fr0 σ (σ'.set k o) := fun σ' h k o hk i x hx h0 h3 h4 h5 h6 => by
    have := (List.getElem?_eq_some_iff.mp hx).1
    rw [set_ne (Ne.symm (Nat.ne_of_lt (Nat.lt_of_lt_of_le this (hkf ▸ hk))))]; exact h i x hx h0 h3 h4 h5 h6
  have hk7 : 7 ≤ kf := by rw [← hkf]; exact Nat.le_trans (by decide) h9
  have nek : ∀ {m : Nat}, m < 7 → kf ≠ m := fun h => Ne.symm (Nat.ne_of_lt (Nat.lt_of_lt_of_le h hk7))
  have nek1 : ∀ {m : Nat}, m < 7 → kf + 1 ≠ m := fun h => Ne.symm (Nat.ne_of_lt (Nat.lt_succ_of_lt (Nat.lt_of_lt_of_le h hk7)))
  refine ⟨fun i l' σ' => ∃ T' fl es, LN S (a + 3 * i) (N + 20 * i) σ T σ' T' ∧ Founds T'.ks fl es i ∧ σ'[kf]? = some (.list (tup fl)) ∧ σ'[kf + 1]? = some (.list (tup (es.map dueV))) ∧
    Sub [(Str.ofString "well", .loc 0), (Str.ofString "terms", .loc 2), (Str.ofString "ones", .loc 7), (Str.ofString "worths", .loc 8), (Str.ofString "found", .loc kf), (Str.ofString "due", .loc (kf + 1))] l', ?_, ?_, ?_⟩
  · refine ⟨T, [], [], ⟨fun k o h _ _ _ _ _ => app_at h, H.app, List.prefix_refl _⟩, ⟨rfl, Nat.le_refl _, by simp, by simp⟩, hf0, hd0, ?_⟩
    exact sub_cons rfl (sub_cons rfl (sub_cons rfl (sub_cons rfl (sub_cons rfl (sub_cons rfl sub_nil)))))
  · rintro l' σ' - ⟨T', fl, es, x, P, hf, hd, hsub⟩
    refine WS.sub hsub ?_
    have hn4 : alen (iot 0 4) = 4 := rfl
    rw [hn4] at P
    have hes := P.le
    repeat walk_at "m"
    refine c_alike F (room_of hr) hf hd (by rw [List.length_map, P.len]) (by rw [P.len]; exact Nat.le_trans hes (by decide)) (fun t ht => ?_) (fun t ht => ?_) (P.alike x.ls.ok.nodup) (hQ _)
    · obtain ⟨j, hj⟩ := List.mem_iff_getElem?.mp ht
      have hj5 : j < es.length := P.len ▸ (List.getElem?_eq_some_iff.mp hj).1
      obtain ⟨i, _, rfl⟩ := P.at_ j t es[j] hj (List.getElem?_eq_getElem hj5)
      with_unfolding_all rfl
    · obtain ⟨e, he, rfl⟩ := List.mem_map.mp ht
      have hso : PyData.strOk (Str.ofString e.1) = true := by rcases P.op e he with h | h <;> rw [h] <;> with_unfolding_all rfl
      simp only [dueV, okE, okE.okEs, hso, (ofInts_ok 48 _).1, Bool.and_self]
  rintro i av l' σ' hi - ⟨T', fl, es, x, P, hf, hd, hsub⟩
  obtain ⟨hi5', rfl⟩ := iot0_get hi
  have hi5 : i < 4 := hi5'
  clear hi5'
  have hA : a + 3 * i + 3 ≤ 1000000 := by omega
  have hN4 : N + 20 * i + 20 ≤ 900000 := by omega
  have hA3 : a + 3 * i + 3 ≤ a + 3 * (i + 1) := Nat.le_refl _
  have hN3 : N + 20 * i + 20 ≤ N + 20 * (i + 1) := Nat.le_refl _
  have hN5 : N + 20 * (i + 1) ≤ 900000 := hN4
  refine WA.sub hsub ?_
  have R1 := R.ln x
  repeat walk_at "m"
  refine o_len_loc R1.ones hlen ?_
  rw [tup_len]
  repeat walk_at "m"
  refine c_drawL F (room_of hr) x.ls (nl0 hA) hS R.pos fun at1 σ2 hat x2 => ?_
  have hat := Int.ofNat_lt.mp hat
  have R2 := R1.ln x2
  repeat walk_at "m"
  refine o_len_loc R2.ones hlen ?_
  rw [tup_len]
  repeat walk_at "m"
  refine c_drawL F (room_of hr) x2.ls (nle hA) hS R.pos fun at2 σ3 hat2 x3 => ?_
  have hat2 := Int.ofNat_lt.mp hat2
  repeat walk_at "m"
  refine c_drawL F (room_of hr) x3.ls (nle (a := 2) hA) hS (by decide) fun v σ4 hv x4 => ?_
  have hv := Int.ofNat_lt.mp hv
  obtain ⟨op, hop, hag⟩ := op_of v hv
  have x5 := (x2.trans x3).trans x4
  have R4 := R1.ln x5
  have hs4 := x5.ls.self
  have hso : PyData.strOk (Str.ofString op) = true := by rcases hop with rfl | rfl <;> with_unfolding_all rfl
  obtain ⟨t, f, ht, hft, htf⟩ := R4.at (i := at1) hat
  obtain ⟨u, g, hu, hg, hug⟩ := R4.at (i := at2) hat2
  repeat walk_at "m"
  refine o_item (i := v) rfl hag (Nat.lt_trans hv (by decide)) ?_
  repeat walk_at "m"
  refine o_item_loc (i := at1) R4.ones (ones_at ht) (R.lt40 hat) ?_
  repeat walk_at "m"
  refine o_item_loc (i := at2) R4.ones (ones_at hu) (R.lt40 hat2) ?_
  repeat walk_at "m"
  refine c_told_eq F (room_of hr) x5.ls.ok x5.ls.good hop htf hug hN4 fun tv σ6 T6 x6 hres => ?_
  have x7 := x5.trans (LN.told x5.ls x6)
  have R6 := R1.ln x7
  have hs6 := x7.ls.self
  have hf6 := x7.fr _ _ hf (nek (by decide)) (nek (by decide)) (nek (by decide)) (nek (by decide)) (nek (by decide))
  have hd6 := x7.fr _ _ hd (nek1 (by decide)) (nek1 (by decide)) (nek1 (by decide)) (nek1 (by decide)) (nek1 (by decide))
  have xx := x.trans x7
  have P6 := P.mono x7.pre (Nat.le_refl _)
  repeat walk_at "m"
  refine o_item_loc (i := at1) R6.worths (worthV_at hft) (R.lt40 hat) ?_
  repeat walk_at "m"
  refine o_item_loc (i := at2) R6.worths (worthV_at hg) (R.lt40 hat2) ?_
  repeat walk_at "m"
  refine c_apartL F (room_of hr) (M := worthL f) (M' := worthL g) (worth_le _) rfl ?_
  rw [worth_apart t u f g]
  generalize hdd : sumF [(t, 1, f), (u, -1, g)] = d at hres ⊢
  have hsame := same_iff d
  repeat walk_at "m"
  refine comp_filter (lc := [(Str.ofString "apart", worthV d)]) (worthL d) (fun x => !decide (x = d.w % 4294967296)) (caught (cn_cons rfl cn_nil)) (worth_le _) ?_ ?_ ?_
  · repeat walk_at "m"
    exact .inl rfl
  · intro L2 n hn
    repeat walk_at "m"
    refine ⟨sub_cons rfl sub_nil, ?_⟩
    repeat walk_at "m"
    rw [dec_int]
    refine ⟨rfl, rfl, ?_⟩
    repeat walk_at "m"
    first | exact ⟨rfl, rfl⟩ | rfl
  · repeat walk_at "m"
    refine o_eq (okLst _) rfl ?_
    rw [lst_eq_nil]
    rcases hres with ⟨hl0, rfl⟩ | ⟨hl0, m, hm, rfl⟩
    · rw [decide_eq_true (hsame.mpr hl0)]
      repeat walk_at "m"
      refine o_ne_bool ?_
      repeat walk_at "m"
      refine o_eq (a := .str (Str.ofString op)) (okE_str hso) (okE_str (by with_unfolding_all rfl)) ?_
      refine o_eq_bool ?_
      repeat walk_at "m"
      refine o_int_bool ?_
      repeat walk_at "m"
      refine itF (by rw [eq_num hop]; simp) ?_
      repeat walk_at "m"
      exact ⟨trivial, T6, fl, es, ⟨xx.fr, xx.ls.more hA3 hN3 hN5, xx.pre⟩, P6.mono (List.prefix_refl _) (Nat.le_succ _), hf6, hd6, sub_cons rfl (sub_cons rfl (sub_cons rfl (sub_cons rfl (sub_cons rfl (sub_cons rfl sub_nil)))))⟩
    · rw [decide_eq_false (fun h => hl0 (hsame.mp h))]
      repeat walk_at "m"
      refine o_ne_bool ?_
      repeat walk_at "m"
      have hes := P.le
      refine r_Meth ?_
      repeat walk_at "m"
      refine ⟨.builtin "list.append", m_append hf6, .inr (by intro a e; cases e), ?_⟩
      repeat walk_at "m"
      refine o_append hf6 (by rw [tup_len, P.len]; exact Nat.le_trans hes (Nat.le_trans (Nat.le_of_lt hi5) (by decide))) ?_
      rw [tup_snoc]
      have hs7 : SelfOk (σ6.set kf (.list (tup (fl ++ [kR m])))) := hs6.set (nek (by decide)) (nek (by decide))
      have hf7 : (σ6.set kf (.list (tup (fl ++ [kR m]))))[kf]? = some (.list (tup (fl ++ [kR m]))) := set_at hf6
      have hd7 : (σ6.set kf (.list (tup (fl ++ [kR m]))))[kf + 1]? = some (.list (tup (es.map dueV))) := (set_ne (Nat.ne_of_lt (Nat.lt_succ_self kf))).trans hd6
      have x8 : LN S (a + 3 * i + 3) (N + 20 * i + 20) σ T (σ6.set kf (.list (tup (fl ++ [kR m])))) T6 := ⟨base _ xx.fr _ _ (Nat.le_refl _), xx.ls.other hk7, xx.pre⟩
      generalize (σ6.set kf (.list (tup (fl ++ [kR m])))) = σ7 at hs7 hf7 hd7 x8 ⊢
      repeat walk_at "m"
      refine r_Meth ?_
      repeat walk_at "m"
      refine ⟨.builtin "list.append", m_append hd7, .inr (by intro a e; cases e), ?_⟩
      repeat walk_at "m"
      refine comp_map (lc := []) (worthL d) (fun x => 0 - x) (caught cn_nil) (worth_le _) ?_ ?_ ?_
      · repeat walk_at "m"
        exact .inl rfl
      · intro L2 n hn
        repeat walk_at "m"
        refine ⟨sub_nil, ?_⟩
        repeat walk_at "m"
        first | exact ⟨rfl, rfl⟩ | rfl
      · repeat walk_at "m"
        refine c_all F (room_of hr) (by rw [List.length_map]; exact worth_le _) ?_
        rw [worth_negF]
        repeat walk_at "m"
        refine o_min (ofInts_ok 49 _).1 (ofInts_ok 49 _).1 (cmp_ints _ _) ?_
        rw [minV_eq]
        repeat walk_at "m"
        refine o_append hd7 (by rw [tup_len, List.length_map]; exact Nat.le_trans hes (Nat.le_trans (Nat.le_of_lt hi5) (by decide))) ?_
        rw [tup_snoc]
        repeat walk_at "m"
        refine ⟨trivial, T6, fl ++ [kR m], es ++ [(op, d)], ⟨base _ x8.fr _ _ (Nat.le_succ kf), (x8.ls.other (Nat.le_succ_of_le hk7)).more hA3 hN3 hN5, x8.pre⟩, P6.snoc hop hm, (set_ne (Nat.ne_of_gt (Nat.lt_succ_self kf))).trans hf7, ?_, sub_cons rfl (sub_cons rfl (sub_cons rfl (sub_cons rfl (sub_cons rfl (sub_cons rfl sub_nil)))))⟩
        rw [List.map_append]
        exact set_at hd7
end

theorem caughtF {C : Cx} {scope : Scope} {l lc : Loc} (hn : CN C scope l lc) (one : scope.names.all (fun p => p.2 != .free) = true := by rfl) (nodup : (scope.names.map (·.1)).Nodup := by with_unfolding_all decide)
    (kind : scope.kind = .function := by rfl) : Caught C scope l lc where
  names := hn
  one := .inr fun p hp e => by have := List.all_eq_true.mp one p hp; rw [e] at this; simp at this
  nodup := nodup
  kind := kind
  free := fun p hp e => by have := List.all_eq_true.mp one p hp; rw [e] at this; simp at this
noncomputable def T0 : TS := ⟨[], [], [], []⟩
noncomputable def T1 : TS := ⟨atomKeys, [], [(.int (3 : Nat), nameShape)], [(.int (3 : Nat), nameX), (.int (4 : Nat), slot0)]⟩
theorem good1 : Good T1 where
  atoms := ⟨[], rfl⟩
  sums := fun i w l h => absurd (List.mem_of_getElem? h) sumKey_atom
  nosum := fun i hi => rfl
  shapes := lt5 (P := fun i => dget T1.sh (.int (i : Nat)) = if i = 3 then some nameShape else none) rfl rfl rfl rfl rfl
  homes := lt5 (P := fun i => dget T1.hm (.int (i : Nat)) = homeOf i) rfl rfl rfl rfl rfl
section
variable {B : Base} {C : Cx} {σ : Store} {N : Nat} {T : TS} {S : List Int} {a : Nat}
set_option maxHeartbeats 8000000 in
theorem c_new (F : Facts B) (hr : 3 ≤ C.room) {W : AObj} {Q : AVal → Store → Prop} (hQ : ∀ σ', σ'.length = 7 → σ'[0]? = some W → TOk 0 σ' T0 → Q (.loc 2) σ') : OC B C (fun cs => call (.ref 422) cs) .nil [W] Q := by
  refine o_new (q0 := Str.ofString "self") F.cls F.init (F.mt 0 297 (by decide)).at_ hr ?_ (.inl rfl) (by with_unfolding_all decide) fun q doc pm cdv L => ?_
  · exact args1 fun _ _ _ _ _ => rfl
  repeat walk_at "m"
  refine a_attr (k := 2) (dl := 1) (Cl := 422) ?_
  repeat walk_at "m"
  refine ⟨_, F.cls, rfl, rfl, (F.attrs _ (by simp)).2, Nat.le_of_ble_eq_true rfl, ?_⟩
  repeat walk_at "m"
  refine a_attr (k := 2) (dl := 1) (Cl := 422) ?_
  repeat walk_at "m"
  refine ⟨_, F.cls, rfl, rfl, (F.attrs _ (by simp)).2, Nat.le_of_ble_eq_true rfl, ?_⟩
  repeat walk_at "m"
  refine a_attr (k := 2) (dl := 1) (Cl := 422) ?_
  repeat walk_at "m"
  refine ⟨_, F.cls, rfl, rfl, (F.attrs _ (by simp)).2, Nat.le_of_ble_eq_true rfl, ?_⟩
  repeat walk_at "m"
  refine a_attr (k := 2) (dl := 1) (Cl := 422) ?_
  repeat walk_at "m"
  refine ⟨_, F.cls, rfl, rfl, (F.attrs _ (by simp)).2, Nat.le_of_ble_eq_true rfl, ?_⟩
  repeat walk_at "m"
  refine hQ _ rfl rfl ?_
  exact { self := ⟨rfl, rfl⟩, keys := rfl, sums := rfl, shapes := rfl, homes := rfl, nodup := List.nodup_nil, tk := by simp [T0], smI := by simp [T0], shI := by simp [T0], hmI := by simp [T0], ksL := Nat.le_refl _, smL := Nat.le_refl _, shL := Nat.le_refl _, hmL := Nat.le_refl _, small := by decide }
theorem Rows.snoc {ks : List AVal} {σ : Store} {ts : List AVal} {fs : List Form} {t : AVal} {f : Form} (x : Rows ks σ ts fs) (hh : ts.length + 1 ≤ 100) (ht : TermIs ks t f) :
    Rows ks ((σ.set 7 (.list (tup (ts ++ [t])))).set 8 (.list (tup ((fs ++ [f]).map worthV)))) (ts ++ [t]) (fs ++ [f]) where
  ones := by rw [set_ne (by decide)]; exact set_at x.ones
  worths := set_at (o' := .list (tup (fs.map worthV))) (by rw [set_ne (by decide)]; exact x.worths)
  len := by simp [x.len]
  lo := by have := x.lo; simp; omega
  hi := by simp; omega
  term := fun i t' f' h1 h2 => by
    rcases Nat.lt_or_ge i ts.length with hj | hj
    · rw [List.getElem?_append_left hj] at h1
      rw [List.getElem?_append_left (x.len ▸ hj)] at h2
      exact x.term i t' f' h1 h2
    · rw [List.getElem?_append_right hj] at h1
      rw [List.getElem?_append_right (x.len ▸ hj), ← x.len] at h2
      cases hz : i - ts.length with
      | zero =>
        rw [hz] at h1 h2
        rw [← Option.some.inj h1, ← Option.some.inj h2]
        exact ht
      | succ m => rw [hz] at h1; simp at h1
  home := by have := x.lo; rw [List.getElem?_append_left (by rw [← x.len]; omega)]; exact x.home
noncomputable def ts0 : List AVal := [kR 0, kR 1, kR 2, kR 3, kR 4]
noncomputable def fs0 : List Form := [atomF 0, atomF 1, atomF 2, atomF 3, atomF 4]
theorem rows0 {ks : List AVal} {σ : Store} (h1 : σ[7]? = some (.list (tup ts0))) (h2 : σ[8]? = some (.list (tup (fs0.map worthV)))) : Rows ks σ ts0 fs0 where
  ones := h1
  worths := h2
  len := rfl
  lo := by decide
  hi := by decide
  term := fun i t f h1 h2 => by
    have hi : i < 5 := (List.getElem?_eq_some_iff.mp h1).1
    have e : ts0[i]? = some (kR i) ∧ fs0[i]? = some (atomF i) := lt5 (P := fun i => ts0[i]? = some (kR i) ∧ fs0[i]? = some (atomF i)) ⟨rfl, rfl⟩ ⟨rfl, rfl⟩ ⟨rfl, rfl⟩ ⟨rfl, rfl⟩ ⟨rfl, rfl⟩ i hi
    rw [← Option.some.inj (e.1.symm.trans h1), ← Option.some.inj (e.2.symm.trans h2)]
    exact atom_term hi
  home := rfl
theorem term_ok {ks : List AVal} {f : Form} {t : AVal} (h : TermIs ks t f) : okE 50 t = true := by
  cases h with
  | k hi ht => rw [ht]; with_unfolding_all rfl
  | a n hn hw hi ht => rw [ht]; with_unfolding_all rfl
  | s i h0 h1 hk ht => rw [ht]; with_unfolding_all rfl
theorem term_cases {ks : List AVal} {t : AVal} {f : Form} (h : TermIs ks t f) : (f.its = [] ∧ t = kK (f.w % MM)) ∨ ∃ n : Nat, f.its ≠ [] ∧ t = kR n := by
  cases h with
  | k hi ht => exact .inl ⟨hi, ht⟩
  | a n hn hw hi ht => exact .inr ⟨n, by rw [hi]; exact List.cons_ne_nil _ _, ht⟩
  | s i h0 _ _ ht => exact .inr ⟨i, h0, ht⟩
theorem zip_rows {ts : List AVal} {fs : List Form} : ∀ {i : Nat} {a : AVal}, aget (zipv (tup ts) (tup (fs.map worthV))) i = some a → ∃ t f, ts[i]? = some t ∧ fs[i]? = some f ∧ a = tup [t, worthV f] := by
  induction ts generalizing fs with
  | nil => intro i a h; cases fs <;> simp [tup, zipv, aget] at h
  | cons t ts ih =>
    intro i a h
    cases fs with
    | nil => simp [tup, zipv, aget] at h
    | cons f fs =>
      cases i with
      | zero => simp only [List.map_cons, tup, zipv, aget, Option.some.injEq] at h; exact ⟨t, f, rfl, rfl, h.symm⟩
      | succ i => simp only [List.map_cons, tup, zipv, aget] at h; simpa using ih h
end

noncomputable def kRs (n : Nat) : List AVal := (List.range n).map kR
section
variable {B : Base} {C : Cx}
theorem o_catTo {σ : Store} {a b c : AVal} {n : Nat} {Q : AVal → Store → Prop} (hc : aapp a b = c) (hn : σ.length = n) (hz : alen a + alen b ≤ 1000000) (h : Q (.loc n) (σ ++ [.list c])) : O2 B C (binaryOp .Add) (.lst a) (.lst b) σ Q := by
  subst hc hn
  exact o_cat hz h
theorem fs0_at : ∀ i : Nat, i < 5 → fs0[i]? = some (atomF i) := lt5 rfl rfl rfl rfl rfl
theorem row0 : ∀ i : Nat, i < 5 → ((List.range 6).map fun s => if s = i + 1 then (1 : Int) else 0) = worthL (atomF i) := lt5 rfl rfl rfl rfl rfl
set_option maxHeartbeats 16000000 in
theorem c_law (F : Facts B) (hr : 14 ≤ C.room) {sa : Addr} {vs : List Value} {ns : List Int} (hl : B.h₀.IsList sa vs.toArray) (hI : IntsAre vs ns) (hz : ns.length ≤ 1000000)
    {Q : AVal → Store → Prop} (hQ : ∀ σ', Q (.bool true) σ') : OC B C (fun cs => call (.ref 478) cs) (tup [.con (.ref sa)]) [] Q := by
  refine call_def (ns := [Str.ofString "script"]) (F.fn 71 478 (by decide)).at_ (one_le hr) ?_ (by decide) (names_of rfl) (by with_unfolding_all decide) fun q doc pm cdv L => ?_
  · exact args1 fun _ _ _ _ _ => rfl
  obtain ⟨S, hS⟩ : ∃ S, ns.take 60 = S := ⟨_, rfl⟩
  have hS60 : S.length ≤ 60 := by rw [← hS, List.length_take]; omega
  have last : ∀ (l' : Loc) (σ : Store) (T : TS) (ts : List AVal) (fs : List Form), LS S 100 300 σ T → Rows T.ks σ ts fs → Sub [(Str.ofString "well", .loc 0), (Str.ofString "terms", .loc 2), (Str.ofString "ones", .loc 7), (Str.ofString "worths", .loc 8)] l' →
      WS B (cxOf C (stG pw 71) q doc pm cdv L 478) (execs ((dBody (stG pw 71)).drop 4) (cxOf C (stG pw 71) q doc pm cdv L 478).env) l' σ (fun _ σ' => Q .none σ') Q := by
    intro l' σ T ts fs H R hsub
    refine WS.sub hsub ?_
    have h100 := R.hi
    have hlen : alen (tup ts) = alen (tup (fs.map worthV)) := by rw [tup_len, tup_len, List.length_map, R.len]
    have hs := H.self
    refine s_cons (s_for (src_zip ?_))
    refine r_builtin (F.builts _ _ rfl) ?_
    repeat walk_at "m"
    refine ⟨_, _, rfl, ?_⟩
    simp only [ItemsOf]
    refine ⟨tup ts, R.ones, tup (fs.map worthV), R.worths, hlen, ?_⟩
    refine ⟨fun i l' σ' => σ' = σ ∧ Sub [(Str.ofString "well", .loc 0), (Str.ofString "terms", .loc 2), (Str.ofString "ones", .loc 7), (Str.ofString "worths", .loc 8)] l', ⟨rfl, sub_cons rfl (sub_cons rfl (sub_cons rfl (sub_cons rfl sub_nil)))⟩, ?_, ?_⟩
    · rintro l' σ' - ⟨rfl, hsub⟩
      refine WS.sub hsub ?_
      repeat walk_at "m"
      refine c_alike F (room_of hr) R.ones R.worths (by rw [List.length_map, R.len]) (Nat.le_trans h100 (by decide)) (fun t ht => ?_) (fun t ht => ?_) (fun i j x y u v hx hy hu hv => ?_) ?_
      · obtain ⟨j, hj⟩ := List.mem_iff_getElem?.mp ht
        have hj5 : j < fs.length := R.len ▸ (List.getElem?_eq_some_iff.mp hj).1
        exact term_ok (R.term j t _ hj (List.getElem?_eq_getElem hj5))
      · obtain ⟨f, hf, rfl⟩ := List.mem_map.mp ht
        exact (ofInts_ok 49 _).1
      · rw [List.getElem?_map, Option.map_eq_some_iff] at hu hv
        obtain ⟨f, hf, rfl⟩ := hu
        obtain ⟨g, hg, rfl⟩ := hv
        rw [term_iff H.good H.ok.nodup (R.term i x f hx hf) (R.term j y g hy hg)]
        exact ⟨fun h => by rw [worthV, h], fun h => ofInts_inj h⟩
      repeat walk_at "m"
      refine c_places F (room_of hr) H R (by decide) fun σ2 T2 x2 => ?_
      have hs2 := x2.ls.self
      repeat walk_at "m"
      exact c_equals F (room_of hr) x2.ls (R.ln x2) hS60 (by decide) (by decide) hQ
    · rintro i av l' σ' hi hP ⟨rfl, hsub⟩
      obtain ⟨t, f, ht, hf, rfl⟩ := zip_rows hi
      have htf := R.term i t f ht hf
      refine WA.sub hsub ?_
      repeat walk_at "m"
      refine comp_filter (lc := [(Str.ofString "worth", worthV f)]) (worthL f) (fun x => !decide (x = f.w % 4294967296)) (caught (cn_cons rfl cn_nil)) (worth_le _) ?_ ?_ ?_
      · repeat walk_at "m"
        exact .inl rfl
      · intro L2 n hn
        repeat walk_at "m"
        refine ⟨sub_cons rfl sub_nil, ?_⟩
        repeat walk_at "m"
        rw [dec_int]
        refine ⟨rfl, rfl, ?_⟩
        repeat walk_at "m"
        first | exact ⟨rfl, rfl⟩ | rfl
      · repeat walk_at "m"
        refine o_eq (okLst _) rfl ?_
        rw [lst_eq_nil]
        have hsame := same_iff f
        rcases term_cases htf with ⟨hi0, ht0⟩ | ⟨n, h0, ht0⟩
        · subst ht0
          rw [decide_eq_true (hsame.mpr hi0)]
          repeat walk_at "m"
          refine o_ne_bool ?_
          repeat walk_at "m"
          refine itF (by show (!decide (kK (f.w % MM) = kK (f.w % MM))) = false; simp) ?_
          repeat walk_at "m"
          exact sub_cons rfl (sub_cons rfl (sub_cons rfl (sub_cons rfl sub_nil)))
        · subst ht0
          rw [decide_eq_false (fun h => h0 (hsame.mp h))]
          repeat walk_at "m"
          refine o_ne_bool ?_
          repeat walk_at "m"
          exact sub_cons rfl (sub_cons rfl (sub_cons rfl (sub_cons rfl sub_nil)))
  refine s_cons (s_assign (r_Tuple (r_cons (r_ListM (r_cons (r_CallB F rfl (r_cons (r_upto rfl hl hI hz ?_))))))))
  rw [hS]
  repeat walk_at "m"
  refine o_list_lst (by rw [alen_ofInts]; exact Nat.le_trans hS60 (by decide)) ?_
  repeat walk_at "m"
  refine c_new F (room_of hr) fun σ1 hn1 hw1 HT => ?_
  have hw1 : σ1[0]? = some (wellO S 0) := hw1
  have hs1 := HT.self
  repeat walk_at "m"
  refine r_Comp (lc := [(Str.ofString "terms", .loc 2)]) (caught (cn_cons rfl cn_nil)) (src_range ?_)
  refine r_builtin (F.builts _ _ rfl) ?_
  repeat walk_at "m"
  refine ⟨fun i ys σ' => i ≤ 3 ∧ Fr σ1 σ' ∧ σ'.length = 7 ∧ TOk i σ' ⟨atomKeys.take i, [], [], []⟩ ∧ ys = tup (kRs i), ⟨by decide, Fr.refl _, hn1, HT, rfl⟩, ?_, ?_⟩
  rotate_left
  · rintro L2 i av ys σ' hi - ⟨_, hfr, hn, hT, rfl⟩
    obtain ⟨hi5', rfl⟩ := iot0_get hi
    have hi5 : i < 3 := hi5'
    clear hi5' hi
    have hs := hT.self
    repeat walk_at "m"
    refine ⟨sub_cons rfl sub_nil, wt_nil ?_⟩
    have h3 : i = 0 ∨ i = 1 ∨ i = 2 := by omega
    rcases h3 with rfl | rfl | rfl
    all_goals
      repeat walk_at "m"
      refine c_symbol F (room_comp (room_of hr)) hT (by with_unfolding_all rfl) (fun j hj => absurd (List.mem_of_getElem? hj) (by decide +kernel)) fun hm => ?_
      refine ⟨trivial, by decide, hfr.trans (Fr.set (by decide)), by rw [List.length_set]; exact hn, ?_, rfl⟩
      exact hT.addKey (by with_unfolding_all rfl) hm (by decide)
  rintro ys σ2 - ⟨_, hfr2, hn2, hT2, rfl⟩
  have hs2 := hT2.self
  repeat walk_at "m"
  refine c_home F (room_of hr) hT2 (.inl ⟨rfl, rfl⟩) (by decide) fun i ks' σ3 hi hks hfr3 hn3 hT3 => ?_
  have hnm : homeKey nameX ∉ atomKeys.take 3 := by decide +kernel
  rcases hks with rfl | ⟨_, rfl, rfl⟩
  · exact absurd (List.mem_of_getElem? hi) hnm
  have hs3 := hT3.self
  repeat walk_at "m"
  refine c_home F (room_of hr) hT3 (.inr ⟨rfl, rfl⟩) (by decide) fun i ks' σ4 hi hks hfr4 hn4 hT4 => ?_
  have hnm : homeKey slot0 ∉ atomKeys.take 3 ++ [homeKey nameX] := by decide +kernel
  rcases hks with rfl | ⟨_, rfl, rfl⟩
  · exact absurd (List.mem_of_getElem? hi) hnm
  have hd1 : dput (dput [] (.int (3 : Nat)) nameX) (.int (4 : Nat)) slot0 = T1.hm := by simp [dput, dget, T1]
  have hT5 : TOk 9 σ4 T1 := by
    have h : TOk 9 σ4 ⟨atomKeys, [], dput [] (.int (3 : Nat)) nameShape, dput (dput [] (.int (3 : Nat)) nameX) (.int (4 : Nat)) slot0⟩ := hT4
    rw [hd1] at h
    exact h
  have hn4 : σ4.length = 7 := hn4.trans (hn3.trans hn2)
  have hw4 : σ4[0]? = some (wellO S 0) := hfr4 _ _ (hfr3 _ _ (hfr2 _ _ hw1 (by decide) (by decide) (by decide) (by decide)) (by decide) (by decide) (by decide) (by decide)) (by decide) (by decide) (by decide) (by decide)
  clear hT4 hT3 hT2 hi hnm hfr2 hfr3 hfr4 hs1 hs2 hs3
  have hs4 := hT5.self
  repeat walk_at "m"
  refine o_catTo (c := tup ts0) rfl hn4 (by with_unfolding_all decide) ?_
  have hs5 : SelfOk (σ4 ++ [.list (tup ts0)]) := hs4.app
  have hn5 : (σ4 ++ [AObj.list (tup ts0)]).length = 8 := by rw [List.length_append, hn4]; rfl
  repeat walk_at "m"
  refine s_comp_useM (lc := []) (caughtF cn_nil) (src_range ?_)
  refine r_builtin (F.builts _ _ rfl) ?_
  repeat walk_at "m"
  refine ⟨fun i ys σ' => i ≤ 5 ∧ σ' = σ4 ++ [.list (tup ts0)] ∧ ys = tup ((fs0.take i).map worthV), ⟨by decide, rfl, rfl⟩, ?_, ?_⟩
  rotate_left
  · rintro L2 i av ys σ' hi - ⟨_, rfl, rfl⟩
    obtain ⟨hi5', rfl⟩ := iot0_get hi
    have hi5 : i < 5 := hi5'
    clear hi5' hi
    repeat walk_at "m"
    refine ⟨sub_nil, wt_nil ?_⟩
    repeat walk_at "m"
    refine r_Comp (lc := [(Str.ofString "which", .int i)]) (caught (cn_cons rfl cn_nil)) (src_range ?_)
    refine r_builtin (F.builts _ _ rfl) ?_
    repeat walk_at "m"
    refine ⟨fun j ys σ' => σ' = σ4 ++ [.list (tup ts0)] ∧ ys = ofInts ((List.range j).map fun s => if s = i + 1 then (1 : Int) else 0), ⟨rfl, rfl⟩, ?_, ?_⟩
    · rintro ys σ' - ⟨rfl, rfl⟩
      repeat walk_at "m"
      refine o_tuple (ofInts_isT _) (by rw [alen_ofInts, List.length_map, List.length_range, alen_iot]; decide) ?_
      refine ⟨trivial, hi5, rfl, ?_⟩
      rw [tup_snoc, map_take (fs0_at i hi5)]
      show _ = tup (_ ++ [ofInts (worthL (atomF i))])
      rw [← row0 i hi5]; rfl
    · rintro L3 j av ys σ' hj - ⟨rfl, rfl⟩
      obtain ⟨hj5, rfl⟩ := iot0_get hj
      repeat walk_at "m"
      refine ⟨sub_cons rfl sub_nil, wt_nil ?_⟩
      repeat walk_at "m"
      refine o_int_bool ?_
      refine ⟨trivial, rfl, ?_⟩
      rw [ofInts_snoc, List.range_succ, List.map_append, dec_int]
      have e : decide ((j : Int) = (i : Int) + 1) = decide (j = i + 1) := decide_eq_decide.mpr (by omega)
      rw [e]
      simp
  rintro ys σ' - ⟨_, rfl, rfl⟩
  have h7 : (σ4 ++ [AObj.list (tup ts0)] ++ [AObj.list (tup (fs0.map worthV))])[7]? = some (.list (tup ts0)) := app_at (by have := app_last (σ := σ4) (o := .list (tup ts0)); rw [hn4] at this; exact this)
  have h8 : (σ4 ++ [AObj.list (tup ts0)] ++ [AObj.list (tup (fs0.map worthV))])[8]? = some (.list (tup (fs0.map worthV))) := by
    have := app_last (σ := σ4 ++ [AObj.list (tup ts0)]) (o := .list (tup (fs0.map worthV))); rw [hn5] at this; exact this
  have H6 : LS S 0 9 (σ4 ++ [AObj.list (tup ts0)] ++ [AObj.list (tup (fs0.map worthV))]) T1 := ⟨hT5.app.app, good1, 0, Nat.le_refl _, app_at (app_at hw4)⟩
  have R6 : Rows T1.ks (σ4 ++ [AObj.list (tup ts0)] ++ [AObj.list (tup (fs0.map worthV))]) ts0 fs0 := rows0 h7 h8
  rw [hn5, show AObj.list (tup ((fs0.take (alen (iot 0 5))).map worthV)) = .list (tup (fs0.map worthV)) from rfl]
  generalize σ4 ++ [AObj.list (tup ts0)] ++ [AObj.list (tup (fs0.map worthV))] = σ6 at H6 R6 ⊢
  repeat walk_at "m"
  refine s_for (src_range ?_)
  refine r_builtin (F.builts _ _ rfl) ?_
  repeat walk_at "m"
  refine c_drawL F (room_of hr) H6 (by decide) hS60 (by decide) fun v σ7 hv x7 => ?_
  have R7 := R6.ln x7
  repeat walk_at "m"
  have hv10 : v < 10 := Int.ofNat_lt.mp hv
  have hv11 : 1 + v ≤ 10 := Nat.add_comm 1 v ▸ hv10
  have h40 : 1 + v < 2 ^ 40 := Nat.lt_of_le_of_lt hv11 (by decide)
  refine ⟨h40, fun i l' σ' => ∃ T' ts fs, LS S (1 + 6 * i) (9 + 20 * i) σ' T' ∧ Rows T'.ks σ' ts fs ∧ ts.length = 5 + i ∧ Sub [(Str.ofString "well", .loc 0), (Str.ofString "terms", .loc 2), (Str.ofString "ones", .loc 7), (Str.ofString "worths", .loc 8)] l',
    ⟨T1, ts0, fs0, x7.ls, R7, rfl, sub_cons rfl (sub_cons rfl (sub_cons rfl (sub_cons rfl sub_nil)))⟩, ?_, ?_⟩
  · rintro l' σ' - ⟨T', ts, fs, x, R, hn, hsub⟩
    rw [alen_iot] at x hn
    have x : LS S (1 + 6 * (1 + v)) (9 + 20 * (1 + v)) σ' T' := x
    exact last l' σ' T' ts fs (x.more (Nat.le_trans (Nat.add_le_add_left (Nat.mul_le_mul_left 6 hv11) 1) (by decide)) (Nat.le_trans (Nat.add_le_add_left (Nat.mul_le_mul_left 20 hv11) 9) (by decide)) (by decide)) R hsub
  rintro i av l' σ' hi - ⟨T', ts, fs, x, R, hn, hsub⟩
  obtain ⟨hi5', rfl⟩ := iot0_get hi
  have hi5 : i < 1 + v := hi5'
  clear hi5'
  have hi10 : i ≤ 10 := Nat.le_trans (Nat.le_of_lt hi5) hv11
  have hN20 : 9 + 20 * i + 20 ≤ 900000 := Nat.le_trans (Nat.add_le_add_right (Nat.add_le_add_left (Nat.mul_le_mul_left 20 hi10) 9) 20) (by decide)
  have hn100 : ts.length + 1 ≤ 100 := by rw [hn]; exact Nat.le_trans (Nat.add_le_add_right (Nat.add_le_add_left hi10 5) 1) (by decide)
  refine WA.sub hsub ?_
  repeat walk_at "m"
  refine c_row F (room_of hr) x R (Nat.le_trans (Nat.add_le_add_right (Nat.add_le_add_left (Nat.mul_le_mul_left 6 hi10) 1) 10) (by decide)) hS60 hN20 fun t L f σ8 T8 y ht hL => ?_
  have R2 := R.ln y
  have hL6 : L.length = 6 := by have := congrArg List.length hL; simpa [modL, worth_len] using this
  have hs8 := y.ls.self
  repeat walk_at "m"
  refine r_Meth ?_
  repeat walk_at "m"
  refine ⟨.builtin "list.append", m_append R2.ones, .inr (by intro a e; cases e), ?_⟩
  repeat walk_at "m"
  refine o_append R2.ones R2.small ?_
  rw [tup_snoc]
  have hw7 : (σ8.set 7 (.list (tup (ts ++ [t]))))[8]? = some (.list (tup (fs.map worthV))) := (set_ne (by decide)).trans R2.worths
  have hs9 : SelfOk (σ8.set 7 (.list (tup (ts ++ [t])))) := hs8.set (by decide) (by decide)
  repeat walk_at "m"
  refine r_Meth ?_
  repeat walk_at "m"
  refine ⟨.builtin "list.append", m_append hw7, .inr (by intro a e; cases e), ?_⟩
  repeat walk_at "m"
  refine c_all F (room_of hr) (M := L) (by rw [hL6]; decide) ?_
  rw [hL]
  repeat walk_at "m"
  refine o_append hw7 (by rw [tup_len, List.length_map, ← R2.len]; exact Nat.le_trans R2.hi (by decide)) ?_
  rw [tup_snoc]
  have R3 := R2.snoc hn100 ht
  rw [List.map_append] at R3
  repeat walk_at "m"
  exact ⟨trivial, T8, ts ++ [t], fs ++ [f], ((y.ls.other (by decide)).other (by decide)).more (Nat.le_refl (1 + 6 * i + 6)) (Nat.le_refl (9 + 20 * i + 20)) hN20, R3, by rw [List.length_append, hn]; rfl, sub_cons rfl (sub_cons rfl (sub_cons rfl (sub_cons rfl sub_nil)))⟩
end

noncomputable def YPm (w : World) (h : Heap) : Prop := ∃ K : Frag, K.In h ∧ nsIn K mainGlobals (Str.ofString "law") = some (some (.ref 478)) ∧ ∀ os mg mb, Facts ⟨pw, w, K, h, os, mg, mb⟩
theorem ypm_of {w : World} {s : Shared} (e : obsM s = valM pw w) : YPm w s.heap := by
  refine ⟨fragOf s.heap asM, fragOf_in _ _, law_of e, fun os mg mb => ?_⟩
  have f := facts_of (mg := mg) (mb := mb) e
  exact ⟨fun k fa h => ⟨(f.fn k fa h).at_, (f.fn k fa h).keeps⟩, fun k fa h => ⟨(f.mt k fa h).at_, (f.mt k fa h).keeps⟩, f.fnames, f.globs, f.builts, f.meths, f.init, f.attrs, f.cls, f.tabs⟩
theorem ypm_mono {w : World} {h h' : Heap} (y : YPm w h) (hk : ∀ b o, h.get? b = some o → h'.get? b = some o) : YPm w h' := by
  obtain ⟨K, hi, hl, hf⟩ := y
  refine ⟨K, fun a o e => hk _ _ (hi a o e), hl, fun os mg mb => ?_⟩
  have f := hf os mg mb
  refine ⟨fun k fa h => ⟨(f.fn k fa h).at_, (f.fn k fa h).keeps⟩, fun k fa h => ⟨(f.mt k fa h).at_, (f.mt k fa h).keeps⟩, fun x fa hx => ?_, fun x a hx => ?_, f.builts, f.meths, f.init, f.attrs, f.cls, fun d ks hd => ?_⟩
  · obtain ⟨⟨c, h1, h2⟩, h3⟩ := f.fnames x fa hx
    exact ⟨⟨c, h1, h2.mono ⟨fun _ _ e => e, fun a o xs n ho _ r v => ⟨hk _ _ ho, r, v⟩⟩⟩, h3⟩
  · obtain ⟨c, h1, h2⟩ := f.globs x a hx
    exact ⟨c, h1, h2.mono ⟨fun _ _ e => e, fun a o xs n ho _ r v => ⟨hk _ _ ho, r, v⟩⟩⟩
  · obtain ⟨h1, kvs, ⟨o, es, ep, ho, r⟩, h2⟩ := f.tabs d ks hd
    exact ⟨h1, kvs, ⟨o, es, ep, hk _ _ ho, r⟩, h2⟩
noncomputable def cxTop : Cx := { env := { scope := { (default : Scope) with kind := .function }, locals := 0, globals := mainGlobals, cells := [], builtins := builtinsNs }, A := callerA, own := [], room := 14 }
theorem entry {w : World} {s₁ : Shared} {mg mb : Str → Option Value} (Y : YPm w s₁.heap) (hg : s₁.heap.Ns mainGlobals mg) (hb : s₁.heap.Ns builtinsNs mb) (hn : s₁.heap.NoLimit) (hbo : ∀ x : Str, x ≠ "__name__" → mb x = bootBuiltins x) (hge : s₁.gens = #[])
    {fa sa : Addr} (hm : mg (Str.ofString "law") = some (.ref fa)) {vs : List Value} {ns : List Int} (hl : s₁.heap.IsList sa vs.toArray) (hI : IntsAre vs ns) (hz : ns.length ≤ 1000000) {Q : Value → Shared → Prop} {E : Value → Shared → Prop}
    (hQ : ∀ s' : Shared, (∀ b o, s₁.heap.get? b = some o → s'.heap.get? b = some o) → s'.gens = #[] → s'.os = s₁.os → Q (.bool true) s') :
    wpAny (model pw w) callerA (call (.ref fa) [.ref sa]) Q E s₁ := by
  obtain ⟨K, hi, hlaw, hf⟩ := Y
  have e := mg_of hi hg hlaw
  rw [hm] at e
  injection e with e
  injection e with e
  subst e
  have H := c_law (C := cxTop) (hf s₁.os mg mb) (Nat.le_refl _) hl hI hz (Q := fun v _ => v = .bool true) fun _ => rfl
  refine wpAny_mono (H [] [] s₁ [.ref sa] ⟨⟨hi, hg, hb, hn, hbo⟩, fun b o e => e, by simp, by simp, by simp, List.nodup_nil, rfl, by simp, hge, rfl⟩ ?_ ?_) (fun v s' h => ?_) fun _ _ h => h.elim
  · exact { kind := rfl, globals := rfl, builtins := rfl, apart := List.Pairwise.nil, own := fun x c h => (by simp [cxTop] at h), handled := rfl, depth := by decide, units := by decide }
  · simp only [IRel, VRel]
    exact ⟨_, _, rfl, rfl, rfl⟩
  · obtain ⟨ρ', σ', a, st, x, r, rfl⟩ := h
    simp only [VRel] at r
    subst r
    exact hQ s' x.keep x.gens x.os

end
end Mine
theorem PySem.Challenge.cw_sa0182_01_holds : PySem.Challenge.rw_sa0182_01.Holds := by
  w_on
  refine holds_law Mine.said0 fun said => ?_
  refine holds_open (q := view PySem.Challenge.pw_sa0182_01 [71]) (loose := Mine.looseM PySem.Challenge.pw_sa0182_01) (Xt := fun s => xlAt (view PySem.Challenge.pw_sa0182_01 [71]) [] s && recOk [] s) (XP := XL (view PySem.Challenge.pw_sa0182_01 [71]) []) (Yf := Mine.obsM) (Ya := Mine.valM PySem.Challenge.pw_sa0182_01) (YP := Mine.YPm) (N := 7130) Mine.left (fun _ _ e => Mine.ypm_of e) (fun _ _ _ y k => Mine.ypm_mono y k) (fun s e => xl_of s (Bool.and_eq_true_iff.mp e).1) XL.keeps (by rfl) (by rfl) (by rfl) (fun s e => recFacts_of (Bool.and_eq_true_iff.mp e).2) (by rfl) (by assumption) (by decide +kernel) ⟨rfl, rfl, rfl, rfl, rfl, by decide +kernel⟩ ?hw ?hc
  case hw => w_witness2
  intro w s₀ s₁ mg mb G Y fa o pm cd doc dV kV ho hd hcd hD hmg hg args vals as hpre hlay hrd hwl hlo
  clear hd hcd hD ho
  wrow_args hpre hlay hrd hwl hlo
  refine Mine.entry Y G.T.g G.T.b G.T.nolimit G.T.builtins hg hmg (by assumption) (by assumption) (by omega) fun s' hk hge hos => ?_
  exact GoodW.toG ⟨.inl ⟨_, .bool true, [], rfl, fun _ => rfl, ReadsW.bool _, by with_unfolding_all rfl, fun _ => ⟨List.nodup_nil, by simp⟩⟩, hk, hos, hge⟩
