/- The abstract machine of this proof: a deterministic reading of the model's code, and that it says what the model does. -/
import Derived.Test.YtedlbliofaomhaaGreatDoorMachine3
import Derived.Orders
set_option linter.all false
section
/- Frames. -/
set_option linter.unusedVariables false
set_option linter.unusedSimpArgs false
set_option linter.unusedSectionVars false
namespace Go.Ev
open Go.RowKit

inductive IRel (φ : Phi) : AItem → Item → Prop where
  | code (c : Code) : IRel φ (.code c) (.code c)
  | inBlock (id : Nat) : IRel φ (.inBlock id) (.inBlock id)
  | inLoop (c : Code) : IRel φ (.inLoop c) (.inLoop c)
  | inScope (c : Code) : IRel φ (.inScope c) (.inScope c)
  | inRegion (ops : Array Oper) (todo : List Oper) (is : List Nat) (h : IsRel ops is todo) : IRel φ (.inRegion ops.toList todo) (.inRegion ops is)
  | inRangeFunc (l : Nat) (p : Place) (h : φ l = some p) : IRel φ (.inRangeFunc l) (.inRangeFunc p.block)
  | endRangeFunc (l : Nat) (p : Place) (h : φ l = some p) : IRel φ (.endRangeFunc l) (.endRangeFunc p.block)
  | beginRound : IRel φ .beginRound .beginRound
theorem IRel.mono {φ φ' : Phi} (h : φ.le φ') {a : AItem} {b : Item} (r : IRel φ a b) : IRel φ' a b := by
  cases r with
  | code c => exact .code c
  | inBlock id => exact .inBlock id
  | inLoop c => exact .inLoop c
  | inScope c => exact .inScope c
  | inRegion ops todo is hr => exact .inRegion ops todo is hr
  | inRangeFunc l p hl => exact .inRangeFunc l p (h _ _ hl)
  | endRangeFunc l p hl => exact .endRangeFunc l p (h _ _ hl)
  | beginRound => exact .beginRound
inductive TdRel (φ : Phi) : List AItem → List Item → Prop where
  | nil : TdRel φ [] []
  | cons {a : AItem} {b : Item} {l : List AItem} {m : List Item} (h : IRel φ a b) (t : TdRel φ l m) : TdRel φ (a :: l) (b :: m)
theorem TdRel.mono {φ φ' : Phi} (h : φ.le φ') {l : List AItem} {m : List Item} (r : TdRel φ l m) : TdRel φ' l m := by
  induction r with
  | nil => exact .nil
  | cons a _ ih => exact .cons (a.mono h) ih
theorem exitTo_rel {φ : Phi} (id : Nat) {l : List AItem} {m : List Item} (r : TdRel φ l m) : (∀ t, exitTo id l = some t → ∃ k, Go.exitTo id m = some k ∧ TdRel φ t k) ∧ (exitTo id l = none → Go.exitTo id m = none) := by
  induction r with
  | nil => exact ⟨(fun t h => by cases h), (fun _ => rfl)⟩
  | cons a t ih =>
    cases a with
    | inBlock id' =>
      unfold exitTo Go.exitTo
      by_cases e : id' = id
      · rw [beq_t e]
        simp only [cond_true]
        refine ⟨fun t' h => ?_, fun h => by cases h⟩
        cases h
        rw [if_pos (by simpa using e)]
        exact ⟨_, rfl, t⟩
      · rw [beq_f e]
        simp only [cond_false]
        rw [if_neg (by simpa using e)]
        exact ih
    | _ => exact ih
theorem gotoIn_rel {φ : Phi} (lb : Nat) {l : List AItem} {m : List Item} (r : TdRel φ l m) : (∀ t, gotoIn lb l = some t → ∃ k, Go.gotoIn lb m = some k ∧ TdRel φ t k) ∧ (gotoIn lb l = none → Go.gotoIn lb m = none) := by
  induction r with
  | nil => exact ⟨(fun t h => by cases h), (fun _ => rfl)⟩
  | cons a t ih =>
    cases a with
    | inScope body =>
      unfold gotoIn Go.gotoIn
      cases findLabel body lb with
      | none => exact ih
      | some rest =>
        refine ⟨fun t' h => ?_, fun h => by cases h⟩
        cases h
        exact ⟨_, rfl, .cons (.code _) (.cons (.inScope _) t)⟩
    | _ => exact ih

/-- Panics. -/
def PeRel (φ : Phi) (a : PEnt) (b : PanicEntry) : Prop := VRel φ a.v b.v ∧ b.recovered = a.recovered ∧ b.goexit = false
inductive PcRel (φ : Phi) : List PEnt → List PanicEntry → Prop where
  | nil : PcRel φ [] []
  | cons {a : PEnt} {b : PanicEntry} {l : List PEnt} {m : List PanicEntry} (h : PeRel φ a b) (t : PcRel φ l m) : PcRel φ (a :: l) (b :: m)
theorem PcRel.mono {φ φ' : Phi} (h : φ.le φ') {l : List PEnt} {m : List PanicEntry} (r : PcRel φ l m) : PcRel φ' l m := by
  induction r with
  | nil => exact .nil
  | cons a _ ih => exact .cons ⟨a.1.mono h, a.2⟩ ih
theorem PcRel.append {φ : Phi} {l l' : List PEnt} {m m' : List PanicEntry} (r : PcRel φ l m) (r' : PcRel φ l' m') : PcRel φ (l ++ l') (m ++ m') := by
  induction r with
  | nil => exact r'
  | cons a _ ih => exact .cons a ih
inductive MdRel (φ : Phi) : AMode → FrameMode → Prop where
  | run : MdRel φ .run .run
  | returning : MdRel φ .returning .returning
  | panicking (c : List PEnt) (c' : List PanicEntry) (h : PcRel φ c c') : MdRel φ (.panicking c) (.panicking c')
theorem MdRel.mono {φ φ' : Phi} (h : φ.le φ') {a : AMode} {b : FrameMode} (r : MdRel φ a b) : MdRel φ' a b := by
  cases r with
  | run => exact .run
  | returning => exact .returning
  | panicking c c' hc => exact .panicking c c' (hc.mono h)
def RoRel (φ : Phi) : Option Nat → Option Nat → Prop
  | none, none => True
  | some l, some r => ∃ p, φ l = some p ∧ p.block = r
  | _, _ => False
theorem RoRel.mono {φ φ' : Phi} (h : φ.le φ') {a b : Option Nat} (r : RoRel φ a b) : RoRel φ' a b := by
  cases a <;> cases b <;> first | trivial | exact r.elim | skip
  obtain ⟨p, h1, h2⟩ := r
  exact ⟨p, h _ _ h1, h2⟩

/-- What of a frame seldom turns. -/
structure KRel (φ : Phi) (k : FK) (fr : Frame) : Prop where
  fn : fr.fn = k.fn
  defers : DsRel φ k.defers fr.defers
  kind : fr.kind = k.kind
  ro : RoRel φ k.ro fr.roundOf
theorem KRel.mono {φ φ' : Phi} (h : φ.le φ') {k : FK} {fr : Frame} (r : KRel φ k fr) : KRel φ' k fr := ⟨r.fn, r.defers.mono h, r.kind, r.ro.mono h⟩
end Go.Ev
end
section
/- The orders of a region that draws its order. -/
set_option linter.unusedVariables false
set_option linter.unusedSimpArgs false
set_option linter.unusedSectionVars false
namespace Go.Ev
open Go.RowKit

section
variable {md : Region.Mode} {ops : Array Oper}

/-- A list each of whose elements is ready when it comes. -/
def Good (md : Region.Mode) (ops : Array Oper) : Array Bool → List Nat → Prop
  | _, [] => True
  | listed, i :: L => i ∈ Region.ready md ops listed ∧ Good md ops (listed.setIfInBounds i true) L

theorem go_cons (fuel t : Nat) (listed : Array Bool) : Region.linearise.go md ops (fuel + 1) t listed [] =
    match (Region.ready md ops listed)[t % (Region.ready md ops listed).length]? with
    | some i => i :: Region.linearise.go md ops fuel (t / (Region.ready md ops listed).length) (listed.setIfInBounds i true) []
    | none => [] := by
  simp only [Region.linearise.go]
  change (match (Region.ready md ops listed)[t % (Region.ready md ops listed).length]? with
      | some i => Region.linearise.go md ops fuel (t / (Region.ready md ops listed).length) (listed.setIfInBounds i true) [i]
      | none => [].reverse) = _
  cases (Region.ready md ops listed)[t % (Region.ready md ops listed).length]? with
  | none => rfl
  | some i => simp only []; rw [linearise_go_acc]; rfl

theorem good_go : ∀ (fuel t : Nat) (listed : Array Bool), Good md ops listed (Region.linearise.go md ops fuel t listed [])
  | 0, t, listed => trivial
  | fuel + 1, t, listed => by
    rw [go_cons]
    cases hi : (Region.ready md ops listed)[t % (Region.ready md ops listed).length]? with
    | none => trivial
    | some i => exact ⟨List.mem_of_getElem? hi, good_go fuel _ _⟩

theorem ready_none {t : Nat} {listed : Array Bool} (h : (Region.ready md ops listed)[t % (Region.ready md ops listed).length]? = none) : Region.ready md ops listed = [] := by
  cases hr : Region.ready md ops listed with
  | nil => rfl
  | cons x xs =>
    rw [hr] at h
    have hlt : t % (x :: xs).length < (x :: xs).length := Nat.mod_lt _ (by simp)
    simp at h
    simp at hlt
    omega

theorem set_self {listed : Array Bool} {i : Nat} (h : i < listed.size) : (listed.setIfInBounds i true).getD i true = true := by simp [h]

/-- What a good list is. -/
theorem good_spec : ∀ (L : List Nat) (listed : Array Bool), listed.size = ops.size → Good md ops listed L →
    (∀ i ∈ L, listed.getD i true = false ∧ i < ops.size) ∧ L.Nodup ∧
    (∀ pre i post, L = pre ++ i :: post → ∀ o e, ops[i]? = some o → e ∈ o.after → Region.binds md e = true → listed.getD e.on false = true ∨ e.on ∈ pre)
  | [], listed, hs, h => ⟨(fun i hi => by cases hi), List.nodup_nil, (fun pre i post h => by cases pre <;> cases h)⟩
  | x :: L, listed, hs, h => by
    obtain ⟨hx, hL⟩ := h
    obtain ⟨x1, ox, x2, x3⟩ := mem_ready.1 hx
    have hlt : x < ops.size := (Array.getElem?_eq_some_iff.1 x2).1
    obtain ⟨g1, g2, g3⟩ := good_spec L (listed.setIfInBounds x true) (by simpa using hs) hL
    have hne : ∀ i ∈ L, x ≠ i := fun i hi e => by
      subst e
      have := (g1 x hi).1
      rw [set_self (by omega)] at this; cases this
    refine ⟨fun i hi => ?_, List.nodup_cons.2 ⟨fun hm => hne x hm rfl, g2⟩, fun pre i post he o e ho hm hb => ?_⟩
    · rcases List.mem_cons.1 hi with rfl | hi
      · exact ⟨x1, hlt⟩
      · have := (g1 i hi).1
        rw [getD_set_ne true (hne i hi)] at this
        exact ⟨this, (g1 i hi).2⟩
    · cases pre with
      | nil =>
        simp at he
        obtain ⟨rfl, rfl⟩ := he
        rw [x2] at ho; cases ho
        exact .inl (x3 e hm hb)
      | cons y pre =>
        simp at he
        obtain ⟨rfl, rfl⟩ := he
        rcases g3 pre i post rfl o e ho hm hb with h | h
        · by_cases ee : x = e.on
          · exact .inr (by rw [ee]; exact List.mem_cons_self)
          · rw [getD_set_ne false ee] at h; exact .inl h
        · exact .inr (List.mem_cons_of_mem _ h)

/-- How many are not listed. -/
def unl (n : Nat) (listed : Array Bool) : Nat := ((List.range n).filter fun i => !listed.getD i true).length
theorem filter_one (p : Nat → Bool) (x : Nat) (hp : p x = true) : ∀ (l : List Nat), l.Nodup → x ∈ l → (l.filter p).length = (l.filter fun i => p i && decide (i ≠ x)).length + 1
  | [], _, h => by cases h
  | y :: l, hn, h => by
    obtain ⟨h1, h2⟩ := List.nodup_cons.1 hn
    by_cases e : y = x
    · subst e
      have : l.filter (fun i => p i && decide (i ≠ y)) = l.filter p := List.filter_congr fun i hi => by
        have : i ≠ y := fun ee => h1 (ee ▸ hi)
        simp [this]
      rw [List.filter_cons_of_pos hp, List.filter_cons_of_neg (by simp), this]; rfl
    · have hm : x ∈ l := by rcases List.mem_cons.1 h with h | h; exact absurd h.symm e; exact h
      have ih := filter_one p x hp l h2 hm
      by_cases hy : p y = true
      · rw [List.filter_cons_of_pos hy, List.filter_cons_of_pos (by simp [hy, e])]
        simp [ih]
      · rw [List.filter_cons_of_neg hy, List.filter_cons_of_neg (by simp [hy])]
        exact ih
theorem unl_set {n x : Nat} {listed : Array Bool} (hs : listed.size = n) (hx : x < n) (h : listed.getD x true = false) : unl n listed = unl n (listed.setIfInBounds x true) + 1 := by
  unfold unl
  rw [filter_one (fun i => !listed.getD i true) x (by simp only [h]; rfl) _ List.nodup_range (List.mem_range.2 hx)]
  congr 2
  refine List.filter_congr fun i hi => ?_
  by_cases e : i = x
  · subst e
    rw [set_self (by omega)]; simp
  · rw [getD_set_ne true (Ne.symm e)]; simp [e]
theorem unl_zero {n : Nat} {listed : Array Bool} (h : unl n listed = 0) (i : Nat) (hi : i < n) : listed.getD i true = true := by
  cases hg : listed.getD i true with
  | true => rfl
  | false =>
    have : i ∈ (List.range n).filter fun i => !listed.getD i true := List.mem_filter.2 ⟨List.mem_range.2 hi, by rw [hg]; rfl⟩
    rw [List.length_eq_zero_iff.1 h] at this; cases this

/-- What is listed behind a good list: what was, and its elements. -/
def listAll (listed : Array Bool) : List Nat → Array Bool
  | [] => listed
  | i :: L => listAll (listed.setIfInBounds i true) L
theorem listAll_spec : ∀ (L : List Nat) (listed : Array Bool), listed.size = ops.size → Good md ops listed L →
    (listAll listed L).size = ops.size ∧ unl ops.size listed = unl ops.size (listAll listed L) + L.length ∧ ∀ j, (listAll listed L).getD j true = true → listed.getD j true = true ∨ j ∈ L
  | [], listed, hs, h => ⟨hs, rfl, fun j hj => .inl hj⟩
  | x :: L, listed, hs, h => by
    obtain ⟨hx, hL⟩ := h
    obtain ⟨x1, ox, x2, x3⟩ := mem_ready.1 hx
    have hlt : x < ops.size := (Array.getElem?_eq_some_iff.1 x2).1
    obtain ⟨g1, g2, g3⟩ := listAll_spec L (listed.setIfInBounds x true) (by simpa using hs) hL
    refine ⟨g1, ?_, fun j hj => ?_⟩
    · rw [unl_set hs hlt x1, g2]; simp [listAll]; omega
    · rcases g3 j hj with h | h
      · by_cases e : x = j
        · exact .inr (by rw [e]; exact List.mem_cons_self)
        · rw [getD_set_ne true e] at h; exact .inl h
      · exact .inr (List.mem_cons_of_mem _ h)
theorem unl_init (n : Nat) : unl n (Array.replicate n false) = n := by
  unfold unl
  rw [List.filter_eq_self.2 (fun i hi => by have := List.mem_range.1 hi; simp [this]), List.length_range]
theorem good_all {L : List Nat} (h : Good md ops (Array.replicate ops.size false) L) (hl : L.length = ops.size) : ∀ j, j < ops.size → j ∈ L := by
  obtain ⟨g1, g2, g3⟩ := listAll_spec L _ (by simp) h
  rw [unl_init, hl] at g2
  intro j hj
  rcases g3 j (unl_zero (by omega) j hj) with h | h
  · simp [hj] at h
  · exact h

/-- The first that is not listed yet. -/
theorem first_not (listed : Array Bool) : ∀ (W : List Nat), (∃ j ∈ W, listed.getD j true = false) → ∃ pre x post, W = pre ++ x :: post ∧ listed.getD x true = false ∧ ∀ y ∈ pre, listed.getD y true = true
  | [], h => by obtain ⟨j, hj, _⟩ := h; cases hj
  | x :: W, h => by
    cases hx : listed.getD x true with
    | false => exact ⟨[], x, W, rfl, hx, fun y hy => by cases hy⟩
    | true =>
      obtain ⟨pre, y, post, h1, h2, h3⟩ := first_not listed W (by
        obtain ⟨j, hj, hl⟩ := h
        rcases List.mem_cons.1 hj with rfl | hj
        · rw [hx] at hl; cases hl
        · exact ⟨j, hj, hl⟩)
      exact ⟨x :: pre, y, post, by rw [h1]; rfl, h2, fun z hz => by rcases List.mem_cons.1 hz with rfl | hz; exact hx; exact h3 z hz⟩

theorem go_full {W : List Nat} (hW : Good md ops (Array.replicate ops.size false) W) (hWl : W.length = ops.size) : ∀ (fuel t : Nat) (listed : Array Bool), listed.size = ops.size → unl ops.size listed ≤ fuel →
    (Region.linearise.go md ops fuel t listed []).length = unl ops.size listed
  | 0, t, listed, hs, hu => by
    have : unl ops.size listed = 0 := by omega
    rw [this]; rfl
  | fuel + 1, t, listed, hs, hu => by
    rw [go_cons]
    cases hi : (Region.ready md ops listed)[t % (Region.ready md ops listed).length]? with
    | none =>
      have hnil := ready_none hi
      rcases Nat.eq_zero_or_pos (unl ops.size listed) with h0 | h0
      · rw [h0]; rfl
      · exfalso
        have hex : ∃ j ∈ W, listed.getD j true = false := by
          have hne : (List.range ops.size).filter (fun i => !listed.getD i true) ≠ [] := fun e => by
            unfold unl at h0; rw [e] at h0; simp at h0
          obtain ⟨j, hj⟩ := List.exists_mem_of_ne_nil _ hne
          obtain ⟨j1, j2⟩ := List.mem_filter.1 hj
          exact ⟨j, good_all hW hWl j (List.mem_range.1 j1), by simpa using j2⟩
        obtain ⟨pre, x, post, h1, h2, h3⟩ := first_not listed W hex
        obtain ⟨g1, g2, g3⟩ := good_spec W _ (by simp) hW
        have hxlt : x < ops.size := (g1 x (by rw [h1]; simp)).2
        have : x ∈ Region.ready md ops listed := by
          rw [mem_ready]
          refine ⟨h2, ops[x], by simp [hxlt], fun e he hb => ?_⟩
          rcases g3 pre x post h1 ops[x] e (by simp [hxlt]) he hb with h | h
          · have hlt : e.on < ops.size ∨ ¬ e.on < ops.size := Nat.lt_or_ge _ _ |>.imp id (fun h => by omega)
            rcases hlt with hlt | hlt <;> simp [hlt] at h
          · have h4 := h3 _ h
            have h5 : e.on < ops.size := (g1 _ (by rw [h1]; simp [h])).2
            rw [Array.getD_eq_getD_getElem?, Array.getElem?_eq_getElem (by omega)] at h4 ⊢
            exact h4
        rw [hnil] at this; cases this
    | some i =>
      have hm := List.mem_of_getElem? hi
      obtain ⟨x1, ox, x2, x3⟩ := mem_ready.1 hm
      have hlt : i < ops.size := (Array.getElem?_eq_some_iff.1 x2).1
      have hset := unl_set hs hlt x1
      have ih := go_full hW hWl fuel (t / (Region.ready md ops listed).length) (listed.setIfInBounds i true) (by simpa using hs) (by omega)
      simp only [List.length_cons, ih]; omega

/-- A schedule: each operation once, behind those that its edges name. -/
structure Sched (ops : Array Oper) (L : List Nat) : Prop where
  nodup : L.Nodup
  lt : ∀ i ∈ L, i < ops.size
  all : ∀ i, i < ops.size → i ∈ L
  order : ∀ pre i post, L = pre ++ i :: post → ∀ o e, ops[i]? = some o → e ∈ o.after → Region.binds .any e = true → e.on ∈ pre
theorem binds_any {e : Edge} (h : Region.binds .any e = true) (m : Region.Mode) : Region.binds m e = true := by
  unfold Region.binds at *
  cases hg : e.ground <;> rw [hg] at h <;> first | rfl | cases h
theorem lin_sched {W : List Nat} (hW : Good md ops (Array.replicate ops.size false) W) (h : W.length = ops.size) (t : Nat) : Sched ops (Region.linearise md ops t) := by
  have hL := good_go (md := md) (ops := ops) ops.size t (Array.replicate ops.size false)
  have hlen := go_full hW h ops.size t (Array.replicate ops.size false) (by simp) (by rw [unl_init]; exact Nat.le_refl _)
  rw [unl_init] at hlen
  obtain ⟨g1, g2, g3⟩ := good_spec _ _ (by simp) hL
  refine ⟨g2, fun i hi => (g1 i hi).2, good_all hL hlen, fun pre i post he o e ho hm hb => ?_⟩
  rcases g3 pre i post he o e ho hm (binds_any hb md) with h | h
  · have hlt : e.on < ops.size ∨ ¬ e.on < ops.size := Nat.lt_or_ge _ _ |>.imp id (fun h => by omega)
    rcases hlt with hlt | hlt <;> simp [hlt] at h
  · exact h

/-! ### An order that is shown -/
theorem or_bit' {a i j : Nat} : (a ||| 2 ^ i).testBit j = true ↔ a.testBit j = true ∨ j = i := by
  rw [Nat.testBit_or, Bool.or_eq_true, Nat.testBit_two_pow, decide_eq_true_iff]
  exact ⟨fun h => h.imp id Eq.symm, fun h => h.imp id Eq.symm⟩
theorem modeMask_spec : ∀ (es : List Edge) (m : Nat), (∀ j, m.testBit j = true → (modeMask md m es).testBit j = true) ∧ ∀ e ∈ es, Region.binds md e = true → (modeMask md m es).testBit e.on = true
  | [], m => ⟨fun j h => h, fun e h => by cases h⟩
  | e :: es, m => by
    unfold modeMask
    cases hb : Region.binds md e with
    | true =>
      obtain ⟨h1, h2⟩ := modeMask_spec es (m ||| 2 ^ e.on)
      refine ⟨fun j hj => h1 j (or_bit'.2 (.inl hj)), fun e' he hb' => ?_⟩
      rcases List.mem_cons.1 he with rfl | he
      · exact h1 _ (or_bit'.2 (.inr rfl))
      · exact h2 e' he hb'
    | false =>
      obtain ⟨h1, h2⟩ := modeMask_spec es m
      refine ⟨h1, fun e' he hb' => ?_⟩
      rcases List.mem_cons.1 he with rfl | he
      · rw [hb] at hb'; cases hb'
      · exact h2 e' he hb'
theorem modeMasks_get : ∀ (l : List Oper) (i : Nat) (m : Nat), (modeMasks md l)[i]? = some m → ∃ o, l[i]? = some o ∧ m = modeMask md 0 o.after.toList
  | [], i, m, h => by simp [modeMasks] at h
  | o :: l, 0, m, h => by simp [modeMasks] at h; exact ⟨o, rfl, h.symm⟩
  | o :: l, i + 1, m, h => by
    obtain ⟨o', h1, h2⟩ := modeMasks_get l i m (by simpa [modeMasks] using h)
    exact ⟨o', by simpa using h1, h2⟩
theorem good_of_goodB : ∀ (W : List Nat) (seen : Nat) (listed : Array Bool), listed.size = ops.size → (∀ j, seen.testBit j = true → j < ops.size) → (∀ j (d : Bool), j < ops.size → listed.getD j d = seen.testBit j) →
    goodB (modeMasks md ops.toList) seen W = true → Good md ops listed W
  | [], seen, listed, hs, h1, h2, hg => trivial
  | i :: W, seen, listed, hs, h1, h2, hg => by
    unfold goodB at hg
    simp only [Bool.and_eq_true, Bool.not_eq_true'] at hg
    obtain ⟨⟨g1, g2⟩, g3⟩ := hg
    cases hm : (modeMasks md ops.toList)[i]? with
    | none => rw [hm] at g2; cases g2
    | some m =>
      rw [hm] at g2
      obtain ⟨o, k1, k2⟩ := modeMasks_get _ _ _ hm
      rw [Array.getElem?_toList] at k1
      have hi : i < ops.size := (Array.getElem?_eq_some_iff.1 k1).1
      have hsub : ∀ j, m.testBit j = true → seen.testBit j = true := fun j hj => by
        have := congrArg (Nat.testBit · j) (Nat.eq_of_beq_eq_true g2)
        simp only [Nat.testBit_and, hj, Bool.true_and] at this
        exact this
      refine ⟨mem_ready.2 ⟨by rw [h2 i true hi]; exact g1, o, k1, fun e he hb => ?_⟩, good_of_goodB W (seen ||| 2 ^ i) _ (by simpa using hs) (fun j hj => ?_) (fun j d hj => ?_) g3⟩
      · have hse := hsub e.on (by rw [k2]; exact (modeMask_spec _ 0).2 e (by simpa using he) hb)
        rw [h2 e.on false (h1 _ hse)]; exact hse
      · rcases or_bit'.1 hj with hj | rfl
        · exact h1 j hj
        · exact hi
      · by_cases e : i = j
        · subst e
          have : (seen ||| 2 ^ i).testBit i = true := or_bit'.2 (.inr rfl)
          rw [this]
          simp [hs, hi]
        · rw [getD_set_ne d e, h2 j d hj]
          cases hsj : seen.testBit j with
          | true => rw [or_bit'.2 (.inl hsj)]
          | false =>
            cases hh : (seen ||| 2 ^ i).testBit j with
            | false => rfl
            | true =>
              rcases or_bit'.1 hh with h | h
              · rw [hsj] at h; cases h
              · exact absurd h.symm e
theorem goodMode_spec (h : goodMode md ops.toList = true) : ∃ W, Good md ops (Array.replicate ops.size false) W ∧ W.length = ops.size := by
  unfold goodMode goodIn at h
  dsimp only at h
  rw [Bool.and_eq_true] at h
  refine ⟨_, good_of_goodB _ 0 _ (by simp) (fun j hj => by simp at hj) (fun j d hj => by simp [hj]) h.2, ?_⟩
  rw [Nat.eq_of_beq_eq_true h.1]; simp
theorem departsE_eq : ∀ (es : List Edge), departsE es = es.any fun e => !Region.binds .any e
  | [] => rfl
  | e :: es => by unfold departsE; rw [departsE_eq es]; rfl
theorem departsL_eq : ∀ (l : List Oper), departsL l = l.any fun o => o.after.any fun e => !Region.binds .any e
  | [] => rfl
  | o :: l => by unfold departsL; rw [departsL_eq l, departsE_eq, Array.any_toList]; rfl
theorem sched_ok (h : wholeOrders ops = true) (mixed : Bool) (t : Nat) : Sched ops (Region.schedule mixed ops t) := by
  unfold wholeOrders at h
  unfold Region.schedule
  have hd0 : departsL ops.toList = Region.departs ops := by rw [departsL_eq, Array.any_toList]; rfl
  rw [hd0] at h
  cases hd : Region.departs ops with
  | false =>
    rw [hd] at h
    simp only [Bool.not_false, Bool.or_true, if_true]
    obtain ⟨W, h1, h2⟩ := goodMode_spec h
    exact lin_sched h1 h2 t
  | true =>
    rw [hd] at h
    simp only [Bool.and_eq_true] at h
    obtain ⟨⟨h1, h2⟩, h3⟩ := h
    obtain ⟨W1, a1, b1⟩ := goodMode_spec h1
    obtain ⟨W2, a2, b2⟩ := goodMode_spec h2
    obtain ⟨W3, a3, b3⟩ := goodMode_spec h3
    split
    · exact lin_sched a1 b1 t
    · split
      · exact lin_sched a2 b2 _
      · exact lin_sched a3 b3 _
end
end Go.Ev
end
section
/- What an operation depends on. -/
set_option linter.unusedVariables false
set_option linter.unusedSimpArgs false
set_option linter.unusedSectionVars false
namespace Go.Ev
open Go.RowKit

theorem call_args {E : Env} {t1 t2 : BT AVal} {c : Call} (H : ∀ x ∈ c.operands, evalT E.ng t1 x = evalT E.ng t2 x) : c.args.toList.map (evalT E.ng t1) = c.args.toList.map (evalT E.ng t2) :=
  List.map_congr_left fun x hx => H x (by unfold Call.operands; exact Array.mem_append.2 (.inr (by simpa using hx)))
theorem call_callee {E : Env} {t1 t2 : BT AVal} {c : Call} (H : ∀ x ∈ c.operands, evalT E.ng t1 x = evalT E.ng t2 x) {f : Operand} (hc : c.callee = .value f) : evalT E.ng t1 f = evalT E.ng t2 f :=
  H f (by unfold Call.operands; rw [hc]; exact Array.mem_append.2 (.inl (by simp)))

theorem evOp_congr {E : Env} {t1 t2 : BT AVal} {h : Heap} {nx : Nat} (op : Op) (H : ∀ x ∈ op.operands, evalT E.ng t1 x = evalT E.ng t2 x) : evOp ⟨E, t1, h, nx⟩ op = evOp ⟨E, t2, h, nx⟩ op := by
  have m1 : ∀ {x : Operand}, x ∈ (#[x] : Array Operand) := by simp
  cases op with
  | move x => show op_move _ _ = op_move _ _; simp only [op_move, H x (by simp [Op.operands])]
  | assign x => show op_assign _ _ = op_assign _ _; simp only [op_assign, H x (by simp [Op.operands])]
  | pick c a b => show op_pick _ _ _ _ = op_pick _ _ _ _; simp only [op_pick, H c (by simp [Op.operands]), H a (by simp [Op.operands]), H b (by simp [Op.operands])]
  | alloc t => rfl
  | box t x => show op_box _ _ = op_box _ _; simp only [op_box, H x (by simp [Op.operands])]
  | build t ps =>
    have : (ps.toList.map fun p => (p.1, evalT E.ng t1 p.2)) = ps.toList.map fun p => (p.1, evalT E.ng t2 p.2) := List.map_congr_left fun p hp => by
      rw [H p.2 (by simp [Op.operands]; exact ⟨p.1, by simpa using hp⟩)]
    show op_build _ _ _ = op_build _ _ _; simp only [op_build, this]
  | buildSlice t n ps =>
    have : (ps.toList.map fun p => (p.1, evalT E.ng t1 p.2)) = ps.toList.map fun p => (p.1, evalT E.ng t2 p.2) := List.map_congr_left fun p hp => by
      rw [H p.2 (by simp [Op.operands]; exact ⟨p.1, by simpa using hp⟩)]
    show op_buildSlice _ _ _ _ = op_buildSlice _ _ _ _; simp only [op_buildSlice, this]
  | load t x => show op_load _ _ _ = op_load _ _ _; simp only [op_load, H x (by simp [Op.operands])]
  | store t a x => show op_store _ _ _ _ = op_store _ _ _ _; simp only [op_store, H a (by simp [Op.operands]), H x (by simp [Op.operands])]
  | nilCheck x => show op_nilCheck _ _ = op_nilCheck _ _; simp only [op_nilCheck, H x (by simp [Op.operands])]
  | binOp op t x y g => show op_binOp _ _ _ _ _ = op_binOp _ _ _ _ _; simp only [op_binOp, H x (by simp [Op.operands]), H y (by simp [Op.operands])]
  | unOp op t x => show op_unOp _ _ _ = op_unOp _ _ _; simp only [op_unOp, H x (by simp [Op.operands])]
  | convert s d x => show op_convert _ _ _ _ = op_convert _ _ _ _; simp only [op_convert, H x (by simp [Op.operands])]
  | sliceToArrayPointer t x => show op_sliceToArrayPointer _ _ _ = op_sliceToArrayPointer _ _ _; simp only [op_sliceToArrayPointer, H x (by simp [Op.operands])]
  | makeInterface t x => show op_makeInterface _ _ _ = op_makeInterface _ _ _; simp only [op_makeInterface, H x (by simp [Op.operands])]
  | makeFunc fn a b =>
    have e1 : a.toList.map (evalT E.ng t1) = a.toList.map (evalT E.ng t2) := List.map_congr_left fun x hx => H x (by simp [Op.operands]; exact .inl (by simpa using hx))
    have e2 : b.toList.map (evalT E.ng t1) = b.toList.map (evalT E.ng t2) := List.map_congr_left fun x hx => H x (by simp [Op.operands]; exact .inr (by simpa using hx))
    show op_makeFunc _ _ _ _ = op_makeFunc _ _ _ _; simp only [op_makeFunc, e1, e2]
  | makeMap t r => cases r with
    | none => rfl
    | some x => show op_makeMap ⟨E, t1, h, nx⟩ t (some x) = op_makeMap ⟨E, t2, h, nx⟩ t (some x); simp only [op_makeMap, H x (by simp [Op.operands])]
  | makeSlice t x y => show op_makeSlice _ _ _ _ = op_makeSlice _ _ _ _; simp only [op_makeSlice, H x (by simp [Op.operands]), H y (by simp [Op.operands])]
  | slice t x lo hi mx =>
    have hx := H x (by simp [Op.operands])
    have h1 : lo.map (evalT E.ng t1) = lo.map (evalT E.ng t2) := by cases lo with | none => rfl | some y => simp only [Option.map_some, H y (by simp [Op.operands])]
    have h2 : hi.map (evalT E.ng t1) = hi.map (evalT E.ng t2) := by cases hi with | none => rfl | some y => simp only [Option.map_some, H y (by simp [Op.operands])]
    have h3 : mx.map (evalT E.ng t1) = mx.map (evalT E.ng t2) := by cases mx with | none => rfl | some y => simp only [Option.map_some, H y (by simp [Op.operands])]
    show op_slice _ _ _ _ _ _ = op_slice _ _ _ _ _ _; simp only [op_slice, hx, h1, h2, h3]
  | fieldAddr t x f => show op_fieldAddr _ _ _ _ = op_fieldAddr _ _ _ _; simp only [op_fieldAddr, H x (by simp [Op.operands])]
  | field t x f => show op_field _ _ _ _ = op_field _ _ _ _; simp only [op_field, H x (by simp [Op.operands])]
  | indexAddr t x y => show op_indexAddr _ _ _ _ = op_indexAddr _ _ _ _; simp only [op_indexAddr, H x (by simp [Op.operands]), H y (by simp [Op.operands])]
  | index t x y => show op_index _ _ _ _ = op_index _ _ _ _; simp only [op_index, H x (by simp [Op.operands]), H y (by simp [Op.operands])]
  | lookup t x y ok => show op_lookup _ _ _ _ _ = op_lookup _ _ _ _ _; simp only [op_lookup, H x (by simp [Op.operands]), H y (by simp [Op.operands])]
  | mapUpdate t m k x => show op_mapUpdate _ _ _ _ _ = op_mapUpdate _ _ _ _ _; simp only [op_mapUpdate, H m (by simp [Op.operands]), H k (by simp [Op.operands]), H x (by simp [Op.operands])]
  | insert t m k x => show op_mapUpdate _ _ _ _ _ = op_mapUpdate _ _ _ _ _; simp only [op_mapUpdate, H m (by simp [Op.operands]), H k (by simp [Op.operands]), H x (by simp [Op.operands])]
  | typeAssert x xt t ok => show op_typeAssert _ _ _ _ = op_typeAssert _ _ _ _; simp only [op_typeAssert, H x (by simp [Op.operands])]
  | extract x i => show op_extract _ _ _ = op_extract _ _ _; simp only [op_extract, H x (by simp [Op.operands])]
  | range t x => show op_range _ _ _ = op_range _ _ _; simp only [op_range, H x (by simp [Op.operands])]
  | next x b => show op_next _ _ _ = op_next _ _ _; simp only [op_next, H x (by simp [Op.operands])]
  | entry x => show op_entry _ _ = op_entry _ _; simp only [op_entry, H x (by simp [Op.operands])]
  | panic x => show op_panic _ _ = op_panic _ _; simp only [op_panic, H x (by simp [Op.operands])]
  | call c =>
    have hc : ∀ x ∈ c.operands, evalT E.ng t1 x = evalT E.ng t2 x := fun x hx => H x hx
    have ha := call_args hc
    show op_call _ _ = op_call _ _
    unfold op_call
    cases hcal : c.callee with
    | value f => simp only [call_callee hc hcal, ha]
    | invoke r n => simp only [ha, H r (by show r ∈ c.operands; unfold Call.operands; rw [hcal]; exact Array.mem_append.2 (.inl (by simp)))]
    | builtin b =>
      cases b <;> simp only [ha]
      cases hl : c.args.toList with
      | nil => rfl
      | cons x l => cases l with
        | nil => simp only [H x (by show x ∈ c.operands; unfold Call.operands; exact Array.mem_append.2 (.inr (by rw [← Array.mem_toList_iff, hl]; simp)))]
        | cons y l => rfl
  | defer c =>
    have hc : ∀ x ∈ c.operands, evalT E.ng t1 x = evalT E.ng t2 x := fun x hx => H x hx
    have ha := call_args hc
    show op_defer _ _ = op_defer _ _
    unfold op_defer
    cases hcal : c.callee with
    | value f => simp only [call_callee hc hcal, ha]
    | invoke r n => rfl
    | builtin b => rfl
  | _ => rfl

/-- An operation that does not read the memory. -/
theorem evOp_noread {E : Env} {t : BT AVal} {h h' : Heap} {nx : Nat} (op : Op) (hq : quiet op = true) (hr : reads op = false) : evOp ⟨E, t, h, nx⟩ op = evOp ⟨E, t, h', nx⟩ op := by
  cases op <;> first
    | rfl
    | (cases hr; done)
    | (cases hq; done)
end Go.Ev
end
section
/- Drawn regions: the plan's tables. -/
set_option linter.unusedVariables false
set_option linter.unusedSimpArgs false
set_option linter.unusedSectionVars false
namespace Go.Ev
open Go.RowKit

/-! ### The masks -/
theorem testBit_two_pow' (i j : Nat) : (2 ^ i).testBit j = decide (i = j) := by rw [Nat.testBit_two_pow]
theorem orEdges_spec (acc : List Nat) : ∀ (es : List Edge) (m r : Nat), orEdges acc m es = some r → ∀ j, r.testBit j = true → m.testBit j = true ∨ ∃ e ∈ es, Region.binds .any e = true ∧ (j = e.on ∨ ∃ a, acc[e.on]? = some a ∧ a.testBit j = true)
  | [], m, r, h, j, hj => by cases h; exact .inl hj
  | e :: es, m, r, h, j, hj => by
    unfold orEdges at h
    cases hb : Region.binds .any e with
    | false =>
      rw [hb] at h
      rcases orEdges_spec acc es m r h j hj with h | ⟨e', h1, h2⟩
      · exact .inl h
      · exact .inr ⟨e', List.mem_cons_of_mem _ h1, h2⟩
    | true =>
      rw [hb] at h
      cases ha : acc[e.on]? with
      | none => rw [ha] at h; cases h
      | some a =>
        rw [ha] at h
        rcases orEdges_spec acc es _ r h j hj with h | ⟨e', h1, h2⟩
        · rw [Nat.testBit_or, Nat.testBit_or, Bool.or_eq_true, Bool.or_eq_true] at h
          rcases h with (h | h) | h
          · exact .inl h
          · rw [testBit_two_pow'] at h
            exact .inr ⟨e, List.mem_cons_self, hb, .inl (of_decide_eq_true h).symm⟩
          · exact .inr ⟨e, List.mem_cons_self, hb, .inr ⟨a, ha, h⟩⟩
        · exact .inr ⟨e', List.mem_cons_of_mem _ h1, h2⟩
theorem masksF_spec : ∀ (l : List Oper) (acc masks : List Nat), masksF acc l = some masks → (∀ i, i < acc.length → masks[i]? = acc[i]?) ∧ masks.length = acc.length + l.length ∧
    ∀ k o, l[k]? = some o → ∃ m, masks[acc.length + k]? = some m ∧ ∀ j, m.testBit j = true → ∃ e ∈ o.after.toList, Region.binds .any e = true ∧ (j = e.on ∨ ∃ a, e.on < acc.length + k ∧ masks[e.on]? = some a ∧ a.testBit j = true)
  | [], acc, masks, h => by cases h; exact ⟨fun i _ => rfl, rfl, fun k o hk => by simp at hk⟩
  | x :: l, acc, masks, h => by
    unfold masksF at h
    cases hm : orEdges acc 0 x.after.toList with
    | none => rw [hm] at h; cases h
    | some m =>
      rw [hm] at h
      obtain ⟨g1, g2, g3⟩ := masksF_spec l (acc ++ [m]) masks h
      have hacc : ∀ i, i < acc.length → masks[i]? = acc[i]? := fun i hi => by
        rw [g1 i (by simp; omega), List.getElem?_append_left hi]
      refine ⟨hacc, by rw [g2]; simp; omega, fun k o hk => ?_⟩
      cases k with
      | zero =>
        simp at hk; subst hk
        refine ⟨m, by rw [Nat.add_zero, g1 _ (by simp)]; simp, fun j hj => ?_⟩
        rcases orEdges_spec acc _ 0 m hm j hj with h | ⟨e, h1, h2, h3⟩
        · simp at h
        · refine ⟨e, h1, h2, ?_⟩
          rcases h3 with h3 | ⟨a, ha, hb⟩
          · exact .inl h3
          · have hlt : e.on < acc.length := by
              rcases Nat.lt_or_ge e.on acc.length with h | h
              · exact h
              · rw [List.getElem?_eq_none h] at ha; cases ha
            exact .inr ⟨a, by omega, by rw [hacc _ hlt]; exact ha, hb⟩
      | succ k =>
        simp at hk
        obtain ⟨m', h1, h2⟩ := g3 k o hk
        simp only [List.length_append, List.length_singleton] at h1 h2
        refine ⟨m', by rw [← h1]; congr 1; omega, fun j hj => ?_⟩
        obtain ⟨e, e1, e2, e3⟩ := h2 j hj
        refine ⟨e, e1, e2, ?_⟩
        rcases e3 with e3 | ⟨a, ha, hb⟩
        · exact .inl e3
        · exact .inr ⟨a, by omega, hb⟩

/-- A schedule that respects the masks. -/
structure SchedM (n : Nat) (masks L : List Nat) : Prop where
  nodup : L.Nodup
  lt : ∀ i ∈ L, i < n
  all : ∀ i, i < n → i ∈ L
  order : ∀ pre i post, L = pre ++ i :: post → ∀ m, masks[i]? = some m → ∀ j, m.testBit j = true → j ∈ pre
theorem sched_masks {ops : Array Oper} {masks L : List Nat} (h : masksF [] ops.toList = some masks) (S : Sched ops L) : SchedM ops.size masks L := by
  obtain ⟨_, _, g⟩ := masksF_spec ops.toList [] masks h
  refine ⟨S.nodup, S.lt, S.all, ?_⟩
  have key : ∀ (n : Nat) pre i post, pre.length = n → L = pre ++ i :: post → ∀ m, masks[i]? = some m → ∀ j, m.testBit j = true → j ∈ pre := by
    intro n
    induction n using Nat.strongRecOn with
    | ind n ih =>
      intro pre i post hn hL m hm j hj
      have hi : i < ops.size := S.lt i (by rw [hL]; simp)
      obtain ⟨m', h1, h2⟩ := g i ops[i] (by simp [hi])
      rw [List.length_nil, Nat.zero_add] at h1
      rw [hm] at h1; cases h1
      obtain ⟨e, e1, e2, e3⟩ := h2 j hj
      have he := S.order pre i post hL ops[i] e (by simp [hi]) (by simpa using e1) e2
      rcases e3 with rfl | ⟨a, _, ha, hb⟩
      · exact he
      · obtain ⟨p1, p2, hp⟩ := List.append_of_mem he
        have := ih p1.length (by rw [← hn, hp]; simp) p1 e.on (p2 ++ i :: post) rfl (by rw [hL, hp]; simp) a ha j hb
        rw [hp]; exact List.mem_append_left _ this
  exact fun pre i post hL m hm j hj => key _ pre i post rfl hL m hm j hj
end Go.Ev
end
section
/- Drawn regions: what the plan's tables say, and what an operation looks at. -/
set_option linter.unusedVariables false
set_option linter.unusedSimpArgs false
set_option linter.unusedSectionVars false
namespace Go.Ev
open Go.RowKit

/-! ### Writers -/
theorem writer_some {t : Nat} : ∀ (l : List Oper) (i j : Nat), writer t i l = some j → ∃ k o, j = i + k ∧ l[k]? = some o ∧ o.dst = some t
  | [], i, j, h => by cases h
  | o :: l, i, j, h => by
    unfold writer at h
    cases hd : o.dst with
    | none =>
      rw [hd] at h
      obtain ⟨k, o', h1, h2, h3⟩ := writer_some l (i + 1) j h
      exact ⟨k + 1, o', by omega, by simpa using h2, h3⟩
    | some d =>
      rw [hd] at h
      by_cases e : d = t
      · subst e
        dsimp only at h
        rw [beq_t rfl] at h
        cases h
        exact ⟨0, o, rfl, rfl, hd⟩
      · dsimp only at h
        rw [beq_f e] at h
        obtain ⟨k, o', h1, h2, h3⟩ := writer_some l (i + 1) j h
        exact ⟨k + 1, o', by omega, by simpa using h2, h3⟩
theorem mem_dsts {d : Nat} : ∀ (l : List Oper), d ∈ dsts l ↔ ∃ (k : Nat) (o : Oper), l[k]? = some o ∧ o.dst = some d
  | [] => ⟨(fun h => by cases h), (fun ⟨k, o, h, _⟩ => by simp at h)⟩
  | o :: l => by
    unfold dsts
    constructor
    · intro h
      cases hd : o.dst with
      | none =>
        rw [hd] at h
        obtain ⟨k, o', h1, h2⟩ := (mem_dsts l).1 h
        exact ⟨k + 1, o', by simpa using h1, h2⟩
      | some d' =>
        rw [hd] at h
        rcases List.mem_cons.1 h with rfl | h
        · exact ⟨0, o, rfl, hd⟩
        · obtain ⟨k, o', h1, h2⟩ := (mem_dsts l).1 h
          exact ⟨k + 1, o', by simpa using h1, h2⟩
    · rintro ⟨k, o', h1, h2⟩
      cases k with
      | zero => simp at h1; subst h1; rw [h2]; exact List.mem_cons_self
      | succ k =>
        have : d ∈ dsts l := (mem_dsts l).2 ⟨k, o', by simpa using h1, h2⟩
        cases o.dst with
        | none => exact this
        | some _ => exact List.mem_cons_of_mem _ this
theorem nodupB_cons {x : Nat} {l : List Nat} (h : nodupB (x :: l) = true) : ¬ x ∈ l ∧ nodupB l = true := by
  unfold nodupB at h
  simp only [Bool.and_eq_true, Bool.not_eq_true'] at h
  exact ⟨(fun hm => by rw [List.contains_iff_mem.2 hm] at h; cases h.1), h.2⟩
theorem writer_of {d : Nat} : ∀ (l : List Oper) (i k : Nat) (o : Oper), nodupB (dsts l) = true → l[k]? = some o → o.dst = some d → writer d i l = some (i + k)
  | [], i, k, o, hn, h, hd => by simp at h
  | x :: l, i, k, o, hn, h, hd => by
    unfold writer
    cases k with
    | zero =>
      simp at h; subst h
      rw [hd]; dsimp only; rw [beq_t rfl]; rfl
    | succ k =>
      have h : l[k]? = some o := by simpa using h
      cases hx : x.dst with
      | none =>
        have hn' : nodupB (dsts l) = true := by unfold dsts at hn; rw [hx] at hn; exact hn
        dsimp only
        rw [writer_of l (i + 1) k o hn' h hd]; congr 1; omega
      | some d' =>
        have hn' : nodupB (d' :: dsts l) = true := by unfold dsts at hn; rw [hx] at hn; exact hn
        obtain ⟨h1, h2⟩ := nodupB_cons hn'
        have : d' ≠ d := fun e => h1 (e ▸ (mem_dsts l).2 ⟨k, o, h, hd⟩)
        dsimp only
        rw [beq_f this]
        dsimp only
        rw [writer_of l (i + 1) k o h2 h hd]; congr 1; omega
theorem writer0_some {t j : Nat} {l : List Oper} (h : writer t 0 l = some j) : ∃ o, l[j]? = some o ∧ o.dst = some t := by
  obtain ⟨k, o, h1, h2, h3⟩ := writer_some l 0 j h
  rw [Nat.zero_add] at h1; subst h1
  exact ⟨o, h2, h3⟩
theorem writer0_of {d k : Nat} {l : List Oper} {o : Oper} (hn : nodupB (dsts l) = true) (h : l[k]? = some o) (hd : o.dst = some d) : writer d 0 l = some k := by
  have := writer_of l 0 k o hn h hd
  rwa [Nat.zero_add] at this

/-! ### Late slots -/
/-- How a slot that operation i looks at is to be read. -/
def Src (ops : List Oper) (masks : List Nat) (i : Nat) (late : List Nat) (s : Nat) : Prop :=
  (writer s 0 ops = none ∧ ¬ s ∈ late) ∨
  (∃ j a b, writer s 0 ops = some j ∧ masks[i]? = some a ∧ masks[j]? = some b ∧
    ((a.testBit j = true ∧ b.testBit i = false ∧ i ≠ j ∧ ¬ s ∈ late) ∨ (a.testBit j = false ∧ (b.testBit i = true ∨ i = j) ∧ s ∈ late)))
theorem lateOf_sub {ops : List Oper} {masks : List Nat} {i : Nat} : ∀ (ts late : List Nat), lateOf ops masks i ts = some late → ∀ s ∈ late, s ∈ ts ∧ ∃ j a b, writer s 0 ops = some j ∧ masks[i]? = some a ∧ masks[j]? = some b ∧ a.testBit j = false ∧ (b.testBit i = true ∨ i = j)
  | [], late, h, s, hs => by cases h; cases hs
  | t :: ts, late, h, s, hs => by
    unfold lateOf at h
    cases hl : lateOf ops masks i ts with
    | none => rw [hl] at h; cases h
    | some l =>
      rw [hl] at h
      have ih := lateOf_sub ts l hl
      dsimp only at h
      cases hw : writer t 0 ops with
      | none => rw [hw] at h; cases h; exact ⟨List.mem_cons_of_mem _ (ih s hs).1, (ih s hs).2⟩
      | some j =>
        rw [hw] at h
        dsimp only at h
        cases ha : masks[i]? with
        | none => rw [ha] at h; cases h
        | some a =>
          cases hb : masks[j]? with
          | none => rw [ha, hb] at h; cases h
          | some b =>
            rw [ha, hb] at h
            dsimp only at h
            cases h1 : a.testBit j with
            | true =>
              cases h2 : (b.testBit i || Nat.beq i j) with
              | true => rw [h1, h2] at h; cases h
              | false =>
                rw [h1, h2] at h; cases h
                obtain ⟨g1, g2⟩ := ih s hs
                rw [ha] at g2
                exact ⟨List.mem_cons_of_mem _ g1, g2⟩
            | false =>
              cases h2 : (b.testBit i || Nat.beq i j) with
              | false => rw [h1, h2] at h; cases h
              | true =>
                rw [h1, h2] at h; cases h
                rcases List.mem_cons.1 hs with rfl | hs
                · refine ⟨List.mem_cons_self, j, a, b, hw, rfl, hb, h1, ?_⟩
                  rw [Bool.or_eq_true] at h2
                  exact h2.imp id Nat.eq_of_beq_eq_true
                · obtain ⟨g1, g2⟩ := ih s hs
                  rw [ha] at g2
                  exact ⟨List.mem_cons_of_mem _ g1, g2⟩
theorem lateOf_spec {ops : List Oper} {masks : List Nat} {i : Nat} : ∀ (ts late : List Nat), lateOf ops masks i ts = some late → ∀ s ∈ ts, Src ops masks i late s
  | [], late, h, s, hs => by cases hs
  | t :: ts, late, h, s, hs => by
    have hall := lateOf_sub (t :: ts) late h
    unfold lateOf at h
    cases hl : lateOf ops masks i ts with
    | none => rw [hl] at h; cases h
    | some l =>
      rw [hl] at h
      have ih := lateOf_spec ts l hl
      dsimp only at h
      have key : ∀ s, s ∈ ts → (∀ x, x ∈ l → x ∈ late) → Src ops masks i late s := fun s hs hsub => by
        rcases ih s hs with ⟨h1, h2⟩ | ⟨j, a, b, h1, h2, h3, h4⟩
        · refine .inl ⟨h1, fun hm => ?_⟩
          obtain ⟨_, j, _, _, g, _⟩ := hall s hm
          rw [h1] at g; cases g
        · refine .inr ⟨j, a, b, h1, h2, h3, ?_⟩
          rcases h4 with ⟨g1, g2, g3, g4⟩ | ⟨g1, g2, g3⟩
          · refine .inl ⟨g1, g2, g3, fun hm => ?_⟩
            obtain ⟨_, j', a', b', e1, e2, e3, e4, _⟩ := hall s hm
            rw [h1] at e1; cases e1
            rw [h2] at e2; cases e2
            rw [g1] at e4; cases e4
          · exact .inr ⟨g1, g2, hsub s g3⟩
      cases hw : writer t 0 ops with
      | none =>
        rw [hw] at h; cases h
        rcases List.mem_cons.1 hs with rfl | hs
        · refine .inl ⟨hw, fun hm => ?_⟩
          obtain ⟨_, j, _, _, g, _⟩ := hall s hm
          rw [hw] at g; cases g
        · exact key s hs (fun x hx => hx)
      | some j =>
        rw [hw] at h
        dsimp only at h
        cases ha : masks[i]? with
        | none => rw [ha] at h; cases h
        | some a =>
          cases hb : masks[j]? with
          | none => rw [ha, hb] at h; cases h
          | some b =>
            rw [ha, hb] at h
            dsimp only at h
            cases h1 : a.testBit j with
            | true =>
              cases h2 : (b.testBit i || Nat.beq i j) with
              | true => rw [h1, h2] at h; cases h
              | false =>
                rw [h1, h2] at h; cases h
                rcases List.mem_cons.1 hs with rfl | hs
                · rw [Bool.or_eq_false_iff] at h2
                  refine .inr ⟨j, a, b, hw, ha, hb, .inl ⟨h1, h2.1, (fun e => by rw [e, beq_t rfl] at h2; cases h2.2), fun hm => ?_⟩⟩
                  obtain ⟨_, j', a', b', e1, e2, e3, e4, _⟩ := hall s hm
                  rw [hw] at e1; cases e1
                  rw [ha] at e2; cases e2
                  rw [h1] at e4; cases e4
                · exact key s hs (fun x hx => hx)
            | false =>
              cases h2 : (b.testBit i || Nat.beq i j) with
              | false => rw [h1, h2] at h; cases h
              | true =>
                rw [h1, h2] at h; cases h
                rcases List.mem_cons.1 hs with rfl | hs
                · rw [Bool.or_eq_true] at h2
                  exact .inr ⟨j, a, b, hw, ha, hb, .inr ⟨h1, h2.imp id Nat.eq_of_beq_eq_true, List.mem_cons_self⟩⟩
                · exact key s hs (fun x hx => List.mem_cons_of_mem _ hx)
theorem itemOf_spec {ops : List Oper} {masks : List Nat} {i : Nat} {o : Oper} {late : List Nat} (h : itemOf ops masks i = some (o, late)) : ops[i]? = some o ∧ ∀ s ∈ looks ops o, Src ops masks i late s := by
  unfold itemOf at h
  cases ho : ops[i]? with
  | none => rw [ho] at h; cases h
  | some o' =>
    rw [ho] at h
    dsimp only at h
    cases hl : lateOf ops masks i (looks ops o') with
    | none => rw [hl] at h; cases h
    | some l => rw [hl] at h; cases h; exact ⟨rfl, lateOf_spec _ _ hl⟩

/-! ### What is looked at -/
theorem backTo_get (t0 : BT AVal) : ∀ (late : List Nat) (t : BT AVal) (s : Nat), (backTo t0 late t).get s = if s ∈ late then t0.get s else t.get s
  | [], t, s => by rw [if_neg (by simp)]; rfl
  | x :: l, t, s => by
    show (backTo t0 l (BT.putP (BT.getP (BT.path x) t0) (BT.path x) t)).get s = _
    rw [backTo_get t0 l, ← BT.put_eq, BT.get_put, ← BT.get_path]
    by_cases h1 : s ∈ l
    · rw [if_pos h1, if_pos (List.mem_cons_of_mem _ h1)]
    · rw [if_neg h1]
      by_cases h2 : s = x
      · subst h2; rw [if_pos rfl, if_pos List.mem_cons_self]
      · rw [if_neg h2, if_neg (fun h => by rcases List.mem_cons.1 h with h | h; exact h2 h; exact h1 h)]
theorem mem_tmpsOf {s : Nat} : ∀ {l : List Operand}, .tmp s ∈ l → s ∈ tmpsOf l
  | [], h => by cases h
  | x :: l, h' => by
    rcases List.mem_cons.1 h' with h | h
    · subst h; exact List.mem_cons_self
    · clear h'
      cases x with
      | tmp t => exact List.mem_cons_of_mem _ (mem_tmpsOf (l := l) h)
      | const v => exact mem_tmpsOf (l := l) h
      | global g => exact mem_tmpsOf (l := l) h
      | func f => exact mem_tmpsOf (l := l) h
theorem evalT_congr {ng : Nat} {t1 t2 : BT AVal} {x : Operand} (h : ∀ s, x = .tmp s → t1.get s = t2.get s) : evalT ng t1 x = evalT ng t2 x := by
  cases x with
  | tmp s => show getT t1 s = getT t2 s; rw [getT_eq, getT_eq, h s rfl]
  | _ => rfl
theorem wanted_congr {t1 t2 : BT AVal} {ops : List Oper} {o : Oper} (h : ∀ s ∈ looks ops o, t1.get s = t2.get s) : wanted o.guard t1 ops = wanted o.guard t2 ops := by
  cases hg : o.guard with
  | none => rfl
  | some g =>
    obtain ⟨j, want⟩ := g
    show wantedG t1 ops (j, want) = wantedG t2 ops (j, want)
    unfold wantedG
    dsimp only
    cases hj : ops[j]? with
    | none => rfl
    | some p =>
      dsimp only
      cases hd : p.dst with
      | none => rfl
      | some d =>
        dsimp only
        rw [h d (by unfold looks; rw [hg]; dsimp only; rw [hj]; dsimp only; rw [hd]; simp)]
theorem ev_congr {E : Env} {t1 t2 : BT AVal} {ops : List Oper} {o : Oper} (h : ∀ s ∈ looks ops o, t1.get s = t2.get s) (hp : Heap) (nx : Nat) : evOp ⟨E, t1, hp, nx⟩ o.op = evOp ⟨E, t2, hp, nx⟩ o.op :=
  evOp_congr o.op fun x hx => evalT_congr fun s hs => h s (by
    unfold looks
    exact List.mem_append_left _ (mem_tmpsOf (by rw [← hs]; simpa using hx)))
/-- The slots that are looked at, and no others. -/
theorem cut_to (t : BT AVal) : ∀ (l : List Nat), ∃ tc : BT AVal, ∀ s, tc.get s = if s ∈ l then t.get s else none
  | [] => ⟨.nil, fun s => by rw [if_neg (by simp)]; rfl⟩
  | x :: l => by
    obtain ⟨tc, h⟩ := cut_to t l
    refine ⟨tc.put x (t.get x), fun s => ?_⟩
    rw [BT.get_put]
    by_cases e : s = x
    · subst e; rw [if_pos rfl, if_pos List.mem_cons_self]
    · rw [if_neg e, h s]
      by_cases hm : s ∈ l
      · rw [if_pos hm, if_pos (List.mem_cons_of_mem _ hm)]
      · rw [if_neg hm, if_neg (fun h => by rcases List.mem_cons.1 h with h | h; exact e h; exact hm h)]

/-! ### The plan's order -/
theorem and_eq_bits {a b : Nat} (h : Nat.beq (a &&& b) a = true) (j : Nat) (hj : a.testBit j = true) : b.testBit j = true := by
  have h := Nat.eq_of_beq_eq_true h
  have := congrArg (Nat.testBit · j) h
  simp only [Nat.testBit_and, hj, Bool.true_and] at this
  exact this
theorem and_eq_bits' {a b : Nat} (h : Nat.beq (a &&& b) b = true) (j : Nat) (hj : b.testBit j = true) : a.testBit j = true := by
  rw [Nat.and_comm] at h; exact and_eq_bits h j hj
theorem or_bit {a i j : Nat} : (a ||| 2 ^ i).testBit j = true ↔ a.testBit j = true ∨ j = i := by
  rw [Nat.testBit_or, Bool.or_eq_true, testBit_two_pow', decide_eq_true_iff]
  exact ⟨fun h => h.imp id Eq.symm, fun h => h.imp id Eq.symm⟩

section
variable {ops : List Oper} {masks : List Nat}
theorem order_q {seen louds i : Nat} {r : List PI} (h : orderOK ops masks seen louds (.q i :: r) = true) : ∃ o m, ops[i]? = some o ∧ masks[i]? = some m ∧ quiet o.op = true ∧ seen.testBit i = false ∧ (∀ j, m.testBit j = true → seen.testBit j = true) ∧
    (∀ j, louds.testBit j = true → m.testBit j = true) ∧ orderOK ops masks (seen ||| 2 ^ i) louds r = true := by
  unfold orderOK at h
  cases ho : ops[i]? with
  | none => rw [ho] at h; cases h
  | some o =>
    cases hm : masks[i]? with
    | none => rw [ho, hm] at h; cases h
    | some m =>
      rw [ho, hm] at h
      simp only [Bool.and_eq_true, Bool.not_eq_true'] at h
      obtain ⟨⟨⟨⟨h1, h2⟩, h3⟩, h4⟩, h5⟩ := h
      exact ⟨o, m, rfl, rfl, h1, h2, and_eq_bits h3, and_eq_bits' h4, h5⟩
theorem order_l {seen louds i : Nat} {p : PI} {r : List PI} (h : orderOK ops masks seen louds (.l i :: p :: r) = true) : ∃ o m is, p = .c is ∧ ops[i]? = some o ∧ masks[i]? = some m ∧ quiet o.op = false ∧ seen.testBit i = false ∧ (∀ j, m.testBit j = true → seen.testBit j = true) ∧
    (∀ j, louds.testBit j = true → m.testBit j = true) ∧ allQuietReads ops seen m is 0 ops = true ∧ orderOK ops masks (seen ||| 2 ^ i) (louds ||| 2 ^ i) r = true := by
  cases p with
  | q _ => cases h
  | l _ => cases h
  | p _ _ => cases h
  | c is =>
    unfold orderOK at h
    cases ho : ops[i]? with
    | none => rw [ho] at h; cases h
    | some o =>
      cases hm : masks[i]? with
      | none => rw [ho, hm] at h; cases h
      | some m =>
        rw [ho, hm] at h
        simp only [Bool.and_eq_true, Bool.not_eq_true'] at h
        obtain ⟨⟨⟨⟨⟨h1, h2⟩, h3⟩, h4⟩, h5⟩, h6⟩ := h
        exact ⟨o, m, is, rfl, rfl, rfl, h1, h2, and_eq_bits h3, and_eq_bits' h4, h5, h6⟩
theorem order_p {seen louds i j : Nat} {r : List PI} (h : orderOK ops masks seen louds (.p i j :: r) = true) : ∃ o m o' m', ops[i]? = some o ∧ masks[i]? = some m ∧ ops[j]? = some o' ∧ masks[j]? = some m' ∧ isStore o.op = true ∧ isStore o'.op = true ∧ o.dst = none ∧ o'.dst = none ∧
    seen.testBit i = false ∧ seen.testBit j = false ∧ i ≠ j ∧ (∀ b, m.testBit b = true → seen.testBit b = true) ∧ (∀ b, m'.testBit b = true → seen.testBit b = true) ∧ (∀ b, louds.testBit b = true → m.testBit b = true) ∧ (∀ b, louds.testBit b = true → m'.testBit b = true) ∧
    allQuietReads ops seen m [] 0 ops = true ∧ allQuietReads ops seen m' [] 0 ops = true ∧ orderOK ops masks (seen ||| 2 ^ i ||| 2 ^ j) (louds ||| 2 ^ i ||| 2 ^ j) r = true := by
  unfold orderOK at h
  cases ho : ops[i]? with
  | none => rw [ho] at h; cases h
  | some o =>
    cases hm : masks[i]? with
    | none => rw [ho, hm] at h; cases h
    | some m =>
      cases ho' : ops[j]? with
      | none => rw [ho, hm, ho'] at h; cases h
      | some o' =>
        cases hm' : masks[j]? with
        | none => rw [ho, hm, ho', hm'] at h; cases h
        | some m' =>
          rw [ho, hm, ho', hm'] at h
          simp only [Bool.and_eq_true, Bool.not_eq_true'] at h
          obtain ⟨⟨⟨⟨⟨⟨⟨⟨⟨⟨⟨⟨⟨h1, h2⟩, h3⟩, h4⟩, h5⟩, h6⟩, h7⟩, h8⟩, h9⟩, h10⟩, h11⟩, h12⟩, h13⟩, h14⟩ := h
          exact ⟨o, m, o', m', rfl, rfl, rfl, rfl, h1, h2, Option.isNone_iff_eq_none.1 h3, Option.isNone_iff_eq_none.1 h4, h5, h6, (fun e => by rw [beq_t e] at h7; cases h7), and_eq_bits h8, and_eq_bits h9, and_eq_bits' h10, and_eq_bits' h11, h12, h13, h14⟩
theorem order_nil {seen louds : Nat} (h : orderOK ops masks seen louds [] = true) (j : Nat) (hj : j < ops.length) : seen.testBit j = true := by
  unfold orderOK at h
  rw [Nat.eq_of_beq_eq_true h, Nat.testBit_two_pow_sub_one]
  exact decide_eq_true hj
theorem order_l1 {seen louds i : Nat} (h : orderOK ops masks seen louds [.l i] = true) : False := by cases h
theorem order_c {seen louds : Nat} {is : List Nat} {r : List PI} (h : orderOK ops masks seen louds (.c is :: r) = true) : False := by cases h
/-- What comes behind must. -/
theorem order_behind : ∀ (pl : List PI) (seen louds : Nat), orderOK ops masks seen louds pl = true → ∀ j, j < ops.length → seen.testBit j = true ∨ ∃ m, masks[j]? = some m ∧ ∀ y, louds.testBit y = true → m.testBit y = true
  | [], seen, louds, h, j, hj => .inl (order_nil h j hj)
  | .q i :: r, seen, louds, h, j, hj => by
    obtain ⟨o, m, h1, h2, h3, h4, h5, h6, h7⟩ := order_q h
    rcases order_behind r _ _ h7 j hj with g | g
    · rcases or_bit.1 g with g | g
      · exact .inl g
      · subst g; exact .inr ⟨m, h2, h6⟩
    · exact .inr g
  | .p a b :: r, seen, louds, h, j, hj => by
    obtain ⟨o, m, o', m', h1, h2, h3, h4, _, _, _, _, _, _, _, _, _, h5, h6, _, _, h7⟩ := order_p h
    rcases order_behind r _ _ h7 j hj with g | ⟨mj, g1, g2⟩
    · rcases or_bit.1 g with g | g
      · rcases or_bit.1 g with g | g
        · exact .inl g
        · subst g; exact .inr ⟨m, h2, h5⟩
      · subst g; exact .inr ⟨m', h4, h6⟩
    · exact .inr ⟨mj, g1, fun y hy => g2 y (or_bit.2 (.inl (or_bit.2 (.inl hy))))⟩
  | [.l i], seen, louds, h, j, hj => (order_l1 h).elim
  | .l i :: p :: r, seen, louds, h, j, hj => by
    obtain ⟨o, m, is, rfl, h1, h2, h3, h4, h5, h6, h7, h8⟩ := order_l h
    rcases order_behind r _ _ h8 j hj with g | ⟨m', g1, g2⟩
    · rcases or_bit.1 g with g | g
      · exact .inl g
      · subst g; exact .inr ⟨m, h2, h6⟩
    · exact .inr ⟨m', g1, fun y hy => g2 y (or_bit.2 (.inl hy))⟩
  | .c is :: r, seen, louds, h, j, hj => (order_c h).elim
theorem quietReads {seen mask : Nat} {c : List Nat} : ∀ (l : List Oper) (i : Nat), allQuietReads ops seen mask c i l = true → ∀ k o, l[k]? = some o → seen.testBit (i + k) = true → mask.testBit (i + k) = false → quiet o.op = true → reads o.op = true → i + k ∈ c
  | [], i, h, k, o, hk => by simp at hk
  | x :: l, i, h, k, o, hk => by
    intro h1 h2 h3 h4
    unfold allQuietReads at h
    rw [Bool.and_eq_true] at h
    cases k with
    | zero =>
      simp at hk; subst hk
      rw [Nat.add_zero] at h1 h2 ⊢
      have := h.1
      rw [h1, h2, h3, h4] at this
      simpa using this
    | succ k =>
      have := quietReads l (i + 1) h.2 k o (by simpa using hk) (by rw [show i + 1 + k = i + (k + 1) by omega]; exact h1) (by rw [show i + 1 + k = i + (k + 1) by omega]; exact h2) h3 h4
      rwa [show i + 1 + k = i + (k + 1) by omega] at this

theorem items_cons {p : PI} {r : List PI} {l : List DItem} (h : items ops masks (p :: r) = some l) : ∃ l', items ops masks r = some l' ∧
    ((∃ i o late, p = .q i ∧ itemOf ops masks i = some (o, late) ∧ l = .q i o late :: l') ∨ (∃ i o late, p = .l i ∧ itemOf ops masks i = some (o, late) ∧ l = .l i o late :: l') ∨
      (∃ is x, p = .c is ∧ chkItems ops masks is = some x ∧ l = .c x :: l') ∨
      (∃ i o late j o' late', p = .p i j ∧ itemOf ops masks i = some (o, late) ∧ itemOf ops masks j = some (o', late') ∧ l = .p i o late j o' late' :: l')) := by
  unfold items at h
  cases hr : items ops masks r with
  | none => rw [hr] at h; cases h
  | some l' =>
    rw [hr] at h
    refine ⟨l', rfl, ?_⟩
    cases p with
    | q i =>
      dsimp only at h
      cases hi : itemOf ops masks i with
      | none => rw [hi] at h; cases h
      | some x => rw [hi] at h; cases h; exact .inl ⟨i, x.1, x.2, rfl, hi, rfl⟩
    | l i =>
      dsimp only at h
      cases hi : itemOf ops masks i with
      | none => rw [hi] at h; cases h
      | some x => rw [hi] at h; cases h; exact .inr (.inl ⟨i, x.1, x.2, rfl, hi, rfl⟩)
    | c is =>
      dsimp only at h
      cases hi : chkItems ops masks is with
      | none => rw [hi] at h; cases h
      | some x => rw [hi] at h; cases h; exact .inr (.inr (.inl ⟨is, x, rfl, hi, rfl⟩))
    | p i j =>
      dsimp only at h
      cases hi : itemOf ops masks i with
      | none => rw [hi] at h; cases h
      | some x =>
        cases hj : itemOf ops masks j with
        | none => rw [hi, hj] at h; cases h
        | some y => rw [hi, hj] at h; cases h; exact .inr (.inr (.inr ⟨i, x.1, x.2, j, y.1, y.2, rfl, hi, hj, rfl⟩))
theorem chkItems_mem : ∀ (is : List Nat) (x : List (Nat × Oper × List Nat)), chkItems ops masks is = some x → ∀ i ∈ is, ∃ o late, itemOf ops masks i = some (o, late) ∧ (i, o, late) ∈ x
  | [], x, h, i, hi => by cases hi
  | y :: is, x, h, i, hi => by
    unfold chkItems at h
    cases hy : itemOf ops masks y with
    | none => rw [hy] at h; cases h
    | some p =>
      cases hr : chkItems ops masks is with
      | none => rw [hy, hr] at h; cases h
      | some l =>
        rw [hy, hr] at h; cases h
        rcases List.mem_cons.1 hi with rfl | hi
        · exact ⟨p.1, p.2, hy, List.mem_cons_self⟩
        · obtain ⟨o, late, h1, h2⟩ := chkItems_mem is l hr i hi
          exact ⟨o, late, h1, List.mem_cons_of_mem _ h2⟩
end

/-! ### What a quiet operation gives -/
inductive QShape (nx : Nat) : OpR → Prop
  | pure (v : AVal) : QShape nx (.val v [] nx)
  | alloc (v : AVal) (o : AObj) : QShape nx (.val v [(nx, some o)] (nx + 1))
  | panic (v : AVal) : QShape nx (.panic v)
  | stuck (w : String) : QShape nx (.stuck w)
theorem qs_valO (v : Option AVal) (nx : Nat) (why : String) : QShape nx (valO v nx why) := by
  cases v with
  | none => exact .stuck _
  | some v => exact .pure _
theorem qs_optR (v : Option AVal) (nx : Nat) : QShape nx (optR v nx) := by
  cases v with
  | none => exact .stuck _
  | some v => exact .pure _
theorem quiet_shape (x0 : Cx) (op : Op) (hq : quiet op = true) : QShape x0.nx (evOp x0 op) := by
  cases op with
  | move x => exact .pure _
  | assign x => exact .pure _
  | pick c a b => show QShape _ (op_pick _ _ _ _); unfold op_pick; (repeat' split); all_goals first | exact .stuck _ | exact .panic _ | exact .pure _
  | alloc t => show QShape _ (op_alloc _ _); unfold op_alloc; (repeat' split); all_goals first | exact .stuck _ | exact .panic _ | exact .alloc _ _
  | box t x => show QShape _ (op_box _ _); unfold op_box; (repeat' split); all_goals first | exact .stuck _ | exact .panic _ | exact .alloc _ _
  | build t p => exact qs_valO _ _ _
  | buildSlice t n p => show QShape _ (op_buildSlice _ _ _ _); unfold op_buildSlice; (repeat' split); all_goals first | exact .stuck _ | exact .panic _ | exact .alloc _ _
  | load t a => show QShape _ (op_load _ _ _); unfold op_load; (repeat' split); all_goals first | exact .stuck _ | exact .panic _ | exact qs_valO _ _ _
  | nilCheck x => show QShape _ (op_nilCheck _ _); unfold op_nilCheck; (repeat' split); all_goals first | exact .stuck _ | exact .panic _ | exact .pure _
  | binOp op t x y g => exact qs_valO _ _ _
  | unOp op t x => show QShape _ (op_unOp _ _ _); unfold op_unOp; (repeat' split); all_goals first | exact .stuck _ | exact .panic _ | exact .pure _ | exact qs_valO _ _ _
  | convert s d x => show QShape _ (op_convert _ _ _ _); unfold op_convert; (repeat' split); all_goals first | exact .stuck _ | exact .panic _ | exact .pure _ | exact .alloc _ _
  | sliceToArrayPointer a x => show QShape _ (op_sliceToArrayPointer _ _ _); unfold op_sliceToArrayPointer; (repeat' split); all_goals first | exact .stuck _ | exact .panic _ | exact .pure _
  | makeInterface t x => show QShape _ (op_makeInterface _ _ _); unfold op_makeInterface; (repeat' split); all_goals first | exact .stuck _ | exact .panic _ | exact .pure _
  | makeFunc fn a b => show QShape _ (op_makeFunc _ _ _ _); unfold op_makeFunc; (repeat' split); all_goals first | exact .stuck _ | exact .panic _ | exact .pure _
  | makeMap t r => show QShape _ (op_makeMap _ _ _); unfold op_makeMap; (repeat' split); all_goals first | exact .stuck _ | exact .panic _ | exact .alloc _ _
  | makeSlice t x y => show QShape _ (op_makeSlice _ _ _ _); unfold op_makeSlice; (repeat' split); all_goals first | exact .stuck _ | exact .panic _ | exact .alloc _ _
  | slice t x lo hi mx => exact qs_valO _ _ _
  | fieldAddr t x f => show QShape _ (op_fieldAddr _ _ _ _); unfold op_fieldAddr; (repeat' split); all_goals first | exact .stuck _ | exact .panic _ | exact .pure _
  | field t x f => show QShape _ (op_field _ _ _ _); unfold op_field; (repeat' split); all_goals first | exact .stuck _ | exact .panic _ | exact qs_valO _ _ _
  | indexAddr t x y => show QShape _ (op_indexAddr _ _ _ _); unfold op_indexAddr; (repeat' split); all_goals first | exact .stuck _ | exact .panic _ | exact .pure _
  | index t x y => show QShape _ (op_index _ _ _ _); unfold op_index; (repeat' split); all_goals first | exact .stuck _ | exact .panic _ | exact .pure _ | exact qs_valO _ _ _
  | lookup t x y ok => show QShape _ (op_lookup _ _ _ _ _); unfold op_lookup; (repeat' split); all_goals first | exact .stuck _ | exact .panic _ | exact .pure _
  | typeAssert x xt t ok => show QShape _ (op_typeAssert _ _ _ _); unfold op_typeAssert; (repeat' split); all_goals first | exact .stuck _ | exact .panic _ | exact .pure _
  | extract x i => show QShape _ (op_extract _ _ _); unfold op_extract; (repeat' split); all_goals first | exact .stuck _ | exact .panic _ | exact qs_valO _ _ _
  | call c =>
    show QShape _ (op_call _ _)
    unfold op_call
    cases hc : c.callee with
    | value f => simp [quiet, hc] at hq
    | invoke r n => simp [quiet, hc] at hq
    | builtin b =>
      cases b <;> first
        | (simp [quiet, hc] at hq; done)
        | (dsimp only; unfold builtinV; (repeat' split); all_goals first | exact .stuck _ | exact .panic _ | exact qs_optR _ _ | (unfold lenB; (repeat' split); all_goals first | exact .stuck _ | exact .panic _ | exact .pure _) | (unfold capB; (repeat' split); all_goals first | exact .stuck _ | exact .panic _ | exact .pure _) | simp_all)
  | _ => cases hq
end Go.Ev
end
section
/- Drawn regions: operations that the plan has done and the model has not. -/
set_option linter.unusedVariables false
set_option linter.unusedSimpArgs false
set_option linter.unusedSectionVars false
namespace Go.Ev
open Go.RowKit

def SRl (φ : Phi) (a : Option AVal) (v : Value) : Prop := ∀ x, a = some x → VRel φ x v
theorem SRl.mono {φ φ' : Phi} (h : φ.le φ') {a : Option AVal} {v : Value} (r : SRl φ a v) : SRl φ' a v := fun x hx => (r x hx).mono h
def Sub (h0 h : Heap) : Prop := ∀ id o, h0.get id = some o → h.get id = some o
theorem Sub.refl (h : Heap) : Sub h h := fun _ _ e => e
theorem Sub.trans {a b c : Heap} (h : Sub a b) (h' : Sub b c) : Sub a c := fun id o e => h' id o (h id o e)
theorem Sub.nil (h : Heap) : Sub .nil h := fun id o e => by rw [BT.get_nil] at e; cases e
theorem Rep.sub {w0 : World} {φ : Phi} {h h0 : Heap} {nx : Nat} {w : World} (R : Rep w0 φ h nx w) (s : Sub h0 h) : Rep w0 φ h0 nx w :=
  ⟨R.below, fun id o p a b => R.obj id o p (s _ _ a) b, fun i j oi oj pi pj a b c d e => R.inj i j oi oj pi pj (s _ _ a) (s _ _ b) c d e, fun id o p a b c => R.rw id o p (s _ _ a) b c, R.dom, fun id o a => R.hdom id o (s _ _ a)⟩

/-- What is left alone below a number. -/
structure ExtB (lo : Nat) (φ : Phi) (h : Heap) (φ' : Phi) (h' : Heap) : Prop where
  le : φ.le φ'
  ph : ∀ id, id < lo → φ id = none → φ' id = none ∧ h'.get id = h.get id
theorem ExtB.refl (lo : Nat) (φ : Phi) (h : Heap) : ExtB lo φ h φ h := ⟨Phi.le_refl φ, fun _ _ e => ⟨e, rfl⟩⟩
theorem ExtB.trans {lo : Nat} {φ φ1 φ2 : Phi} {h h1 h2 : Heap} (a : ExtB lo φ h φ1 h1) (b : ExtB lo φ1 h1 φ2 h2) : ExtB lo φ h φ2 h2 :=
  ⟨Phi.le_trans a.le b.le, fun id hl e => let ⟨c, d⟩ := a.ph id hl e; let ⟨c', d'⟩ := b.ph id hl c; ⟨c', d'.trans d⟩⟩
theorem ExtB.sub {lo lo' : Nat} {φ φ' : Phi} {h h' : Heap} (a : ExtB lo φ h φ' h') (hl : lo' ≤ lo) : ExtB lo' φ h φ' h' := ⟨a.le, fun id h1 e => a.ph id (Nat.lt_of_lt_of_le h1 hl) e⟩

structure Slots (φ : Phi) (ops : List Oper) (size : Nat) (t0 t : BT AVal) (is : List Nat) (T : Array Value) : Prop where
  sz : T.size = size
  wr : ∀ s j, writer s 0 ops = some j → (j ∈ is → SRl φ (t0.get s) (T.getD s undef)) ∧ (¬ j ∈ is → SRl φ (t.get s) (T.getD s undef)) ∧ (size ≤ s → t.get s = t0.get s)
  no : ∀ s, writer s 0 ops = none → t.get s = t0.get s ∧ SRl φ (t0.get s) (T.getD s undef)
theorem Slots.mono {φ φ' : Phi} (hφ : φ.le φ') {ops : List Oper} {size : Nat} {t0 t : BT AVal} {is : List Nat} {T : Array Value} (S : Slots φ ops size t0 t is T) : Slots φ' ops size t0 t is T :=
  ⟨S.sz, fun s j hj => let ⟨a, b, c⟩ := S.wr s j hj; ⟨fun h => (a h).mono hφ, fun h => (b h).mono hφ, c⟩, fun s hs => ⟨(S.no s hs).1, (S.no s hs).2.mono hφ⟩⟩
theorem Slots.init {φ : Phi} {ops : List Oper} {size : Nat} {t : BT AVal} {is : List Nat} {T : Array Value} (h : TRel φ size t T) : Slots φ ops size t t is T :=
  ⟨h.1, fun s j _ => ⟨fun _ x hx => h.2 s x hx, fun _ x hx => h.2 s x hx, fun _ => rfl⟩, fun s _ => ⟨rfl, fun x hx => h.2 s x hx⟩⟩
theorem Slots.done {φ : Phi} {ops : List Oper} {size : Nat} {t0 t : BT AVal} {T : Array Value} (S : Slots φ ops size t0 t [] T) : TRel φ size t T := by
  refine ⟨S.sz, fun s v hv => ?_⟩
  cases hw : writer s 0 ops with
  | none =>
    obtain ⟨a, b⟩ := S.no s hw
    exact b v (a ▸ hv)
  | some j => exact (S.wr s j hw).2.1 (by simp) v hv

section
variable {φ : Phi} {ops : List Oper} {size : Nat} {t0 t : BT AVal} {is : List Nat} {T : Array Value} {i : Nat} {o : Oper}
theorem Slots.plan (S : Slots φ ops size t0 t is T) (hn : nodupB (dsts ops) = true) (ho : ops[i]? = some o) (hi : i ∈ is) (v : AVal) : Slots φ ops size t0 (putT size t o.dst v) is T := by
  refine ⟨S.sz, fun s j hj => ?_, fun s hs => ?_⟩
  · obtain ⟨a, b, c⟩ := S.wr s j hj
    refine ⟨a, fun hji => ?_, fun hsz => ?_⟩
    · rw [putT_get]
      split
      · rename_i hc
        rw [writer0_of hn ho hc.1] at hj; cases hj
        exact absurd hi hji
      · exact b hji
    · rw [putT_get, if_neg (by omega)]; exact c hsz
  · rw [putT_get]
    split
    · rename_i hc
      rw [writer0_of hn ho hc.1] at hs; cases hs
    · exact S.no s hs
theorem Slots.model (S : Slots φ ops size t0 t (i :: is) T) (hn : nodupB (dsts ops) = true) (ho : ops[i]? = some o) (hi : ¬ i ∈ is) {v' : Value} (hv : ∀ s, o.dst = some s → s < size → SRl φ (t.get s) v') : Slots φ ops size t0 t is (putA T o.dst v') := by
  refine ⟨by rw [putA_size]; exact S.sz, fun s j hj => ?_, fun s hs => ?_⟩
  · obtain ⟨a, b, c⟩ := S.wr s j hj
    rw [putA_get, S.sz]
    by_cases hc : o.dst = some s ∧ s < size
    · rw [if_pos hc]
      have hji : i = j := by
        have := writer0_of hn ho hc.1
        rw [this] at hj; exact Option.some.inj hj
      subst hji
      exact ⟨fun h => absurd h hi, fun _ => hv s hc.1 hc.2, c⟩
    · rw [if_neg hc]
      refine ⟨fun h => a (List.mem_cons_of_mem _ h), fun h => ?_, c⟩
      by_cases e : j = i
      · subst e
        obtain ⟨o', h1, h2⟩ := writer0_some hj
        rw [ho] at h1; cases h1
        have hsz : size ≤ s := by
          rcases Nat.lt_or_ge s size with h | h
          · exact absurd ⟨h2, h⟩ hc
          · exact h
        rw [c hsz]
        exact a List.mem_cons_self
      · exact b (fun h' => by rcases List.mem_cons.1 h' with h' | h'; exact e h'; exact h h')
  · rw [putA_get, S.sz, if_neg (fun hc => by rw [writer0_of hn ho hc.1] at hs; cases hs)]
    exact S.no s hs
end

def Holds (size : Nat) (t : BT AVal) (d : Option Nat) (v : AVal) : Prop := ∀ s, d = some s → s < size → t.get s = some v

/-- The value of an operation that the model has not run. -/
inductive LagV (E : Env) (φ : Phi) (h : Heap) (nx lo : Nat) (steady : Bool) (tu : BT AVal) (op : Op) : Option Nat → AVal → Prop
  | pure (v : AVal) (hs : steady = true ∨ reads op = false → ∃ h0 m, Sub h0 h ∧ evOp ⟨E, tu, h0, m⟩ op = .val v [] m) : LagV E φ h nx lo steady tu op none v
  | alloc (id : Nat) (v : AVal) (ob : AObj) (hlo : lo ≤ id) (hn : id < nx) (hφ : φ id = none) (hob : h.get id = some ob)
      (hs : steady = true ∨ reads op = false → ∃ h0, Sub h0 h ∧ evOp ⟨E, tu, h0, id⟩ op = .val v [(id, some ob)] (id + 1)) : LagV E φ h nx lo steady tu op (some id) v
def Lag (E : Env) (ops : List Oper) (masks : List Nat) (size : Nat) (t0 t : BT AVal) (φ : Phi) (h : Heap) (nx lo : Nat) (steady : Bool) (al : Option Nat) (i : Nat) : Prop :=
  ∃ o late, itemOf ops masks i = some (o, late) ∧ quiet o.op = true ∧
    ((wanted o.guard (backTo t0 late t) ops = .no ∧ Holds size t o.dst undef' ∧ al = none) ∨
     (wanted o.guard (backTo t0 late t) ops = .yes ∧ ∃ v, Holds size t o.dst v ∧ LagV E φ h nx lo steady (backTo t0 late t) o.op al v))

/-- A region between two steps. -/
structure DFr (E : Env) (ops : Array Oper) (masks : List Nat) (size : Nat) (t0 t : BT AVal) (φ : Phi) (h : Heap) (nx lo : Nat) (steady : Bool) (seen : Nat) (is : List Nat) (T : Array Value) : Prop where
  nd : nodupB (dsts ops.toList) = true
  sched : ∃ dn, SchedM ops.size masks (dn ++ is) ∧ ∀ i ∈ dn, seen.testBit i = true
  slots : Slots φ ops.toList size t0 t is T
  clos : ∀ i m, seen.testBit i = true → masks[i]? = some m → ∀ j, m.testBit j = true → seen.testBit j = true
  lag : ∃ al : Nat → Option Nat, (∀ i ∈ is, seen.testBit i = true → Lag E ops.toList masks size t0 t φ h nx lo steady (al i) i) ∧
    ∀ i ∈ is, ∀ j ∈ is, seen.testBit i = true → seen.testBit j = true → ∀ id, al i = some id → al j = some id → i = j

theorem LagV.mono {E : Env} {φ φ' : Phi} {h h' : Heap} {nx nx' lo : Nat} {st : Bool} {tu : BT AVal} {op : Op} {al : Option Nat} {v : AVal} (hq : quiet op = true) (X : ExtB nx φ h φ' h') (hn : nx ≤ nx') (L : LagV E φ h nx lo st tu op al v) : LagV E φ' h' nx' lo false tu op al v := by
  cases L with
  | pure _ hs =>
    refine .pure v fun hc => ?_
    rcases hc with hc | hc
    · cases hc
    · obtain ⟨h0, m, _, h2⟩ := hs (.inr hc)
      exact ⟨.nil, m, Sub.nil _, by rw [← h2]; exact evOp_noread op hq hc⟩
  | alloc id _ ob hlo hid hφ hob hs =>
    obtain ⟨a, b⟩ := X.ph id hid hφ
    refine .alloc id v ob hlo (Nat.lt_of_lt_of_le hid hn) a (b.trans hob) fun hc => ?_
    rcases hc with hc | hc
    · cases hc
    · obtain ⟨h0, _, h2⟩ := hs (.inr hc)
      exact ⟨.nil, Sub.nil _, by rw [← h2]; exact evOp_noread op hq hc⟩
theorem DFr.mono {E : Env} {ops : Array Oper} {masks : List Nat} {size : Nat} {t0 t : BT AVal} {φ φ' : Phi} {h h' : Heap} {nx nx' lo : Nat} {st : Bool} {seen : Nat} {is : List Nat} {T : Array Value}
    (D : DFr E ops masks size t0 t φ h nx lo st seen is T) (X : ExtB nx φ h φ' h') (hn : nx ≤ nx') : DFr E ops masks size t0 t φ' h' nx' lo false seen is T := by
  obtain ⟨al, h1, h2⟩ := D.lag
  refine ⟨D.nd, D.sched, D.slots.mono X.le, D.clos, al, fun i hi hs => ?_, h2⟩
  obtain ⟨o, late, g1, g2, g3⟩ := h1 i hi hs
  refine ⟨o, late, g1, g2, ?_⟩
  rcases g3 with g3 | ⟨g3, v, g4, g5⟩
  · exact .inl g3
  · exact .inr ⟨g3, v, g4, g5.mono g2 X hn⟩

theorem toL {ops : Array Oper} {i : Nat} {o : Oper} (h : ops.toList[i]? = some o) : ops[i]? = some o := by simpa using h
theorem lt_of_toL {ops : Array Oper} {i : Nat} {o : Oper} (h : ops.toList[i]? = some o) : i < ops.size := (Array.getElem?_eq_some_iff.1 (toL h)).1

section
variable {E : Env} {ops : Array Oper} {masks : List Nat} {size : Nat} {t0 t : BT AVal} {φ : Phi} {h : Heap} {nx lo : Nat} {st : Bool} {seen : Nat} {is : List Nat} {T : Array Value} {i : Nat}
theorem SchedM.head_not {n : Nat} {masks dn is : List Nat} {i : Nat} (S : SchedM n masks (dn ++ i :: is)) : ¬ i ∈ is ∧ ¬ i ∈ dn := by
  have h := S.nodup
  rw [List.nodup_append] at h
  exact ⟨(List.nodup_cons.1 h.2.1).1, fun hd => h.2.2 i hd i List.mem_cons_self rfl⟩
theorem SchedM.dn_not {n : Nat} {masks dn is : List Nat} {j : Nat} (S : SchedM n masks (dn ++ is)) (hj : j ∈ dn) : ¬ j ∈ is := by
  have h := S.nodup
  rw [List.nodup_append] at h
  exact fun hi => h.2.2 j hj j hi rfl
/-- Who must come behind an operation that is to come is to come. -/
theorem SchedM.behind {n : Nat} {masks dn is : List Nat} {i j m : Nat} (S : SchedM n masks (dn ++ is)) (hi : i ∈ is) (hj : j < n) (hm : masks[j]? = some m) (hb : m.testBit i = true) : j ∈ is := by
  rcases List.mem_append.1 (S.all j hj) with h | h
  · exfalso
    obtain ⟨p, q, hp⟩ := List.append_of_mem h
    have := S.order p j (q ++ is) (by rw [hp]; simp) m hm i hb
    exact S.dn_not (by rw [hp]; exact List.mem_append_left _ this) hi
  · exact h

/-- The slots that the next operation looks at. -/
theorem DFr.look (D : DFr E ops masks size t0 t φ h nx lo st seen (i :: is) T) {o : Oper} {late : List Nat} (hit : itemOf ops.toList masks i = some (o, late)) :
    ∃ tc, TRel φ size tc T ∧ ∀ s ∈ looks ops.toList o, tc.get s = (backTo t0 late t).get s := by
  obtain ⟨ho, hsrc⟩ := itemOf_spec hit
  obtain ⟨dn, S, hdn⟩ := D.sched
  obtain ⟨tc, htc⟩ := cut_to (backTo t0 late t) (looks ops.toList o)
  refine ⟨tc, ⟨D.slots.sz, fun s v hv => ?_⟩, fun s hs => by rw [htc, if_pos hs]⟩
  rw [htc] at hv
  split at hv
  · rename_i hs
    rw [backTo_get] at hv
    rcases hsrc s hs with ⟨h1, h2⟩ | ⟨j, a, b, h1, h2, h3, h4⟩
    · rw [if_neg h2] at hv
      obtain ⟨g1, g2⟩ := D.slots.no s h1
      exact g2 v (g1 ▸ hv)
    · obtain ⟨g1, g2, g3⟩ := D.slots.wr s j h1
      rcases h4 with ⟨k1, k2, k3, k4⟩ | ⟨k1, k2, k3⟩
      · rw [if_neg k4] at hv
        have hj : j ∈ dn := S.order dn i is rfl a h2 j k1
        exact g2 (S.dn_not hj) v hv
      · rw [if_pos k3] at hv
        obtain ⟨oj, e1, _⟩ := writer0_some h1
        have hj : j ∈ i :: is := by
          rcases k2 with k2 | k2
          · exact S.behind List.mem_cons_self (lt_of_toL e1) h3 k2
          · rw [← k2]; exact List.mem_cons_self
        exact g1 hj v hv
  · cases hv

theorem DFr.next (D : DFr E ops masks size t0 t φ h nx lo st seen (i :: is) T) (hs : seen.testBit i = true) {o : Oper} (ho : ops.toList[i]? = some o) {v' : Value} {φ' : Phi} (hle : φ.le φ')
    (hv : ∀ s, o.dst = some s → s < size → SRl φ' (t.get s) v')
    (hlag : ∀ al : Nat → Option Nat, (∀ j ∈ i :: is, seen.testBit j = true → Lag E ops.toList masks size t0 t φ h nx lo st (al j) j) → (∀ a ∈ i :: is, ∀ b ∈ i :: is, seen.testBit a = true → seen.testBit b = true → ∀ id, al a = some id → al b = some id → a = b) →
      ∀ j ∈ is, seen.testBit j = true → Lag E ops.toList masks size t0 t φ' h nx lo st (al j) j) :
    DFr E ops masks size t0 t φ' h nx lo st seen is (putA T o.dst v') := by
  obtain ⟨dn, S, hdn⟩ := D.sched
  obtain ⟨al, h1, h2⟩ := D.lag
  refine ⟨D.nd, ⟨dn ++ [i], by simpa using S, fun j hj => ?_⟩, (D.slots.mono hle).model D.nd ho S.head_not.1 hv, D.clos, al, hlag al h1 h2, fun a ha b hb => h2 a (List.mem_cons_of_mem _ ha) b (List.mem_cons_of_mem _ hb)⟩
  rcases List.mem_append.1 hj with hj | hj
  · exact hdn j hj
  · rw [List.mem_singleton.1 hj]; exact hs

theorem Lag.phi {φ' : Phi} {al : Option Nat} {j : Nat} (hle : φ.le φ') (hn : ∀ id, al = some id → φ id = none → φ' id = none) (L : Lag E ops.toList masks size t0 t φ h nx lo st al j) : Lag E ops.toList masks size t0 t φ' h nx lo st al j := by
  obtain ⟨o, late, g1, g2, g3⟩ := L
  refine ⟨o, late, g1, g2, ?_⟩
  rcases g3 with g3 | ⟨g3, v, g4, g5⟩
  · exact .inl g3
  · refine .inr ⟨g3, v, g4, ?_⟩
    cases g5 with
    | pure _ hs => exact .pure v hs
    | alloc id _ ob a b c d e => exact .alloc id v ob a b (hn id rfl c) d e

theorem quiet_plain {op : Op} {ro : Option Nat} (hq : quiet op = true) : plainOp ro op := fun l c _ e => by subst e; cases hq

/-- The model runs an operation that the plan has done. -/
theorem realize {P : Program} (hE : EnvOK E P) {w0 w : World} {f : FuncId} {k : List Item} {ds : List Deferred} {kd : CallKind} {ro : Option Nat} {cs : List Frame}
    (D : DFr E ops masks size t0 t φ h nx lo true seen (i :: is) T) (R : Rep w0 φ h nx w) (G : GlobOK E.ng φ) (hs : seen.testBit i = true) :
    ∃ φ' T' w', step P (lone (F f T (.inRegion ops (i :: is) :: k) ds kd ro) cs w) = .next (lone (F f T' (.inRegion ops is :: k) ds kd ro) cs w') ∧ DFr E ops masks size t0 t φ' h nx lo true seen is T' ∧
      Rep w0 φ' h nx w' ∧ ExtB lo φ h φ' h := by
  obtain ⟨al, hl1, hl2⟩ := D.lag
  have L := hl1 i List.mem_cons_self hs
  obtain ⟨dn, S, hdn⟩ := D.sched
  have L0 := L
  obtain ⟨o, late, hit, hq, hcase⟩ := L
  obtain ⟨tc, htc, hsame⟩ := D.look hit
  obtain ⟨ho, hsrc⟩ := itemOf_spec hit
  have ho' := toL ho
  have hwr := wanted_rel htc ops o
  rw [wanted_congr hsame] at hwr
  have O := fun x => eval_rel (f := f) (k := .inRegion ops (i :: is) :: k) (ds := ds) (kd := kd) (ro := ro) G htc x
  rcases hcase with ⟨hw, hh, _⟩ | ⟨hw, v, hh, hv⟩
  · refine ⟨φ, putA T o.dst undef, w, st_unwanted ho' (hwr.2 hw), D.next hs ho (Phi.le_refl φ) (fun s h1 h2 x hx => ?_) (fun al g1 _ j hj hsj => g1 j (List.mem_cons_of_mem _ hj) hsj), R, ExtB.refl _ _ _⟩
    rw [hh s h1 h2] at hx; cases hx
    exact undef_rel φ
  · generalize hal : al i = ali at hv
    cases hv with
    | pure _ hst =>
      obtain ⟨h0, m, g1, g2⟩ := hst (.inl rfl)
      have hqs := quiet_sound (x0 := ⟨E, tc, h0, m⟩) hE (R.sub g1) O o hq
      rw [ev_congr hsame, g2] at hqs
      rcases hqs with ⟨_, _, v', e1, e2⟩ | ⟨_, _, _, e, _⟩
      · refine ⟨φ, putA T o.dst v', w, st_value ho' (hwr.1 hw) (quiet_plain hq) e1 (.inl rfl), D.next hs ho (Phi.le_refl φ) (fun s h1 h2 x hx => ?_) (fun al g1 _ j hj hsj => g1 j (List.mem_cons_of_mem _ hj) hsj), R, ExtB.refl _ _ _⟩
        rw [hh s h1 h2] at hx; cases hx
        exact e2
      · cases e
    | alloc id _ ob a b c d e =>
      obtain ⟨h0, g1, g2⟩ := e (.inl rfl)
      have hqs := quiet_sound (x0 := ⟨E, tc, h0, id⟩) hE (R.sub g1) O o hq
      rw [ev_congr hsame, g2] at hqs
      rcases hqs with ⟨e, _⟩ | ⟨fv, ob', e1, e2, _, e4⟩
      · cases e
      · cases e2
        obtain ⟨v', w', p, k1, k2, k3⟩ := e4 h nx id R d c
        have hle : φ.le (φ.upd id p) := Phi.le_upd (.inl c)
        refine ⟨φ.upd id p, putA T o.dst v', w', st_value ho' (hwr.1 hw) (quiet_plain hq) k1 (.inl rfl), ?_, k3, ⟨hle, fun j hj hn => ⟨?_, rfl⟩⟩⟩
        · have D' : DFr E ops masks size t0 t φ h nx lo true seen (i :: is) T := ⟨D.nd, D.sched, D.slots, D.clos, al, hl1, hl2⟩
          have hmem : ¬ i ∈ is := S.head_not.1
          refine ⟨D.nd, ⟨dn ++ [i], by simpa using S, fun j hj => ?_⟩, (D.slots.mono hle).model D.nd ho hmem (fun s h1 h2 x hx => ?_), D.clos, al, fun j hj hsj => ?_, fun a ha b hb => hl2 a (List.mem_cons_of_mem _ ha) b (List.mem_cons_of_mem _ hb)⟩
          · rcases List.mem_append.1 hj with hj | hj
            · exact hdn j hj
            · rw [List.mem_singleton.1 hj]; exact hs
          · rw [hh s h1 h2] at hx; cases hx
            rw [e1]; exact k2
          · refine (hl1 j (List.mem_cons_of_mem _ hj) hsj).phi hle fun id' hid' hnone => ?_
            unfold Phi.upd
            rw [if_neg ?_]; exact hnone
            rintro rfl
            exact hmem (hl2 i List.mem_cons_self j (List.mem_cons_of_mem _ hj) hs hsj _ hal hid' ▸ hj)
        · unfold Phi.upd
          rw [if_neg (by omega)]; exact hn
/-- .. and more of them. -/
theorem realizes {P : Program} (hE : EnvOK E P) {w0 : World} {f : FuncId} {k : List Item} {ds : List Deferred} {kd : CallKind} {ro : Option Nat} {cs : List Frame} :
    ∀ (pre post : List Nat) (φ : Phi) (T : Array Value) (w : World), DFr E ops masks size t0 t φ h nx lo true seen (pre ++ post) T → Rep w0 φ h nx w → GlobOK E.ng φ → (∀ i ∈ pre, seen.testBit i = true) →
    ∃ φ' T' w', Steps P (lone (F f T (.inRegion ops (pre ++ post) :: k) ds kd ro) cs w) (lone (F f T' (.inRegion ops post :: k) ds kd ro) cs w') ∧ DFr E ops masks size t0 t φ' h nx lo true seen post T' ∧
      Rep w0 φ' h nx w' ∧ ExtB lo φ h φ' h
  | [], post, φ, T, w, D, R, G, hp => ⟨φ, T, w, Steps.refl _ _, D, R, ExtB.refl _ _ _⟩
  | i :: pre, post, φ, T, w, D, R, G, hp => by
    obtain ⟨φ1, T1, w1, s1, D1, R1, X1⟩ := realize (f := f) (k := k) (ds := ds) (kd := kd) (ro := ro) (cs := cs) hE D R G (hp i List.mem_cons_self)
    obtain ⟨φ2, T2, w2, s2, D2, R2, X2⟩ := realizes hE pre post φ1 T1 w1 D1 R1 (G.mono X1.le) (fun j hj => hp j (List.mem_cons_of_mem _ hj))
    exact ⟨φ2, T2, w2, .head s1 s2, D2, R2, X1.trans X2⟩
end
end Go.Ev
end
