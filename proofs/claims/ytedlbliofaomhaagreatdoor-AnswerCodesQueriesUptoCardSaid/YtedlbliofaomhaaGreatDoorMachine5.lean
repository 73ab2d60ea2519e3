/- The abstract machine of this proof: a deterministic reading of the model's code, and that it says what the model does. -/
import Derived.Test.YtedlbliofaomhaaGreatDoorMachine4
import Derived.RangeFuncRecord
import Derived.RangeFuncIn
set_option linter.all false
section
/- Drawn regions: the whole run. -/
set_option linter.unusedVariables false
set_option linter.unusedSimpArgs false
set_option linter.unusedSectionVars false
namespace Go.Ev
open Go.RowKit

def RD.h : RD → Heap | .fin _ h _ | .at _ _ h _ _ => h
def RD.nx : RD → Nat | .fin _ _ n | .at _ _ _ n _ => n

/-! ### Structural equality -/
theorem all2_eq {α : Type} {f : α → α → Bool} (hf : ∀ x y, f x y = true → x = y) : ∀ (a b : List α), all2 f a b = true → a = b
  | [], [], _ => rfl
  | [], _ :: _, h => by cases h
  | _ :: _, [], h => by cases h
  | x :: a, y :: b, h => by
    unfold all2 at h
    rw [Bool.and_eq_true] at h
    rw [hf x y h.1, all2_eq hf a b h.2]
theorem intEq_to {a b : Int} (h : intEq a b = true) : a = b := by
  cases a <;> cases b <;> first | (cases h; done) | (rw [Nat.eq_of_beq_eq_true h])
theorem strEq_to : ∀ {a b : List Nat}, strEq a b = true → a = b
  | [], [], _ => rfl
  | [], _ :: _, h => by cases h
  | _ :: _, [], h => by cases h
  | x :: a, y :: b, h => by
    unfold strEq at h
    rw [Bool.and_eq_true] at h
    rw [Nat.eq_of_beq_eq_true h.1, strEq_to h.2]
theorem capEq_eq {a b : ACap} (h : capEq a b = true) : a = b := by
  cases a <;> cases b <;> first | (cases h; done) | (rw [Nat.eq_of_beq_eq_true h])
theorem veq_eq : ∀ (k : Nat) (x y : AVal), veq k x y = true → x = y
  | 0, x, y, h => by cases h
  | k + 1, x, y, h => by
    have ih := veq_eq k
    unfold veq at h
    split at h
    · rw [eq_of_beq h]
    · rw [Bool.and_eq_true] at h; rw [of_decide_eq_true h.1, intEq_to h.2]
    · rw [strEq_to h]
    any_goals rfl
    · rw [Bool.and_eq_true] at h; rw [Nat.eq_of_beq_eq_true h.1, Nat.eq_of_beq_eq_true h.2]
    · simp only [Bool.and_eq_true] at h
      obtain ⟨⟨⟨h1, h2⟩, h3⟩, h4⟩ := h
      rw [Nat.eq_of_beq_eq_true h1, Nat.eq_of_beq_eq_true h2, Nat.eq_of_beq_eq_true h3, capEq_eq h4]
    · rw [Nat.eq_of_beq_eq_true h]
    · simp only [Bool.and_eq_true] at h
      obtain ⟨⟨h1, h2⟩, h3⟩ := h
      rw [of_decide_eq_true h1, all2_eq ih _ _ h2, all2_eq ih _ _ h3]
    · rw [Bool.and_eq_true] at h; rw [Nat.eq_of_beq_eq_true h.1, ih _ _ h.2]
    · rw [all2_eq ih _ _ h]
    · rw [all2_eq ih _ _ h]
    · cases h

section
variable {E : Env} {ops : Array Oper} {masks : List Nat} {size : Nat} {t0 t : BT AVal} {φ : Phi} {h : Heap} {nx lo : Nat} {st : Bool} {seen : Nat} {is : List Nat} {T : Array Value} {i : Nat}

/-- Another slot is written. -/
theorem Lag.put {al : Option Nat} {y : Nat} {oy : Oper} (L : Lag E ops.toList masks size t0 t φ h nx lo st al i) (hn : nodupB (dsts ops.toList) = true) (hy : ops.toList[y]? = some oy) (hne : i ≠ y)
    (hm : ∀ a, masks[i]? = some a → a.testBit y = false) (v : AVal) : Lag E ops.toList masks size t0 (putT size t oy.dst v) φ h nx lo st al i := by
  obtain ⟨o, late, g1, g2, g3⟩ := L
  obtain ⟨ho, hsrc⟩ := itemOf_spec g1
  have hsame : ∀ s ∈ looks ops.toList o, (backTo t0 late (putT size t oy.dst v)).get s = (backTo t0 late t).get s := fun s hs => by
    rw [backTo_get, backTo_get]
    by_cases hl : s ∈ late
    · rw [if_pos hl, if_pos hl]
    · rw [if_neg hl, if_neg hl, putT_get, if_neg]
      rintro ⟨hd, _⟩
      have hw := writer0_of hn hy hd
      rcases hsrc s hs with ⟨h1, _⟩ | ⟨j, a, b, h1, h2, h3, h4⟩
      · rw [hw] at h1; cases h1
      · rw [hw] at h1; cases h1
        rcases h4 with ⟨k1, _⟩ | ⟨_, _, k3⟩
        · rw [hm a h2] at k1; cases k1
        · exact hl k3
  have hold : ∀ u, Holds size t o.dst u → Holds size (putT size t oy.dst v) o.dst u := fun u hu s hs hlt => by
    rw [putT_get, if_neg]
    · exact hu s hs hlt
    · rintro ⟨hd, _⟩
      have h1 := writer0_of hn hy hd
      rw [writer0_of hn ho hs] at h1
      exact hne (Option.some.inj h1)
  refine ⟨o, late, g1, g2, ?_⟩
  rw [wanted_congr hsame]
  rcases g3 with ⟨k1, k2, k3⟩ | ⟨k1, u, k2, k3⟩
  · exact .inl ⟨k1, hold _ k2, k3⟩
  · refine .inr ⟨k1, u, hold _ k2, ?_⟩
    cases k3 with
    | pure _ hs => exact .pure u fun hc => let ⟨h0, m, e1, e2⟩ := hs hc; ⟨h0, m, e1, by rw [ev_congr hsame]; exact e2⟩
    | alloc id _ ob a b c d e => exact .alloc id u ob a b c d fun hc => let ⟨h0, e1, e2⟩ := e hc; ⟨h0, e1, by rw [ev_congr hsame]; exact e2⟩

theorem self_same {o : Oper} {late : List Nat} (hn : nodupB (dsts ops.toList) = true) (hit : itemOf ops.toList masks i = some (o, late)) (v : AVal) : ∀ s ∈ looks ops.toList o, (backTo t0 late (putT size t o.dst v)).get s = (backTo t0 late t).get s := by
  obtain ⟨ho, hsrc⟩ := itemOf_spec hit
  intro s hs
  rw [backTo_get, backTo_get]
  by_cases hl : s ∈ late
  · rw [if_pos hl, if_pos hl]
  · rw [if_neg hl, if_neg hl, putT_get, if_neg]
    rintro ⟨hd, _⟩
    have hw := writer0_of hn ho hd
    rcases hsrc s hs with ⟨h1, _⟩ | ⟨j, a, b, h1, h2, h3, h4⟩
    · rw [hw] at h1; cases h1
    · rw [hw] at h1; cases h1
      rcases h4 with ⟨_, _, k1, _⟩ | ⟨_, _, k3⟩
      · exact k1 rfl
      · exact hl k3
theorem holds_put (o : Oper) (v : AVal) : Holds size (putT size t o.dst v) o.dst v := fun s hs hlt => by rw [putT_get, if_pos ⟨hs, hlt⟩]

/-- The plan does a quiet operation. -/
theorem DFr.plan {o : Oper} {late : List Nat} {m : Nat} (D : DFr E ops masks size t0 t φ h nx lo true seen is T) (hit : itemOf ops.toList masks i = some (o, late)) (hm : masks[i]? = some m) (hq : quiet o.op = true) (hs : seen.testBit i = false)
    (hsub : ∀ j, m.testBit j = true → seen.testBit j = true) {h' : Heap} {nx' : Nat} {v : AVal} (hh : Sub h h') (hnx : nx ≤ nx') (hkeep : ∀ id, id < nx → h'.get id = h.get id)
    (hnew : ∃ a : Option Nat, (∀ id, a = some id → nx ≤ id) ∧
      ((wanted o.guard (backTo t0 late t) ops.toList = .no ∧ v = undef' ∧ a = none) ∨ (wanted o.guard (backTo t0 late t) ops.toList = .yes ∧ LagV E φ h' nx' lo true (backTo t0 late t) o.op a v))) :
    DFr E ops masks size t0 (putT size t o.dst v) φ h' nx' lo true (seen ||| 2 ^ i) is T := by
  obtain ⟨dn, S, hdn⟩ := D.sched
  obtain ⟨al, hl1, hl2⟩ := D.lag
  obtain ⟨a, ha, hcase⟩ := hnew
  obtain ⟨ho, hsrc⟩ := itemOf_spec hit
  have hi : i ∈ is := by
    rcases List.mem_append.1 (S.all i (lt_of_toL ho)) with hd | hd
    · rw [hdn i hd] at hs; cases hs
    · exact hd
  have alt : ∀ j ∈ is, seen.testBit j = true → ∀ id, al j = some id → id < nx := fun j hj hsj id hid => by
    obtain ⟨_, _, _, _, g⟩ := hl1 j hj hsj
    rcases g with ⟨_, _, g⟩ | ⟨_, _, _, g⟩
    · rw [hid] at g; cases g
    · rw [hid] at g
      cases g with
      | alloc _ _ _ _ hn _ _ _ => exact hn
  refine ⟨D.nd, ⟨dn, S, fun j hj => or_bit.2 (.inl (hdn j hj))⟩, D.slots.plan D.nd ho hi v, fun j mj hj hmj b hb => ?_, fun j => if j = i then a else al j, fun j hj hsj => ?_, fun j hj k hk hsj hsk id e1 e2 => ?_⟩
  · rcases or_bit.1 hj with hj | hj
    · exact or_bit.2 (.inl (D.clos j mj hj hmj b hb))
    · subst hj
      rw [hm] at hmj; cases hmj
      exact or_bit.2 (.inl (hsub b hb))
  · dsimp only
    by_cases e : j = i
    · subst e
      rw [if_pos rfl]
      have hsame := self_same (t0 := t0) (t := t) (size := size) D.nd hit v
      refine ⟨o, late, hit, hq, ?_⟩
      rw [wanted_congr hsame]
      rcases hcase with ⟨k1, k2, k3⟩ | ⟨k1, k2⟩
      · subst k2; exact .inl ⟨k1, holds_put o _, k3⟩
      · refine .inr ⟨k1, v, holds_put o v, ?_⟩
        cases k2 with
        | pure _ hs => exact .pure v fun hc => let ⟨h0, m, e1, e2⟩ := hs hc; ⟨h0, m, e1, by rw [ev_congr hsame]; exact e2⟩
        | alloc id _ ob a b c d e => exact .alloc id v ob a b c d fun hc => let ⟨h0, e1, e2⟩ := e hc; ⟨h0, e1, by rw [ev_congr hsame]; exact e2⟩
    · rw [if_neg e]
      have hsj : seen.testBit j = true := by
        rcases or_bit.1 hsj with g | g
        · exact g
        · exact absurd g e
      have L := (hl1 j hj hsj).put D.nd ho e (fun a ha => by
        cases hb : a.testBit i with
        | false => rfl
        | true => rw [D.clos j a hsj ha i hb] at hs; cases hs) v
      obtain ⟨oj, lj, g1, g2, g3⟩ := L
      refine ⟨oj, lj, g1, g2, ?_⟩
      rcases g3 with g3 | ⟨g3, u, g4, g5⟩
      · exact .inl g3
      · refine .inr ⟨g3, u, g4, ?_⟩
        generalize al j = aj at g5
        cases g5 with
        | pure _ hs => exact .pure u fun hc => let ⟨h0, m, e1, e2⟩ := hs hc; ⟨h0, m, e1.trans hh, e2⟩
        | alloc id _ ob a b c d e => exact .alloc id u ob a (Nat.lt_of_lt_of_le b hnx) c ((hkeep id b).trans d) fun hc => let ⟨h0, e1, e2⟩ := e hc; ⟨h0, e1.trans hh, e2⟩
  · dsimp only at e1 e2
    by_cases ej : j = i <;> by_cases ek : k = i
    · rw [ej, ek]
    · rw [if_pos ej] at e1
      rw [if_neg ek] at e2
      have hsk : seen.testBit k = true := (or_bit.1 hsk).resolve_right ek
      have := alt k hk hsk id e2
      have := ha id e1
      omega
    · rw [if_neg ej] at e1
      rw [if_pos ek] at e2
      have hsj : seen.testBit j = true := (or_bit.1 hsj).resolve_right ej
      have := alt j hj hsj id e1
      have := ha id e2
      omega
    · rw [if_neg ej] at e1
      rw [if_neg ek] at e2
      exact hl2 j hj k hk ((or_bit.1 hsj).resolve_right ej) ((or_bit.1 hsk).resolve_right ek) id e1 e2

/-- A loud operation is being run. -/
def DWait (E : Env) (ops : Array Oper) (masks : List Nat) (size : Nat) (t0 t : BT AVal) (φ : Phi) (h : Heap) (nx lo : Nat) (y : Nat) (o : Oper) (late : List Nat) (rest : List DItem) (post : List Nat) (T : Array Value) : Prop :=
  ∃ seen louds pl, itemOf ops.toList masks y = some (o, late) ∧ orderOK ops.toList masks seen louds (.l y :: pl) = true ∧ items ops.toList masks pl = some rest ∧ DFr E ops masks size t0 t φ h nx lo false seen (y :: post) T
/-- .. has been run. -/
def DTop (E : Env) (ops : Array Oper) (masks : List Nat) (size : Nat) (t0 t : BT AVal) (φ : Phi) (h : Heap) (nx lo : Nat) (rest : List DItem) (is : List Nat) (T : Array Value) : Prop :=
  ∃ seen louds pl isC x r, rest = .c x :: r ∧ items ops.toList masks pl = some r ∧ chkItems ops.toList masks isC = some x ∧ orderOK ops.toList masks seen louds pl = true ∧
    (∀ j ∈ is, seen.testBit j = true → ∀ o, ops.toList[j]? = some o → quiet o.op = true → reads o.op = true → j ∈ isC) ∧ DFr E ops masks size t0 t φ h nx lo false seen is T

theorem DWait.mono {φ' : Phi} {h' : Heap} {nx' : Nat} {y : Nat} {o : Oper} {late : List Nat} {rest : List DItem} {post : List Nat} (W : DWait E ops masks size t0 t φ h nx lo y o late rest post T) (X : ExtB nx φ h φ' h') (hn : nx ≤ nx') : DWait E ops masks size t0 t φ' h' nx' lo y o late rest post T :=
  let ⟨a, b, c, d, e, f, g⟩ := W; ⟨a, b, c, d, e, f, g.mono X hn⟩

theorem DWait.finish {y : Nat} {o : Oper} {late : List Nat} {rest : List DItem} {post : List Nat} (W : DWait E ops masks size t0 t φ h nx lo y o late rest post T) {v : AVal} {v' : Value} (hv : VRel φ v v') :
    DTop E ops masks size t0 (putT size t o.dst v) φ h nx lo rest post (putA T o.dst v') := by
  obtain ⟨seen, louds, pl, hit, hord, hits, D⟩ := W
  obtain ⟨dn, S, hdn⟩ := D.sched
  obtain ⟨al, hl1, hl2⟩ := D.lag
  obtain ⟨ho, hsrc⟩ := itemOf_spec hit
  cases pl with
  | nil => exact (order_l1 hord).elim
  | cons p pl =>
    obtain ⟨o', m, isC, rfl, h1, h2, h3, h4, h5, h6, h7, h8⟩ := order_l hord
    rw [ho] at h1; cases h1
    obtain ⟨l', g1, g2⟩ := items_cons hits
    rcases g2 with ⟨_, _, _, g, _⟩ | ⟨_, _, _, g, _⟩ | ⟨is', x, g, hx, hrest⟩ | ⟨_, _, _, _, _, _, g, _⟩
    · cases g
    · cases g
    rotate_left
    · cases g
    · cases g
      have hne : ∀ j ∈ post, j ≠ y := fun j hj e => S.head_not.1 (e ▸ hj)
      have hseen : ∀ j ∈ post, (seen ||| 2 ^ y).testBit j = true → seen.testBit j = true := fun j hj h => (or_bit.1 h).resolve_right (hne j hj)
      refine ⟨_, _, pl, isC, x, l', hrest, g1, hx, h8, fun j hj hsj oj hoj hqj hrj => ?_, D.nd, ⟨dn ++ [y], by simpa using S, fun j hj => ?_⟩, (D.slots.plan D.nd ho List.mem_cons_self v).model D.nd ho S.head_not.1 (fun s e1 e2 u hu => ?_),
        fun j mj hj hmj b hb => ?_, al, fun j hj hsj => ?_, fun a ha b hb sa sb => hl2 a (List.mem_cons_of_mem _ ha) b (List.mem_cons_of_mem _ hb) (hseen a ha sa) (hseen b hb sb)⟩
      · have := quietReads ops.toList 0 h7 j oj hoj (by rw [Nat.zero_add]; exact hseen j hj hsj) (by
          rw [Nat.zero_add]
          cases hb : m.testBit j with
          | false => rfl
          | true =>
            have := S.order dn y post rfl m h2 j hb
            exact absurd (List.mem_cons_of_mem _ hj) (S.dn_not this)) hqj hrj
        rwa [Nat.zero_add] at this
      · rcases List.mem_append.1 hj with hj | hj
        · exact or_bit.2 (.inl (hdn j hj))
        · rw [List.mem_singleton.1 hj]; exact or_bit.2 (.inr rfl)
      · rw [putT_get, if_pos ⟨e1, e2⟩] at hu; cases hu
        exact hv
      · rcases or_bit.1 hj with hj | hj
        · exact or_bit.2 (.inl (D.clos j mj hj hmj b hb))
        · subst hj
          rw [h2] at hmj; cases hmj
          exact or_bit.2 (.inl (h5 b hb))
      · have hs := hseen j hj hsj
        exact (hl1 j (List.mem_cons_of_mem _ hj) hs).put D.nd ho (hne j hj) (fun a ha => by
          cases hb : a.testBit y with
          | false => rfl
          | true => rw [D.clos j a hs ha y hb] at h4; cases h4) v

/-- What is asked again. -/
theorem DTop.chk {x : List (Nat × Oper × List Nat)} {r : List DItem} (W : DTop E ops masks size t0 t φ h nx lo (.c x :: r) is T) (hc : x.all (chkOne E ops.toList t0 t h nx) = true) :
    ∃ seen louds pl, items ops.toList masks pl = some r ∧ orderOK ops.toList masks seen louds pl = true ∧ DFr E ops masks size t0 t φ h nx lo true seen is T := by
  obtain ⟨seen, louds, pl, isC, x', r', e, h1, h2, h3, hcov, D⟩ := W
  cases e
  obtain ⟨al, hl1, hl2⟩ := D.lag
  refine ⟨seen, louds, pl, h1, h3, D.nd, D.sched, D.slots, D.clos, fun j => match ops.toList[j]? with | some o => (match reads o.op with | true => none | false => al j) | none => al j, fun j hj hsj => ?_, fun a ha b hb sa sb id e1 e2 => ?_⟩
  · obtain ⟨o, late, g1, g2, g3⟩ := hl1 j hj hsj
    obtain ⟨ho, _⟩ := itemOf_spec g1
    dsimp only
    rw [ho]
    dsimp only
    refine ⟨o, late, g1, g2, ?_⟩
    rcases g3 with ⟨k1, k2, k3⟩ | ⟨k1, v, k2, k3⟩
    · refine .inl ⟨k1, k2, ?_⟩
      cases reads o.op with
      | true => rfl
      | false => exact k3
    · cases hr : reads o.op with
      | false =>
        refine .inr ⟨k1, v, k2, ?_⟩
        dsimp only
        generalize al j = aj at k3
        cases k3 with
        | pure _ hs => exact .pure v fun _ => hs (.inr hr)
        | alloc id _ ob a b c d e => exact .alloc id v ob a b c d fun _ => e (.inr hr)
      | true =>
        obtain ⟨o', late', e1, e2⟩ := chkItems_mem isC x h2 j (hcov j hj hsj o ho g2 hr)
        rw [g1] at e1; cases e1
        have hone := List.all_eq_true.1 hc _ e2
        unfold chkOne at hone
        dsimp only at hone
        rw [k1] at hone
        cases hd : o.dst with
        | none => rw [hd] at hone; cases hone
        | some d =>
          rw [hd] at hone
          dsimp only at hone
          cases hev : evOp ⟨E, backTo t0 late t, h, nx⟩ o.op with
          | val u e nx' =>
            rw [hev] at hone
            cases e with
            | cons _ _ => cases hone
            | nil =>
              dsimp only at hone
              rw [Bool.and_eq_true] at hone
              have en := Nat.eq_of_beq_eq_true hone.1
              have ev := veq_eq _ _ _ hone.2
              subst en
              refine .inr ⟨k1, u, ?_, .pure u fun _ => ⟨h, nx', Sub.refl h, hev⟩⟩
              intro s hs hlt
              have := k2 s (hd.trans hs) hlt
              cases hs
              rw [ev, getT_eq, this]; rfl
          | _ => rw [hev] at hone; cases hone
  · have key : ∀ (j : Nat) (id : Nat), (match ops.toList[j]? with | some o => (match reads o.op with | true => none | false => al j) | none => al j) = some id → al j = some id := fun j id h => by
      cases ho : ops.toList[j]? with
      | none => rw [ho] at h; exact h
      | some o =>
        rw [ho] at h
        dsimp only at h
        cases hr : reads o.op with
        | true => rw [hr] at h; cases h
        | false => rw [hr] at h; exact h
    exact hl2 a ha b hb sa sb id (key a id e1) (key b id e2)

theorem defer_shape {x0 : Cx} {c : Call} : (∃ d, evOp x0 (.defer c) = .defer d) ∨ ∃ w, evOp x0 (.defer c) = .stuck w := by
  show (∃ d, op_defer x0 c = .defer d) ∨ ∃ w, op_defer x0 c = .stuck w
  unfold op_defer
  split
  · split
    · exact .inl ⟨_, rfl⟩
    · exact .inr ⟨_, rfl⟩
  · exact .inr ⟨_, rfl⟩

/-- How a region that draws its order is left. -/
inductive DOK (E : Env) (P : Program) (w0 : World) (size : Nat) (ops : Array Oper) (masks : List Nat) (t0 : BT AVal) (lo : Nat) (f : FuncId) (k : List Item) (ds : List Deferred) (kd : CallKind) (ro : Option Nat) (φ : Phi) (w : World) (T : Array Value) : RD → List Item → Prop
  | fin (t : BT AVal) (h : Heap) (nx : Nat) (R : Rep w0 φ h nx w) (ht : TRel φ size t T) : DOK E P w0 size ops masks t0 lo f k ds kd ro φ w T (.fin t h nx) k
  | at (y : Nat) (o : Oper) (late : List Nat) (rest : List DItem) (post : List Nat) (t : BT AVal) (h : Heap) (nx : Nat) (r : OpR) (R : Rep w0 φ h nx w) (ho : ops[y]? = some o) (hw : Region.wanted o (yielded ops T) = true)
      (hr : OpOK P w0 φ h nx w (execOp (F f T (.inRegion ops (y :: post) :: k) ds kd ro).eval o) r) (hp : ∀ c, o.op = .defer c → (∃ d, r = .defer d) ∨ ∃ s, r = .stuck s)
      (W : DWait E ops masks size t0 t φ h nx lo y o late rest post T) : DOK E P w0 size ops masks t0 lo f k ds kd ro φ w T (.at (.l y o late :: rest) t h nx r) (.inRegion ops (y :: post) :: k)
  | stuck (rest : List DItem) (t : BT AVal) (h : Heap) (nx : Nat) (why : String) (k' : List Item) : DOK E P w0 size ops masks t0 lo f k ds kd ro φ w T (.at rest t h nx (.stuck why)) k'


theorem runD_c (x : List (Nat × Oper × List Nat)) (r : List DItem) : runD E ops.toList size t0 (.c x :: r) t h nx = match x.all (chkOne E ops.toList t0 t h nx) with | true => runD E ops.toList size t0 r t h nx | false => .at [] t h nx (.stuck "an unsteady read") := rfl
theorem runD_q (o : Oper) (late : List Nat) (r : List DItem) : runD E ops.toList size t0 (.q i o late :: r) t h nx = runQ E ops.toList size t0 o late t h nx (runD E ops.toList size t0 r) (fun _ => .at [] t h nx (.stuck "a quiet operation")) := rfl
theorem runD_l (o : Oper) (late : List Nat) (r : List DItem) : runD E ops.toList size t0 (.l i o late :: r) t h nx = runQ E ops.toList size t0 o late t h nx (runD E ops.toList size t0 r) (fun x => .at (.l i o late :: r) t h nx x) := rfl
theorem putTKD_eq (size : Nat) (t : BT AVal) (d : Option Nat) (v : AVal) (k : BT AVal → RD) : putTKD size t d v k = k (putT size t d v) := by
  cases d with
  | none => rfl
  | some d =>
    show (Bool.rec (motive := fun _ => RD) (k t) (BT.putK (some v) (BT.path d) t k) (Nat.ble (Nat.succ d) size) : RD) = k (Bool.rec (motive := fun _ => BT AVal) t (BT.putP (some v) (BT.path d) t) (Nat.ble (Nat.succ d) size))
    cases Nat.ble (Nat.succ d) size with
    | false => rfl
    | true => exact BT.putK_eq _ _ _ _
theorem applyEffKD_eq : ∀ (e : Eff) (h : Heap) (k : Heap → RD), applyEffKD e h k = k (applyEff h e)
  | [], h, k => rfl
  | p :: e, h, k => by
    show BT.putK p.2 (BT.path p.1) h (fun h => applyEffKD e h k) = _
    rw [BT.putK_eq, applyEffKD_eq e]
    show k (applyEff (BT.putP p.2 (BT.path p.1) h) e) = k (applyEff (BT.putF p.2 (Nat.succ p.1) h p.1) e)
    rw [BT.putF_path]
theorem forceND_eq (n : Nat) (k : Nat → RD) : forceND n k = k n := by cases n <;> rfl
theorem OpR.notval (r : OpR) : (∃ v e n, r = .val v e n) ∨ ∀ (k : AVal → Eff → Nat → RD) (out : OpR → RD), (match r with | .val v e n => k v e n | r => out r) = out r := by
  cases r with
  | val v e n => exact .inl ⟨v, e, n, rfl⟩
  | _ => exact .inr fun _ _ => rfl

theorem items_len {ops : List Oper} {masks : List Nat} : ∀ {pl : List PI} {l : List DItem}, items ops masks pl = some l → pl.length = l.length
  | [], l, h => by cases h; rfl
  | p :: pl, l, h => by
    obtain ⟨l', h1, h2⟩ := items_cons h
    have := items_len h1
    rcases h2 with ⟨_, _, _, _, _, rfl⟩ | ⟨_, _, _, _, _, rfl⟩ | ⟨_, _, _, _, rfl⟩ | ⟨_, _, _, _, _, _, _, _, _, rfl⟩ <;> simp [this]

theorem applyEff_one (h : Heap) (id : Nat) (o : Option AObj) : applyEff h [(id, o)] = h.put id o := rfl

/-! ### Two stores to two objects -/
theorem store_shape {x0 : Cx} {op : Op} (hs : isStore op = true) {v : AVal} {e : Eff} {nx' : Nat} (h : evOp x0 op = .val v e nx') : v = undef' ∧ nx' = x0.nx ∧ ∃ id o, e = [(id, some o)] := by
  cases op with
  | store t a x =>
    have h : op_store x0 t a x = .val v e nx' := h
    unfold op_store at h
    split at h
    · split at h
      · cases h; exact ⟨rfl, rfl, _, _, rfl⟩
      · cases h
    · cases h
  | _ => cases hs
theorem store_congr {t : BT AVal} {h h2 : Heap} {nx nx2 : Nat} {op : Op} (hs : isStore op = true) {v : AVal} {b : Nat} {o : AObj} (h1 : evOp ⟨E, t, h, nx⟩ op = .val v [(b, some o)] nx2) (hb : h2.get b = h.get b) :
    evOp ⟨E, t, h2, nx⟩ op = .val v [(b, some o)] nx2 := by
  cases op with
  | store ty a x =>
    have h1 : op_store ⟨E, t, h, nx⟩ ty a x = .val v [(b, some o)] nx2 := h1
    show op_store ⟨E, t, h2, nx⟩ ty a x = _
    unfold op_store at h1 ⊢
    dsimp only at h1 ⊢
    split at h1
    · rename_i id off hev
      cases hst : storeAt E h ty id off (evalT E.ng t x) with
      | none => rw [hst] at h1; cases h1
      | some ob =>
        rw [hst] at h1
        have hid : id = b := by cases h1; rfl
        have : storeAt E h2 ty id off (evalT E.ng t x) = storeAt E h ty id off (evalT E.ng t x) := by unfold storeAt; rw [hid, hb]
        rw [this, hst]
        exact h1
    · cases h1
  | _ => cases hs
theorem store_notdefer {op : Op} {ro : Option Nat} (hs : isStore op = true) : plainOp ro op := fun l c _ e => by subst e; cases hs

/-- The model runs an operation without a slot that the plan has not done. -/
theorem DFr.loudNone {o : Oper} {m : Nat} (D : DFr E ops masks size t0 t φ h nx lo st seen (i :: is) T) (ho : ops.toList[i]? = some o) (hd : o.dst = none) (hm : masks[i]? = some m) (hsub : ∀ j, m.testBit j = true → seen.testBit j = true) :
    DFr E ops masks size t0 t φ h nx lo st (seen ||| 2 ^ i) is T := by
  obtain ⟨dn, S, hdn⟩ := D.sched
  obtain ⟨al, hl1, hl2⟩ := D.lag
  have hne : ∀ j ∈ is, j ≠ i := fun j hj e => S.head_not.1 (e ▸ hj)
  have hseen : ∀ j ∈ is, (seen ||| 2 ^ i).testBit j = true → seen.testBit j = true := fun j hj h => (or_bit.1 h).resolve_right (hne j hj)
  have hsl := D.slots.model D.nd ho S.head_not.1 (v' := undef) (fun s e => by rw [hd] at e; cases e)
  rw [hd] at hsl
  refine ⟨D.nd, ⟨dn ++ [i], by simpa using S, fun j hj => ?_⟩, hsl, fun j mj hj hmj b hb => ?_, al, fun j hj hsj => hl1 j (List.mem_cons_of_mem _ hj) (hseen j hj hsj), fun a ha b hb sa sb => hl2 a (List.mem_cons_of_mem _ ha) b (List.mem_cons_of_mem _ hb) (hseen a ha sa) (hseen b hb sb)⟩
  · rcases List.mem_append.1 hj with hj | hj
    · exact or_bit.2 (.inl (hdn j hj))
    · rw [List.mem_singleton.1 hj]; exact or_bit.2 (.inr rfl)
  · rcases or_bit.1 hj with hj | hj
    · exact or_bit.2 (.inl (D.clos j mj hj hmj b hb))
    · subst hj
      rw [hm] at hmj; cases hmj
      exact or_bit.2 (.inl (hsub b hb))
/-- Where nothing that is still to come reads. -/
theorem DFr.steady (D : DFr E ops masks size t0 t φ h nx lo false seen is T) (hr : ∀ j ∈ is, seen.testBit j = true → ∀ o, ops.toList[j]? = some o → quiet o.op = true → reads o.op = false) : DFr E ops masks size t0 t φ h nx lo true seen is T := by
  obtain ⟨al, hl1, hl2⟩ := D.lag
  refine ⟨D.nd, D.sched, D.slots, D.clos, al, fun j hj hsj => ?_, hl2⟩
  obtain ⟨o, late, g1, g2, g3⟩ := hl1 j hj hsj
  have hrd := hr j hj hsj o (itemOf_spec g1).1 g2
  refine ⟨o, late, g1, g2, ?_⟩
  rcases g3 with g3 | ⟨g3, v, g4, g5⟩
  · exact .inl g3
  · refine .inr ⟨g3, v, g4, ?_⟩
    generalize al j = aj at g5
    cases g5 with
    | pure _ hs => exact .pure v fun _ => hs (.inr hrd)
    | alloc id _ ob a b c d e => exact .alloc id v ob a b c d fun _ => e (.inr hrd)

theorem pair_sound {P : Program} (hE : EnvOK E P) {w0 w : World} {f : FuncId} {k : List Item} {ds : List Deferred} {kd : CallKind} {ro : Option Nat} {cs : List Frame} {x y : Nat} {ox oy : Oper} {lx ly : List Nat} {mx my : Nat} {a b : Nat} {pa pb : AObj} {vx vy : AVal} {n1 n2 : Nat} {pre mid post : List Nat}
    (D : DFr E ops masks size t0 t φ h nx lo true seen (pre ++ x :: (mid ++ y :: post)) T) (R : Rep w0 φ h nx w) (G : GlobOK E.ng φ) (hlo : lo ≤ nx)
    (hix : itemOf ops.toList masks x = some (ox, lx)) (hiy : itemOf ops.toList masks y = some (oy, ly)) (hmx : masks[x]? = some mx) (hmy : masks[y]? = some my) (hsx : isStore ox.op = true) (hsy : isStore oy.op = true) (hdx : ox.dst = none) (hdy : oy.dst = none)
    (hne : x ≠ y) (hux : seen.testBit x = false) (huy : seen.testBit y = false)
    (hx1 : ∀ j, mx.testBit j = true → seen.testBit j = true) (hy1 : ∀ j, my.testBit j = true → seen.testBit j = true) (hrx : allQuietReads ops.toList seen mx [] 0 ops.toList = true) (hry : allQuietReads ops.toList seen my [] 0 ops.toList = true)
    (hbe : ∀ j, j < ops.toList.length → seen.testBit j = true ∨ j = x ∨ j = y ∨ ∃ m, masks[j]? = some m ∧ m.testBit x = true ∧ m.testBit y = true)
    (hwx : wanted ox.guard (backTo t0 lx t) ops.toList = .yes) (hwy : wanted oy.guard (backTo t0 ly t) ops.toList = .yes)
    (hex : evOp ⟨E, backTo t0 lx t, h, nx⟩ ox.op = .val vx [(a, some pa)] n1) (hey : evOp ⟨E, backTo t0 ly t, h, nx⟩ oy.op = .val vy [(b, some pb)] n2) (hab : a ≠ b) :
    ∃ φ' T' w', Steps P (lone (F f T (.inRegion ops (pre ++ x :: (mid ++ y :: post)) :: k) ds kd ro) cs w) (lone (F f T' (.inRegion ops post :: k) ds kd ro) cs w') ∧ DFr E ops masks size t0 t φ' ((h.put a (some pa)).put b (some pb)) nx lo true (seen ||| 2 ^ x ||| 2 ^ y) post T' ∧
      Rep w0 φ' ((h.put a (some pa)).put b (some pb)) nx w' ∧ ExtB lo φ h φ' ((h.put a (some pa)).put b (some pb)) := by
  obtain ⟨hox, _⟩ := itemOf_spec hix
  obtain ⟨hoy, _⟩ := itemOf_spec hiy
  obtain ⟨dn, S, hdn⟩ := D.sched
  have hnd := S.nodup
  -- what comes ahead of x, and between
  have hpre : ∀ j ∈ pre, seen.testBit j = true := fun j hj => by
    have hjl : j < ops.toList.length := by
      have := S.lt j (by simp [hj])
      simpa using this
    obtain ⟨p1, q1, hp1⟩ := List.append_of_mem hj
    have e : dn ++ (pre ++ x :: (mid ++ y :: post)) = (dn ++ p1) ++ j :: (q1 ++ x :: (mid ++ y :: post)) := by rw [hp1]; simp
    rcases hbe j hjl with g | rfl | rfl | ⟨mj, g1, g2, g3⟩
    · exact g
    · exfalso
      rw [e, List.nodup_append] at hnd
      exact (List.nodup_cons.1 hnd.2.1).1 (by simp)
    · exfalso
      rw [e, List.nodup_append] at hnd
      exact (List.nodup_cons.1 hnd.2.1).1 (by simp)
    · exfalso
      have := S.order (dn ++ p1) j _ e mj g1 x g2
      rw [e, List.nodup_append] at hnd
      exact hnd.2.2 x this x (by simp) rfl
  have hmid : ∀ j ∈ mid, seen.testBit j = true := fun j hj => by
    have hjl : j < ops.toList.length := by
      have := S.lt j (by simp [hj])
      simpa using this
    obtain ⟨p1, q1, hp1⟩ := List.append_of_mem hj
    have e : dn ++ (pre ++ x :: (mid ++ y :: post)) = (dn ++ pre ++ x :: p1) ++ j :: (q1 ++ y :: post) := by rw [hp1]; simp
    rcases hbe j hjl with g | rfl | rfl | ⟨mj, g1, g2, g3⟩
    · exact g
    · exfalso
      rw [e, List.nodup_append] at hnd
      exact hnd.2.2 j (by simp) j (by simp) rfl
    · exfalso
      rw [e, List.nodup_append] at hnd
      exact (List.nodup_cons.1 hnd.2.1).1 (by simp)
    · exfalso
      have := S.order _ j _ e mj g1 y g3
      rw [e, List.nodup_append] at hnd
      exact hnd.2.2 y this y (by simp) rfl
  obtain ⟨φ1, T1, w1, s1, D1, R1, X1⟩ := realizes (f := f) (k := k) (ds := ds) (kd := kd) (ro := ro) (cs := cs) hE pre _ φ T w D R G hpre
  -- the first store
  have ev1 : ∀ {φ1 : Phi} {h1 : Heap} {T1 : Array Value} {w1 : World} {z : Nat} {oz : Oper} {lz : List Nat} {pz : AObj} {vz : AVal} {c n3 : Nat} {sn : Nat} {rest : List Nat}, DFr E ops masks size t0 t φ1 h1 nx lo true sn (z :: rest) T1 → Rep w0 φ1 h1 nx w1 → GlobOK E.ng φ1 →
      itemOf ops.toList masks z = some (oz, lz) → isStore oz.op = true → oz.dst = none → wanted oz.guard (backTo t0 lz t) ops.toList = .yes → evOp ⟨E, backTo t0 lz t, h1, nx⟩ oz.op = .val vz [(c, some pz)] n3 →
      ∃ φ2 w2, step P (lone (F f T1 (.inRegion ops (z :: rest) :: k) ds kd ro) cs w1) = .next (lone (F f T1 (.inRegion ops rest :: k) ds kd ro) cs w2) ∧ Rep w0 φ2 (h1.put c (some pz)) nx w2 ∧ ExtB nx φ1 h1 φ2 (h1.put c (some pz)) := by
    intro φ1 h1 T1 w1 z oz lz pz vz c n3 sn rest D1 R1 G1 hiz hsz hdz hwz hez
    obtain ⟨hoz, _⟩ := itemOf_spec hiz
    obtain ⟨tc, htc, hsame⟩ := D1.look hiz
    have hwr := wanted_rel htc ops oz
    rw [wanted_congr hsame] at hwr
    have O := fun x => eval_rel (f := f) (k := .inRegion ops (z :: rest) :: k) (ds := ds) (kd := kd) (ro := ro) G1 htc x
    have hop := evOp_sound (x0 := ⟨E, tc, h1, nx⟩) hE R1 O oz R1
    rw [ev_congr hsame, hez] at hop
    obtain ⟨_, en, _⟩ := store_shape hsz hez
    obtain ⟨r, v', w2, φ2, e1, e2, e3, e4, e5, e6, e7⟩ := hop
    dsimp only at en
    subst en
    have hst := st_value (P := P) (f := f) (k := k) (ds := ds) (kd := kd) (ro := ro) (cs := cs) (toL hoz) (hwr.1 hwz) (store_notdefer hsz) e1 e2
    rw [hdz] at hst
    exact ⟨φ2, w2, hst, e5, e3, fun id a b => e7 id b a⟩
  obtain ⟨φ2, w2, s2, R2, X2⟩ := ev1 D1 R1 (G.mono X1.le) hix hsx hdx hwx hex
  have D2 := ((D1.loudNone hox hdx hmx hx1).mono X2 (Nat.le_refl _))
  obtain ⟨dn2, S2, hdn2⟩ := D1.sched
  have noread : ∀ {sn : Nat} {m z : Nat} {dn3 rest : List Nat}, SchedM ops.size masks (dn3 ++ z :: rest) → masks[z]? = some m → allQuietReads ops.toList seen m [] 0 ops.toList = true → ∀ j ∈ rest, seen.testBit j = true → ∀ o, ops.toList[j]? = some o → quiet o.op = true → reads o.op = false := by
    intro sn m z dn3 rest S3 hm3 hr3 j hj hsj o hoj hqj
    cases hrd : reads o.op with
    | false => rfl
    | true =>
      have hmj : m.testBit j = false := by
        cases hb : m.testBit j with
        | false => rfl
        | true =>
          have := S3.order dn3 z rest rfl m hm3 j hb
          exact absurd (List.mem_cons_of_mem _ hj) (S3.dn_not this)
      have := quietReads ops.toList 0 hr3 j o hoj (by rw [Nat.zero_add]; exact hsj) (by rw [Nat.zero_add]; exact hmj) hqj hrd
      cases this
  have D2' := D2.steady (fun j hj hsj o hoj hqj => by
    have hjx : j ≠ x := fun e => S2.head_not.1 (e ▸ hj)
    exact noread (sn := 0) S2 hmx hrx j hj ((or_bit.1 hsj).resolve_right hjx) o hoj hqj)
  obtain ⟨φ3, T3, w3, s3, D3, R3, X3⟩ := realizes (f := f) (k := k) (ds := ds) (kd := kd) (ro := ro) (cs := cs) hE mid (y :: post) φ2 T1 w2 D2' R2 ((G.mono X1.le).mono X2.le) (fun j hj => or_bit.2 (.inl (hmid j hj)))
  have hey2 := store_congr (h2 := h.put a (some pa)) hsy hey (by rw [BT.get_put, if_neg (Ne.symm hab)])
  obtain ⟨φ4, w4, s4, R4, X4⟩ := ev1 D3 R3 (((G.mono X1.le).mono X2.le).mono X3.le) hiy hsy hdy hwy hey2
  have D4 := ((D3.loudNone hoy hdy hmy (fun j hj => or_bit.2 (.inl (hy1 j hj)))).mono X4 (Nat.le_refl _))
  obtain ⟨dn4, S4, hdn4⟩ := D3.sched
  have D4' := D4.steady (fun j hj hsj o hoj hqj => by
    have hjy : j ≠ y := fun e => S4.head_not.1 (e ▸ hj)
    have hjx : j ≠ x := fun e => by
      rw [show dn ++ (pre ++ x :: (mid ++ y :: post)) = (dn ++ pre) ++ x :: (mid ++ y :: post) by simp, List.nodup_append] at hnd
      exact (List.nodup_cons.1 hnd.2.1).1 (e ▸ by simp [hj])
    exact noread (sn := 0) S4 hmy hry j hj ((or_bit.1 ((or_bit.1 hsj).resolve_right hjy)).resolve_right hjx) o hoj hqj)
  exact ⟨φ4, T3, w4, s1.trans (.head s2 (s3.trans (.one s4))), D4', R4, (X1.trans (X2.sub hlo)).trans (X3.trans (X4.sub hlo))⟩

theorem Rep.congrH {w0 : World} {φ : Phi} {h h2 : Heap} {nx : Nat} {w : World} (R : Rep w0 φ h nx w) (e : ∀ id, h2.get id = h.get id) : Rep w0 φ h2 nx w := R.sub fun id o ho => by rw [← e]; exact ho
theorem DFr.congrH {h2 : Heap} (D : DFr E ops masks size t0 t φ h nx lo st seen is T) (e : ∀ id, h2.get id = h.get id) : DFr E ops masks size t0 t φ h2 nx lo st seen is T := by
  obtain ⟨al, hl1, hl2⟩ := D.lag
  have hsub : ∀ h0, Sub h0 h → Sub h0 h2 := fun h0 s id o ho => by rw [e]; exact s id o ho
  refine ⟨D.nd, D.sched, D.slots, D.clos, al, fun j hj hsj => ?_, hl2⟩
  obtain ⟨o, late, g1, g2, g3⟩ := hl1 j hj hsj
  refine ⟨o, late, g1, g2, ?_⟩
  rcases g3 with g3 | ⟨g3, v, g4, g5⟩
  · exact .inl g3
  · refine .inr ⟨g3, v, g4, ?_⟩
    generalize al j = aj at g5
    cases g5 with
    | pure _ hs => exact .pure v fun hc => let ⟨h0, m, k1, k2⟩ := hs hc; ⟨h0, m, hsub _ k1, k2⟩
    | alloc id _ ob a b c d e' => exact .alloc id v ob a b c ((e id).trans d) fun hc => let ⟨h0, k1, k2⟩ := e' hc; ⟨h0, hsub _ k1, k2⟩
theorem or_swap (a i j : Nat) : a ||| 2 ^ i ||| 2 ^ j = a ||| 2 ^ j ||| 2 ^ i := by
  rw [Nat.or_assoc, Nat.or_assoc, Nat.or_comm (2 ^ i)]
theorem put_swap (h : Heap) {a b : Nat} (hab : a ≠ b) (x y : Option AObj) (id : Nat) : ((h.put a x).put b y).get id = ((h.put b y).put a x).get id := by
  simp only [BT.get_put]
  by_cases e1 : id = a <;> by_cases e2 : id = b <;> simp_all

/-- Which of two comes first. -/
theorem two_split {x y : Nat} : ∀ {is : List Nat}, x ∈ is → y ∈ is → x ≠ y → (∃ pre mid post, is = pre ++ x :: (mid ++ y :: post)) ∨ (∃ pre mid post, is = pre ++ y :: (mid ++ x :: post))
  | [], hx, _, _ => by cases hx
  | z :: is, hx, hy, hne => by
    rcases List.mem_cons.1 hx with rfl | hx2
    · rcases List.mem_cons.1 hy with rfl | hy2
      · exact absurd rfl hne
      · obtain ⟨m, p, rfl⟩ := List.append_of_mem hy2
        exact .inl ⟨[], m, p, rfl⟩
    · rcases List.mem_cons.1 hy with rfl | hy2
      · obtain ⟨m, p, rfl⟩ := List.append_of_mem hx2
        exact .inr ⟨[], m, p, rfl⟩
      · rcases two_split hx2 hy2 hne with ⟨a, b, c, rfl⟩ | ⟨a, b, c, rfl⟩
        · exact .inl ⟨z :: a, b, c, rfl⟩
        · exact .inr ⟨z :: a, b, c, rfl⟩

theorem runD_p {o o' : Oper} {late late' : List Nat} {i j : Nat} (r : List DItem) : runD E ops.toList size t0 (.p i o late j o' late' :: r) t h nx = runP E ops.toList size t0 o late o' late' t h nx (runD E ops.toList size t0 r) := rfl

theorem runD_sound {P : Program} (hE : EnvOK E P) {w0 : World} {f : FuncId} {k : List Item} {ds : List Deferred} {kd : CallKind} {ro : Option Nat} {cs : List Frame} :
    ∀ (n : Nat) (pl : List PI) (todo : List DItem) (seen louds : Nat) (is : List Nat) (t : BT AVal) (φ : Phi) (h : Heap) (nx : Nat) (T : Array Value) (w : World), pl.length ≤ n → items ops.toList masks pl = some todo → orderOK ops.toList masks seen louds pl = true →
    DFr E ops masks size t0 t φ h nx lo true seen is T → Rep w0 φ h nx w → GlobOK E.ng φ → lo ≤ nx →
    ∃ φ' T' k' w', Steps P (lone (F f T (.inRegion ops is :: k) ds kd ro) cs w) (lone (F f T' k' ds kd ro) cs w') ∧ ExtB lo φ h φ' (runD E ops.toList size t0 todo t h nx).h ∧ nx ≤ (runD E ops.toList size t0 todo t h nx).nx ∧
      DOK E P w0 size ops masks t0 lo f k ds kd ro φ' w' T' (runD E ops.toList size t0 todo t h nx) k' := by
  intro n
  induction n with
  | zero =>
    intro pl todo seen louds is t φ h nx T w hn hits hord D R G hlo
    cases pl with
    | cons p pl => simp at hn
    | nil =>
      cases hits
      obtain ⟨dn, S, hdn⟩ := D.sched
      have D' : DFr E ops masks size t0 t φ h nx lo true seen (is ++ []) T := by rw [List.append_nil]; exact D
      obtain ⟨φ', T', w', s, D2, R2, X⟩ := realizes (f := f) (k := k) (ds := ds) (kd := kd) (ro := ro) (cs := cs) hE is [] φ T w D' R G (fun j hj => order_nil hord j (by
        have := S.lt j (List.mem_append_right _ hj)
        simpa using this))
      rw [List.append_nil] at s
      exact ⟨φ', T', k, w', s.trans (.one st_regionEnd), X, Nat.le_refl _, .fin t h nx R2 D2.slots.done⟩
  | succ n ih =>
    intro pl todo seen louds is t φ h nx T w hn hits hord D R G hlo
    cases pl with
    | nil => exact ih [] todo seen louds is t φ h nx T w (Nat.zero_le _) hits hord D R G hlo
    | cons p pl =>
      have hn' : pl.length ≤ n := by simp at hn; exact hn
      obtain ⟨l', hits', hp⟩ := items_cons hits
      obtain ⟨dn, S, hdn⟩ := D.sched
      rcases hp with ⟨i, o, late, rfl, hit, rfl⟩ | ⟨i, o, late, rfl, hit, rfl⟩ | ⟨_, _, rfl, _, _⟩ | ⟨i, o, late, j, o', late', rfl, hit, hjt, rfl⟩
      · obtain ⟨o', m, h1, h2, h3, h4, h5, h6, h7⟩ := order_q hord
        obtain ⟨ho, _⟩ := itemOf_spec hit
        rw [ho] at h1; cases h1
        rw [runD_q]
        unfold runQ
        cases hw : wanted o.guard (backTo t0 late t) ops.toList with
        | no =>
          dsimp only
          rw [putTKD_eq]
          exact ih pl l' _ louds is _ φ h nx T w hn' hits' h7 (D.plan hit h2 h3 h4 h5 (Sub.refl h) (Nat.le_refl _) (fun _ _ => rfl) ⟨none, (fun id e => by cases e), .inl ⟨hw, rfl, rfl⟩⟩) R G hlo
        | unk => exact ⟨φ, T, _, w, Steps.refl _ _, ExtB.refl _ _ _, Nat.le_refl _, .stuck _ _ _ _ _ (.inRegion ops is :: k)⟩
        | yes =>
          dsimp only
          have hsh := quiet_shape ⟨E, backTo t0 late t, h, nx⟩ o.op h3
          cases hev : evOp ⟨E, backTo t0 late t, h, nx⟩ o.op with
          | val v e nx' =>
            rw [hev] at hsh
            dsimp only
            rw [putTKD_eq, applyEffKD_eq, forceND_eq]
            cases hsh with
            | pure _ =>
              exact ih pl l' _ louds is _ φ h nx T w hn' hits' h7 (D.plan hit h2 h3 h4 h5 (Sub.refl h) (Nat.le_refl _) (fun _ _ => rfl) ⟨none, (fun id e => by cases e), .inr ⟨hw, .pure v fun _ => ⟨h, nx, Sub.refl h, hev⟩⟩⟩) R G hlo
            | alloc _ ob =>
              rw [applyEff_one]
              have hput : h.put nx (some ob) = h.set nx ob := rfl
              have hfr := R.hfresh
              have hsub : Sub h (h.put nx (some ob)) := fun id o' e => by
                rw [BT.get_put, if_neg (fun e' => by rw [e', hfr] at e; cases e)]; exact e
              have hkeep : ∀ id, id < nx → (h.put nx (some ob)).get id = h.get id := fun id hid => by rw [BT.get_put, if_neg (by omega)]
              obtain ⟨φ', T', k', w', g1, g2, g3, g4⟩ := ih pl l' _ louds is _ φ (h.put nx (some ob)) (nx + 1) T w hn' hits' h7 (D.plan hit h2 h3 h4 h5 hsub (Nat.le_succ _) hkeep ⟨some nx, (fun id e => by cases e; exact Nat.le_refl _),
                .inr ⟨hw, .alloc nx v ob hlo (Nat.lt_succ_self _) R.fresh (by rw [BT.get_put, if_pos rfl]) fun _ => ⟨h, hsub, hev⟩⟩⟩) (R.phantom ob) G (Nat.le_succ_of_le hlo)
              exact ⟨φ', T', k', w', g1, ⟨g2.le, fun id hid hnone => by
                obtain ⟨a, b⟩ := g2.ph id hid hnone
                exact ⟨a, b.trans (hkeep id (by omega))⟩⟩, Nat.le_of_succ_le g3, g4⟩
          | _ => exact ⟨φ, T, _, w, Steps.refl _ _, ExtB.refl _ _ _, Nat.le_refl _, .stuck _ _ _ _ _ (.inRegion ops is :: k)⟩
      · cases pl with
        | nil => exact (order_l1 hord).elim
        | cons p2 pl =>
          have hord0 := hord
          obtain ⟨o', m, isC, rfl, h1, h2, h3, h4, h5, h6, h7, h8⟩ := order_l hord
          obtain ⟨ho, _⟩ := itemOf_spec hit
          rw [ho] at h1; cases h1
          have hi : i ∈ is := by
            rcases List.mem_append.1 (S.all i (lt_of_toL ho)) with hd | hd
            · rw [hdn i hd] at h4; cases h4
            · exact hd
          obtain ⟨pre, post, rfl⟩ := List.append_of_mem hi
          have hpre : ∀ j ∈ pre, seen.testBit j = true := fun j hj => by
            have hne : j ≠ i := fun e => by
              have hnd := S.nodup
              rw [List.nodup_append] at hnd
              have := hnd.2.1
              rw [List.nodup_append] at this
              exact this.2.2 j hj i List.mem_cons_self e
            have hjl : j < ops.toList.length := by
              have := S.lt j (List.mem_append_right _ (List.mem_append_left _ hj))
              simpa using this
            rcases order_behind pl _ _ h8 j hjl with g | ⟨mj, g1, g2⟩
            · exact (or_bit.1 g).resolve_right hne
            · exfalso
              have hb := g2 i (or_bit.2 (.inr rfl))
              obtain ⟨p1, q1, hp1⟩ := List.append_of_mem hj
              have := S.order (dn ++ p1) j (q1 ++ i :: post) (by rw [hp1]; simp) mj g1 i hb
              have hnd := S.nodup
              rw [show dn ++ (pre ++ i :: post) = (dn ++ p1) ++ (j :: q1 ++ i :: post) by rw [hp1]; simp, List.nodup_append] at hnd
              exact hnd.2.2 i this i (by simp) rfl
          obtain ⟨φ1, T1, w1, s1, D1, R1, X1⟩ := realizes (f := f) (k := k) (ds := ds) (kd := kd) (ro := ro) (cs := cs) hE pre (i :: post) φ T w D R G hpre
          obtain ⟨tc, htc, hsame⟩ := D1.look hit
          have ho' := toL ho
          have hwr := wanted_rel htc ops o
          rw [wanted_congr hsame] at hwr
          have O := fun x => eval_rel (f := f) (k := .inRegion ops (i :: post) :: k) (ds := ds) (kd := kd) (ro := ro) (G.mono X1.le) htc x
          have hop := evOp_sound (x0 := ⟨E, tc, h, nx⟩) hE R1 O o R1
          rw [ev_congr hsame] at hop
          have W1 : DWait E ops masks size t0 t φ1 h nx lo i o late l' post T1 := ⟨seen, louds, .c isC :: pl, hit, hord0, hits', D1.mono (ExtB.refl _ _ _) (Nat.le_refl _)⟩
          -- behind the operation
          have cont : ∀ (φ2 : Phi) (h2 : Heap) (nx2 : Nat) (v : AVal) (v' : Value) (w2 : World), step P (lone (F f T1 (.inRegion ops (i :: post) :: k) ds kd ro) cs w1) = .next (lone (F f (putA T1 o.dst v') (.inRegion ops post :: k) ds kd ro) cs w2) →
              Rep w0 φ2 h2 nx2 w2 → ExtB nx φ1 h φ2 h2 → nx ≤ nx2 → VRel φ2 v v' →
              ∃ φ' T' k' w', Steps P (lone (F f T (.inRegion ops (pre ++ i :: post) :: k) ds kd ro) cs w) (lone (F f T' k' ds kd ro) cs w') ∧ ExtB lo φ h φ' (runD E ops.toList size t0 l' (putT size t o.dst v) h2 nx2).h ∧ nx ≤ (runD E ops.toList size t0 l' (putT size t o.dst v) h2 nx2).nx ∧
                DOK E P w0 size ops masks t0 lo f k ds kd ro φ' w' T' (runD E ops.toList size t0 l' (putT size t o.dst v) h2 nx2) k' := by
            intro φ2 h2 nx2 v v' w2 hst R2 X2 hle hv
            have W2 := (W1.mono X2 hle).finish hv
            obtain ⟨l'', hits'', hp2⟩ := items_cons hits'
            rcases hp2 with ⟨_, _, _, g, _⟩ | ⟨_, _, _, g, _⟩ | ⟨_, x, g, hx, rfl⟩ | ⟨_, _, _, _, _, _, g, _⟩
            · cases g
            · cases g
            rotate_left
            · cases g
            · rw [runD_c]
              cases hall : x.all (chkOne E ops.toList t0 (putT size t o.dst v) h2 nx2) with
              | false => exact ⟨φ2, _, _, w2, s1.trans (.one hst), X1.trans (X2.sub hlo), hle, .stuck _ _ _ _ _ (.inRegion ops post :: k)⟩
              | true =>
                dsimp only
                obtain ⟨seen3, louds3, pl3, e1, e2, D3⟩ := W2.chk hall
                have hlen : pl3.length ≤ n := by
                  have := items_len e1
                  have := items_len hits''
                  simp at hn'; omega
                obtain ⟨φ4, T4, k4, w4, f1, f2, f3, f4⟩ := ih pl3 l'' seen3 louds3 post _ φ2 h2 nx2 _ w2 hlen e1 e2 D3 R2 (G.mono (Phi.le_trans X1.le X2.le)) (Nat.le_trans hlo hle)
                exact ⟨φ4, T4, k4, w4, s1.trans (.head hst f1), (X1.trans (X2.sub hlo)).trans f2, Nat.le_trans hle f3, f4⟩
          rw [runD_l]
          unfold runQ
          cases hw : wanted o.guard (backTo t0 late t) ops.toList with
          | unk => exact ⟨φ1, T1, _, w1, s1, X1, Nat.le_refl _, .stuck _ _ _ _ _ (.inRegion ops (i :: post) :: k)⟩
          | no =>
            dsimp only
            rw [putTKD_eq]
            exact cont φ1 h nx undef' undef w1 (st_unwanted ho' (hwr.2 hw)) R1 (ExtB.refl _ _ _) (Nat.le_refl _) (undef_rel _)
          | yes =>
            dsimp only
            cases hev : evOp ⟨E, backTo t0 late t, h, nx⟩ o.op with
            | val v e nx' =>
              rw [hev] at hop
              dsimp only
              rw [putTKD_eq, applyEffKD_eq, forceND_eq]
              obtain ⟨r, v', w', φ', e1, e2, e3, e4, e5, e6, e7⟩ := hop
              have hpl : plainOp ro o.op := fun l c _ e => by rw [e] at hev; exact defer_noval hev
              exact cont φ' (applyEff h e) nx' v v' w' (st_value ho' (hwr.1 hw) hpl e1 e2) e5 ⟨e3, fun id h1 h2 => e7 id h2 h1⟩ e6 e4
            | stuck why => exact ⟨φ1, T1, _, w1, s1, X1, Nat.le_refl _, .stuck _ _ _ _ _ (.inRegion ops (i :: post) :: k)⟩
            | _ =>
              rw [hev] at hop
              refine ⟨φ1, T1, _, w1, s1, X1, Nat.le_refl _, .at i o late l' post t h nx _ R1 ho' (hwr.1 hw) hop (fun c hc => ?_) W1⟩
              rw [hc] at hev
              rw [← hev]; exact defer_shape
      · exact (order_c hord).elim
      · obtain ⟨ox, mx, oy, my, h1, h2, h3, h4, h5, h6, h7, h8, h9, h10, h11, h12, h13, h14, h15, h16, h17, h18⟩ := order_p hord
        obtain ⟨hox, _⟩ := itemOf_spec hit
        obtain ⟨hoy, _⟩ := itemOf_spec hjt
        rw [hox] at h1; cases h1
        rw [hoy] at h3; cases h3
        have hmem : ∀ {z : Nat} {oz : Oper}, ops.toList[z]? = some oz → seen.testBit z = false → z ∈ is := fun hz hu => by
          rcases List.mem_append.1 (S.all _ (lt_of_toL hz)) with hd | hd
          · rw [hdn _ hd] at hu; cases hu
          · exact hd
        rw [runD_p]
        unfold runP
        split
        · rename_i hwx hwy
          split
          · rename_i v a pa n1 v' b pb n2 hex hey
            split
            · exact ⟨φ, T, _, w, Steps.refl _ _, ExtB.refl _ _ _, Nat.le_refl _, .stuck _ _ _ _ _ (.inRegion ops is :: k)⟩
            · rename_i hab
              have hab : a ≠ b := fun e => by rw [beq_t e] at hab; cases hab
              have hbe : ∀ z, z < ops.toList.length → seen.testBit z = true ∨ z = i ∨ z = j ∨ ∃ m, masks[z]? = some m ∧ m.testBit i = true ∧ m.testBit j = true := fun z hz => by
                rcases order_behind pl _ _ h18 z hz with g | ⟨m, g1, g2⟩
                · rcases or_bit.1 g with g | g
                  · rcases or_bit.1 g with g | g
                    · exact .inl g
                    · exact .inr (.inl g)
                  · exact .inr (.inr (.inl g))
                · exact .inr (.inr (.inr ⟨m, g1, g2 i (or_bit.2 (.inl (or_bit.2 (.inr rfl)))), g2 j (or_bit.2 (.inr rfl))⟩))
              have fin : ∃ φ' T' w' post, Steps P (lone (F f T (.inRegion ops is :: k) ds kd ro) cs w) (lone (F f T' (.inRegion ops post :: k) ds kd ro) cs w') ∧ DFr E ops masks size t0 t φ' ((h.put a (some pa)).put b (some pb)) nx lo true (seen ||| 2 ^ i ||| 2 ^ j) post T' ∧
                  Rep w0 φ' ((h.put a (some pa)).put b (some pb)) nx w' ∧ ExtB lo φ h φ' ((h.put a (some pa)).put b (some pb)) := by
                rcases two_split (hmem hox h9) (hmem hoy h10) h11 with ⟨pre, mid, post, rfl⟩ | ⟨pre, mid, post, rfl⟩
                · obtain ⟨φ', T', w', g1, g2, g3, g4⟩ := pair_sound (f := f) (k := k) (ds := ds) (kd := kd) (ro := ro) (cs := cs) hE D R G hlo hit hjt h2 h4 h5 h6 h7 h8 h11 h9 h10 h12 h13 h16 h17 hbe hwx hwy hex hey hab
                  exact ⟨φ', T', w', post, g1, g2, g3, g4⟩
                · obtain ⟨φ', T', w', g1, g2, g3, g4⟩ := pair_sound (f := f) (k := k) (ds := ds) (kd := kd) (ro := ro) (cs := cs) hE D R G hlo hjt hit h4 h2 h6 h5 h8 h7 (Ne.symm h11) h10 h9 h13 h12 h17 h16 (fun z hz => by
                    rcases hbe z hz with g | g | g | ⟨m, g1, g2, g3⟩
                    · exact .inl g
                    · exact .inr (.inr (.inl g))
                    · exact .inr (.inl g)
                    · exact .inr (.inr (.inr ⟨m, g1, g3, g2⟩))) hwy hwx hey hex (Ne.symm hab)
                  refine ⟨φ', T', w', post, g1, ?_, g3.congrH (put_swap h hab _ _), g4.le, fun id hid hn => ?_⟩
                  · rw [or_swap]; exact g2.congrH (put_swap h hab _ _)
                  · obtain ⟨e1, e2⟩ := g4.ph id hid hn
                    exact ⟨e1, (put_swap h hab _ _ id).trans e2⟩
              obtain ⟨φ1, T1, w1, post, s1, D1, R1, X1⟩ := fin
              obtain ⟨φ2, T2, k2, w2, f1, f2, f3, f4⟩ := ih pl l' _ _ post t φ1 _ nx T1 w1 hn' hits' h18 D1 R1 (G.mono X1.le) hlo
              exact ⟨φ2, T2, k2, w2, s1.trans f1, X1.trans f2, f3, f4⟩
          · exact ⟨φ, T, _, w, Steps.refl _ _, ExtB.refl _ _ _, Nat.le_refl _, .stuck _ _ _ _ _ (.inRegion ops is :: k)⟩
        · exact ⟨φ, T, _, w, Steps.refl _ _, ExtB.refl _ _ _, Nat.le_refl _, .stuck _ _ _ _ _ (.inRegion ops is :: k)⟩
end
end Go.Ev
end
section
/- The state of the machine: frames and their callers. -/
set_option linter.unusedVariables false
set_option linter.unusedSimpArgs false
set_option linter.unusedSectionVars false
namespace Go.Ev
open Go.RowKit

/-- A frame that waits for a value. -/
inductive WRel (E : Env) (φ : Phi) (h : Heap) (nx lo : Nat) (size : Nat) : List AItem → BT AVal → List Item → Array Value → Prop
  | plain (k : List AItem) (t : BT AVal) (k' : List Item) (T : Array Value) (ht : TRel φ size t T) (hk : TdRel φ k k') : WRel E φ h nx lo size k t k' T
  | drawn (ops : Array Oper) (masks : List Nat) (t0 : BT AVal) (y : Nat) (o : Oper) (late : List Nat) (rest : List DItem) (post : List Nat) (k : List AItem) (t : BT AVal) (k' : List Item) (T : Array Value)
      (W : DWait E ops masks size t0 t φ h nx lo y o late rest post T) (hk : TdRel φ k k') : WRel E φ h nx lo size (.inDrawn ops.toList t0 (.l y o late :: rest) :: k) t (.inRegion ops (y :: post) :: k') T
/-- A frame that goes on. -/
inductive RRel (E : Env) (φ : Phi) (h : Heap) (nx lo : Nat) (size : Nat) : List AItem → BT AVal → List Item → Array Value → Prop
  | plain (k : List AItem) (t : BT AVal) (k' : List Item) (T : Array Value) (ht : TRel φ size t T) (hk : TdRel φ k k') : RRel E φ h nx lo size k t k' T
  | drawn (ops : Array Oper) (masks : List Nat) (t0 : BT AVal) (rest : List DItem) (is : List Nat) (k : List AItem) (t : BT AVal) (k' : List Item) (T : Array Value)
      (W : DTop E ops masks size t0 t φ h nx lo rest is T) (hk : TdRel φ k k') : RRel E φ h nx lo size (.inDrawn ops.toList t0 rest :: k) t (.inRegion ops is :: k') T

theorem WRel.mono {E : Env} {φ φ' : Phi} {h h' : Heap} {nx nx' lo size : Nat} {k : List AItem} {t : BT AVal} {k' : List Item} {T : Array Value} (r : WRel E φ h nx lo size k t k' T) (X : ExtB nx φ h φ' h') (hn : nx ≤ nx') : WRel E φ' h' nx' lo size k t k' T := by
  cases r with
  | plain _ _ _ _ ht hk => exact .plain _ _ _ _ (ht.mono X.le) (hk.mono X.le)
  | drawn ops masks t0 y o late rest post k _ k' _ W hk => exact .drawn ops masks t0 y o late rest post k t k' T (W.mono X hn) (hk.mono X.le)

/-- A caller, by how it called. -/
inductive CalRel (E : Env) (φ : Phi) (h : Heap) (nx lo : Nat) : CallKind → AFrame → Frame → Prop
  | normal (k : FK) (todo : List AItem) (t : BT AVal) (todo' : List Item) (T : Array Value) (ds : List Deferred) (kd : CallKind) (ro : Option Nat) (hk : KRel φ k (F k.fn T todo' ds kd ro)) (hw : WRel E φ h nx lo k.size todo t todo' T) :
      CalRel E φ h nx lo .normal ⟨k, .run, todo, t⟩ (F k.fn T todo' ds kd ro)
  | deferred (k : FK) (m : AMode) (todo : List AItem) (t : BT AVal) (fr : Frame) (hk : KRel φ k fr) (hm : MdRel φ m fr.mode) (hr : m ≠ .run) (ht : TRel φ k.size t fr.tmps) : CalRel E φ h nx lo .deferred ⟨k, m, todo, t⟩ fr
theorem CalRel.mono {E : Env} {φ φ' : Phi} {h h' : Heap} {nx nx' lo : Nat} {kd : CallKind} {a : AFrame} {b : Frame} (r : CalRel E φ h nx lo kd a b) (X : ExtB nx φ h φ' h') (hn : nx ≤ nx') : CalRel E φ' h' nx' lo kd a b := by
  cases r with
  | normal k todo t todo' T ds kd ro hk hw => exact .normal k todo t todo' T ds kd ro (hk.mono X.le) (hw.mono X hn)
  | deferred k m todo t fr hk hm hr ht => exact .deferred k m todo t b (hk.mono X.le) (hm.mono X.le) hr (ht.mono X.le)

inductive FsRel (E : Env) (φ : Phi) (h : Heap) (B : Nat) (base : List Frame) : CallKind → Nat → List AFrame → List Frame → Prop
  | nil (b : Nat) (hB : B ≤ b) : FsRel E φ h B base .normal b [] base
  | cons (kd : CallKind) (b lo : Nat) (a : AFrame) (c : Frame) (cs : List AFrame) (cs' : List Frame) (hb : lo ≤ b) (hc : CalRel E φ h b lo kd a c) (t : FsRel E φ h B base a.k.kind lo cs cs') : FsRel E φ h B base kd b (a :: cs) (c :: cs')
theorem FsRel.mono {E : Env} {φ φ' : Phi} {h h' : Heap} {B : Nat} {base : List Frame} {kd : CallKind} {b : Nat} {cs : List AFrame} {cs' : List Frame} (r : FsRel E φ h B base kd b cs cs') : ∀ {b' : Nat}, ExtB b φ h φ' h' → b ≤ b' → FsRel E φ' h' B base kd b' cs cs' := by
  induction r with
  | nil b hB => intro b' X hb; exact .nil b' (Nat.le_trans hB hb)
  | cons kd b lo a c cs cs' hlo hc t ih => intro b' X hb; exact .cons kd b' lo a c cs cs' (Nat.le_trans hlo hb) (hc.mono X hb) (ih (X.sub hlo) (Nat.le_refl _))

theorem FsRel.bound {E : Env} {φ : Phi} {h : Heap} {B : Nat} {base : List Frame} {kd : CallKind} {b : Nat} {cs : List AFrame} {cs' : List Frame} (r : FsRel E φ h B base kd b cs cs') : B ≤ b := by
  induction r with
  | nil b hB => exact hB
  | cons kd b lo a c cs cs' hlo hc t ih => exact Nat.le_trans ih hlo
/-- What was placed stays there, and what was not, of old, is not. -/
def QExt (B : Nat) (φ φ' : Phi) : Prop := φ.le φ' ∧ ∀ id, id < B → φ id = none → φ' id = none
theorem QExt.refl (B : Nat) (φ : Phi) : QExt B φ φ := ⟨Phi.le_refl φ, fun _ _ h => h⟩
theorem QExt.trans {B : Nat} {a b c : Phi} (h : QExt B a b) (h' : QExt B b c) : QExt B a c := ⟨Phi.le_trans h.1 h'.1, fun id hl hn => h'.2 id hl (h.2 id hl hn)⟩
theorem ExtB.q {B lo : Nat} {φ φ' : Phi} {h h' : Heap} (X : ExtB lo φ h φ' h') (hB : B ≤ lo) : QExt B φ φ' := ⟨X.le, fun id hl hn => (X.ph id (Nat.lt_of_lt_of_le hl hB) hn).1⟩

/-- The frame that runs. -/
inductive TopRel (E : Env) (φ : Phi) (h : Heap) (nx lo : Nat) : AFrame → Frame → Prop
  | run (k : FK) (todo : List AItem) (t : BT AVal) (todo' : List Item) (T : Array Value) (ds : List Deferred) (kd : CallKind) (ro : Option Nat) (hk : KRel φ k (F k.fn T todo' ds kd ro)) (hw : RRel E φ h nx lo k.size todo t todo' T) :
      TopRel E φ h nx lo ⟨k, .run, todo, t⟩ (F k.fn T todo' ds kd ro)
  | leave (k : FK) (m : AMode) (todo : List AItem) (t : BT AVal) (fr : Frame) (hk : KRel φ k fr) (hm : MdRel φ m fr.mode) (hr : m ≠ .run) (ht : TRel φ k.size t fr.tmps) : TopRel E φ h nx lo ⟨k, m, todo, t⟩ fr

structure SRel (E : Env) (w0 : World) (B : Nat) (base : List Frame) (φ : Phi) (s : S) (fr : Frame) (cs : List Frame) (w : World) : Prop where
  rep : Rep w0 φ s.d.h s.d.nx w
  glob : GlobOK E.ng φ
  top : ∃ lo, lo ≤ s.d.nx ∧ TopRel E φ s.d.h s.d.nx lo s.fr fr ∧ FsRel E φ s.d.h B base s.fr.k.kind lo s.cs cs

/-! ### A value comes back -/
theorem IsRel.notcons {ops : Array Oper} {is : List Nat} (h : IsRel ops is []) : is = [] := h.nil_inv
theorem WRel.finish {E : Env} {φ : Phi} {h : Heap} {nx lo : Nat} {k : FK} {todo : List AItem} {t : BT AVal} {todo' : List Item} {T : Array Value} {ds : List Deferred} {kd : CallKind} {ro : Option Nat}
    (hw : WRel E φ h nx lo k.size todo t todo' T) (hk : KRel φ k (F k.fn T todo' ds kd ro)) {v : AVal} {v' : Value} (hv : VRel φ v v') : TopRel E φ h nx lo (AFrame.finish v ⟨k, .run, todo, t⟩) ((F k.fn T todo' ds kd ro).finish v') := by
  cases hw with
  | drawn ops masks t0 y o late rest post kk _ kk' _ W hkk =>
    have W' := W.finish hv
    obtain ⟨_, _, _, hit, _⟩ := W
    obtain ⟨ho, _⟩ := itemOf_spec hit
    rw [finish_region (toL ho)]
    exact .run k _ _ _ _ ds kd ro ⟨hk.fn, hk.defers, hk.kind, hk.ro⟩ (.drawn ops masks t0 rest post kk _ kk' _ W' hkk)
  | plain _ _ _ _ ht hkk =>
    have keep : ∀ todo todo', TdRel φ todo todo' → TopRel E φ h nx lo ⟨k, .run, todo, t⟩ (F k.fn T todo' ds kd ro) := fun todo todo' hkk =>
      .run k todo t todo' T ds kd ro ⟨hk.fn, hk.defers, hk.kind, hk.ro⟩ (.plain _ _ _ _ ht hkk)
    cases hkk with
    | nil => exact keep _ _ .nil
    | cons ha hl =>
      cases ha with
      | inRegion ops todo is his =>
        cases todo with
        | nil => rw [his.nil_inv]; exact keep _ _ (.cons (.inRegion ops [] [] rfl) hl)
        | cons o rest =>
          obtain ⟨i, is', rfl, ho, his'⟩ := his.cons_inv
          rw [finish_region ho]
          exact .run k _ _ _ _ ds kd ro ⟨hk.fn, hk.defers, hk.kind, hk.ro⟩ (.plain _ _ _ _ (ht.put hv o.dst) (.cons (.inRegion ops rest is' his') hl))
      | inRangeFunc l p hp => exact keep _ _ (.cons (.endRangeFunc l p hp) hl)
      | beginRound => exact keep _ _ hl
      | code c => exact keep _ _ (.cons (.code c) hl)
      | inBlock id => exact keep _ _ (.cons (.inBlock id) hl)
      | inLoop c => exact keep _ _ (.cons (.inLoop c) hl)
      | inScope c => exact keep _ _ (.cons (.inScope c) hl)
      | endRangeFunc l p hp => exact keep _ _ (.cons (.endRangeFunc l p hp) hl)

/-! ### A panic -/
theorem delAll_get : ∀ (l : List Nat) (t : BT AVal) (s : Nat), (delAll t l).get s = if s ∈ l then none else t.get s
  | [], t, s => by rw [if_neg (by simp)]; rfl
  | x :: l, t, s => by
    show (delAll (BT.putP none (BT.path x) t) l).get s = _
    rw [delAll_get l, ← BT.put_eq, BT.get_put]
    by_cases h1 : s ∈ l
    · rw [if_pos h1, if_pos (List.mem_cons_of_mem _ h1)]
    · rw [if_neg h1]
      by_cases h2 : s = x
      · subst h2; rw [if_pos rfl, if_pos List.mem_cons_self]
      · rw [if_neg h2, if_neg (fun h => by rcases List.mem_cons.1 h with h | h; exact h2 h; exact h1 h)]
theorem TRel.delAll {φ : Phi} {size : Nat} {t : BT AVal} {T : Array Value} (h : TRel φ size t T) (l : List Nat) : TRel φ size (Ev.delAll t l) T := ⟨h.1, fun s v hv => by
  rw [delAll_get] at hv
  split at hv
  · cases hv
  · exact h.2 s v hv⟩
theorem DFr.delAll {E : Env} {ops : Array Oper} {masks : List Nat} {size : Nat} {t0 t : BT AVal} {φ : Phi} {h : Heap} {nx lo : Nat} {st : Bool} {seen : Nat} {is : List Nat} {T : Array Value} (D : DFr E ops masks size t0 t φ h nx lo st seen is T) :
    TRel φ size (Ev.delAll t (dsts ops.toList)) T := by
  refine ⟨D.slots.sz, fun s v hv => ?_⟩
  rw [delAll_get] at hv
  split at hv
  · cases hv
  · rename_i hs
    cases hw : writer s 0 ops.toList with
    | none =>
      obtain ⟨a, b⟩ := D.slots.no s hw
      exact b v (a ▸ hv)
    | some j =>
      obtain ⟨o, h1, h2⟩ := writer0_some hw
      exact absurd ((mem_dsts _).2 ⟨j, o, h1, h2⟩) hs
theorem raiseM_rel {φ : Phi} {c : List PEnt} {c' : List PanicEntry} (hc : PcRel φ c c') {m : AMode} {fr : Frame} (hm : MdRel φ m fr.mode) : MdRel φ (raiseM c m) (fr.raise c').mode ∧ raiseM c m ≠ .run ∧ (fr.raise c').tmps = fr.tmps ∧
    (∀ k, KRel φ k fr → KRel φ k (fr.raise c')) := by
  obtain ⟨fn, T, td, ds, md, kd, ro⟩ := fr
  dsimp only at hm
  cases hm with
  | run => exact ⟨.panicking _ _ hc, (fun e => by cases e), rfl, fun k hk => ⟨hk.fn, hk.defers, hk.kind, hk.ro⟩⟩
  | returning => exact ⟨.panicking _ _ hc, (fun e => by cases e), rfl, fun k hk => ⟨hk.fn, hk.defers, hk.kind, hk.ro⟩⟩
  | panicking d d' hd => exact ⟨.panicking _ _ (hc.append hd), (fun e => by cases e), rfl, fun k hk => ⟨hk.fn, hk.defers, hk.kind, hk.ro⟩⟩
theorem raise_eq (c : List PEnt) (k : FK) (m : AMode) (todo : List AItem) (t : BT AVal) : (AFrame.raise c ⟨k, m, todo, t⟩).k = k ∧ (AFrame.raise c ⟨k, m, todo, t⟩).mode = raiseM c m := by
  unfold AFrame.raise
  split
  · rename_i e; cases e; exact ⟨rfl, rfl⟩
  · rename_i e; cases e; exact ⟨rfl, rfl⟩
theorem CalRel.raise {E : Env} {φ : Phi} {h : Heap} {nx lo : Nat} {kd : CallKind} {a : AFrame} {b : Frame} (r : CalRel E φ h nx lo kd a b) {c : List PEnt} {c' : List PanicEntry} (hc : PcRel φ c c') (lo' : Nat) : TopRel E φ h nx lo' (a.raise c) (b.raise c') := by
  cases r with
  | normal k todo t todo' T ds kd ro hk hw =>
    obtain ⟨h1, h2, h3, h4⟩ := raiseM_rel hc (fr := F k.fn T todo' ds kd ro) .run
    cases hw with
    | plain _ _ _ _ ht hkk =>
      have e : AFrame.raise c ⟨k, .run, todo, t⟩ = ⟨k, raiseM c .run, todo, t⟩ := by
        cases hkk with
        | nil => rfl
        | cons ha _ => cases ha <;> rfl
      rw [e]
      exact .leave k _ _ _ _ (h4 k hk) h1 h2 ht
    | drawn ops masks t0 y o late rest post kk _ kk' _ W hkk =>
      obtain ⟨_, _, _, _, _, _, D⟩ := W
      exact .leave k _ _ _ _ (h4 k hk) h1 h2 D.delAll
  | deferred k m todo t fr hk hm hr ht =>
    obtain ⟨h1, h2, h3, h4⟩ := raiseM_rel hc hm
    have : ∃ todo' l, AFrame.raise c ⟨k, m, todo, t⟩ = ⟨k, raiseM c m, todo', Ev.delAll t l⟩ := by
      unfold AFrame.raise
      split
      · rename_i e; cases e; exact ⟨_, _, rfl⟩
      · rename_i e; cases e; exact ⟨_, [], rfl⟩
    obtain ⟨todo', l, e⟩ := this
    rw [e]
    exact .leave k _ _ _ _ (h4 k hk) h1 h2 (by rw [h3]; exact ht.delAll l)
/-- .. in the frame that runs. -/
theorem WRel.raise {E : Env} {φ : Phi} {h : Heap} {nx lo : Nat} {k : FK} {todo : List AItem} {t : BT AVal} {todo' : List Item} {T : Array Value} {ds : List Deferred} {kd : CallKind} {ro : Option Nat}
    (hw : WRel E φ h nx lo k.size todo t todo' T) (hk : KRel φ k (F k.fn T todo' ds kd ro)) {c : List PEnt} {c' : List PanicEntry} (hc : PcRel φ c c') (lo' : Nat) : TopRel E φ h nx lo' (AFrame.raise c ⟨k, .run, todo, t⟩) ((F k.fn T todo' ds kd ro).raise c') :=
  CalRel.raise (.normal k todo t todo' T ds kd ro hk hw) hc lo'

theorem finish_k (v : AVal) (a : AFrame) : (a.finish v).k = a.k := by
  obtain ⟨k, m, todo, t⟩ := a
  unfold AFrame.finish
  split <;> first | rfl | (rename_i e; cases e; rfl)
theorem raise_k (c : List PEnt) (a : AFrame) : (a.raise c).k = a.k := by
  obtain ⟨k, m, todo, t⟩ := a
  exact (raise_eq c k m todo t).1
theorem SRel.finish {E : Env} {w0 : World} {B : Nat} {base : List Frame} {φ : Phi} {h : Heap} {nx lo : Nat} {k : FK} {todo : List AItem} {t : BT AVal} {todo' : List Item} {T : Array Value} {ds : List Deferred} {kd : CallKind} {ro : Option Nat} {cs : List AFrame} {cs' : List Frame} {w : World}
    (R : Rep w0 φ h nx w) (G : GlobOK E.ng φ) (hlo : lo ≤ nx) (hw : WRel E φ h nx lo k.size todo t todo' T) (hk : KRel φ k (F k.fn T todo' ds kd ro)) (C : FsRel E φ h B base k.kind lo cs cs') {v : AVal} {v' : Value} (hv : VRel φ v v') :
    SRel E w0 B base φ ⟨AFrame.finish v ⟨k, .run, todo, t⟩, cs, ⟨h, nx⟩⟩ ((F k.fn T todo' ds kd ro).finish v') cs' w :=
  ⟨R, G, lo, hlo, hw.finish hk hv, by rw [finish_k]; exact C⟩
end Go.Ev
end
section
/- The machine: what an operation that is no plain value does. -/
set_option linter.unusedVariables false
set_option linter.unusedSimpArgs false
set_option linter.unusedSectionVars false
namespace Go.Ev
open Go.RowKit

/-- What is said of a function in place of its run. -/
def SpecOK (E : Env) (P : Program) (f : FuncId) (sp : List AVal → Heap → Nat → OpR) : Prop :=
  ∀ (w0 w : World) (φ : Phi) (h : Heap) (nx : Nat) (args : List AVal) (args' : Array Value) (v : AVal) (e : Eff) (nx' : Nat), sp args h nx = .val v e nx' → Rep w0 φ h nx w → GlobOK E.ng φ → LRel φ args args'.toList →
    Calls P f args' w fun en w' => ∃ v' φ', en = .returned v' ∧ φ.le φ' ∧ VRel φ' v v' ∧ Rep w0 φ' (applyEff h e) nx' w' ∧ nx ≤ nx' ∧ ∀ id, φ id = none → id < nx → φ' id = none ∧ (applyEff h e).get id = h.get id
structure MachOK (E : Env) (P : Program) : Prop where
  env : EnvOK E P
  nm : ∀ f fn, E.fns.get f = some fn → (fn.name == "runtime.NumGoroutine") = false
  specs : ∀ f sp, E.specs.get f = some sp → SpecOK E P f sp ∧ ∃ fn b, E.fns.get f = some fn ∧ fn.body = some b

theorem run_call {P : Program} {f : FuncId} {fn : Func} {b : Code} (h : P.funcs[f]? = some fn) (hn : (fn.name == "runtime.NumGoroutine") = false) (hb : fn.body = some b) (args : Array Value) (w : World) : (callFunc f args).run P w = .ok (.enter f args) w := by
  have hn' : ¬ fn.name = "runtime.NumGoroutine" := fun e => by rw [e] at hn; simp at hn
  simp [callFunc, h, hn', hb]

section
variable {E : Env} {P : Program} (hM : MachOK E P)
include hM
theorem run_call_E {f : FuncId} {fn : Func} {b : Code} (h : E.fns.get f = some fn) (hb : fn.body = some b) (args : Array Value) (w : World) : (callFunc f args).run P w = .ok (.enter f args) w :=
  run_call (hM.env.fns f fn h) (hM.nm f fn h) hb args w

/-- A frame that is entered. -/
theorem enter_rel {φ : Phi} {h : Heap} {nx lo : Nat} {f : FuncId} {args : List AVal} {args' : Array Value} {kd : CallKind} {fr : AFrame} (he : enterF E f args kd = some fr) (ha : LRel φ args args'.toList) :
    TopRel E φ h nx lo fr (Frame.enter P f args' kd) ∧ fr.k.kind = kd ∧ ∀ w, (callFunc f args').run P w = .ok (.enter f args') w := by
  unfold enterF at he
  cases hf : E.fns.get f with
  | none => rw [hf] at he; cases he
  | some fn =>
    rw [hf] at he
    dsimp only at he
    cases hb : fn.body with
    | none => rw [hb] at he; cases he
    | some b =>
      rw [hb] at he; cases he
      have hP := hM.env.fns f fn hf
      have hsz : args.length = args'.size := by simpa using ha.1
      have e : Frame.enter P f args' kd = F f (args' ++ Array.replicate (fn.ntmps - args'.size) undef) [.code b] [] kd none := by
        unfold Frame.enter
        simp [hP, hb]
      rw [e]
      refine ⟨.run ⟨f, fn.ntmps + (args.length - fn.ntmps), [], kd, none⟩ _ _ _ _ [] kd none ⟨rfl, .nil φ, rfl, trivial⟩ (.plain _ _ _ _ ⟨?_, fun i v hv => ?_⟩ (.cons (.code b) .nil)), rfl, fun w => run_call_E hM hf hb args' w⟩
      · simp [hsz]; omega
      · rw [BT.get_ofList] at hv
        obtain ⟨v', h1, h2⟩ := ha.get hv
        have hi : i < args'.size := by
          rcases Nat.lt_or_ge i args'.size with h | h
          · exact h
          · rw [List.getElem?_eq_none (by simpa using h)] at h1; cases h1
        rw [Array.getD_eq_getD_getElem?, Array.getElem?_append_left hi]
        rw [Array.getElem?_toList] at h1
        rw [h1]; exact h2

omit hM in
theorem setParams_rel {φ : Phi} {size : Nat} : ∀ (ps : List Nat) (as : List AVal) (as' : List Value) (t : BT AVal) (T : Array Value), TRel φ size t T → LRel φ as as' →
    TRel φ size (setParams size t ps as) ((ps.zip as').foldl (fun tm (x : Nat × Value) => tm.setIfInBounds x.1 x.2) T)
  | [], as, as', t, T, ht, ha => by simpa [setParams] using ht
  | p :: ps, [], as', t, T, ht, ha => by rw [ha.nil_inv]; simpa [setParams] using ht
  | p :: ps, a :: as, as', t, T, ht, ha => by
    obtain ⟨a', as'', rfl, h1, h2⟩ := ha.cons_inv
    show TRel φ size (setParams size (putD size t a p) ps as) _
    simp only [List.zip_cons_cons, List.foldl_cons]
    exact setParams_rel ps as as'' _ _ (ht.put h1 (some p)) h2

omit hM in
theorem st_recover {f : FuncId} {T : Array Value} {k : List Item} {ds : List Deferred} {kd : CallKind} {cs : List Frame} {w w' : World} {ops : Array Oper} {i : Nat} {is : List Nat} {o : Oper} (ho : ops[i]? = some o) (hw : Region.wanted o (yielded ops T) = true)
    (hr : (execOp (F f T (.inRegion ops (i :: is) :: k) ds kd none).eval o).run P w = .ok .recover w') :
    step P (lone (F f T (.inRegion ops (i :: is) :: k) ds kd none) cs w) = match tryRecover (F f T (.inRegion ops (i :: is) :: k) ds kd none) cs with
      | some (v, cs') => .next (lone ((F f T (.inRegion ops (i :: is) :: k) ds kd none).finish v) cs' w')
      | none => .next (lone ((F f T (.inRegion ops (i :: is) :: k) ds kd none).finish .nilIface) cs w') := by
  cases ht : tryRecover (F f T (.inRegion ops (i :: is) :: k) ds kd none) cs with
  | none =>
    refine step_lone_go ?_
    rw [stG_op ho hw (fun l c e _ => by cases e)]
    simp [stepG.apply, hr, ht]
  | some x =>
    refine step_lone_go ?_
    rw [stG_op ho hw (fun l c e _ => by cases e)]
    simp [stepG.apply, hr, ht]

/-- What an operation does that is no plain value. -/
theorem applyR_sound {w0 : World} {B : Nat} {base : List Frame} {φ : Phi} {h : Heap} {nx lo : Nat} {k : FK} {todo : List AItem} {t : BT AVal} {T : Array Value} {ds : List Deferred} {kd : CallKind} {ro : Option Nat} {cs : List AFrame} {cs' : List Frame} {w : World}
    {ops : Array Oper} {i : Nat} {is : List Nat} {o : Oper} {kk : List Item} {r : OpR} {s' : S}
    (R : Rep w0 φ h nx w) (G : GlobOK E.ng φ) (hlo : lo ≤ nx) (hw : WRel E φ h nx lo k.size todo t (.inRegion ops (i :: is) :: kk) T) (hk : KRel φ k (F k.fn T (.inRegion ops (i :: is) :: kk) ds kd ro)) (C : FsRel E φ h B base k.kind lo cs cs')
    (ho : ops[i]? = some o) (hwt : Region.wanted o (yielded ops T) = true) (hop : OpOK P w0 φ h nx w (execOp (F k.fn T (.inRegion ops (i :: is) :: kk) ds kd ro).eval o) r)
    (hp : ∀ c, o.op = .defer c → (∃ d, r = .defer d) ∨ ∃ s, r = .stuck s) (hs : applyR E ⟨k, .run, todo, t⟩ cs ⟨h, nx⟩ r = .next s') :
    ∃ φ' fr' cs'' w', QExt B φ φ' ∧ Steps P (lone (F k.fn T (.inRegion ops (i :: is) :: kk) ds kd ro) cs' w) (lone fr' cs'' w') ∧ SRel E w0 B base φ' s' fr' cs'' w' := by
  have hfin : ∀ v, (F k.fn T (.inRegion ops (i :: is) :: kk) ds kd ro).finish v = F k.fn (putA T o.dst v) (.inRegion ops is :: kk) ds kd ro := finish_region ho
  cases r with
  | stuck why => cases hs
  | choose l => cases hs
  | val v e nx' =>
    have hpl : plainOp ro o.op := fun l c _ e => by rcases hp c e with ⟨_, h⟩ | ⟨_, h⟩ <;> cases h
    obtain ⟨r, v', w', φ', h1, h2, h3, h4, h5, h6, h7⟩ := hop
    cases hs
    have X : ExtB nx φ h φ' (applyEff h e) := ⟨h3, fun id a b => h7 id b a⟩
    refine ⟨φ', _, cs', w', X.q (Nat.le_trans C.bound hlo), .one (st_value ho hwt hpl h1 h2), ?_⟩
    rw [← hfin]
    exact SRel.finish h5 (G.mono h3) (Nat.le_trans hlo h6) (hw.mono X h6) (hk.mono h3) (C.mono (X.sub hlo) (Nat.le_refl _)) h4
  | enter f args =>
    have hpl : plainOp ro o.op := fun l c _ e => by rcases hp c e with ⟨_, h⟩ | ⟨_, h⟩ <;> cases h
    obtain ⟨args', h1, h2⟩ := hop
    unfold applyR at hs
    dsimp only at hs
    cases hsp : E.specs.get f with
    | none =>
      rw [hsp] at hs
      dsimp only at hs
      cases he : enterF E f args .normal with
      | none => rw [he] at hs; cases hs
      | some fr2 =>
        rw [he] at hs; cases hs
        obtain ⟨g1, g2, g3⟩ := enter_rel hM (h := h) (nx := nx) (lo := nx) he h2
        refine ⟨φ, _, _, w, QExt.refl _ _, .one (st_enter ho hwt hpl (h1.trans (g3 w))), R, G, nx, Nat.le_refl _, g1, ?_⟩
        rw [g2]
        exact .cons .normal nx lo _ _ cs cs' hlo (.normal k todo t _ T ds kd ro hk hw) C
    | some sp =>
      rw [hsp] at hs
      dsimp only at hs
      obtain ⟨hso, fn, b, g1, g2⟩ := hM.specs f sp hsp
      cases hv : sp args h nx with
      | val v e nx' =>
        rw [hv] at hs; cases hs
        obtain ⟨en, w', fr', ⟨v', φ', rfl, k1, k2, k3, k4, k5⟩, hc, hfn, hl⟩ := hso w0 w φ h nx args args' v e nx' hv R G h2 (F k.fn T (.inRegion ops (i :: is) :: kk) ds kd ro :: cs')
        have X : ExtB nx φ h φ' (applyEff h e) := ⟨k1, fun id a b => k5 id b a⟩
        refine ⟨φ', _, cs', w', X.q (Nat.le_trans C.bound hlo), (Steps.trans (.one (st_enter ho hwt hpl (h1.trans (run_call_E hM g1 g2 args' w)))) hc).trans (.one (step_leave_returned hl)), ?_⟩
        exact SRel.finish k3 (G.mono k1) (Nat.le_trans hlo k4) (hw.mono X k4) (hk.mono k1) (C.mono (X.sub hlo) (Nat.le_refl _)) k2
      | _ => rw [hv] at hs; cases hs
  | round l args =>
    have hpl : plainOp ro o.op := fun l c _ e => by rcases hp c e with ⟨_, h⟩ | ⟨_, h⟩ <;> cases h
    obtain ⟨p, args', h1, h2, h3⟩ := hop
    unfold applyR at hs
    dsimp only at hs
    unfold enterRound at hs
    split at hs
    · rename_i r hr
      cases hb : Nat.beq r.params.length args.length with
      | false => rw [hb] at hs; cases hs
      | true =>
        rw [hb] at hs; cases hs
        obtain ⟨ob, e1, e2⟩ := R.obj l _ p hr h1
        cases e2 with
        | loop _ l' L =>
          have hpz : l'.params.size = r.params.length := by rw [← L.params]; simp
          have hsz : args'.size = l'.params.size := by
            have := h3.1
            have := Nat.eq_of_beq_eq_true hb
            simp at *; omega
          have hy := run_yield (P := P) (w := w) e1 hsz
          refine ⟨φ, _, _, w, QExt.refl _ _, .one (st_round ho hwt hpl (h2.trans hy)), R, G, nx, Nat.le_refl _, ?_, .cons .normal nx lo _ _ cs cs' hlo (.normal k todo t _ T ds kd ro hk hw) C⟩
          have hfold : (l'.params.zip args').foldl (fun tmps (x : Nat × Value) => tmps.setIfInBounds x.1 x.2) l'.tmps = (r.params.zip args'.toList).foldl (fun tm (x : Nat × Value) => tm.setIfInBounds x.1 x.2) l'.tmps := by
            rw [← Array.foldl_toList, Array.toList_zip, L.params]
          have ht := setParams_rel r.params args args'.toList r.tmps l'.tmps L.tmps h3
          rw [← hfold] at ht
          show TopRel E φ h nx nx ⟨⟨r.fn, r.size, [], .normal, some l⟩, .run, [.code r.assign, .beginRound, .code r.body], setParams r.size r.tmps r.params args⟩ (F l'.fn ((l'.params.zip args').foldl (fun tmps (x : Nat × Value) => tmps.setIfInBounds x.1 x.2) l'.tmps) [.code l'.assign, .beginRound, .code l'.body] [] .normal (some p.block))
          rw [L.fn, L.assign, L.body]
          exact .run ⟨r.fn, r.size, [], .normal, some l⟩ _ _ _ _ [] .normal (some p.block) ⟨rfl, .nil φ, rfl, p, h1, rfl⟩ (.plain _ _ _ _ ht (.cons (.code _) (.cons .beginRound (.cons (.code _) .nil))))
    · cases hs
  | defer d =>
    obtain ⟨d', h1, h2⟩ := hop
    obtain ⟨fn, size, defers, kind, ro0⟩ := k
    cases ro0 with
    | some _ => cases hs
    | none =>
      have hro : ro = none := by
        have := hk.ro
        cases ro with
        | none => rfl
        | some _ => exact this.elim
      subst hro
      cases hs
      refine ⟨φ, _, cs', w, QExt.refl _ _, .one (st_defer ho hwt (fun l c e _ => by cases e) h1), ?_⟩
      rw [← finish_region (ds := d' :: ds) (kd := kd) (ro := none) ho]
      exact SRel.finish (k := ⟨fn, size, d :: defers, kind, none⟩) R G hlo hw ⟨rfl, .cons h2 hk.defers, hk.kind, hk.ro⟩ C (undef_rel φ)
  | recover =>
    unfold applyR at hs
    dsimp only at hs
    obtain ⟨fn, size, defers, kind, ro0⟩ := k
    cases ro0 with
    | some _ => cases hs
    | none =>
      have hro : ro = none := by
        have := hk.ro
        cases ro with
        | none => rfl
        | some _ => exact this.elim
      subst hro
      have hkd : kd = kind := hk.kind
      subst hkd
      have hst := st_recover (P := P) (cs := cs') ho hwt hop
      dsimp only at hs
      cases kd with
      | normal =>
        have : tryRecover (F fn T (.inRegion ops (i :: is) :: kk) ds .normal none) cs' = none := by unfold tryRecover; rfl
        rw [this] at hst
        cases hs
        exact ⟨φ, _, cs', w, QExt.refl _ _, .one hst, SRel.finish R G hlo hw hk C .niliface⟩
      | deferred =>
        cases C with
        | cons _ _ lo2 a c cs2 cs2' hb hc tl =>
          cases hc with
          | deferred k2 m todo2 t2 _ hk2 hm2 hr2 ht2 =>
            obtain ⟨f2, T2, td2, ds2, md2, kd2, ro2⟩ := c
            dsimp only at hm2
            have nothing : tryRecover (F fn T (.inRegion ops (i :: is) :: kk) ds .deferred none) (⟨f2, T2, td2, ds2, md2, kd2, ro2⟩ :: cs2') = none →
                applyR E ⟨⟨fn, size, defers, .deferred, none⟩, .run, todo, t⟩ (⟨k2, m, todo2, t2⟩ :: cs2) ⟨h, nx⟩ .recover = .next ⟨AFrame.finish .niliface ⟨⟨fn, size, defers, .deferred, none⟩, .run, todo, t⟩, ⟨k2, m, todo2, t2⟩ :: cs2, ⟨h, nx⟩⟩ →
                ∃ φ' fr' cs'' w', QExt B φ φ' ∧ Steps P (lone (F fn T (.inRegion ops (i :: is) :: kk) ds .deferred none) (⟨f2, T2, td2, ds2, md2, kd2, ro2⟩ :: cs2') w) (lone fr' cs'' w') ∧ SRel E w0 B base φ' s' fr' cs'' w' := by
              intro hn he
              rw [hn] at hst
              have he' := he.symm.trans hs
              cases he'
              exact ⟨φ, _, _, w, QExt.refl _ _, .one hst, SRel.finish R G hlo hw hk (.cons .deferred lo lo2 _ _ cs2 cs2' hb (.deferred k2 m todo2 t2 _ hk2 hm2 hr2 ht2) tl) .niliface⟩
            cases hm2 with
            | run => exact absurd rfl hr2
            | returning => exact nothing (by unfold tryRecover; rfl) rfl
            | panicking c c' hcc =>
              cases hcc with
              | nil => exact nothing (by unfold tryRecover; rfl) rfl
              | cons hpe tl2 =>
                rename_i a1 b1 l1 m1
                obtain ⟨v, rec⟩ := a1
                obtain ⟨v', rec', gx⟩ := b1
                obtain ⟨q1, q2, q3⟩ := hpe
                dsimp only at q1 q2 q3
                subst q2; subst q3
                cases rec' with
                | true => exact nothing (by unfold tryRecover; rfl) rfl
                | false =>
                  have : tryRecover (F fn T (.inRegion ops (i :: is) :: kk) ds .deferred none) (⟨f2, T2, td2, ds2, .panicking (⟨v', false, false⟩ :: m1), kd2, ro2⟩ :: cs2') = some (v', ⟨f2, T2, td2, ds2, .panicking (⟨v', true, false⟩ :: m1), kd2, ro2⟩ :: cs2') := by unfold tryRecover; rfl
                  rw [this] at hst
                  cases hs
                  refine ⟨φ, _, _, w, QExt.refl _ _, .one hst, SRel.finish R G hlo hw hk (.cons .deferred lo lo2 ⟨k2, .panicking (⟨v, true⟩ :: l1), todo2, t2⟩ ⟨f2, T2, td2, ds2, .panicking (⟨v', true, false⟩ :: m1), kd2, ro2⟩ cs2 cs2' hb (.deferred k2 _ todo2 t2 _ ⟨hk2.fn, hk2.defers, hk2.kind, hk2.ro⟩ (.panicking _ _ (.cons ⟨q1, rfl, rfl⟩ tl2)) (fun e => by cases e) ht2) tl) q1⟩
      | _ => cases hs
  | panic v =>
    have hpl : plainOp ro o.op := fun l c _ e => by rcases hp c e with ⟨_, h⟩ | ⟨_, h⟩ <;> cases h
    obtain ⟨v', h1, h2⟩ := hop
    cases hs
    refine ⟨φ, _, cs', w, QExt.refl _ _, .one (st_panic ho hwt hpl h1), R, G, lo, hlo, hw.raise hk (.cons ⟨h2, rfl, rfl⟩ .nil) lo, ?_⟩
    rw [raise_k]; exact C

/-- What an operation does that has several answers. -/
theorem applyR_branch {w0 : World} {B : Nat} {base : List Frame} {φ : Phi} {h : Heap} {nx lo : Nat} {k : FK} {todo : List AItem} {t : BT AVal} {T : Array Value} {ds : List Deferred} {kd : CallKind} {ro : Option Nat} {cs : List AFrame} {cs' : List Frame} {w : World}
    {ops : Array Oper} {i : Nat} {is : List Nat} {o : Oper} {kk : List Item} {l : List (AVal × Eff)}
    (G : GlobOK E.ng φ) (hlo : lo ≤ nx) (hw : WRel E φ h nx lo k.size todo t (.inRegion ops (i :: is) :: kk) T) (hk : KRel φ k (F k.fn T (.inRegion ops (i :: is) :: kk) ds kd ro)) (C : FsRel E φ h B base k.kind lo cs cs')
    (ho : ops[i]? = some o) (hwt : Region.wanted o (yielded ops T) = true) (hop : OpOK P w0 φ h nx w (execOp (F k.fn T (.inRegion ops (i :: is) :: kk) ds kd ro).eval o) (.choose l))
    (hp : ∀ c, o.op = .defer c → (∃ d, OpR.choose l = .defer d) ∨ ∃ s, OpR.choose l = .stuck s) :
    ∃ s' ∈ l.map (fun a => (⟨AFrame.finish a.1 ⟨k, .run, todo, t⟩, cs, ⟨applyEff h a.2, nx⟩⟩ : S)), ∃ φ' fr' cs'' w', QExt B φ φ' ∧ Steps P (lone (F k.fn T (.inRegion ops (i :: is) :: kk) ds kd ro) cs' w) (lone fr' cs'' w') ∧ SRel E w0 B base φ' s' fr' cs'' w' := by
  have hfin : ∀ v, (F k.fn T (.inRegion ops (i :: is) :: kk) ds kd ro).finish v = F k.fn (putA T o.dst v) (.inRegion ops is :: kk) ds kd ro := finish_region ho
  have hpl : plainOp ro o.op := fun l c _ e => by rcases hp c e with ⟨_, h⟩ | ⟨_, h⟩ <;> cases h
  obtain ⟨⟨v, e⟩, hm, r, v', w', φ', h1, h2, h3, h4, h5, h6, h7⟩ := hop
  dsimp only at h4 h5 h7
  have X : ExtB nx φ h φ' (applyEff h e) := ⟨h3, fun id a b => h7 id b a⟩
  refine ⟨_, List.mem_map.2 ⟨(v, e), hm, rfl⟩, φ', _, cs', w', X.q (Nat.le_trans C.bound hlo), .one (st_value ho hwt hpl h1 h2), ?_⟩
  rw [← hfin]
  exact SRel.finish h5 (G.mono h3) hlo (hw.mono X h6) (hk.mono h3) (C.mono (X.sub hlo) (Nat.le_refl _)) h4
end
end Go.Ev
end
section
/- The machine: returns, deferred calls, panics. -/
set_option linter.unusedVariables false
set_option linter.unusedSimpArgs false
set_option linter.unusedSectionVars false
namespace Go.Ev
open Go.RowKit

def ret1 : List AVal → AVal
  | [v] => v
  | vs => .tup vs
def rvRun (tmps : Array Value) : ResultVar → Sem Value
  | .tmp t => pure (tmps.getD t undef)
  | .cell a t => do loadVar t (← asAddr (tmps.getD a undef))
section
variable {E : Env} {P : Program} (hE : EnvOK E P) {w0 : World} {φ : Phi} {h : Heap} {nx : Nat} {w : World} (R : Rep w0 φ h nx w) {size : Nat} {t : BT AVal} {T : Array Value} (ht : TRel φ size t T)
include hE R ht
theorem resultsL_sound : ∀ (rs : List ResultVar) (vs : List AVal), resultsV E h t rs = some vs → ∃ vs', (rs.mapM (rvRun T)).run P w = .ok vs' w ∧ LRel φ vs vs'
  | [], vs, hv => by cases hv; exact ⟨[], by simp, .nil φ⟩
  | .tmp i :: rs, vs, hv => by
    unfold resultsV at hv
    cases hi : t.get i with
    | none => rw [hi] at hv; cases hv
    | some v =>
      cases hr : resultsV E h t rs with
      | none => rw [hi, hr] at hv; cases hv
      | some us =>
        rw [hi, hr] at hv; cases hv
        obtain ⟨us', h1, h2⟩ := resultsL_sound rs us hr
        refine ⟨T.getD i undef :: us', ?_, .cons (ht.2 i v hi) h2⟩
        rw [List.mapM_cons, Sem.run_bind]
        simp [rvRun, h1, Sem.run_bind]
  | .cell a ty :: rs, vs, hv => by
    unfold resultsV at hv
    cases hi : t.get a with
    | none => rw [hi] at hv; cases hv
    | some v =>
      rw [hi] at hv
      cases v with
      | ptr id off =>
        dsimp only at hv
        cases hl : loadAt E h ty id off with
        | none => rw [hl] at hv; cases hv
        | some x =>
          cases hr : resultsV E h t rs with
          | none => rw [hl, hr] at hv; cases hv
          | some us =>
            rw [hl, hr] at hv; cases hv
            obtain ⟨us', h1, h2⟩ := resultsL_sound rs us hr
            obtain ⟨p, hp, e⟩ := (ht.2 a _ hi).ptr_inv
            obtain ⟨x', g1, g2⟩ := load_sound hE R hl hp
            refine ⟨x' :: us', ?_, .cons g2 h2⟩
            rw [List.mapM_cons, Sem.run_bind]
            simp [rvRun, e, asAddr, g1, h1, Sem.run_bind]
      | _ => cases hv
theorem results_sound {fn : Func} {vs : List AVal} (hv : resultsV E h t fn.results.toList = some vs) : ∃ v', (results fn T).run P w = .ok v' w ∧ VRel φ (ret1 vs) v' := by
  obtain ⟨vs', h1, h2⟩ := resultsL_sound hE R ht _ _ hv
  have e : (results fn T) = (do
      let vs ← List.toArray <$> fn.results.toList.mapM (rvRun T)
      pure (if h : vs.size = 1 then vs[0] else .tuple vs)) := by
    unfold results
    rw [Array.mapM_eq_mapM_toList]
    congr 2
    all_goals (congr 1; try (funext r; cases r <;> rfl))
  refine ⟨if h : vs'.toArray.size = 1 then vs'.toArray[0] else .tuple vs'.toArray, ?_, ?_⟩
  · rw [e, Sem.run_bind]
    have : (List.toArray <$> List.mapM (rvRun T) fn.results.toList).run P w = .ok vs'.toArray w := by
      rw [map_eq_pure_bind, Sem.run_bind, h1]; rfl
    rw [this]; rfl
  · match vs, h2 with
    | [], h2 => rw [h2.nil_inv]; exact .tup' (.nil φ)
    | [v], h2 =>
      obtain ⟨y, b, rfl, h3, h4⟩ := h2.cons_inv
      rw [h4.nil_inv]; exact h3
    | v :: u :: l, h2 =>
      obtain ⟨y, b, rfl, h3, h4⟩ := h2.cons_inv
      obtain ⟨y2, b2, rfl, h5, h6⟩ := h4.cons_inv
      have : ¬ (y :: y2 :: b2).toArray.size = 1 := by simp
      rw [dif_neg this]
      exact .tup' (by simpa using h2)
end

theorem pc_nogoexit {φ : Phi} {c : List PEnt} {c' : List PanicEntry} (h : PcRel φ c c') : c'.dropWhile (!·.goexit) = [] := by
  induction h with
  | nil => rfl
  | cons a _ ih => rw [List.dropWhile_cons, a.2.2]; exact ih

section
variable {E : Env} {P : Program} (hM : MachOK E P) {w0 : World} {B : Nat} {base : List Frame} {φ : Phi} {h : Heap} {nx lo : Nat} {cs : List AFrame} {cs' : List Frame} {w : World} {s' : S}
include hM

omit hM in
theorem CalRel.raised_nx {a : AFrame} {b : Frame} {kd : CallKind} {lo2 : Nat} (hlo : lo ≤ nx) (r : CalRel E φ h lo lo2 kd a b) : CalRel E φ h nx lo2 kd a b := r.mono (ExtB.refl _ _ _) hlo

/-- A frame hands a value back. -/
theorem retTo_sound {k : FK} {m : AMode} {todo : List AItem} {t : BT AVal} {fr : Frame} {v : AVal} {v' : Value} (R : Rep w0 φ h nx w) (G : GlobOK E.ng φ) (hlo : lo ≤ nx) (hk : KRel φ k fr) (C : FsRel E φ h B base k.kind lo cs cs')
    (hmode : fr.mode = .returning) (hd : fr.defers = []) {fn : Func} (hf : P.funcs[fr.fn]? = some fn) (hr : (results fn fr.tmps).run P w = .ok v' w) (hv : VRel φ v v')
    (hs : doReturn ⟨k, m, todo, t⟩ ⟨h, nx⟩ v cs = .next s') :
    ∃ φ' fr' cs'' w', QExt B φ φ' ∧ Steps P (lone fr cs' w) (lone fr' cs'' w') ∧ SRel E w0 B base φ' s' fr' cs'' w' := by
  cases cs with
  | nil =>
    unfold doReturn at hs
    dsimp only at hs
    split at hs <;> cases hs
  | cons c rest =>
    have hs : retTo v rest ⟨h, nx⟩ c k.kind = .next s' := hs
    obtain ⟨fnk, size, defers, kind, ro0⟩ := k
    dsimp only at hs
    cases C with
    | cons _ _ lo2 _ c' _ cs2' hb hc tl =>
      cases hc with
      | normal k2 todo2 t2 todo2' T2 ds2 kd2 ro2 hk2 hw2 =>
        cases hs
        refine ⟨φ, _, cs2', w, QExt.refl _ _, .one (step_leave_returned ⟨hmode, hd, hk.kind, fn, hf, hr⟩), ?_⟩
        exact SRel.finish R G (Nat.le_trans hb hlo) (hw2.mono (ExtB.refl _ _ _) hlo) hk2 tl hv
      | deferred k2 m2 todo2 t2 _ hk2 hm2 hr2 ht2 =>
        have hst := step_going_returned (P := P) (c := c') (cs := cs2') (w := w) (v := v') hk.kind ⟨hmode, hd, fn, hf, hr⟩
        have key : ∀ m3 : AMode, MdRel φ m3 (settle c'.mode) → m3 ≠ .run → s' = ⟨⟨k2, m3, todo2, t2⟩, rest, ⟨h, nx⟩⟩ → ∃ φ' fr' cs'' w', QExt B φ φ' ∧ Steps P (lone fr (c' :: cs2') w) (lone fr' cs'' w') ∧ SRel E w0 B base φ' s' fr' cs'' w' := by
          intro m3 e1 e2 e3
          subst e3
          exact ⟨φ, _, cs2', w, QExt.refl _ _, .one hst, R, G, lo2, Nat.le_trans hb hlo, .leave k2 m3 todo2 t2 { c' with mode := settle c'.mode } ⟨hk2.fn, hk2.defers, hk2.kind, hk2.ro⟩ e1 e2 ht2, tl⟩
        obtain ⟨f2, T2, td2, ds2, md2, kd2, ro2⟩ := c'
        dsimp only at hm2
        cases hm2 with
        | run => exact absurd rfl hr2
        | returning => cases hs; exact key .returning .returning (fun e => by cases e) rfl
        | panicking c c' hcc =>
          cases hcc with
          | nil => cases hs; exact key (.panicking []) (.panicking _ _ .nil) (fun e => by cases e) rfl
          | @cons a1 b1 l1 m1 hpe tl2 =>
            obtain ⟨v1, rcv⟩ := a1
            obtain ⟨v1', rec', gx⟩ := b1
            obtain ⟨q1, q2, q3⟩ := hpe
            dsimp only at q1 q2 q3
            subst q2; subst q3
            cases rec' with
            | false => cases hs; exact key _ (.panicking _ _ (.cons ⟨q1, rfl, rfl⟩ tl2)) (fun e => by cases e) rfl
            | true =>
              cases l1 with
              | cons _ _ => cases hs
              | nil =>
                cases tl2
                cases hs; exact key .returning .returning (fun e => by cases e) rfl

/-- A value handed back to nobody: the end. -/
theorem done_sound {k : FK} {m : AMode} {todo : List AItem} {t : BT AVal} {fr : Frame} {v v1 : AVal} {v' : Value} (hk : KRel φ k fr) (C : FsRel E φ h B base k.kind lo cs cs')
    (hmode : fr.mode = .returning) (hd : fr.defers = []) {fn : Func} (hf : P.funcs[fr.fn]? = some fn) (hr : (results fn fr.tmps).run P w = .ok v' w) 
    (hs : doReturn ⟨k, m, todo, t⟩ ⟨h, nx⟩ v cs = .done v1 s') : v1 = v ∧ cs' = base ∧ fr.leaving P w (.returned v') ∧ s' = ⟨⟨k, m, todo, t⟩, [], ⟨h, nx⟩⟩ := by
  obtain ⟨fnk, size, defers, kind, ro0⟩ := k
  cases cs with
  | nil =>
    unfold doReturn at hs
    dsimp only at hs
    split at hs
    · cases hs
      cases C with
      | nil => exact ⟨rfl, rfl, ⟨hmode, hd, hk.kind, fn, hf, hr⟩, rfl⟩
    · cases hs
  | cons c rest =>
    have hs : retTo v rest ⟨h, nx⟩ c kind = .done v1 s' := hs
    unfold retTo at hs
    split at hs
    · cases hs
    · split at hs
      · split at hs <;> cases hs
      · cases hs
    · cases hs

/-- What stands behind a frame's code. -/
inductive UOut (E : Env) (P : Program) (w0 : World) (B : Nat) (base : List Frame) (φ : Phi) (fr : Frame) (cs' : List Frame) (w : World) : R → Prop
  | next (s' : S) (h : ∃ φ' fr' cs'' w', QExt B φ φ' ∧ Steps P (lone fr cs' w) (lone fr' cs'' w') ∧ SRel E w0 B base φ' s' fr' cs'' w') : UOut E P w0 B base φ fr cs' w (.next s')
  | done (v : AVal) (s' : S) (v' : Value) (hv : VRel φ v v') (hb : cs' = base) (hl : fr.leaving P w (.returned v')) (hf : fr.fn = s'.fr.k.fn) (R : Rep w0 φ s'.d.h s'.d.nx w) : UOut E P w0 B base φ fr cs' w (.done v s')
  | panicked (c : List PEnt) : UOut E P w0 B base φ fr cs' w (.panicked c)
  | branch (l : List S) (h : ∃ s' ∈ l, ∃ φ' fr' cs'' w', QExt B φ φ' ∧ Steps P (lone fr cs' w) (lone fr' cs'' w') ∧ SRel E w0 B base φ' s' fr' cs'' w') : UOut E P w0 B base φ fr cs' w (.branch l)
  | stuck (why : String) : UOut E P w0 B base φ fr cs' w (.stuck why)

omit hM in
theorem doReturn_np {fr : AFrame} {d : D} {v : AVal} : (∀ c, doReturn fr d v cs ≠ .panicked c) ∧ ∀ l, doReturn fr d v cs ≠ .branch l := by
  cases cs with
  | nil => unfold doReturn; dsimp only; split <;> exact ⟨(fun c h => by cases h), (fun c h => by cases h)⟩
  | cons x rest =>
    show (∀ c, retTo v rest d x fr.k.kind ≠ .panicked c) ∧ ∀ l, retTo v rest d x fr.k.kind ≠ .branch l
    unfold retTo
    split
    · exact ⟨(fun c h => by cases h), (fun c h => by cases h)⟩
    · split
      · split <;> exact ⟨(fun c h => by cases h), (fun c h => by cases h)⟩
      · exact ⟨(fun c h => by cases h), (fun c h => by cases h)⟩
    · exact ⟨(fun c h => by cases h), (fun c h => by cases h)⟩

theorem retV_out {k : FK} {m : AMode} {todo : List AItem} {t : BT AVal} {fr : Frame} {v : AVal} {v' : Value} (R : Rep w0 φ h nx w) (G : GlobOK E.ng φ) (hlo : lo ≤ nx) (hk : KRel φ k fr) (C : FsRel E φ h B base k.kind lo cs cs')
    (hmode : fr.mode = .returning) (hd : fr.defers = []) {fn : Func} (hf : P.funcs[fr.fn]? = some fn) (hr : (results fn fr.tmps).run P w = .ok v' w) (hv : VRel φ v v') :
    UOut E P w0 B base φ fr cs' w (doReturn ⟨k, m, todo, t⟩ ⟨h, nx⟩ v cs) := by
  cases hs : doReturn ⟨k, m, todo, t⟩ ⟨h, nx⟩ v cs with
  | next s' => exact .next s' (retTo_sound hM R G hlo hk C hmode hd hf hr hv hs)
  | done v1 s' =>
    obtain ⟨e1, e2, e3, e4⟩ := done_sound hM hk C hmode hd hf hr hs
    subst e1; subst e4
    exact .done _ _ v' hv e2 e3 hk.fn R
  | panicked c => exact absurd hs (doReturn_np.1 c)
  | branch l => exact absurd hs (doReturn_np.2 l)
  | stuck why => exact .stuck why

omit hM in
theorem Rep.setObj {id : Nat} {o o' : AObj} {p : Place} {ob : Obj} (R : Rep w0 φ h nx w) (hid : h.get id = some o) (hp : φ id = some p) (hro : o.ro = false) (hrel : ORel φ p o' ob) :
    Rep w0 φ (h.set id o') nx (w.putObj p.block ob) := by
  have hupd : φ = φ.upd id p := by
    funext j
    unfold Phi.upd
    by_cases e : j = id
    · rw [if_pos e, e, hp]
    · rw [if_neg e]
  have hlt := R.block_lt hid hp
  have hge := R.rw id o p hid hp hro
  refine R.move id o' p ob hupd (.inr hp) ?_ (by rw [BT.get_set, if_pos rfl]) (fun j oj hj e => by rw [BT.get_set, if_neg hj] at e; exact e) (Nat.le_refl _) (R.hdom id o hid) (fun _ => hge) (fun j oj pj hj e hpj he => ?_) (World.putObj_heap_same hlt) (fun k hk _ => World.putObj_heap_other hk) hrel
  · exact ⟨R.below.os, R.below.tape, R.below.output, by simp [World.putObj]; exact R.below.size, fun k hk => by rw [World.putObj_heap_other (by omega)]; exact R.below.block k hk⟩
  · rw [BT.get_set, if_neg hj] at e
    exact hj (R.inj j id oj o pj p e hid hpj hp he)

omit hM in
theorem extB_set {id : Nat} {p : Place} {b : Nat} (o' : AObj) (hp : φ id = some p) : ExtB b φ h φ (h.set id o') := ⟨Phi.le_refl φ, fun j _ hj => ⟨hj, by rw [BT.get_set, if_neg (fun e => by rw [e, hp] at hj; cases hj)]⟩⟩

theorem unwind_sound {k : FK} {m : AMode} {todo : List AItem} {t : BT AVal} {fr : Frame} (R : Rep w0 φ h nx w) (G : GlobOK E.ng φ) (hlo : lo ≤ nx) (hk : KRel φ k fr) (hm : MdRel φ m fr.mode) (hrun : m ≠ .run) (ht : TRel φ k.size t fr.tmps) (C : FsRel E φ h B base k.kind lo cs cs') :
    UOut E P w0 B base φ fr cs' w (unwind E ⟨k, m, todo, t⟩ cs ⟨h, nx⟩) := by
  obtain ⟨fnk, size, defers, kind, ro0⟩ := k
  have hfm : fr.mode ≠ .run := fun e => by
    rw [e] at hm
    cases hm; exact hrun rfl
  cases defers with
  | cons x ds =>
    obtain ⟨y, ds', hds, hxy, htl⟩ := hk.defers.cons_inv
    show UOut E P w0 B base φ fr cs' w (unwindD E ⟨⟨fnk, size, x :: ds, kind, ro0⟩, m, todo, t⟩ cs ⟨h, nx⟩ ds x)
    cases hxy with
    | coll id p hp =>
      unfold unwindD
      dsimp only
      split
      · rename_i l hl e
        cases e
        obtain ⟨ob, g1, g2⟩ := R.obj id _ p hl hp
        cases g2 with
        | @deferredS l2 dl' hdl =>
          refine .next _ ⟨φ, { fr with defers := dl' ++ ds' }, cs', w.putObj p.block (.deferred none), QExt.refl _ _, .one (step_lone_go ?_), ?_⟩
          · have htk := run_takeDeferred (P := P) g1
            obtain ⟨fn', T', td', dd', md', kd', ro'⟩ := fr
            dsimp only at hds hfm
            subst hds
            cases md' with
            | run => exact absurd rfl hfm
            | returning => simp [stepG, Go.unwind, Sem.runT_eq, htk]
            | panicking c => simp [stepG, Go.unwind, Sem.runT_eq, htk]
          · have R' := R.setObj hl hp rfl (.deferredN (φ := φ) (p := p))
            exact ⟨R', G, lo, hlo, .leave ⟨fnk, size, _ ++ ds, kind, ro0⟩ m todo t _ ⟨hk.fn, hdl.append htl, hk.kind, hk.ro⟩ hm hrun ht, C.mono (extB_set _ hp) (Nat.le_refl _)⟩
      · exact .stuck _
    | call g cap args cap' args' hc ha =>
      unfold unwindD
      dsimp only
      cases he : enterF E g (args ++ cap) .deferred with
      | none => exact .stuck _
      | some fr2 =>
        have hl : LRel φ (args ++ cap) (args' ++ cap').toList := by rw [Array.toList_append]; exact ha.append hc
        obtain ⟨g1, g2, g3⟩ := enter_rel hM (h := h) (nx := nx) (lo := nx) he hl
        refine .next _ ⟨φ, _, _, w, QExt.refl _ _, .one (step_defer hfm hds rfl (by simp only [invoke]; exact g3 w)), R, G, nx, Nat.le_refl _, g1, ?_⟩
        rw [g2]
        exact .cons .deferred nx lo _ _ cs cs' hlo (.deferred ⟨fnk, size, ds, kind, ro0⟩ m todo t _ ⟨hk.fn, htl, hk.kind, hk.ro⟩ hm hrun ht) C
  | nil =>
    have hds : fr.defers = [] := hk.defers.nil_inv
    show UOut E P w0 B base φ fr cs' w (unwind0 E ⟨⟨fnk, size, [], kind, ro0⟩, m, todo, t⟩ cs ⟨h, nx⟩ m)
    cases m with
    | run => exact absurd rfl hrun
    | panicking c =>
      unfold unwind0
      dsimp only
      cases hf : E.fns.get fnk with
      | none => exact .stuck _
      | some fn =>
        have hP := hM.env.fns _ _ hf
        cases cs with
        | nil => exact .panicked _
        | cons p rest =>
          dsimp only
          cases C with
          | cons _ _ lo2 _ c' _ cs2' hb hc tl =>
            obtain ⟨fn', T', td', dd', md', kd', ro'⟩ := fr
            dsimp only at hm
            cases hm with
            | panicking _ ch hcc =>
              refine .next _ ⟨φ, _, cs2', w, QExt.refl _ _, .one (step_leave_panicked (chain := ch) ⟨rfl, hds, fn, by have := hk.fn; dsimp only at this; rw [this]; exact hP⟩), R, G, lo2, Nat.le_trans hb hlo, (CalRel.raised_nx hlo hc).raise hcc lo2, ?_⟩
              rw [raise_k]; exact tl
    | returning =>
      unfold unwind0
      dsimp only
      cases hf : E.fns.get fnk with
      | none => exact .stuck _
      | some fn =>
        have hP := hM.env.fns _ _ hf
        dsimp only
        cases hrv : resultsV E h t fn.results.toList with
        | none => exact .stuck _
        | some vs =>
          obtain ⟨v', e1, e2⟩ := results_sound hM.env R ht hrv
          have hmode : fr.mode = .returning := by
            obtain ⟨fn', T', td', dd', md', kd', ro'⟩ := fr
            cases hm; rfl
          have hfn : fr.fn = fnk := hk.fn
          have key := retV_out (m := .returning) (todo := todo) (t := t) hM R G hlo hk C hmode hds (by rw [hfn]; exact hP) e1 e2
          unfold retV
          split
          · rename_i v hv; cases hv; exact key
          · rename_i vs' hne hv
            cases hv
            unfold ret1 at key
            split at key
            · exact absurd rfl (hne _)
            · exact key
          · rename_i hv; cases hv
end
end Go.Ev
end
