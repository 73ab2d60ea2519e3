/- The abstract machine of this proof: a deterministic reading of the model's code, and that it says what the model does. -/
import Derived.Test.YtedlbliofaomhaaGreatDoorMachine2
import Derived.MapKept
import Derived.Laws.IdiomStrings
import Derived.Calls
import Derived.Defers
set_option linter.all false
section
/- The abstract machine's operations stand for the model's: conversions and maps. -/
set_option linter.unusedVariables false
set_option linter.unusedSimpArgs false
set_option linter.unusedSectionVars false
namespace Go.Ev
open Go.RowKit

theorem Opt.ne {α : Type} {o : Option α} {x y : α} (h : o = some x) (h' : o = some y) : x = y := by rw [h] at h'; exact Option.some.inj h'

/-! ## Maps -/
section
variable {E : Env} {P : Program} {φ : Phi}

theorem key_cmp {kt : TypeId} {d : TypeDesc} {k ka : AVal} {k' ka' : Value} {b : Bool} (hd : E.under? kt = some d) (ht : keyT E kt k = true) (hk : VRel φ k k') (ha : VRel φ ka ka') (h : eqV E 1 kt k ka = some b) :
    Instr.sameNow d k' ka' = some b ∧ (b = true → k' = ka') := by
  unfold eqV at h
  unfold keyT at ht
  rw [hd] at h ht
  cases d with
  | bool =>
    cases hk with
    | bool x => cases ha with
      | bool y => simp only [Option.some.injEq] at h; subst h; exact ⟨rfl, fun hb => by simp at hb; rw [hb]⟩
      | _ => cases h
    | _ => cases ht
  | int j =>
    cases hk with
    | int i x => cases ha with
      | int l y =>
        dsimp only at h
        split at h
        · rename_i hil
          have hil := of_decide_eq_true hil
          subst hil
          simp only [Option.some.injEq] at h
          rw [intEq_eq] at h
          subst h
          exact ⟨by simp [Instr.sameNow], fun hb => by simp at hb; rw [hb]⟩
        · cases h
      | _ => cases h
    | _ => cases ht
  | string =>
    cases hk with
    | str x hx => cases ha with
      | str y hy =>
        simp only [Option.some.injEq] at h
        subst h
        have := MapKept.bytes_beq (bstr x) (bstr y)
        refine ⟨?_, fun hb => ?_⟩
        · show some ((bstr x) == (bstr y)) = _
          congr 1
          rw [Bool.eq_iff_iff, this, strEq_eq, decide_eq_true_iff]
          exact ⟨fun e' => map_inj x y hx hy (by rw [← bstr_toList, ← bstr_toList, e']), fun e' => by rw [e']⟩
        · rw [strEq_eq] at hb
          have := of_decide_eq_true hb
          subst this; rfl
      | _ => cases h
    | _ => cases ht
  | _ => cases ht

theorem find_spec {kt : TypeId} {d : TypeDesc} {k : AVal} {k' : Value} (hd : E.under? kt = some d) (ht : keyT E kt k = true) (hk : VRel φ k k') : ∀ (es : List (AVal × AVal)) (ces : List MapEntry) (i : Nat) (r : Option AVal),
    findKey E kt k es = some r → LRel φ (es.map (·.1)) (ces.map (·.key)) → LRel φ (es.map (·.2)) (ces.map (·.val)) →
    match r with
    | none => Instr.findNow d k' ces i = some none
    | some v => ∃ (j : Nat) (e : MapEntry), Instr.findNow d k' ces i = some (some (j, e.val)) ∧ VRel φ v e.val
  | [], ces, i, r, h, h1, h2 => by
    cases h
    have : ces = [] := by simpa using h1.nil_inv
    subst this
    rfl
  | (ka, va) :: es, ces, i, r, h, h1, h2 => by
    cases ces with
    | nil => have := h1.1; simp at this
    | cons e ces =>
      simp only [List.map_cons] at h1 h2
      unfold findKey at h
      split at h
      · rename_i hb
        obtain ⟨c1, c2⟩ := key_cmp hd ht hk h1.head hb
        cases h
        exact ⟨i, e, by simp [Instr.findNow, c1], h2.head⟩
      · rename_i hb
        obtain ⟨c1, c2⟩ := key_cmp hd ht hk h1.head hb
        have := find_spec hd ht hk es ces (i + 1) r h h1.tail h2.tail
        cases r with
        | none => simpa [Instr.findNow, c1] using this
        | some v => simpa [Instr.findNow, c1] using this
      · cases h

theorem put_spec {kt : TypeId} {d : TypeDesc} {k v : AVal} {k' : Value} (hd : E.under? kt = some d) (ht : keyT E kt k = true) (hk : VRel φ k k') : ∀ (es es' : List (AVal × AVal)) (ces : List MapEntry) (i : Nat),
    putKey E kt k v es = some es' → LRel φ (es.map (·.1)) (ces.map (·.key)) →
    (Instr.findNow d k' ces i = some none ∧ es' = es ++ [(k, v)]) ∨
    ∃ (j : Nat) (e : MapEntry) (p : AVal × AVal), Instr.findNow d k' ces i = some (some (i + j, e.val)) ∧ ces[j]? = some e ∧ k' = e.key ∧ es[j]? = some p ∧ es' = es.set j (p.1, v)
  | [], es', ces, i, h, h1 => by
    cases h
    have : ces = [] := by simpa using h1.nil_inv
    subst this
    exact .inl ⟨rfl, rfl⟩
  | (ka, va) :: es, es', ces, i, h, h1 => by
    cases ces with
    | nil => have := h1.1; simp at this
    | cons e ces =>
      simp only [List.map_cons] at h1
      unfold putKey at h
      split at h
      · rename_i hb
        obtain ⟨c1, c2⟩ := key_cmp hd ht hk h1.head hb
        cases h
        exact .inr ⟨0, e, (ka, va), by simp [Instr.findNow, c1], rfl, c2 rfl, rfl, rfl⟩
      · rename_i hb
        obtain ⟨c1, c2⟩ := key_cmp hd ht hk h1.head hb
        split at h
        · rename_i r hr
          cases h
          rcases put_spec hd ht hk es r ces (i + 1) hr h1.tail with ⟨g1, g2⟩ | ⟨j, e', p, g1, g2, g3, g4, g5⟩
          · exact .inl ⟨by simp [Instr.findNow, c1, g1], by rw [g2]; rfl⟩
          · exact .inr ⟨j + 1, e', p, by simp [Instr.findNow, c1, g1]; omega, by simpa using g2, g3, by simpa using g4, by rw [g5]; rfl⟩
        · cases h
      · cases h

theorem keyT_isKey {kt : TypeId} {d : TypeDesc} {k : AVal} {k' : Value} (hd : E.under? kt = some d) (ht : keyT E kt k = true) (hk : VRel φ k k') : MapKept.IsKey d k' ∧ keyOK k = true := by
  unfold keyT at ht
  rw [hd] at ht
  cases d <;> cases hk <;> first | cases ht; done | exact ⟨trivial, rfl⟩ | skip
  all_goals exact ⟨(of_decide_eq_true ht).symm, rfl⟩
end

section
variable {E : Env} {P : Program} (hE : EnvOK E P) {w0 w : World} {φ : Phi} {h : Heap} {nx : Nat} (R : Rep w0 φ h nx w)
include hE

theorem under_P {t : TypeId} {d : TypeDesc} (ht : E.under? t = some d) : P.underlying t = some d := by
  obtain ⟨ti, g1, g2⟩ := under_some ht
  rw [← g2]; exact (hE.tys t ti g1).2

theorem makeMap_sound (w : World) {ρ : Operand → Value} (o : Oper) {t : TypeId} {r : Option Operand} (ho : o.op = .makeMap t r)
    (hr : ∀ x, r = some x → (∃ k v, E.under? t = some (.map k v)) ∧ ∃ k n, ρ x = .int k n) : AllocOK P w0 φ w (execOp ρ o) (fun id => .map id) (.map []) := by
  intro h nx id R hid hnone
  refine ⟨.map (some w.heap.size), _, ⟨w.heap.size, 0, 0, 0⟩, ?_, ?_, R.alloc id _ ⟨w.heap.size, 0, 0, 0⟩ (.map #[] 0) hid hnone rfl (.map [] #[] ⟨.nil _, .nil _, (fun e he => by cases he), fun i e he => by simp at he⟩)⟩
  · cases r with
    | none => simp [execOp, ho, Instr.makeMap]
    | some x =>
      obtain ⟨⟨k, v, ht⟩, k', n, hx⟩ := hr x rfl
      simp [execOp, ho, Instr.makeMap, run_under' hE w ht, hx, asInt, asIntOf]
  · have := VRel.map (φ := φ.upd id ⟨w.heap.size, 0, 0, 0⟩) id _ (Phi.upd_same _ _ _)
    exact this

include R
theorem map_block {id : Nat} {es : List (AVal × AVal)} {p : Place} (ho : h.get id = some (.map es)) (hp : φ id = some p) : ∃ ces, w.heap[p.block]? = some (.map ces ces.size) ∧ MRel φ es ces := by
  obtain ⟨ob, hob, hr⟩ := R.obj id _ p ho hp
  cases hr with
  | map _ ces hm => exact ⟨ces, hob, hm⟩

theorem lookup_sound {t kt et : TypeId} {x k z : AVal} {x' k' : Value} {d : TypeDesc} {ok : Bool} {v : AVal} (ht : E.under? t = some (.map kt et)) (hd : E.under? kt = some d) (hz : E.zero? et = some z) (hkt : keyT E kt k = true) (hk : VRel φ k k') (hx : VRel φ x x')
    (hv : (x = .nilmap ∧ v = cond ok (.tup [z, .bool false]) z) ∨ ∃ id es r, x = .map id ∧ h.get id = some (.map es) ∧ findKey E kt k es = some r ∧
      v = match r with | some v => cond ok (.tup [v, .bool true]) v | none => cond ok (.tup [z, .bool false]) z) :
    ∃ v', (Instr.lookup t x' k' ok).run P w = .ok v' w ∧ VRel φ v v' := by
  obtain ⟨g1, g2⟩ := keyT_isKey hd hkt hk
  obtain ⟨ti, zv, a1, a2, a3, a4, a5, a6⟩ := zero_some hE w φ hz
  have hPd := under_P hE hd
  have hPt := under_P hE ht
  have tup2 : ∀ (u : AVal) (u' : Value) (b : Bool), VRel φ u u' → VRel φ (.tup [u, .bool b]) (.tuple #[u', .bool b]) := fun u u' b hu =>
    .tup' (a := #[u', .bool b]) (.cons hu (.cons (.bool b) (.nil _)))
  rcases hv with ⟨e1, e2⟩ | ⟨id, es, r, e1, ho, hf, e2⟩
  · subst e1; cases hx
    have hfn : Instr.findNow d k' (#[] : Array MapEntry).toList 0 = some none := rfl
    have hrun : (Instr.lookup t (.map none) k' ok).run P w = .ok (if ok then .tuple #[zv, .bool false] else zv) w := by
      simp [Instr.lookup, run_underlying hPt, MapKept.run_checkKey hPd g1, MapKept.run_findKey hPd hfn, a4, Result.andThen]
    refine ⟨_, hrun, ?_⟩
    subst e2
    cases ok with
    | true => exact tup2 _ _ _ a3
    | false => exact a3
  · subst e1
    cases hx with
    | map _ p hp =>
      obtain ⟨ces, hob, hm⟩ := map_block hE R ho hp
      have hfs := find_spec hd hkt hk es ces.toList 0 r hf hm.1 hm.2.1
      have hget := MapKept.run_getObj_map (P := P) hob
      cases r with
      | none =>
        have hrun : (Instr.lookup t (.map (some p.block)) k' ok).run P w = .ok (if ok then .tuple #[zv, .bool false] else zv) w := by
          simp [Instr.lookup, run_underlying hPt, hget, MapKept.run_checkKey hPd g1, MapKept.run_findKey hPd hfs, a4, Result.andThen]
        refine ⟨_, hrun, ?_⟩
        subst e2
        cases ok with
        | true => exact tup2 _ _ _ a3
        | false => exact a3
      | some u =>
        obtain ⟨j, e, h1, h2⟩ := hfs
        have hrun : (Instr.lookup t (.map (some p.block)) k' ok).run P w = .ok (if ok then .tuple #[e.val, .bool true] else e.val) w := by
          simp [Instr.lookup, run_underlying hPt, hget, MapKept.run_checkKey hPd g1, MapKept.run_findKey hPd h1, Result.andThen]
        refine ⟨_, hrun, ?_⟩
        subst e2
        cases ok with
        | true => exact tup2 _ _ _ h2
        | false => exact h2

/-- A map laid anew in its block. -/
theorem Rep.map_set {id : Nat} {es es' : List (AVal × AVal)} {p : Place} {ces' : Array MapEntry} {clock' : Nat} (hcl : clock' = ces'.size) (ho : h.get id = some (.map es)) (hp : φ id = some p) (hm : MRel φ es' ces') :
    Rep w0 φ (h.set id (.map es')) nx { w with heap := w.heap.setIfInBounds p.block (.map ces' clock') } := by
  subst hcl
  have hB := R.rw id _ p ho hp rfl
  have hlt := R.block_lt ho hp
  refine R.move id (.map es') p (.map ces' ces'.size) ?_ (.inr hp) ?_ (by rw [BT.get_set, if_pos rfl]) ?_ (Nat.le_refl _) (R.hdom id _ ho) (fun _ => hB) ?_ ?_ (fun j hj _ => ?_) (.map es' ces' hm)
  · funext j
    unfold Phi.upd
    split
    · rename_i e; rw [e, hp]
    · rfl
  · exact ⟨R.below.os, R.below.tape, R.below.output, by simpa using R.below.size, fun j hj => by
      show (w.heap.setIfInBounds p.block _)[j]? = _
      rw [Array.getElem?_setIfInBounds_ne (by omega)]; exact R.below.block j hj⟩
  · intro j oj hj h'
    rwa [BT.get_set, if_neg hj] at h'
  · intro j oj pj hj h' hpj he
    rw [BT.get_set, if_neg hj] at h'
    exact hj (R.inj j id oj _ pj p h' ho hpj hp he)
  · simp [hlt]
  · show (w.heap.setIfInBounds p.block _)[j]? = _
    rw [Array.getElem?_setIfInBounds_ne (Ne.symm hj)]

theorem mapUpdate_sound {t kt et : TypeId} {id : Nat} {es es' : List (AVal × AVal)} {k v : AVal} {x' k' v' : Value} {d : TypeDesc} (ht : E.under? t = some (.map kt et)) (hd : E.under? kt = some d) (hkt : keyT E kt k = true) (hk : VRel φ k k') (hv : VRel φ v v')
    (hx : VRel φ (.map id) x') (ho : h.get id = some (.map es)) (hput : putKey E kt k v es = some es') :
    ∃ w', (Instr.mapUpdate t x' k' v').run P w = .ok () w' ∧ Rep w0 φ (h.set id (.map es')) nx w' := by
  cases hx with
  | map _ p hp =>
    obtain ⟨g1, g2⟩ := keyT_isKey hd hkt hk
    have hPd := under_P hE hd
    have hPt := under_P hE ht
    obtain ⟨ces, hob, hm⟩ := map_block hE R ho hp
    have hget := MapKept.run_getObj_map (P := P) hob
    rcases put_spec (v := v) hd hkt hk es es' ces.toList 0 hput hm.1 with ⟨h1, h2⟩ | ⟨j, e, q, h1, h2, h3, h4, h5⟩
    · refine ⟨_, by simp [Instr.mapUpdate, run_underlying hPt, hget, MapKept.run_checkKey hPd g1, MapKept.run_findKey hPd h1, MapKept.run_setObj_map _ hob, Result.andThen]; rfl, R.map_set hE (by simp) ho hp ?_⟩
      subst h2
      refine ⟨?_, ?_, ?_, ?_⟩
      · simp only [List.map_append, Array.toList_push, List.map_cons, List.map_nil]
        exact hm.1.append (.cons hk (.nil _))
      · simp only [List.map_append, Array.toList_push, List.map_cons, List.map_nil]
        exact hm.2.1.append (.cons hv (.nil _))
      · intro e he
        rcases List.mem_append.1 he with he | he
        · exact hm.2.2.1 e he
        · simp at he; rw [he]; exact g2
      · intro i e he
        rw [Array.getElem?_push] at he
        split at he
        · rename_i hi; cases he; exact hi.symm
        · exact hm.2.2.2 i e he
    · rw [Nat.zero_add] at h1
      have hce : ces[j]? = some e := by simpa using h2
      have hstay := MapKept.run_keyThatStays (P := P) (w := w) g1
      refine ⟨_, by simp [Instr.mapUpdate, run_underlying hPt, hget, MapKept.run_checkKey hPd g1, MapKept.run_findKey hPd h1, MapKept.run_setObj_map _ hob, Result.andThen, hce, ← h3, hstay]; rfl, R.map_set hE (by simp) ho hp ?_⟩
      subst h5
      have hmod : ∀ i, (ces.modify j fun e => { e with key := k', val := v' })[i]? = if i = j then some { e with key := k', val := v' } else ces[i]? := by
        intro i
        rw [Array.getElem?_modify]
        by_cases hij : j = i
        · subst hij; simp [hce]
        · rw [if_neg hij, if_neg (Ne.symm hij)]
      have hjl : j < es.length := by
        rcases Nat.lt_or_ge j es.length with hh | hh
        · exact hh
        · rw [List.getElem?_eq_none hh] at h4; cases h4
      refine ⟨⟨by have := hm.1.1; simpa using this, fun i a b ha hb => ?_⟩, ⟨by have := hm.2.1.1; simpa using this, fun i a b ha hb => ?_⟩, ?_, ?_⟩
      · rw [List.getElem?_map] at ha hb
        rw [Array.getElem?_toList] at hb
        have hb' : (ces.modify j fun e => { e with key := k', val := v' })[i]?.map (·.key) = some b := hb
        rw [hmod] at hb'
        by_cases hij : i = j
        · subst hij
          simp at hb'
          simp [hjl] at ha
          rw [← hb', ← ha, h3]
          exact hm.1.2 i q.1 e.key (by simp [h4]) (by simp [hce])
        · rw [if_neg hij] at hb'
          rw [List.getElem?_set_ne (Ne.symm hij)] at ha
          exact hm.1.2 i a b (by simpa using ha) (by simpa using hb')
      · rw [List.getElem?_map] at ha hb
        rw [Array.getElem?_toList] at hb
        have hb' : (ces.modify j fun e => { e with key := k', val := v' })[i]?.map (·.val) = some b := hb
        rw [hmod] at hb'
        by_cases hij : i = j
        · subst hij
          simp at hb'
          simp [hjl] at ha
          rw [← hb', ← ha]; exact hv
        · rw [if_neg hij] at hb'
          rw [List.getElem?_set_ne (Ne.symm hij)] at ha
          exact hm.2.1.2 i a b (by simpa using ha) (by simpa using hb')
      · intro e' he'
        rcases List.mem_or_eq_of_mem_set he' with hh | hh
        · exact hm.2.2.1 e' hh
        · rw [hh]; exact hm.2.2.1 q (List.mem_of_getElem? h4)
      · intro i a ha
        rw [hmod] at ha
        by_cases hij : i = j
        · subst hij
          rw [if_pos rfl] at ha; cases ha
          exact hm.2.2.2 i e hce
        · rw [if_neg hij] at ha
          exact hm.2.2.2 i a ha
end
end Go.Ev
end
section
/- The abstract machine's operations stand for the model's: one by one, the quiet ones. -/
set_option linter.unusedVariables false
set_option linter.unusedSimpArgs false
set_option linter.unusedSectionVars false
namespace Go.Ev
open Go.RowKit

section
variable {φ : Phi} {v : Value}
theorem VRel.bool_inv {b : Bool} (h : VRel φ (.bool b) v) : v = .bool b := by cases h; rfl
theorem VRel.int_inv {k : IntKind} {n : Int} (h : VRel φ (.int k n) v) : v = .int k n := by cases h; rfl
theorem VRel.nilptr_inv (h : VRel φ .nilptr v) : v = .pointer none := by cases h; rfl
theorem VRel.ptr_inv {id off : Nat} (h : VRel φ (.ptr id off) v) : ∃ p, φ id = some p ∧ v = .pointer (some ⟨p.block, p.base + off, none⟩) := by cases h; exact ⟨_, ‹_›, rfl⟩
theorem VRel.nilslice_inv (h : VRel φ .nilslice v) : v = .slice none 0 0 := by cases h; rfl
theorem VRel.eslice_inv (h : VRel φ .eslice v) : ∃ a c, v = .slice (some a) 0 c := by cases h; exact ⟨_, _, rfl⟩
theorem VRel.slice_inv {id off len : Nat} {cap : ACap} (h : VRel φ (.slice id off len cap) v) : ∃ p c', φ id = some p ∧ v = .slice (some ⟨p.block, p.base + off, none⟩) len c' ∧ len ≤ c' ∧ (∀ c, cap = .ex c → c = c') ∧
    (∀ sz, cap = .gr sz → p.n ≤ off + c' * sz ∧ p.base + off + c' * sz ≤ p.total) := by
  cases h with
  | sliceE _ _ _ c p hp hl => exact ⟨p, _, hp, rfl, hl, (fun c e => by cases e; rfl), (fun sz e => by cases e)⟩
  | sliceG _ _ _ sz c p hp hl h1 h2 => exact ⟨p, _, hp, rfl, hl, (fun c e => by cases e), (fun sz e => by cases e; exact ⟨h1, h2⟩)⟩
theorem VRel.nilmap_inv (h : VRel φ .nilmap v) : v = .map none := by cases h; rfl
theorem VRel.map_inv {id : Nat} (h : VRel φ (.map id) v) : ∃ p, φ id = some p ∧ v = .map (some p.block) := by cases h; exact ⟨_, ‹_›, rfl⟩
theorem VRel.nilfunc_inv (h : VRel φ .nilfunc v) : v = .nilFunc := by cases h; rfl
theorem VRel.niliface_inv (h : VRel φ .niliface v) : v = .nilIface := by cases h; rfl
theorem VRel.iface_inv {t : TypeId} {x : AVal} (h : VRel φ (.iface t x) v) : ∃ x', v = .iface t x' ∧ VRel φ x x' := by cases h; exact ⟨_, rfl, ‹_›⟩
theorem VRel.func_inv {fn : Fn} {a b : List AVal} (h : VRel φ (.func fn a b) v) : (∃ f a' b', fn = .func f ∧ v = .func (.func f) a' b' ∧ LRel φ a a'.toList ∧ LRel φ b b'.toList) ∨
    (∃ l p, fn = .yield l ∧ a = [] ∧ b = [] ∧ φ l = some p ∧ v = .func (.yield p.block) #[] #[]) := by
  cases h with
  | func f _ _ a' b' ha hb h h' => exact .inl ⟨f, a', b', rfl, rfl, .of_arr ha h, .of_arr hb h'⟩
  | yield l p h => exact .inr ⟨l, p, rfl, rfl, rfl, h, rfl⟩
end

/-- What a quiet operation does. -/
def QR (P : Program) (w0 : World) (φ : Phi) (nx : Nat) (w : World) (s : Sem Next) : OpR → Prop
  | .val v e nx' => (e = [] ∧ nx' = nx ∧ PureOK P w φ s v) ∨ (∃ f o, v = f nx ∧ e = [(nx, some o)] ∧ nx' = nx + 1 ∧ AllocOK P w0 φ w s f o)
  | .panic v => ∃ v', s.run P w = .halt (.panic v') w ∧ VRel φ v v'
  | .stuck _ => True
  | _ => False
theorem QR.pure {P : Program} {w0 w : World} {φ : Phi} {nx : Nat} {s : Sem Next} {v : AVal} {S : Sem Value} {v' : Value} (hv : VRel φ v v') (hs : S.run P w = .ok v' w)
    (he : s = (do pure (.value (← S)) : Sem Next)) : QR P w0 φ nx w s (.val v [] nx) := by
  refine .inl ⟨rfl, rfl, v', ?_, hv⟩
  rw [he, Sem.run_bind, hs]; rfl
theorem QR.pure1 {P : Program} {w0 w : World} {φ : Phi} {nx : Nat} {s : Sem Next} {v : AVal} {v' : Value} (hv : VRel φ v v') (hs : s.run P w = .ok (.value v') w) : QR P w0 φ nx w s (.val v [] nx) :=
  .inl ⟨rfl, rfl, v', hs, hv⟩
theorem QR.valO {P : Program} {w0 w : World} {φ : Phi} {nx : Nat} {s : Sem Next} {v : Option AVal} {why : String} {S : Sem Value} (h : ∀ x, v = some x → ∃ v', S.run P w = .ok v' w ∧ VRel φ x v')
    (he : s = (do Pure.pure (.value (← S)) : Sem Next)) : QR P w0 φ nx w s (Ev.valO v nx why) := by
  cases v with
  | none => trivial
  | some x =>
    obtain ⟨v', h1, h2⟩ := h x rfl
    exact QR.pure h2 h1 he

section
variable {P : Program} {x0 : Cx} (hE : EnvOK x0.E P) {w0 w : World} {φ : Phi} {n0 : Nat} (R : Rep w0 φ x0.h n0 w) {ρ : Operand → Value} (O : ∀ x, VRel φ (evalT x0.E.ng x0.tmps x) (ρ x)) (o : Oper)
include hE R O

theorem move_q {x : Operand} (ho : o.op = .move x) : QR P w0 φ x0.nx w (execOp ρ o) (op_move x0 x) := .pure1 (O x) (by simp [execOp, ho])
theorem assign_q {x : Operand} (ho : o.op = .assign x) : QR P w0 φ x0.nx w (execOp ρ o) (op_assign x0 x) := .pure1 (O x) (by simp [execOp, ho])
theorem pick_q {c a b : Operand} (ho : o.op = .pick c a b) : QR P w0 φ x0.nx w (execOp ρ o) (op_pick x0 c a b) := by
  unfold op_pick
  have hc := O c
  split
  · rename_i h
    rw [h] at hc
    exact .pure1 (O a) (by simp [execOp, ho, asBool, hc.bool_inv])
  · rename_i h
    rw [h] at hc
    exact .pure1 (O b) (by simp [execOp, ho, asBool, hc.bool_inv])
  · trivial
theorem alloc_q {t : TypeId} (ho : o.op = .alloc t) : QR P w0 φ x0.nx w (execOp ρ o) (op_alloc x0 t) := by
  unfold op_alloc
  split
  · rename_i z hz
    exact .inr ⟨fun id => .ptr id 0, _, rfl, rfl, rfl, alloc_sound hE w hz ρ o ho⟩
  · trivial
theorem box_q {t : TypeId} {x : Operand} (ho : o.op = .box t x) : QR P w0 φ x0.nx w (execOp ρ o) (op_box x0 x) := by
  unfold op_box
  split
  · trivial
  · rename_i hb
    exact .inr ⟨fun id => .ptr id 0, _, rfl, rfl, rfl, box_sound w o ho (O x) hb⟩
theorem build_q {t : TypeId} {parts : Array (Nat × Operand)} (ho : o.op = .build t parts) : QR P w0 φ x0.nx w (execOp ρ o) (op_build x0 t parts) := by
  unfold op_build
  refine .valO (S := Instr.build t (parts.map fun (i, x) => (i, ρ x))) (fun v hv => buildV_sound hE w hv ?_) (by simp [execOp, ho])
  have := PRel.of_opds (φ := φ) (ng := x0.E.ng) (tmps := x0.tmps) (ρ := ρ) parts.toList (fun p _ => O p.2)
  simpa using this
theorem buildSlice_q {t : TypeId} {len : Nat} {parts : Array (Nat × Operand)} (ho : o.op = .buildSlice t len parts) : QR P w0 φ x0.nx w (execOp ρ o) (op_buildSlice x0 t len parts) := by
  unfold op_buildSlice
  split
  · rename_i e ht
    split
    · rename_i sz z hsz hz
      split
      · rename_i hc
        simp only [Bool.and_eq_true, Bool.not_eq_true'] at hc
        obtain ⟨⟨c1, c2⟩, c3⟩ := hc
        have c1 := Nat.le_of_ble_eq_true c1
        have c2 := Nat.eq_of_beq_eq_true c2
        have c3 : len * sz ≠ 0 := fun ee => by rw [ee] at c3; cases c3
        split
        · rename_i c hf
          exact .inr ⟨fun id => .slice id 0 len (.ex len), _, rfl, rfl, rfl, buildSlice_sound hE w o ho ht hsz hz c1 c2 c3 (fun p _ => O p.2) hf⟩
        · trivial
      · split
        · rename_i h0 hps
          exact .inr ⟨fun id => .slice id 0 len (.ex len), _, rfl, rfl, rfl, buildSlice0_sound hE w o ho ht hsz (Nat.eq_of_beq_eq_true h0) hps⟩
        · trivial
    · trivial
  · trivial
theorem load_q {t : TypeId} {a : Operand} (ho : o.op = .load t a) : QR P w0 φ x0.nx w (execOp ρ o) (op_load x0 t a) := by
  unfold op_load
  have ha := O a
  split
  · rename_i id off h
    rw [h] at ha
    obtain ⟨p, hp, e⟩ := ha.ptr_inv
    exact .valO (S := Instr.loadAt t (ρ a)) (fun v hv => by
      obtain ⟨v', h1, h2⟩ := load_sound hE R hv hp
      exact ⟨v', by simp [Instr.loadAt, e, Instr.sureAddr, h1], h2⟩) (by simp [execOp, ho])
  · trivial
theorem nilCheck_q {x : Operand} (ho : o.op = .nilCheck x) : QR P w0 φ x0.nx w (execOp ρ o) (op_nilCheck x0 x) := by
  unfold op_nilCheck
  have hx := O x
  have pan : (runtimePanic .nilDeref : Sem Next).run P w = .halt (.panic (.iface P.rt.errorString (strVal "invalid memory address or nil pointer dereference"))) w := by
    simp [runtimePanic, goPanic]
  have hv : VRel φ (rtErr x0.E "invalid memory address or nil pointer dereference") (.iface P.rt.errorString (strVal "invalid memory address or nil pointer dereference")) := by
    unfold rtErr
    rw [hE.err]
    exact .iface _ _ _ (str_of φ _)
  split
  · rename_i h; rw [h] at hx; exact ⟨_, by simp only [execOp, ho, hx.nilptr_inv]; exact pan, hv⟩
  · rename_i h; rw [h] at hx; exact ⟨_, by simp only [execOp, ho, hx.niliface_inv]; exact pan, hv⟩
  · rename_i h; rw [h] at hx; exact ⟨_, by simp only [execOp, ho, hx.nilfunc_inv]; exact pan, hv⟩
  · rename_i id off h
    rw [h] at hx
    obtain ⟨p, hp, e⟩ := hx.ptr_inv
    exact .pure1 (.ptr id off p hp) (by simp [execOp, ho, e])
  · trivial
theorem makeInterface_q {t : TypeId} {x : Operand} (ho : o.op = .makeInterface t x) : QR P w0 φ x0.nx w (execOp ρ o) (op_makeInterface x0 t x) := by
  unfold op_makeInterface
  split
  · trivial
  · rename_i d hn hd
    exact .pure (S := Instr.makeInterface t (ρ x)) (.iface t _ _ (O x)) (by
      simp only [Instr.makeInterface, Sem.run_bind, run_under' hE w hd, Result.andThen_ok]
      rfl) (by simp [execOp, ho])
  · trivial
theorem opds_rel (xs : List Operand) : LRel φ (xs.map (evalT x0.E.ng x0.tmps)) (xs.map ρ) := ⟨by simp, fun i v v' h1 h2 => by
  rw [List.getElem?_map] at h1 h2
  cases hx : xs[i]? with
  | none => rw [hx] at h1; cases h1
  | some x => rw [hx] at h1 h2; cases h1; cases h2; exact O x⟩
theorem makeFunc_q {fn : Fn} {first cap : Array Operand} (ho : o.op = .makeFunc fn first cap) : QR P w0 φ x0.nx w (execOp ρ o) (op_makeFunc x0 fn first cap) := by
  unfold op_makeFunc
  split
  · rename_i f
    have h1 := opds_rel hE R O first.toList
    have h2 := opds_rel hE R O cap.toList
    exact .pure (S := Instr.makeFunc (.func f) (first.map ρ) (cap.map ρ)) (.func f _ _ (first.map ρ) (cap.map ρ) (by simp) (by simp) (fun i v v' a b => h1.2 i v v' a (by simpa using b)) (fun i v v' a b => h2.2 i v v' a (by simpa using b)))
      rfl (by simp [execOp, ho])
  · trivial
theorem makeMap_q {t : TypeId} {r : Option Operand} (ho : o.op = .makeMap t r) : QR P w0 φ x0.nx w (execOp ρ o) (op_makeMap x0 t r) := by
  unfold op_makeMap
  split
  · exact .inr ⟨fun id => .map id, _, rfl, rfl, rfl, makeMap_sound hE w o ho (fun x hx => by cases hx)⟩
  · rename_i x
    have hx := O x
    split
    · rename_i k v j n hk hn
      rw [hn] at hx
      exact .inr ⟨fun id => .map id, _, rfl, rfl, rfl, makeMap_sound hE w o ho (fun y hy => by cases hy; exact ⟨⟨k, v, hk⟩, _, _, hx.int_inv⟩)⟩
    · trivial
theorem makeSlice_q {t : TypeId} {l c : Operand} (ho : o.op = .makeSlice t l c) : QR P w0 φ x0.nx w (execOp ρ o) (op_makeSlice x0 t l c) := by
  unfold op_makeSlice
  have hl := O l
  have hc := O c
  split
  · rename_i e ln cn ht h1 h2
    rw [h1] at hl
    rw [h2] at hc
    split
    · rename_i z ti hz hti
      split
      · rename_i hh
        simp only [Bool.and_eq_true] at hh
        exact .inr ⟨fun id => .slice id 0 ln (.ex cn), _, rfl, rfl, rfl, makeSlice_sound (ng := 0) (tmps := .nil) hE w o ho ht hz hti hl.int_inv hc.int_inv (Nat.le_of_ble_eq_true hh.1.1) (Nat.le_of_ble_eq_true hh.1.2) (Nat.le_of_ble_eq_true hh.2)⟩
      · trivial
    · trivial
  · trivial
theorem extract_q {t : Operand} {i : Nat} (ho : o.op = .extract t i) : QR P w0 φ x0.nx w (execOp ρ o) (op_extract x0 t i) := by
  unfold op_extract
  have ht := O t
  split
  · rename_i l h
    rw [h] at ht
    obtain ⟨a, e, hl⟩ := ht.tup_inv
    exact .valO (S := Instr.extract (ρ t) i) (fun v hv => by
      obtain ⟨v', h1, h2⟩ := hl.get hv
      have h1 : a[i]? = some v' := by simpa using h1
      exact ⟨v', by simp [Instr.extract, e, h1], h2⟩) (by simp [execOp, ho])
  · trivial
theorem field_q {t : TypeId} {x : Operand} {f : Nat} (ho : o.op = .field t x f) : QR P w0 φ x0.nx w (execOp ρ o) (op_field x0 t x f) := by
  unfold op_field
  have hx := O x
  split
  · rename_i fields l ht h
    rw [h] at hx
    obtain ⟨a, e, hl⟩ := hx.agg_inv
    split
    · rename_i fd hfd
      have hfd : fields[f]? = some fd := by simpa using hfd
      exact .valO (S := Instr.field t (ρ x) f) (fun v hv => by
        obtain ⟨v', h1, h2⟩ := part_sound hE w hv hl
        exact ⟨v', by simp [Instr.field, run_under' hE w ht, hfd, e, asAgg, h1], h2⟩) (by simp [execOp, ho])
    · trivial
  · trivial
theorem fieldAddr_q {s : TypeId} {x : Operand} {f : Nat} (ho : o.op = .fieldAddr s x f) : QR P w0 φ x0.nx w (execOp ρ o) (op_fieldAddr x0 s x f) := by
  unfold op_fieldAddr
  have hx := O x
  split
  · rename_i fields id off ht h
    rw [h] at hx
    obtain ⟨p, hp, e⟩ := hx.ptr_inv
    split
    · rename_i fd hfd
      have hfd : fields[f]? = some fd := by simpa using hfd
      split
      · rename_i k hsz
        exact .pure (S := Instr.fieldAt s (ρ x) f) (.ptr id (off + fd.offset) p hp) (by
          simp [Instr.fieldAt, run_under' hE w ht, hfd, e, Instr.sureAddr, fieldPlace, run_size' hE w hsz, add_off, Nat.add_assoc]) (by simp [execOp, ho])
      · trivial
    · trivial
  · trivial
theorem indexAddr_q {t : TypeId} {x ix : Operand} (ho : o.op = .indexAddr t x ix) : QR P w0 φ x0.nx w (execOp ρ o) (op_indexAddr x0 t x ix) := by
  unfold op_indexAddr
  have hx := O x
  have hi := O ix
  split
  · rename_i n e id off k i ht h1 h2
    rw [h1] at hx
    rw [h2] at hi
    obtain ⟨p, hp, e1⟩ := hx.ptr_inv
    split
    · rename_i sz hlt hsz
      have hlt : i < n := Nat.le_of_ble_eq_true hlt
      exact .pure (S := Instr.indexAt t (ρ x) (ρ ix)) (.ptr id (off + i * sz) p hp) (by
        simp [Instr.indexAt, hi.int_inv, asIntOf, run_under' hE w ht, e1, Instr.sureAddr, hlt, run_size' hE w hsz, add_off, Nat.add_assoc]) (by simp [execOp, ho])
    · trivial
  · rename_i e id off len cap k i ht h1 h2
    rw [h1] at hx
    rw [h2] at hi
    obtain ⟨p, c', hp, e1, hl, _, _⟩ := hx.slice_inv
    split
    · rename_i sz hlt hsz
      have hlt : i < len := Nat.le_of_ble_eq_true hlt
      exact .pure (S := Instr.indexAt t (ρ x) (ρ ix)) (.ptr id (off + i * sz) p hp) (by
        simp [Instr.indexAt, hi.int_inv, asIntOf, run_under' hE w ht, e1, hlt, run_size' hE w hsz, add_off, Nat.add_assoc]) (by simp [execOp, ho])
    · trivial
  · trivial
theorem index_q {t : TypeId} {x ix : Operand} (ho : o.op = .index t x ix) : QR P w0 φ x0.nx w (execOp ρ o) (op_index x0 t x ix) := by
  unfold op_index
  have hx := O x
  have hi := O ix
  split
  · rename_i n e l k i ht h1 h2
    rw [h1] at hx
    rw [h2] at hi
    obtain ⟨a, e1, hl⟩ := hx.agg_inv
    split
    · rename_i sz hlt hsz
      have hlt : i < n := Nat.le_of_ble_eq_true hlt
      exact .valO (S := Instr.index t (ρ x) (ρ ix)) (fun v hv => by
        obtain ⟨v', g1, g2⟩ := part_sound hE w hv hl
        exact ⟨v', by simp [Instr.index, hi.int_inv, asIntOf, run_under' hE w ht, e1, hlt, run_size' hE w hsz, g1], g2⟩) (by simp [execOp, ho])
    · trivial
  · rename_i s k i ht h1 h2
    rw [h1] at hx
    rw [h2] at hi
    obtain ⟨e1, hs⟩ := str_inv hx
    split
    · rename_i b hb
      have hlt : b < 256 := hs b (List.mem_of_getElem? hb)
      have hget : (bstr s)[i]? = some (UInt8.ofNat b) := by
        have hi : i < s.length := by
          rcases Nat.lt_or_ge i s.length with hh | hh
          · exact hh
          · rw [List.getElem?_eq_none hh] at hb; cases hb
        have hb2 : s[i] = b := by rw [List.getElem?_eq_getElem hi] at hb; exact Option.some.inj hb
        have hsz : i < (bstr s).size := by rw [bstr_size]; exact hi
        rw [getElem?_pos (bstr s) i hsz]
        congr 1
        show (bstr s).data[i] = _
        simp [bstr, hb2]
      exact .pure (S := Instr.index t (ρ x) (ρ ix)) (.int _ _) (by
        simp [Instr.index, hi.int_inv, asIntOf, run_under' hE w ht, e1, hget, Nat.mod_eq_of_lt hlt]) (by simp [execOp, ho])
    · trivial
  · trivial
end
end Go.Ev
end
section
/- The abstract machine's operations stand for the model's: one by one, more quiet ones. -/
set_option linter.unusedVariables false
set_option linter.unusedSimpArgs false
set_option linter.unusedSectionVars false
namespace Go.Ev
open Go.RowKit

section
variable {P : Program} {x0 : Cx} (hE : EnvOK x0.E P) {w0 w : World} {φ : Phi} {n0 : Nat} (R : Rep w0 φ x0.h n0 w) {ρ : Operand → Value} (O : ∀ x, VRel φ (evalT x0.E.ng x0.tmps x) (ρ x)) (o : Oper)
include hE R O

theorem unOp_q {op : UnOp} {t : TypeId} {x : Operand} (ho : o.op = .unOp op t x) : QR P w0 φ x0.nx w (execOp ρ o) (op_unOp x0 op x) := by
  unfold op_unOp
  have hx := O x
  have int : ∀ (op : UnOp) k n, o.op = .unOp op t x → evalT x0.E.ng x0.tmps x = .int k n → QR P w0 φ x0.nx w (execOp ρ o) (valO (ofSem (Op.unary op (.int k n))) x0.nx "unOp") := by
    intro op k n ho h
    rw [h] at hx
    exact .valO (S := Op.unary op (ρ x)) (fun v hv => by
      rw [hx.int_inv]
      exact ofSem_spec hv P w φ) (by simp [execOp, ho])
  cases op
  all_goals
    split
    all_goals first
      | trivial
      | (rename_i hn h; exact int _ _ _ ho h)
      | (rename_i h; exact int _ _ _ ho h)
      | (rename_i b h; rw [h] at hx; exact .pure (S := Op.unary .not (ρ x)) (.bool _) (by rw [hx.bool_inv]; rfl) (by simp [execOp, ho]))

theorem typeAssert_q {x : Operand} {xt asserted : TypeId} {ok : Bool} (ho : o.op = .typeAssert x xt asserted ok) : QR P w0 φ x0.nx w (execOp ρ o) (op_typeAssert x0 x asserted ok) := by
  unfold op_typeAssert
  have hx := O x
  have tup2 : ∀ (u : AVal) (u' : Value) (b : Bool), VRel φ u u' → VRel φ (.tup [u, .bool b]) (.tuple #[u', .bool b]) := fun u u' b hu =>
    .tup' (a := #[u', .bool b]) (.cons hu (.cons (.bool b) (.nil _)))
  split
  · trivial
  · rename_i d t v hn hd h
    rw [h] at hx
    obtain ⟨x', e, hv⟩ := hx.iface_inv
    have hne : ∀ ms, d ≠ .interface ms := fun ms hh => hn ms (by rw [hh])
    split
    · rename_i ht
      have ht := Nat.eq_of_beq_eq_true ht
      subst ht
      exact .pure (S := Instr.typeAssert (ρ x) xt t true) (tup2 _ _ _ hv) (by
        simp only [Instr.typeAssert, Sem.run_bind, run_under' hE w hd, Result.andThen_ok, e]
        cases d <;> first | exact absurd rfl (hne _) | simp) (by simp [execOp, ho])
    · rename_i ht
      have ht := Nat.eq_of_beq_eq_true ht
      subst ht
      exact .pure (S := Instr.typeAssert (ρ x) xt t false) hv (by
        simp only [Instr.typeAssert, Sem.run_bind, run_under' hE w hd, Result.andThen_ok, e]
        cases d <;> first | exact absurd rfl (hne _) | simp) (by simp [execOp, ho])
    · rename_i ht
      have ht : t ≠ asserted := fun ee => by rw [ee, Nat.beq_refl] at ht; cases ht
      split
      · rename_i z hz
        obtain ⟨ti, zv, a1, a2, a3, a4, a5, a6⟩ := zero_some hE w φ hz
        exact .pure (S := Instr.typeAssert (ρ x) xt asserted true) (tup2 _ _ _ a3) (by
          simp only [Instr.typeAssert, Sem.run_bind, run_under' hE w hd, Result.andThen_ok, e]
          cases d <;> first | exact absurd rfl (hne _) | simp [ht, a4]) (by simp [execOp, ho])
      · trivial
    · trivial
  · rename_i d hn hd h
    rw [h] at hx
    have e := hx.niliface_inv
    have hne : ∀ ms, d ≠ .interface ms := fun ms hh => hn ms (by rw [hh])
    split
    · rename_i z hz
      obtain ⟨ti, zv, a1, a2, a3, a4, a5, a6⟩ := zero_some hE w φ hz
      exact .pure (S := Instr.typeAssert (ρ x) xt asserted true) (tup2 _ _ _ a3) (by
        simp only [Instr.typeAssert, Sem.run_bind, run_under' hE w hd, Result.andThen_ok, e]
        cases d <;> first | exact absurd rfl (hne _) | simp [a4]) (by simp [execOp, ho])
    · trivial
  · trivial

theorem sliceToArrayPointer_q {arr : TypeId} {x : Operand} (ho : o.op = .sliceToArrayPointer arr x) : QR P w0 φ x0.nx w (execOp ρ o) (op_sliceToArrayPointer x0 arr x) := by
  unfold op_sliceToArrayPointer
  have hx := O x
  split
  · rename_i n e id off len cap ht h
    rw [h] at hx
    obtain ⟨p, c', hp, e1, hl, _, _⟩ := hx.slice_inv
    split
    · rename_i hle
      have hle := Nat.le_of_ble_eq_true hle
      have hle : ¬ len < n := by omega
      exact .pure (S := Instr.arrayAt arr (ρ x)) (.ptr id off p hp) (by simp [Instr.arrayAt, run_under' hE w ht, e1, hle]) (by simp [execOp, ho])
    · trivial
  · trivial

theorem lookup_q {t : TypeId} {x k : Operand} {ok : Bool} (ho : o.op = .lookup t x k ok) : QR P w0 φ x0.nx w (execOp ρ o) (op_lookup x0 t x k ok) := by
  unfold op_lookup
  have hx := O x
  have hk := O k
  split
  · rename_i kt et ht
    have hd : ∀ k, keyT x0.E kt k = true → ∃ d, x0.E.under? kt = some d := fun k hkt => by
      unfold keyT at hkt
      split at hkt <;> first | exact ⟨_, ‹_›⟩ | cases hkt
    split
    · rename_i z h hz hkt
      obtain ⟨d, hd⟩ := hd _ hkt
      have := lookup_sound (ok := ok) hE R ht hd hz hkt hk hx (.inl ⟨h, rfl⟩)
      obtain ⟨v', h1, h2⟩ := this
      exact .pure (S := Instr.lookup t (ρ x) (ρ k) ok) h2 h1 (by simp [execOp, ho])
    · rename_i id z h hz hkt
      obtain ⟨d, hd⟩ := hd _ hkt
      split
      · rename_i es ho'
        split
        · rename_i v hf
          obtain ⟨v', h1, h2⟩ := lookup_sound (ok := ok) hE R ht hd hz hkt hk hx (.inr ⟨id, es, _, h, ho', hf, rfl⟩)
          exact .pure (S := Instr.lookup t (ρ x) (ρ k) ok) h2 h1 (by simp [execOp, ho])
        · rename_i hf
          obtain ⟨v', h1, h2⟩ := lookup_sound (ok := ok) hE R ht hd hz hkt hk hx (.inr ⟨id, es, _, h, ho', hf, rfl⟩)
          exact .pure (S := Instr.lookup t (ρ x) (ρ k) ok) h2 h1 (by simp [execOp, ho])
        · trivial
      · trivial
    · trivial
  · trivial
end

/-! ## Operators -/
section
variable {E : Env} {P : Program} (hE : EnvOK E P) {w : World} {φ : Phi}
include hE

theorem eqGuard_nil {op : BinOp} {t : TypeId} {x y : Operand} (hc : (isC x || isC y) = true) : (eqGuard op t x y .nilIface .nilIface).run P w = .ok () w := by
  cases op <;> cases x <;> cases y <;> first | rfl | cases hc
theorem eqGuard_agg {op : BinOp} {t : TypeId} {x y : Operand} {xs ys : Array Value} (hc : P.eqGuardType P.depth t = false) : (eqGuard op t x y (.agg xs) (.agg ys)).run P w = .ok () w := by
  cases op <;> first | rfl | simp [eqGuard, hc]
theorem eqGuard_not {op : BinOp} {t : TypeId} {x y : Operand} {a b : Value} (h1 : ¬ (a = .nilIface ∧ b = .nilIface)) (h2 : ∀ xs ys, ¬ (a = .agg xs ∧ b = .agg ys)) : (eqGuard op t x y a b).run P w = .ok () w := by
  have key : ∀ (A : Sem Unit) (B : Sem Unit), (match a, b with
      | .nilIface, .nilIface => A
      | .agg _, .agg _ => B
      | _, _ => pure ()).run P w = .ok () w := by
    intro A B
    split
    · exact absurd ⟨rfl, rfl⟩ h1
    · exact absurd ⟨rfl, rfl⟩ (h2 _ _)
    · rfl
  cases op <;> first | rfl | exact key _ _

theorem eqlV_sound {op : BinOp} {t : TypeId} {x y : Operand} {a b : AVal} {a' b' : Value} {r : Bool} (h : eqlV E t (isC x || isC y) a b = some r) (ha : VRel φ a a') (hb : VRel φ b b') :
    (eqGuard op t x y a' b').run P w = .ok () w ∧ (Op.equal t a' b').run P w = .ok r w ∧ (∀ k n, a' ≠ .int k n) ∧ (∀ k n, b' ≠ .int k n) ∧ (∀ s, a' ≠ .string s) ∧ (∀ s, b' ≠ .string s) ∧
      (∀ k n, a' ≠ .float k n) ∧ (∀ k n, b' ≠ .float k n) ∧ (∀ k m n, a' ≠ .complex k m n) ∧ (∀ k m n, b' ≠ .complex k m n) := by
  unfold eqlV at h
  split at h
  · rename_i hm
    have heq := eqV_sound hE w 20 Op.maxDepth t a b a' b' r (by decide) h ha hb
    have hno : ∀ {v : AVal} {v' : Value}, VRel φ v v' → v ≠ .bot → (∀ k n, v ≠ .int k n) → (∀ s, v ≠ .str s) → (∀ k n, v' ≠ .int k n) ∧ (∀ s, v' ≠ .string s) ∧ (∀ k n, v' ≠ .float k n) ∧ (∀ k m n, v' ≠ .complex k m n) := by
      intro v v' hv h0 h1 h2
      cases hv <;> first
        | exact absurd rfl h0
        | exact absurd rfl (h1 _ _)
        | exact absurd rfl (h2 _)
        | exact ⟨(fun _ _ e => by cases e), (fun _ e => by cases e), (fun _ _ e => by cases e), (fun _ _ _ e => by cases e)⟩
    have ha0 : a ≠ .bot ∧ (∀ k n, a ≠ .int k n) ∧ (∀ s, a ≠ .str s) ∧ b ≠ .bot ∧ (∀ k n, b ≠ .int k n) ∧ (∀ s, b ≠ .str s) := by
      refine ⟨?_, ?_, ?_, ?_, ?_, ?_⟩
      · intro e; subst e
        unfold eqV at h
        cases hu : E.under? t with
        | none => simp [hu] at h
        | some d => rw [hu] at h; cases d <;> cases b <;> simp [eqPtr, eqIface, eqSlice, eqMap, eqFunc] at h
      · intro k n e; subst e; cases b <;> cases hm
      · intro k e; subst e; cases b <;> cases hm
      · intro e; subst e
        unfold eqV at h
        cases hu : E.under? t with
        | none => simp [hu] at h
        | some d => rw [hu] at h; cases d <;> cases a <;> simp [eqPtr, eqIface, eqSlice, eqMap, eqFunc] at h
      · intro k n e; subst e; cases a <;> cases hm
      · intro k e; subst e; cases a <;> cases hm
    obtain ⟨n1, n2, n3, n4⟩ := hno ha ha0.1 ha0.2.1 ha0.2.2.1
    obtain ⟨m1, m2, m3, m4⟩ := hno hb ha0.2.2.2.1 ha0.2.2.2.2.1 ha0.2.2.2.2.2
    refine ⟨?_, heq, n1, m1, n2, m2, n3, m3, n4, m4⟩
    cases ha <;> cases hb <;> first
      | exact absurd rfl ha0.1
      | exact absurd rfl ha0.2.2.2.1
      | exact eqGuard_nil hE hm
      | exact eqGuard_agg hE (hE.eqs t hm).2
      | exact eqGuard_not hE (fun ⟨e1, e2⟩ => by first | cases e1; done | cases e2; done) (fun xs ys ⟨e1, e2⟩ => by first | cases e1; done | cases e2; done)
  · cases h
end
end Go.Ev
end
section
/- The abstract machine's operations stand for the model's: one by one, the last quiet ones. -/
set_option linter.unusedVariables false
set_option linter.unusedSimpArgs false
set_option linter.unusedSectionVars false
namespace Go.Ev
open Go.RowKit

theorem binOp_eql {t : TypeId} {x y : Value} (h1 : ∀ k n, x ≠ .int k n) (h2 : ∀ s, x ≠ .string s) (h3 : ∀ k n, x ≠ .float k n) (h4 : ∀ k m n, x ≠ .complex k m n) : binOp .eql t x y = (do pure (.bool (← Op.equal t x y))) := by
  cases x <;> first
    | exact absurd rfl (h1 _ _)
    | exact absurd rfl (h2 _)
    | exact absurd rfl (h3 _ _)
    | exact absurd rfl (h4 _ _ _)
    | rfl
    | (cases y <;> rfl)
theorem binOp_neq {t : TypeId} {x y : Value} (h1 : ∀ k n, x ≠ .int k n) (h2 : ∀ s, x ≠ .string s) (h3 : ∀ k n, x ≠ .float k n) (h4 : ∀ k m n, x ≠ .complex k m n) : binOp .neq t x y = (do pure (.bool (!(← Op.equal t x y)))) := by
  cases x <;> first
    | exact absurd rfl (h1 _ _)
    | exact absurd rfl (h2 _)
    | exact absurd rfl (h3 _ _)
    | exact absurd rfl (h4 _ _ _)
    | rfl
    | (cases y <;> rfl)
theorem eqGuard_int {P : Program} {w : World} {op : BinOp} {t : TypeId} {x y : Operand} {k j : IntKind} {a b : Int} : (eqGuard op t x y (.int k a) (.int j b)).run P w = .ok () w := by
  cases op <;> rfl
theorem eqGuard_str {P : Program} {w : World} {op : BinOp} {t : TypeId} {x y : Operand} {a b : ByteArray} : (eqGuard op t x y (.string a) (.string b)).run P w = .ok () w := by
  cases op <;> rfl

theorem binSame_sound {op : BinOp} {j k : IntKind} {a b : Int} {v : AVal} (h : binSame op j k a b = some v) (P : Program) (w : World) (φ : Phi) (t : TypeId) :
    ∃ v', (binOp op t (.int j a) (.int k b)).run P w = .ok v' w ∧ VRel φ v v' := by
  unfold binSame at h
  split at h
  · rename_i hjk
    have hjk := of_decide_eq_true hjk
    subst hjk
    exact binInt_sound h P w φ t
  · cases h
theorem binII_sound {op : BinOp} {j k : IntKind} {a b : Int} {v : AVal} (h : binII op j a k b = some v) (P : Program) (w : World) (φ : Phi) (t : TypeId) :
    ∃ v', (binOp op t (.int j a) (.int k b)).run P w = .ok v' w ∧ VRel φ v v' := by
  cases op with
  | shl => exact ofSem_spec (s := Op.shift .shl j a k b) h P w φ
  | shr => exact ofSem_spec (s := Op.shift .shr j a k b) h P w φ
  | _ => exact binSame_sound h P w φ t

theorem bnd_zero {v : Option AVal} {n c : Nat} (h : bndO v 0 0 = some n) : n = 0 ∧ bndO v c 0 = some 0 := by
  cases v with
  | none => exact ⟨(Option.some.inj h).symm, rfl⟩
  | some v =>
    cases v with
    | int k i =>
      cases i with
      | ofNat i =>
        simp only [bndO, bndOf] at h ⊢
        split at h
        · rename_i hle
          have hle := Nat.le_of_ble_eq_true hle
          cases h
          obtain rfl : n = 0 := by omega
          exact ⟨rfl, by rw [Nat.ble_eq_true_of_le (Nat.zero_le _)]⟩
        · cases h
      | negSucc i => cases h
    | _ => cases h

section
variable {E : Env} {P : Program} (hE : EnvOK E P) {w : World} {φ : Phi}
include hE
theorem binOth_sound {op : BinOp} {t : TypeId} {x y : Operand} {a b v : AVal} {a' b' : Value} (h : binOth E op t (isC x || isC y) a b = some v) (ha : VRel φ a a') (hb : VRel φ b b') :
    ∃ v', (do eqGuard op t x y a' b'; binOp op t a' b' : Sem Value).run P w = .ok v' w ∧ VRel φ v v' := by
  cases op with
  | eql =>
    simp only [binOth] at h
    split at h
    · rename_i r hr
      cases h
      obtain ⟨g1, g2, i1, i2, s1, s2, f1, f2, c1, c2⟩ := eqlV_sound (op := .eql) (w := w) hE hr ha hb
      refine ⟨.bool r, ?_, .bool _⟩
      rw [Sem.run_bind, g1, binOp_eql i1 s1 f1 c1]
      simp [g2]
    · cases h
  | neq =>
    simp only [binOth] at h
    split at h
    · rename_i r hr
      cases h
      obtain ⟨g1, g2, i1, i2, s1, s2, f1, f2, c1, c2⟩ := eqlV_sound (op := .neq) (w := w) hE hr ha hb
      refine ⟨.bool (!r), ?_, .bool _⟩
      rw [Sem.run_bind, g1, binOp_neq i1 s1 f1 c1]
      simp [g2]
    · cases h
  | _ => cases h
theorem binV_sound {op : BinOp} {t : TypeId} {x y : Operand} {a b v : AVal} {a' b' : Value} (h : binV E op t (isC x || isC y) a b = some v) (ha : VRel φ a a') (hb : VRel φ b b') :
    ∃ v', (do eqGuard op t x y a' b'; binOp op t a' b' : Sem Value).run P w = .ok v' w ∧ VRel φ v v' := by
  by_cases h1 : ∃ j p k q, a = .int j p ∧ b = .int k q
  · obtain ⟨j, p, k, q, rfl, rfl⟩ := h1
    rw [ha.int_inv, hb.int_inv]
    obtain ⟨v', g1, g2⟩ := binII_sound (show binII op j p k q = some v from h) P w φ t
    exact ⟨v', by rw [Sem.run_bind, eqGuard_int]; exact g1, g2⟩
  · by_cases h2 : ∃ s s', a = .str s ∧ b = .str s'
    · obtain ⟨s, s', rfl, rfl⟩ := h2
      obtain ⟨e1, g1⟩ := str_inv ha
      obtain ⟨e2, g2⟩ := str_inv hb
      rw [e1, e2]
      obtain ⟨v', k1, k2⟩ := binStr_sound (show binStr op s s' = some v from h) P w φ t g1 g2
      exact ⟨v', by rw [Sem.run_bind, eqGuard_str]; exact k1, k2⟩
    · refine binOth_sound hE ?_ ha hb
      rw [← h]
      unfold binV
      split
      · exact absurd ⟨_, _, _, _, rfl, rfl⟩ h1
      · exact absurd ⟨_, _, rfl, rfl⟩ h2
      · rfl
end

section
variable {P : Program} {x0 : Cx} (hE : EnvOK x0.E P) {w0 w : World} {φ : Phi} {n0 : Nat} (R : Rep w0 φ x0.h n0 w) {ρ : Operand → Value} (O : ∀ x, VRel φ (evalT x0.E.ng x0.tmps x) (ρ x)) (o : Oper)
include hE R O

omit R in
theorem binOp_q {op : BinOp} {t : TypeId} {x y : Operand} {g : _} (ho : o.op = .binOp op t x y g) : QR P w0 φ x0.nx w (execOp ρ o) (op_binOp x0 op t x y) := by
  unfold op_binOp
  exact .valO (S := do eqGuard op t x y (ρ x) (ρ y); binOp op t (ρ x) (ρ y)) (fun v hv => binV_sound hE hv (O x) (O y)) (by simp [execOp, ho])

theorem slice_q {t : TypeId} {x : Operand} {lo hi mx : Option Operand} (ho : o.op = .slice t x lo hi mx) : QR P w0 φ x0.nx w (execOp ρ o) (op_slice x0 t x lo hi mx) := by
  unfold op_slice
  have hx := O x
  have hlo := ORelO.of_opd (φ := φ) (ng := x0.E.ng) (tmps := x0.tmps) (ρ := ρ) lo (fun x _ => O x)
  have hhi := ORelO.of_opd (φ := φ) (ng := x0.E.ng) (tmps := x0.tmps) (ρ := ρ) hi (fun x _ => O x)
  have hmx := ORelO.of_opd (φ := φ) (ng := x0.E.ng) (tmps := x0.tmps) (ρ := ρ) mx (fun x _ => O x)
  refine .valO (S := Instr.sliceAt t (ρ x) (lo.map ρ) (hi.map ρ) (mx.map ρ)) (fun v hv => ?_) (by simp [execOp, ho])
  generalize ρ x = x' at hx ⊢
  generalize evalT x0.E.ng x0.tmps x = a at hx hv
  generalize lo.map ρ = lo' at hlo ⊢
  generalize hi.map ρ = hi' at hhi ⊢
  generalize mx.map ρ = mx' at hmx ⊢
  generalize lo.map (evalT x0.E.ng x0.tmps) = lo1 at hlo hv
  generalize hi.map (evalT x0.E.ng x0.tmps) = hi1 at hhi hv
  generalize mx.map (evalT x0.E.ng x0.tmps) = mx1 at hmx hv
  unfold sliceV at hv
  split at hv
  · -- an array's address
    rename_i n e id off ht
    obtain ⟨p, hp, e1⟩ := hx.ptr_inv
    split at hv
    · rename_i sz b hsz hb
      split at hv
      · rename_i l hl
        cases hv
        have hmx' : mx' = none := by cases mx' with | none => rfl | some _ => exact hmx.elim
        subst hmx'
        obtain ⟨g1, g2, g3, g4⟩ := bounds_sound (isS := false) (len := n) (cap := n) (k := n) (m := n) hE w hlo hhi (mx := none) (mx' := none) trivial (fun x e => by cases e) (Nat.le_refl _) (fun _ => rfl) rfl hb hl (Nat.le_refl _)
        refine ⟨.slice (some (if n = l then ⟨p.block, p.base + off, none⟩ else ⟨p.block, p.base + off + l * sz, none⟩)) (b - l) (n - l), ?_, ?_⟩
        · simp only [Instr.sliceAt, Sem.run_bind, run_under' hE w ht, Result.andThen_ok, e1, Instr.sureAddr, Sem.run_pure, g1, run_size' hE w hsz]
          by_cases ee : n = l
          · simp [ee]
          · simp [ee, add_off]
        · by_cases ee : n = l
          · rw [beq_t ee, if_pos ee]
            exact .sliceE id off (b - l) (n - l) p hp (by omega)
          · rw [beq_f ee, if_neg ee, Nat.add_assoc]
            exact .sliceE id (off + l * sz) (b - l) (n - l) p hp (by omega)
      · cases hv
    · cases hv
  · -- a string
    rename_i s ht
    obtain ⟨e1, hs⟩ := str_inv hx
    split at hv
    · rename_i b hb
      split at hv
      · rename_i l hl
        cases hv
        have hmx' : mx' = none := by cases mx' with | none => rfl | some _ => exact hmx.elim
        subst hmx'
        obtain ⟨g1, g2, g3, g4⟩ := bounds_sound (isS := false) (len := s.length) (cap := s.length) (k := s.length) (m := s.length) hE w hlo hhi (mx := none) (mx' := none) trivial (fun x e => by cases e) (Nat.le_refl _) (fun _ => rfl) rfl hb hl (Nat.le_refl _)
        refine ⟨.string ((bstr s).extract l b), ?_, ?_⟩
        · simp only [Instr.sliceAt, Sem.run_bind, run_under' hE w ht, Result.andThen_ok, Instr.slice, e1, bstr_size, g1]
          simp [g1]
        · have : (bstr s).extract l b = bstr ((s.take b).drop l) := by
            apply ByteArray.ext
            apply Array.ext'
            simp [bstr, ByteArray.extract, ByteArray.copySlice, List.map_take, List.map_drop, List.take_drop]
            rw [show l + (b - l) = b by omega]
          rw [this]
          exact .str _ (fun x hx => hs x (List.mem_of_mem_take (List.mem_of_mem_drop hx)))
      · cases hv
    · cases hv
  · -- nil
    rename_i e ht
    have e1 := hx.nilslice_inv
    split at hv
    · rename_i n m b l hms hn hm hb hl
      cases hv
      have hn := run_size' hE w hn
      have hs : ∀ x, mx1 = some x → ∃ y, hi1 = some y := by
        intro x hx1
        cases hi1 with
        | some y => exact ⟨y, rfl⟩
        | none => subst hx1; cases hms
      have hm0 := bnd_zero (c := 0) hm
      have hb0 := bnd_zero (c := 0) hb
      have hl0 := bnd_zero (c := 0) hl
      obtain ⟨g1, g2, g3, g4⟩ := bounds_sound (isS := true) (len := 0) (cap := 0) (k := 0) (m := 0) hE w hlo hhi hmx hs (Nat.le_refl _) (fun _ => rfl) (by obtain ⟨hm1, _⟩ := hm0; subst hm1; exact hm) hb0.2 hl0.2 (Nat.le_refl _)
      exact ⟨.slice none 0 0, by
        simp only [Instr.sliceAt, Sem.run_bind, run_under' hE w ht, Result.andThen_ok, Instr.slice, e1, g1, hn]
        simp [hn], .nilslice⟩
    · cases hv
  · -- no cells
    rename_i e ht
    obtain ⟨a, c, e1⟩ := hx.eslice_inv
    split at hv
    · rename_i n b l hn hb hl
      cases hv
      have hn := run_size' hE w hn
      have hmx' : mx' = none := by cases mx' with | none => rfl | some _ => exact hmx.elim
      subst hmx'
      have hb0 := bnd_zero (c := c) hb
      have hl0 := bnd_zero (c := 0) hl
      obtain ⟨g1, g2, g3, g4⟩ := bounds_sound (isS := true) (len := 0) (cap := c) (k := c) (m := c) hE w hlo hhi (mx := none) (mx' := none) trivial (fun x e => by cases e) (Nat.le_refl _) (fun _ => rfl) rfl hb0.2 hl0.2 (Nat.zero_le _)
      refine ⟨.slice (some (if c = 0 then a else a.add (0 * n))) 0 c, ?_, .eslice _ _⟩
      simp only [Instr.sliceAt, Sem.run_bind, run_under' hE w ht, Result.andThen_ok, Instr.slice, e1, g1, hn]
      by_cases h0 : c = 0 <;> simp [hn, h0]
    · cases hv
  · rename_i e id off len cap ht
    obtain ⟨p, c', hp, e1, hl, k1, k2⟩ := hx.slice_inv
    subst e1
    have hrun : ∀ S, (Instr.slice t (.slice (some ⟨p.block, p.base + off, none⟩) len c') lo' hi' mx').run P w = S → (Instr.sliceAt t (.slice (some ⟨p.block, p.base + off, none⟩) len c') lo' hi' mx').run P w = S := by
      intro S hS
      simp only [Instr.sliceAt, Sem.run_bind, run_under' hE w ht, Result.andThen_ok]
      exact hS
    have hPt := under_P hE ht
    split at hv
    · rename_i sz hsz
      unfold sliceS at hv
      split at hv
      · cases hv
      · rename_i hno
        have hs : ∀ x, mx1 = some x → ∃ y, hi1 = some y := by
          intro x hx1
          cases hi1 with
          | some y => exact ⟨y, rfl⟩
          | none => exact absurd rfl (hno x hx1)
        split at hv
        · rename_i c
          have := k1 c rfl
          subst this
          obtain ⟨v', g1, g2⟩ := sliceE_sound hE w hPt hsz hp hlo hhi hmx hs hl (Nat.le_refl _) (fun _ => rfl) hv
          exact ⟨v', hrun _ g1, g2⟩
        · rename_i sz'
          obtain ⟨m1, m2⟩ := k2 sz' rfl
          split at hv
          · rename_i ro n cs ho' hb
            rw [Bool.and_eq_true] at hb
            have hb1 := Nat.eq_of_beq_eq_true hb.1
            have hb2 : 0 < sz := Nat.le_of_ble_eq_true hb.2
            subst hb1
            obtain ⟨ccs, T, fz, hbl, hc, hf⟩ := R.cells ho' hp
            have hpn : p.n = n := hc.2.1
            split at hv
            · rename_i xm
              split at hv
              · rename_i hle
                have hle := Nat.le_of_ble_eq_true hle
                have hkn : (n - off) / sz ≤ c' := by
                  rw [← hpn]
                  refine Nat.div_le_of_le_mul ?_
                  rw [Nat.mul_comm]; omega
                obtain ⟨v', g1, g2⟩ := sliceE_sound hE w hPt hsz hp hlo hhi hmx hs hle hkn (fun e => by cases e) hv
                exact ⟨v', hrun _ g1, g2⟩
              · cases hv
            · have hmx' : mx' = none := by cases mx' with | none => rfl | some _ => exact hmx.elim
              subst hmx'
              obtain ⟨v', g1, g2⟩ := sliceG_sound hE w hPt hsz hp hlo hhi hpn hb2 hl m1 m2 hv
              exact ⟨v', hrun _ g1, g2⟩
          · cases hv
    · cases hv
  · cases hv
end
end Go.Ev
end
section
/- The abstract machine's operations stand for the model's: conversions, the quiet builtins. -/
set_option linter.unusedVariables false
set_option linter.unusedSimpArgs false
set_option linter.unusedSectionVars false
namespace Go.Ev
open Go.RowKit

theorem bytesOf_spec : ∀ (l : List AVal) (s : List Nat), bytesOf l = some s → l = s.map (fun (b : Nat) => .int .u8 (Int.ofNat b)) ∧ ∀ b ∈ s, b < 256
  | [], s, h => by cases h; exact ⟨rfl, fun b hb => by cases hb⟩
  | x :: l, s, h => by
    unfold bytesOf at h
    split at h
    · cases ‹_ :: _ = []›
    · rename_i n l' heq
      cases heq
      split at h
      · rename_i hn
        have hn : n < 256 := Nat.le_of_ble_eq_true hn
        split at h
        · rename_i r hr
          cases h
          obtain ⟨h1, h2⟩ := bytesOf_spec l r hr
          exact ⟨by rw [h1]; rfl, fun b hb => by rcases List.mem_cons.1 hb with rfl | hb; exact hn; exact h2 b hb⟩
        · cases h
      · cases h
    · cases h
theorem byteVals_inv {φ : Phi} : ∀ (s : List Nat) (news : List Value), LRel φ (s.map (fun (b : Nat) => AVal.int .u8 (Int.ofNat b))) news → news = (s.map Int.ofNat).map (Value.int .u8)
  | [], news, h => h.nil_inv
  | b :: s, news, h => by
    obtain ⟨y, m, rfl, h1, h2⟩ := h.cons_inv
    rw [byteVals_inv s m h2, h1.int_inv]; rfl
theorem foldl_push : ∀ (s : List Nat) (r : ByteArray), (s.map Int.ofNat).foldl (fun r n => r.push (UInt8.ofNat n.toNat)) r = ⟨r.data ++ (s.map UInt8.ofNat).toArray⟩
  | [], r => by simp
  | b :: s, r => by
    simp only [List.map_cons, List.foldl_cons]
    rw [foldl_push s]
    simp [ByteArray.push]

section
variable {P : Program} {x0 : Cx} (hE : EnvOK x0.E P) {w0 w : World} {φ : Phi} {n0 : Nat} (R : Rep w0 φ x0.h n0 w) {ρ : Operand → Value} (O : ∀ x, VRel φ (evalT x0.E.ng x0.tmps x) (ρ x)) (o : Oper)
include hE

theorem strBytes_sound {src dst e : TypeId} {s : List Nat} {x : Operand} (ho : o.op = .convert src dst x) (hs : x0.E.under? src = some .string) (hd : x0.E.under? dst = some (.slice e)) (he : x0.E.under? e = some (.int .u8))
    (hx : VRel φ (.str s) (ρ x)) : AllocOK P w0 φ w (execOp ρ o) (fun id => .slice id 0 s.length (.gr 1)) (newCells (s.map fun (b : Nat) => .int .u8 (Int.ofNat b))) := by
  intro h nx id R hid hnone
  obtain ⟨e1, hb⟩ := str_inv hx
  obtain ⟨G, hG⟩ : ∃ G, grownCap w (bstr s).size 0 e = G := ⟨_, rfl⟩
  have hge : s.length ≤ G := by rw [← hG, ← bstr_size]; exact grownCap_ge _ _ _ _
  have hrun := run_bytes_of_string w src dst e (bstr s) (under_P hE hs) (under_P hE hd) (under_P hE he)
  rw [hG] at hrun
  have hrow : (bytesRow (bstr s) G) = (byteVals s ++ List.replicate (G - s.length) (Value.int .u8 0)).toArray := by
    apply Array.ext'
    unfold bytesRow byteVals
    simp only [Array.toList_append, Array.toList_map, bstr_size, Array.toList_replicate]
    congr 1
    simp only [bstr, List.map_map]
    refine List.map_congr_left fun b hb' => ?_
    simp [UInt8.toNat_ofNat', Nat.mod_eq_of_lt (hb b hb')]
  have hsize : (bytesRow (bstr s) G).size = G := by rw [hrow]; simp [byteVals]; omega
  rw [hsize] at hrun
  refine ⟨.slice (some ⟨w.heap.size, 0, none⟩) s.length G, w.drew.alloc (.cells (bytesRow (bstr s) G) e (G, G + 1)), ⟨w.heap.size, 0, s.length, G⟩, ?_, ?_, ?_⟩
  · simp only [execOp, ho, e1, Sem.run_bind, hrun, Result.andThen_ok, bstr_size]; rfl
  · have := VRel.sliceG (φ := φ.upd id ⟨w.heap.size, 0, s.length, G⟩) id 0 s.length 1 G _ (Phi.upd_same _ _ _) hge (by simpa using hge) (by simp)
    simpa using this
  · have := alloc_row (w := w.drew) R.drew (id := id) (n := s.length) (c := BT.ofList (s.map fun (b : Nat) => .int .u8 (Int.ofNat b))) (cells := bytesRow (bstr s) G) e (fz := (G, G + 1))
      (by rw [hid]; simp [newCells]) hnone (by rw [hsize]; exact hge) (by rw [hsize]; intro j hj hh; have := hh.1; simp at this; omega) (fun i v hi hv => ?_)
    · rw [hsize] at this; exact this
    · rw [BT.get_ofList] at hv
      obtain ⟨v', a, b⟩ := (byteVals_rel φ s).get hv
      refine ⟨v', ?_, b⟩
      rw [hrow]
      simp only [List.getElem?_toArray]
      rw [List.getElem?_append_left (by simpa [byteVals] using hi)]
      exact a

include R O
theorem convert_q {src dst : TypeId} {x : Operand} (ho : o.op = .convert src dst x) : QR P w0 φ x0.nx w (execOp ρ o) (op_convert x0 src dst x) := by
  unfold op_convert
  have hx := O x
  split
  · rename_i j k i n hs hd h
    rw [h] at hx
    have hPs := under_P hE hs
    have hPd := under_P hE hd
    rw [wrapF_eq]
    exact .pure (S := convert src dst (ρ x)) (.int k _) (by rw [hx.int_inv]; simp [convert, underlying, hPs, hPd, Conv.intToInt]) (by simp [execOp, ho])
  · rename_i s hs hd h
    rw [h] at hx
    obtain ⟨e1, hb⟩ := str_inv hx
    have hPs := under_P hE hs
    have hPd := under_P hE hd
    exact .pure (S := convert src dst (ρ x)) (.str s hb) (by rw [e1]; simp [convert, underlying, hPs, hPd]; rfl) (by simp [execOp, ho])
  · rename_i y e hs hd
    have hPs := under_P hE hs
    have hPd := under_P hE hd
    split
    · rename_i n he hn
      have hPe := under_P hE he
      split
      · rename_i l hf
        split
        · rename_i s hbs
          obtain ⟨q1, q2⟩ := bytesOf_spec l s hbs
          have hlen : lenOf (evalT x0.E.ng x0.tmps x) = some n := by
            generalize evalT x0.E.ng x0.tmps x = y at hn
            cases y <;> first | exact hn | cases hn
          obtain ⟨g1, news, g2, g3, g4⟩ := first_sound R P hf hx hlen (Nat.le_refl _)
          rw [q1] at g2
          have hnews := byteVals_inv s news g2
          have hcells := g3 w rfl
          have hsl : ∃ a len c, ρ x = .slice a len c ∧ len = n ∧ (a = none → n = 0) := by
            generalize evalT x0.E.ng x0.tmps x = y at hn hx
            cases y <;> first | cases hn; done | skip
            · exact ⟨_, _, _, hx.nilslice_inv, Option.some.inj hn, fun _ => (Option.some.inj hn).symm⟩
            · obtain ⟨a, c, e⟩ := hx.eslice_inv
              exact ⟨_, _, _, e, Option.some.inj hn, fun e => by cases e⟩
            · obtain ⟨p, c', hp, e, _⟩ := hx.slice_inv
              exact ⟨_, _, _, e, Option.some.inj hn, fun e => by cases e⟩
          obtain ⟨a, len, c, e1, e2, e3⟩ := hsl
          subst e2
          rw [e1] at hcells
          refine .pure (S := convert src dst (ρ x)) (.str s q2) ?_ (by simp [execOp, ho])
          rw [e1, run_convert_bytes_string w src dst e a len c hPs hPe hPd]
          cases a with
          | none =>
            have h0 := e3 rfl
            subst h0
            have : s = [] := by
              have : l.length = 0 := by rw [g1]
              rw [q1] at this
              simpa using this
            subst this
            rfl
          | some a =>
            have hl : (loadCells a len).run P w = .ok ((s.map Int.ofNat).map (Value.int .u8)).toArray w := by
              rw [← hnews]
              simpa [Builtin.firstCells] using hcells
            rw [run_bytesToString w a len c _ hl, foldl_push]
            congr 1
            simp
        · trivial
      · trivial
    · trivial
  · rename_i e s hs hd h
    rw [h] at hx
    split
    · rename_i he
      exact .inr ⟨fun id => .slice id 0 s.length (.gr 1), _, rfl, rfl, rfl, strBytes_sound hE o ho hs hd he hx⟩
    · trivial
  · trivial
end
end Go.Ev
end
section
/- The abstract machine's operations stand for the model's: all of them. -/
set_option linter.unusedVariables false
set_option linter.unusedSimpArgs false
set_option linter.unusedSectionVars false
namespace Go.Ev
open Go.RowKit

/-- What an operation does. -/
def OpOK (P : Program) (w0 : World) (φ : Phi) (h : Heap) (nx : Nat) (w : World) (s : Sem Next) : OpR → Prop
  | .val v e nx' => ValOK P w0 φ h nx w s v e nx'
  | .enter f args => ∃ args' : Array Value, s.run P w = (callFunc f args').run P w ∧ LRel φ args args'.toList
  | .round l args => ∃ p, ∃ args' : Array Value, φ l = some p ∧ s.run P w = (Instr.yield p.block args').run P w ∧ LRel φ args args'.toList
  | .defer d => ∃ d', s.run P w = .ok (.defer d') w ∧ DRel φ d d'
  | .recover => s.run P w = .ok .recover w
  | .panic v => ∃ v', s.run P w = .halt (.panic v') w ∧ VRel φ v v'
  | .choose l => ∃ a ∈ l, ValOK P w0 φ h nx w s a.1 a.2 nx
  | .stuck _ => True

theorem QR.to {P : Program} {w0 : World} {φ : Phi} {h : Heap} {nx : Nat} {w : World} (R : Rep w0 φ h nx w) {s : Sem Next} {r : OpR} (hq : QR P w0 φ nx w s r) : OpOK P w0 φ h nx w s r := by
  cases r with
  | val v e nx' =>
    rcases hq with ⟨rfl, rfl, hp⟩ | ⟨f, o, rfl, rfl, rfl, ha⟩
    · exact .of_pure R hp
    · exact .of_alloc R ha
  | panic v => exact hq
  | stuck w => trivial
  | enter f args => exact hq.elim
  | round l args => exact hq.elim
  | defer d => exact hq.elim
  | recover => exact hq.elim
  | choose l => exact hq.elim
theorem PS.to {P : Program} {w0 : World} {φ : Phi} {nx : Nat} {w : World} {S : Sem Value} {s : Sem Next} {r : OpR} (hp : PS P φ nx w S r) (he : s = (do pure (.value (← S)) : Sem Next)) : QR P w0 φ nx w s r := by
  cases r with
  | val v e nx' =>
    obtain ⟨rfl, rfl, v', h1, h2⟩ := hp
    exact .pure h2 h1 he
  | stuck w => trivial
  | _ => exact hp.elim
theorem OKS.to {P : Program} {w0 : World} {φ : Phi} {h : Heap} {nx : Nat} {w : World} {S : Sem Value} {s : Sem Next} {r : OpR} (hp : OKS P w0 φ h nx w S r) (he : s = (do pure (.value (← S)) : Sem Next)) : OpOK P w0 φ h nx w s r := by
  cases r with
  | val v e nx' =>
    refine ValS.to hp ?_
    rw [he, Sem.run_bind]; rfl
  | stuck w => trivial
  | _ => exact hp.elim

section
variable {P : Program} {x0 : Cx} (hE : EnvOK x0.E P) {w0 w : World} {φ : Phi} {n0 : Nat} (R : Rep w0 φ x0.h n0 w) {ρ : Operand → Value} (O : ∀ x, VRel φ (evalT x0.E.ng x0.tmps x) (ρ x)) (o : Oper)
include hE R O

theorem toList_eq {α : Type} {a : Array α} {l : List α} (h : a.toList = l) : a = l.toArray := by rw [← h]

theorem lenq {c : Call} (ho : o.op = .call c) (b : Builtin) (hb : c.callee = .builtin b) (hq : b = .len ∨ b = .cap ∨ b = .max ∨ b = .min) :
    QR P w0 φ x0.nx w (execOp ρ o) (builtinV x0.E b c.argTypes.toList (c.args.toList.map (evalT x0.E.ng x0.tmps)) x0.h x0.nx) := by
  have hl := opds_rel hE R O c.args.toList
  generalize hal : c.args.toList.map (evalT x0.E.ng x0.tmps) = al at hl
  unfold builtinV
  split
  · rename_i t x ht
    obtain ⟨x', m, e1, e2, e3⟩ := hl.cons_inv
    have hm := e3.nil_inv
    subst hm
    have ht := toList_eq hE R O ht
    have ha : c.args.map ρ = #[x'] := toList_eq hE R O (by simpa using e1)
    exact (lenB_sound hE R e2).to (S := Builtin.len_ #[t] o.type #[x']) (by simp [execOp, ho, resolve, hb, invoke, builtin, ht, ha])
  · rename_i t x ht
    obtain ⟨x', m, e1, e2, e3⟩ := hl.cons_inv
    have hm := e3.nil_inv
    subst hm
    have ht := toList_eq hE R O ht
    have ha : c.args.map ρ = #[x'] := toList_eq hE R O (by simpa using e1)
    exact (capB_sound hE R e2).to (S := Builtin.cap_ #[t] o.type #[x']) (by simp [execOp, ho, resolve, hb, invoke, builtin, ht, ha])
  · rename_i x rest
    obtain ⟨x', m, e1, e2, e3⟩ := hl.cons_inv
    have ha : c.args.map ρ = (x' :: m).toArray := toList_eq hE R O (by simpa using e1)
    unfold optR
    split
    · rename_i v hv
      obtain ⟨v', g1, g2⟩ := maxV_sound R rest m x x' v hv e3 e2
      exact .pure (S := Builtin.max_ c.argTypes o.type (c.args.map ρ)) g2 (by rw [ha]; exact g1) (by simp [execOp, ho, resolve, hb, invoke, builtin])
    · trivial
  · rename_i x rest
    obtain ⟨x', m, e1, e2, e3⟩ := hl.cons_inv
    have ha : c.args.map ρ = (x' :: m).toArray := toList_eq hE R O (by simpa using e1)
    unfold optR
    split
    · rename_i v hv
      obtain ⟨v', g1, g2⟩ := minV_sound R rest m x x' v hv e3 e2
      exact .pure (S := Builtin.min_ c.argTypes o.type (c.args.map ρ)) g2 (by rw [ha]; exact g1) (by simp [execOp, ho, resolve, hb, invoke, builtin])
    · trivial
  · simp at hq
  · simp at hq
  · simp at hq
  · trivial

/-- A quiet one. -/
theorem quiet_sound (hq : quiet o.op = true) : QR P w0 φ x0.nx w (execOp ρ o) (evOp x0 o.op) := by
  cases ho : o.op with
  | move x => exact move_q hE R O o ho
  | assign x => exact assign_q hE R O o ho
  | pick c a b => exact pick_q hE R O o ho
  | alloc t => exact alloc_q hE R O o ho
  | box t x => exact box_q hE R O o ho
  | build t parts => exact build_q hE R O o ho
  | buildSlice t len parts => exact buildSlice_q hE R O o ho
  | load t a => exact load_q hE R O o ho
  | nilCheck x => exact nilCheck_q hE R O o ho
  | binOp op t x y g => exact binOp_q hE O o ho
  | unOp op t x => exact unOp_q hE R O o ho
  | convert src dst x => exact convert_q hE R O o ho
  | sliceToArrayPointer arr x => exact sliceToArrayPointer_q hE R O o ho
  | makeInterface t x => exact makeInterface_q hE R O o ho
  | makeFunc fn first cap => exact makeFunc_q hE R O o ho
  | makeMap t r => exact makeMap_q hE R O o ho
  | makeSlice t l c => exact makeSlice_q hE R O o ho
  | slice t x lo hi mx => exact slice_q hE R O o ho
  | fieldAddr s x f => exact fieldAddr_q hE R O o ho
  | field t x f => exact field_q hE R O o ho
  | indexAddr t x ix => exact indexAddr_q hE R O o ho
  | index t x ix => exact index_q hE R O o ho
  | lookup t x k ok => exact lookup_q hE R O o ho
  | typeAssert x xt asserted ok => exact typeAssert_q hE R O o ho
  | extract t i => exact extract_q hE R O o ho
  | call c =>
    rw [ho] at hq
    obtain ⟨b, hb, hq⟩ : ∃ b, c.callee = .builtin b ∧ (b = .len ∨ b = .cap ∨ b = .max ∨ b = .min) := by
      simp only [quiet] at hq
      split at hq <;> first
        | exact ⟨_, ‹_›, by simp⟩
        | cases hq
    show QR P w0 φ x0.nx w (execOp ρ o) (op_call x0 c)
    have := lenq hE R O o ho b hb hq
    unfold op_call
    rw [hb]
    rcases hq with rfl | rfl | rfl | rfl <;> exact this
  | _ => rw [ho] at hq; cases hq
end

section
variable {P : Program} {x0 : Cx} (hE : EnvOK x0.E P) {w0 w : World} {φ : Phi} (R : Rep w0 φ x0.h x0.nx w) {ρ : Operand → Value} (O : ∀ x, VRel φ (evalT x0.E.ng x0.tmps x) (ρ x)) (o : Oper)
include hE R O

theorem store_ok {t : TypeId} {a x : Operand} (ho : o.op = .store t a x) : OpOK P w0 φ x0.h x0.nx w (execOp ρ o) (op_store x0 t a x) := by
  unfold op_store
  have ha := O a
  have hx := O x
  split
  · rename_i id off h
    rw [h] at ha
    obtain ⟨p, hp, e⟩ := ha.ptr_inv
    split
    · rename_i ob hst
      unfold storeAt at hst
      split at hst
      · rename_i n cs ho'
        split at hst
        · rename_i sz hsz
          split at hst
          · rename_i hc
            cases hst
            simp only [Bool.and_eq_true] at hc
            obtain ⟨⟨c1, c2⟩, c3⟩ := hc
            have c1 := Nat.eq_of_beq_eq_true c1
            have c2 := Nat.le_of_ble_eq_true c2
            obtain ⟨ccs, T, fz, hbl, hcr, hf⟩ := R.cells ho' hp
            have hb : evalT x0.E.ng x0.tmps x ≠ .bot := by
              intro eb
              rw [eb] at c3
              cases c3
            have hl := LRel.cells hx hb
            obtain ⟨w', hrun, hs⟩ := run_storeCells P p.block T fz _ (ρ x).cells.toList w (p.base + off) 0 ccs hbl (by rw [hcr.1]; exact hf rfl) hl c3 (by rw [← hl.1, hcr.1]; have := hcr.2.2.1; omega)
            have hsz' : (ρ x).cells.size = sz := by have := hl.1; simp at this; omega
            refine ⟨.skip, undef, w', φ, ?_, .inr ⟨rfl, rfl⟩, Phi.le_refl φ, .tup [] #[] rfl (fun i v v' h => by simp at h), R.stored ho' hp hcr (hf rfl) hl c2 hs, Nat.le_refl _, fun j hj hlt => ⟨hj, ?_⟩⟩
            · simp [execOp, ho, Instr.storeAt, e, Instr.sureAddr, storeVar, hsz', run_size' hE w hsz, hrun]
            · show (x0.h.set id _).get j = _
              rw [BT.get_set, if_neg (fun ee => by rw [ee, hp] at hj; cases hj)]
          · cases hst
        · cases hst
      · cases hst
    · trivial
  · trivial

theorem update_ok {t : TypeId} {m k x : Operand} (ho : o.op = .mapUpdate t m k x ∨ o.op = .insert t m k x) : OpOK P w0 φ x0.h x0.nx w (execOp ρ o) (op_mapUpdate x0 t m k x) := by
  unfold op_mapUpdate
  have hm := O m
  have hk := O k
  have hx := O x
  split
  · rename_i kt et id ht h
    rw [h] at hm
    split
    · rename_i es ho' hkt
      split
      · rename_i es' hput
        obtain ⟨d, hd⟩ : ∃ d, x0.E.under? kt = some d := by
          unfold keyT at hkt
          split at hkt <;> first | exact ⟨_, ‹_›⟩ | cases hkt
        obtain ⟨w', h1, h2⟩ := mapUpdate_sound hE R ht hd hkt hk hx hm ho' hput
        obtain ⟨p, hp, _⟩ := hm.map_inv
        refine ⟨.skip, undef, w', φ, ?_, .inr ⟨rfl, rfl⟩, Phi.le_refl φ, .tup [] #[] rfl (fun i v v' h => by simp at h), h2, Nat.le_refl _, fun j hj hlt => ⟨hj, ?_⟩⟩
        · rcases ho with ho | ho <;> simp [execOp, ho, h1]
        · show (x0.h.set id _).get j = _
          rw [BT.get_set, if_neg (fun ee => by rw [ee, hp] at hj; cases hj)]
      · trivial
    · trivial
  · trivial

theorem panic_ok {x : Operand} (ho : o.op = .panic x) : OpOK P w0 φ x0.h x0.nx w (execOp ρ o) (op_panic x0 x) := by
  unfold op_panic
  have hx := O x
  split
  · rename_i t v h
    rw [h] at hx
    obtain ⟨x', e, hv⟩ := hx.iface_inv
    exact ⟨.iface t x', by simp [execOp, ho, e, Instr.panic, goPanic], .iface t v x' hv⟩
  · trivial

theorem defer_ok {c : Call} (ho : o.op = .defer c) : OpOK P w0 φ x0.h x0.nx w (execOp ρ o) (op_defer x0 c) := by
  unfold op_defer
  have hl := opds_rel hE R O c.args.toList
  split
  · rename_i f hc
    have hf := O f
    split
    · rename_i g first cap h
      rw [h] at hf
      rcases hf.func_inv with ⟨f', a', b', e1, e2, e3, e4⟩ | ⟨l, p, e1, _⟩
      · cases e1
        refine ⟨{ target := .fn (.func g) b', args := a' ++ c.args.map ρ }, by simp [execOp, ho, resolve, hc, e2, Deferred.ofValue], .call g cap _ b' _ e4 ?_⟩
        rw [Array.toList_append]
        exact e3.append (by simpa using hl)
      · cases e1
    · trivial
  · trivial

/-! ### Ranges over maps -/
omit hE R O in
theorem Rep.setCell {id : Nat} {o' ob' : AObj} {p : Place} {ob : Obj} {h : Heap} {nx : Nat} (R : Rep w0 φ h nx w) (hid : h.get id = some ob') (hp : φ id = some p) (hro : ob'.ro = false) (hrel : ORel φ p o' ob) :
    Rep w0 φ (h.set id o') nx { w with heap := w.heap.setIfInBounds p.block ob } := by
  have hupd : φ = φ.upd id p := by
    funext j
    unfold Phi.upd
    by_cases e : j = id
    · rw [if_pos e, e, hp]
    · rw [if_neg e]
  have hlt := R.block_lt hid hp
  have hge := R.rw id ob' p hid hp hro
  refine R.move id o' p ob hupd (.inr hp) ?_ (by rw [BT.get_set, if_pos rfl]) (fun j oj hj e => by rw [BT.get_set, if_neg hj] at e; exact e) (Nat.le_refl _) (R.hdom id ob' hid) (fun _ => hge) (fun j oj pj hj e hpj he => ?_) (by simp [hlt]) (fun k hk _ => by
    show (w.heap.setIfInBounds p.block _)[k]? = _
    rw [Array.getElem?_setIfInBounds_ne (Ne.symm hk)]) hrel
  · exact ⟨R.below.os, R.below.tape, R.below.output, by simpa using R.below.size, fun k hk => by
      show (w.heap.setIfInBounds p.block _)[k]? = _
      rw [Array.getElem?_setIfInBounds_ne (by omega)]; exact R.below.block k hk⟩
  · rw [BT.get_set, if_neg hj] at e
    exact hj (R.inj j id oj ob' pj p e hid hpj hp he)

theorem range_ok {t : TypeId} {x : Operand} (ho : o.op = .range t x) (R : Rep w0 φ x0.h x0.nx w) : OpOK P w0 φ x0.h x0.nx w (execOp ρ o) (op_range x0 t x) := by
  unfold op_range
  have hx := O x
  split
  · rename_i kt et id ht hv
    rw [hv] at hx
    split
    · rename_i es hes
      obtain ⟨p, hp, e⟩ := hx.map_inv
      obtain ⟨ces, hob, hm⟩ := map_block hE R hes hp
      have hsz : es.length = ces.size := by have := hm.1.1; simpa using this
      refine ValOK.of_alloc (f := fun id => .ptr id 0) R fun h nx id2 R2 hid hnone => ?_
      refine ⟨.pointer (some ⟨w.heap.size, 0, none⟩), _, ⟨w.heap.size, 0, 0, 0⟩, ?_, ?_, R2.alloc id2 _ ⟨w.heap.size, 0, 0, 0⟩ (.mapIter (some p.block) es.length #[] es.length) hid hnone rfl (.iter id es.length [] es.length p (Phi.le_upd (.inl hnone) _ _ hp) rfl)⟩
      · simp only [execOp, ho, e, Instr.range, Sem.run_bind, run_under' hE w ht, Result.andThen_ok]
        simp [getObj, Sem.run, hob, hsz, newObj]
      · have := VRel.ptr (φ := φ.upd id2 ⟨w.heap.size, 0, 0, 0⟩) id2 0 _ (Phi.upd_same _ _ _)
        simpa using this
    · trivial
  · trivial

/-- What is left of a map, and what is left of the model's. -/
inductive LeftRel (φ : Phi) : List (Nat × AVal × AVal) → List MapEntry → Prop
  | nil : LeftRel φ [] []
  | cons (i : Nat) (k v : AVal) (e : MapEntry) (l : List (Nat × AVal × AVal)) (m : List MapEntry) (hi : e.born = i) (hk : VRel φ k e.key) (hv : VRel φ v e.val) (t : LeftRel φ l m) : LeftRel φ ((i, k, v) :: l) (e :: m)
omit hE R O in
theorem leftOf_rel (seen : List Nat) : ∀ (es : List (AVal × AVal)) (ces : List MapEntry) (i : Nat), LRel φ (es.map (·.1)) (ces.map (·.key)) → LRel φ (es.map (·.2)) (ces.map (·.val)) → (∀ (j : Nat) (e : MapEntry), ces[j]? = some e → e.born = i + j) →
    LeftRel φ (leftOf seen i es) (ces.filter fun e => !seen.toArray.contains e.born)
  | [], ces, i, h1, h2, h3 => by
    have : ces = [] := by have := h1.nil_inv; simpa using this
    subst this; exact .nil
  | (k, v) :: es, [], i, h1, h2, h3 => by have := h1.1; simp at this
  | (k, v) :: es, e :: ces, i, h1, h2, h3 => by
    have hb : e.born = i := by have := h3 0 e rfl; simpa using this
    have ih := leftOf_rel seen es ces (i + 1) h1.tail h2.tail (fun j e' he => by have := h3 (j + 1) e' (by simpa using he); omega)
    unfold leftOf
    rw [List.filter_cons, hb]
    have hc : seen.toArray.contains i = seen.contains i := by simp
    rw [hc]
    cases seen.contains i with
    | true => exact ih
    | false => exact .cons i k v e _ _ hb h1.head h2.head ih
omit hE R O in
theorem LeftRel.length {l : List (Nat × AVal × AVal)} {m : List MapEntry} (h : LeftRel φ l m) : l.length = m.length := by
  induction h with
  | nil => rfl
  | cons _ _ _ _ _ _ _ _ _ _ ih => simp [ih]
omit hE R O in
theorem LeftRel.get {l : List (Nat × AVal × AVal)} {m : List MapEntry} (h : LeftRel φ l m) : ∀ (j : Nat) (e : MapEntry), m[j]? = some e → ∃ k v, l[j]? = some (e.born, k, v) ∧ VRel φ k e.key ∧ VRel φ v e.val := by
  induction h with
  | nil => intro j e h; simp at h
  | cons i k v e l m hi hk hv t ih =>
    intro j e' he
    cases j with
    | zero => simp at he; subst he; subst hi; exact ⟨k, v, rfl, hk, hv⟩
    | succ j => exact ih j e' (by simpa using he)

theorem next_ok {it : Operand} {str : Bool} (ho : o.op = .next it str) (R : Rep w0 φ x0.h x0.nx w) : OpOK P w0 φ x0.h x0.nx w (execOp ρ o) (op_next x0 it str) := by
  unfold op_next
  have hx := O it
  split
  · rename_i r hv
    rw [hv] at hx
    split
    · rename_i m since seen last hr
      split
      · rename_i es hes
        cases hc : (Nat.beq since es.length && Nat.beq last es.length) with
        | false => trivial
        | true =>
          rw [Bool.and_eq_true] at hc
          have c1 := Nat.eq_of_beq_eq_true hc.1
          have c2 := Nat.eq_of_beq_eq_true hc.2
          subst c1
          obtain ⟨pr, hpr, er⟩ := hx.ptr_inv
          obtain ⟨obr, hobr, hrel⟩ := R.obj r _ pr hr hpr
          cases hrel with
          | iter _ _ _ _ pm hm hb =>
            obtain ⟨ces, hob, hmr⟩ := map_block hE R hes hm
            have hsz : es.length = ces.size := by have := hmr.1.1; simpa using this
            have hleft := leftOf_rel seen es ces.toList 0 hmr.1 hmr.2.1 (fun j e he => by rw [Nat.zero_add]; exact hmr.2.2.2 j e (by simpa using he))
            have hborn : ∀ e ∈ ces, e.born < ces.size := fun e he => by
              obtain ⟨j, hj, hje⟩ := Array.mem_iff_getElem.1 he
              have := hmr.2.2.2 j e (by rw [← hje]; simp [hj])
              omega
            have hold : (ces.filter fun e => !seen.toArray.contains e.born).filter (fun e => decide (e.born < ces.size)) = ces.filter fun e => !seen.toArray.contains e.born := by
              apply Array.filter_eq_self.2
              intro e he
              exact decide_eq_true (hborn e (Array.mem_filter.1 he).1)
            have hnew : (ces.filter fun e => !seen.toArray.contains e.born).filter (fun e => decide (e.born ≥ ces.size)) = #[] := by
              apply Array.filter_eq_empty_iff.2
              intro e he
              have := hborn e (Array.mem_filter.1 he).1
              simp; omega
            have hguard : (!seen.toArray.isEmpty && !ces.isEmpty && ces.all (fun e => decide (e.born ≥ ces.size))) = false := by
              cases hce : ces.isEmpty with
              | true => simp
              | false =>
                have hall : ces.all (fun e => decide (e.born ≥ ces.size)) = false := by
                  rw [← Bool.not_eq_true, Array.all_eq_true]
                  intro hh
                  have h0 : 0 < ces.size := by
                    rcases Nat.eq_zero_or_pos ces.size with h | h
                    · rw [Array.isEmpty_iff_size_eq_zero.2 h] at hce; cases hce
                    · exact h
                  have := hh 0 h0
                  have := hborn ces[0] (by simp)
                  simp at *; omega
                rw [hall]; simp
            have hF : (ces.filter fun e => !seen.toArray.contains e.born).toList = ces.toList.filter fun e => !seen.toArray.contains e.born := by simp
            generalize hA : (ces.filter fun e => !seen.toArray.contains e.born) = A at *
            have hrun : (execOp ρ o).run P w = ((choose (.mapNext ((if A.isEmpty then #[none] else #[]) ++ A.map some).size)).run P w).andThen fun k w => (match ((if A.isEmpty then #[none] else #[]) ++ A.map some)[k]? with
                | some (some e) => (do setObj pr.block (.mapIter (some pm.block) es.length (seen.toArray.push e.born) ces.size); pure (.value (.tuple #[.bool true, e.key, e.val])) : Sem Next)
                | some none => pure (.value (.tuple #[.bool false]))
                | none => do let v ← (stuck "Next: no such candidate" : Sem Value); pure (.value v)).run P w := by
              simp only [execOp, ho, er, Instr.next, hb, Nat.add_zero, Nat.zero_add, Sem.run_bind, getObj, Sem.run, hobr, hob, Result.andThen_ok]
              rw [c2, hsz, hguard]
              simp only [Bool.false_eq_true, if_false, Sem.run_bind, Sem.run, Result.andThen_ok, hA, hold, hnew, Array.append_empty]
              cases (choose (Question.mapNext ((if A.isEmpty = true then #[none] else #[]) ++ A.map some).size)).run P w with
              | halt h w => rfl
              | ok k w1 =>
                simp only [Result.andThen_ok]
                cases ((if A.isEmpty = true then #[none] else #[]) ++ A.map some)[k]? with
                | none => rfl
                | some y =>
                  cases y with
                  | none => rfl
                  | some e =>
                    simp only [Sem.run_bind]
                    cases (setObj pr.block (Obj.mapIter (some pm.block) ces.size (seen.toArray.push e.born) ces.size)).run P w1 <;> rfl
            rw [← hF] at hleft
            generalize leftOf seen 0 es = L at hleft ⊢
            cases L with
            | nil =>
              have hA0 : A = #[] := by
                have := hleft.length
                simp at this
                exact Array.eq_empty_of_size_eq_zero this.symm
              subst hA0
              show ValOK _ _ _ _ _ _ _ _ _ _
              refine ValOK.of_pure R ⟨.tuple #[.bool false], ?_, .tup' (a := #[.bool false]) (.cons (.bool false) (.nil _))⟩
              rw [hrun]
              simp [choose, Sem.run, Question.forced, Result.andThen]
            | cons y L =>
              have hAne : A.isEmpty = false := by
                have := hleft.length
                cases hh : A.isEmpty with
                | false => rfl
                | true => simp at hh; subst hh; simp at this
              have hAsz : A.size = (y :: L).length := by have := hleft.length; simpa using this.symm
              rw [hAne] at hrun
              simp only [Bool.false_eq_true, if_false, Array.empty_append, Array.size_map] at hrun
              -- the model's answer
              obtain ⟨k, w1, hk, hkw, hlt⟩ : ∃ k w1, (choose (.mapNext A.size)).run P w = .ok k w1 ∧ (w1 = w ∨ w1 = { w with drawn := w.drawn + 1 }) ∧ k < A.size := by
                have hpos : 0 < A.size := by rw [hAsz]; simp
                unfold choose
                simp only [Sem.run]
                split
                · exact ⟨0, w, rfl, .inl rfl, hpos⟩
                · exact ⟨_, _, rfl, .inr rfl, Nat.mod_lt _ hpos⟩
              rw [hk] at hrun
              simp only [Result.andThen_ok, Array.getElem?_map] at hrun
              have hAk : A[k]? = some A[k] := by simp [hlt]
              rw [hAk] at hrun
              simp only [Option.map_some] at hrun
              obtain ⟨ky, vy, g1, g2, g3⟩ := hleft.get k A[k] (by simpa using hAk)
              have R1 : Rep w0 φ x0.h x0.nx w1 := by
                rcases hkw with rfl | rfl
                · exact R
                · exact R.drew
              have hobr1 : w1.heap = w.heap := by rcases hkw with rfl | rfl <;> rfl
              refine ⟨_, List.mem_map.2 ⟨_, List.mem_of_getElem? g1, rfl⟩, .value (.tuple #[.bool true, A[k].key, A[k].val]), .tuple #[.bool true, A[k].key, A[k].val], { w1 with heap := w1.heap.setIfInBounds pr.block (.mapIter (some pm.block) es.length (seen.toArray.push A[k].born) ces.size) }, φ, ?_, .inl rfl, Phi.le_refl φ,
                .tup' (a := #[.bool true, A[k].key, A[k].val]) (.cons (.bool true) (.cons g2 (.cons g3 (.nil _)))), ?_, Nat.le_refl _, fun id hid hlt => ⟨hid, ?_⟩⟩
              · rw [hrun]
                simp only [setObj, Sem.run_bind, Sem.run, hobr1, hobr, Result.andThen_ok]
                rfl
              · show Rep w0 φ (x0.h.set r (.iter m es.length (seen ++ [A[k].born]) es.length)) x0.nx _
                refine R1.setCell hr hpr rfl ?_
                have := ORel.iter (p := pr) m es.length (seen ++ [A[k].born]) es.length pm hm hb
                rw [hsz] at this ⊢
                simpa using this
              · show (x0.h.set r _).get id = _
                rw [BT.get_set, if_neg (fun ee => by rw [ee, hpr] at hid; cases hid)]
      · trivial
    · trivial
  · trivial

theorem entry_ok {it : Operand} (ho : o.op = .entry it) (R : Rep w0 φ x0.h x0.nx w) : OpOK P w0 φ x0.h x0.nx w (execOp ρ o) (op_entry x0 it) := by
  unfold op_entry
  have hx := O it
  split
  · rename_i r hv
    rw [hv] at hx
    split
    · rename_i m since seen last hr
      split
      · rename_i es i hes hi
        split
        · rename_i e hl he
          have hl := Nat.eq_of_beq_eq_true hl
          obtain ⟨pr, hpr, er⟩ := hx.ptr_inv
          obtain ⟨obr, hobr, hrel⟩ := R.obj r _ pr hr hpr
          cases hrel with
          | iter _ _ _ _ pm hm hb =>
            obtain ⟨ces, hob, hmr⟩ := map_block hE R hes hm
            have hsz : es.length = ces.size := by have := hmr.1.1; simpa using this
            obtain ⟨ek, hk1, hk2⟩ := hmr.1.get (i := i) (v := e.1) (by simp [he])
            obtain ⟨ev, hv1, hv2⟩ := hmr.2.1.get (i := i) (v := e.2) (by simp [he])
            have hil : i < ces.size := by
              rcases Nat.lt_or_ge i es.length with h | h
              · omega
              · rw [List.getElem?_eq_none h] at he; cases he
            have hci : ces[i]? = some ces[i] := by simp [hil]
            have hkey : ces[i].key = ek := by
              rw [List.getElem?_map, Array.getElem?_toList, hci] at hk1
              exact Option.some.inj hk1
            have hval : ces[i].val = ev := by
              rw [List.getElem?_map, Array.getElem?_toList, hci] at hv1
              exact Option.some.inj hv1
            have hfind : ces.find? (fun e => e.born == i) = some ces[i] := by
              rw [Array.find?_eq_some_iff_getElem]
              refine ⟨by simp [hmr.2.2.2 i _ hci], i, hil, rfl, fun j hj => ?_⟩
              have := hmr.2.2.2 j ces[j] (by simp)
              simp [this]; omega
            have hback : seen.toArray.back? = some i := by simpa using hi
            refine ValOK.of_pure R ⟨.tuple #[ek, ev], ?_, .tup' (a := #[ek, ev]) (.cons hk2 (.cons hv2 (.nil _)))⟩
            simp only [execOp, ho, er, Instr.entry, hb, Nat.add_zero, Sem.run_bind, getObj, Sem.run, hobr, hob, Result.andThen_ok, hback, hfind, hl, hsz, bne_self_eq_false, Bool.false_eq_true, if_false, hkey, hval]
            rfl
        · trivial
      · trivial
    · trivial
  · trivial

theorem invoke_ok {c : Call} (ho : o.op = .call c) {r : Operand} {name : String} (hc : c.callee = .invoke r name) : OpOK P w0 φ x0.h x0.nx w (execOp ρ o) (invokeM x0.E x0.h name (c.args.toList.map (evalT x0.E.ng x0.tmps)) (evalT x0.E.ng x0.tmps r)) := by
  have hl := opds_rel hE R O c.args.toList
  have hr := O r
  generalize c.args.toList.map (evalT x0.E.ng x0.tmps) = args at hl ⊢
  unfold invokeM
  split
  · rename_i t v hv
    rw [hv] at hr
    obtain ⟨v', e, hv'⟩ := hr.iface_inv
    cases ht : x0.E.tys.get t with
    | none => trivial
    | some ti =>
      dsimp only
      cases hf : ti.info.methods.toList.find? (fun m => m.name == name) with
      | none => trivial
      | some m =>
        unfold invokeT
        dsimp only
        cases hp : m.path.toList with
        | cons _ _ => trivial
        | nil =>
          cases hm : m.func with
          | none => trivial
          | some fp =>
            obtain ⟨f, pr⟩ := fp
            dsimp only
            have hfind : ti.info.methods.find? (fun m => m.name == name) = some m := by rw [← Array.find?_toList]; exact hf
            have hrun : (execOp ρ o).run P w = ((receiverAt t (.val v') pr (if m.path.isEmpty then some ((name.splitOn ".").getLastD name) else none)).run P w).andThen fun x w => (callFunc f (#[x] ++ c.args.map ρ)).run P w := by
              have hext : ((#[Value.iface t v'] : Array Value) ++ c.args.map ρ).extract 1 (((#[Value.iface t v'] : Array Value) ++ c.args.map ρ).size) = c.args.map ρ := by
                apply Array.ext'
                simp
                rw [List.take_of_length_le (by simp)]
              have h0 : ((#[Value.iface t v'] : Array Value) ++ c.args.map ρ)[0]? = some (Value.iface t v') := by rw [Array.getElem?_append_left (by simp)]; rfl
              simp only [execOp, ho, resolve, hc, e, Sem.run_bind, Sem.run_pure, Result.andThen_ok, invoke, h0, hext, callMethod]
              have hprog : (program).run P w = .ok P w := rfl
              rw [hprog]
              simp only [Result.andThen_ok]
              rw [show P.types.size + Made.depth = (P.types.size + 99) + 1 from rfl]
              generalize P.types.size + 99 = fuel
              simp only [method, Sem.run_bind, run_info hE w ht, Result.andThen_ok, hfind, hp, follow, Sem.run_pure, hm]
              cases (receiverAt t (.val v') pr (if m.path.isEmpty then some ((name.splitOn ".").getLastD name) else none)).run P w <;> rfl
            have hu : (underlying t).run P w = .ok ti.desc w := run_under hE w ht
            have hcall : ∀ {x : AVal} {x' : Value}, VRel φ x x' → (receiverAt t (.val v') pr (if m.path.isEmpty then some ((name.splitOn ".").getLastD name) else none)).run P w = .ok x' w → OpOK P w0 φ x0.h x0.nx w (execOp ρ o) (.enter f (x :: args)) := fun {x x'} hx hrec => by
              refine ⟨#[x'] ++ c.args.map ρ, by rw [hrun, hrec]; rfl, ?_⟩
              rw [Array.toList_append]
              exact LRel.cons hx (by simpa using hl)
            unfold invokeR
            split
            · rename_i elem hd
              split
              · exact hcall hv' (by simp only [receiverAt, Sem.run_bind, hu, hd, Result.andThen_ok]; rfl)
              · rename_i id off
                split
                · rename_i x hx
                  obtain ⟨p, hpp, e2⟩ := hv'.ptr_inv
                  obtain ⟨x', k1, k2⟩ := load_sound hE R hx hpp
                  refine hcall k2 ?_
                  have hpe : m.path.isEmpty = true := by
                    have : m.path = #[] := by apply Array.ext'; simpa using hp
                    rw [this]; rfl
                  have hchk : ∀ a b : ByteArray, (Builtin.ssaWrapNilChk_ #[t] t #[Value.pointer (some ⟨p.block, p.base + off, none⟩), .string a, .string b]).run P w = .ok (.pointer (some ⟨p.block, p.base + off, none⟩)) w := fun _ _ => rfl
                  simp only [receiverAt, Sem.run_bind, hu, hd, Result.andThen_ok, e2, Place.get, Sem.run_pure, hpe, if_true, strVal, hchk, asAddr, k1]
                · trivial
              · trivial
            · rename_i hd
              split
              · refine hcall hv' ?_
                simp only [receiverAt, Sem.run_bind, hu, Result.andThen_ok]
                rfl
              · trivial
  · trivial

theorem call_ok {c : Call} (ho : o.op = .call c) : OpOK P w0 φ x0.h x0.nx w (execOp ρ o) (op_call x0 c) := by
  unfold op_call
  have hl := opds_rel hE R O c.args.toList
  split
  · rename_i hc
    split
    · rename_i x hx
      have h := O x
      have ha : c.args = #[x] := toList_eq hE R O hx
      split
      · rename_i t v hv
        rw [hv] at h
        obtain ⟨x', e, hv'⟩ := h.iface_inv
        exact ⟨.iface t x', by simp [execOp, ho, resolve, hc, invoke, builtin, ha, e, Instr.panic, goPanic], .iface t v x' hv'⟩
      · trivial
    · trivial
  · rename_i b hnp hb
    by_cases hq : b = .len ∨ b = .cap ∨ b = .max ∨ b = .min
    · exact (lenq hE R O o ho b hb hq).to R
    · generalize hal : c.args.toList.map (evalT x0.E.ng x0.tmps) = al at hl
      unfold builtinV
      split
      · simp at hq
      · simp at hq
      · simp at hq
      · simp at hq
      · have : c.args = #[] := by
          have := hl.1
          simp at this
          exact Array.eq_empty_of_size_eq_zero this.symm
        show (execOp ρ o).run P w = _
        simp [execOp, ho, resolve, hb, invoke, builtin, this]
      · rename_i t u s x ht
        obtain ⟨s', m, e1, e2, e3⟩ := hl.cons_inv
        obtain ⟨x', m', f1, f2, f3⟩ := e3.cons_inv
        have hm := f3.nil_inv
        subst hm; subst f1
        have ht := toList_eq hE R O ht
        have ha : c.args.map ρ = #[s', x'] := toList_eq hE R O (by simpa using e1)
        exact (appendB_sound (ty := o.type) hE R e2 f2).to (by simp [execOp, ho, resolve, hb, invoke, builtin, ht, ha])
      · rename_i t u s x ht
        obtain ⟨s', m, e1, e2, e3⟩ := hl.cons_inv
        obtain ⟨x', m', f1, f2, f3⟩ := e3.cons_inv
        have hm := f3.nil_inv
        subst hm; subst f1
        have ht := toList_eq hE R O ht
        have ha : c.args.map ρ = #[s', x'] := toList_eq hE R O (by simpa using e1)
        exact (copy_sound (u := u) (ty := o.type) hE R e2 f2).to (by simp [execOp, ho, resolve, hb, invoke, builtin, ht, ha])
      · trivial
  · rename_i r name hc
    exact invoke_ok hE R O o ho hc
  · rename_i f hc
    have hf := O f
    split
    · rename_i fn first cap h
      rw [h] at hf
      rcases hf.func_inv with ⟨f', a', b', e1, e2, e3, e4⟩ | ⟨l, p, e1, e2, e3, e4, e5⟩
      · subst e1
        refine ⟨(a' ++ c.args.map ρ) ++ b', by simp [execOp, ho, resolve, hc, e2, Deferred.ofValue, invoke], ?_⟩
        rw [Array.toList_append, Array.toList_append]
        exact (e3.append (by simpa using hl)).append e4
      · subst e1; subst e2; subst e3
        exact ⟨p, c.args.map ρ, e4, by simp [execOp, ho, resolve, hc, e5, Deferred.ofValue, invoke], by simpa using hl⟩
    · rename_i h
      rw [h] at hf
      refine ⟨.iface P.rt.errorString (strVal "invalid memory address or nil pointer dereference"), ?_, ?_⟩
      · simp [execOp, ho, resolve, hc, hf.nilfunc_inv, Deferred.ofValue, invoke, runtimePanic, goPanic]
      · unfold rtErr
        rw [hE.err]
        exact .iface _ _ _ (str_of φ _)
    · trivial

/-- Every operation. -/
theorem evOp_sound (R' : Rep w0 φ x0.h x0.nx w) : OpOK P w0 φ x0.h x0.nx w (execOp ρ o) (evOp x0 o.op) := by
  cases ho : o.op with
  | range t x => exact range_ok hE R O o ho R'
  | next it str => exact next_ok hE R O o ho R'
  | entry it => exact entry_ok hE R O o ho R'
  | move x => exact (move_q hE R O o ho).to R
  | assign x => exact (assign_q hE R O o ho).to R
  | pick c a b => exact (pick_q hE R O o ho).to R
  | alloc t => exact (alloc_q hE R O o ho).to R
  | box t x => exact (box_q hE R O o ho).to R
  | build t parts => exact (build_q hE R O o ho).to R
  | buildSlice t len parts => exact (buildSlice_q hE R O o ho).to R
  | insert t m k x => exact update_ok hE R O o (.inr ho)
  | load t a => exact (load_q hE R O o ho).to R
  | store t a x => exact store_ok hE R O o ho
  | nilCheck x => exact (nilCheck_q hE R O o ho).to R
  | binOp op t x y g => exact (binOp_q hE O o ho).to R
  | unOp op t x => exact (unOp_q hE R O o ho).to R
  | convert src dst x => exact (convert_q hE R O o ho).to R
  | sliceToArrayPointer arr x => exact (sliceToArrayPointer_q hE R O o ho).to R
  | makeInterface t x => exact (makeInterface_q hE R O o ho).to R
  | makeFunc fn first cap => exact (makeFunc_q hE R O o ho).to R
  | makeMap t r => exact (makeMap_q hE R O o ho).to R
  | makeSlice t l c => exact (makeSlice_q hE R O o ho).to R
  | slice t x lo hi mx => exact (slice_q hE R O o ho).to R
  | fieldAddr s x f => exact (fieldAddr_q hE R O o ho).to R
  | field t x f => exact (field_q hE R O o ho).to R
  | indexAddr t x ix => exact (indexAddr_q hE R O o ho).to R
  | index t x ix => exact (index_q hE R O o ho).to R
  | lookup t x k ok => exact (lookup_q hE R O o ho).to R
  | mapUpdate t m k x => exact update_ok hE R O o (.inl ho)
  | typeAssert x xt asserted ok => exact (typeAssert_q hE R O o ho).to R
  | extract t i => exact (extract_q hE R O o ho).to R
  | call c => exact call_ok hE R O o ho
  | defer c => exact defer_ok hE R O o ho
  | panic x => exact panic_ok hE R O o ho
  | _ => trivial

end
end Go.Ev
end
section
/- The model's machine, one step at a time, at a frame written out. -/
set_option linter.unusedVariables false
set_option linter.unusedSimpArgs false
set_option linter.unusedSectionVars false
namespace Go.Ev
open Go.RowKit

/-- A running frame. -/
abbrev F (f : FuncId) (T : Array Value) (k : List Item) (ds : List Deferred) (kd : CallKind) (ro : Option Nat) : Frame :=
  { fn := f, tmps := T, todo := k, defers := ds, mode := .run, kind := kd, roundOf := ro }

section
variable {P : Program} {f : FuncId} {T : Array Value} {k : List Item} {ds : List Deferred} {kd : CallKind} {ro : Option Nat} {cs : List Frame} {w w' : World}

theorem st_skip : step P (lone (F f T (.code .skip :: k) ds kd ro) cs w) = .next (lone (F f T k ds kd ro) cs w) := step_lone_go (by simp [stepG, stepG.exec])
theorem st_label {l : Nat} : step P (lone (F f T (.code (.label l) :: k) ds kd ro) cs w) = .next (lone (F f T k ds kd ro) cs w) := step_lone_go (by simp [stepG, stepG.exec])
theorem st_inBlock {id : Nat} : step P (lone (F f T (.inBlock id :: k) ds kd ro) cs w) = .next (lone (F f T k ds kd ro) cs w) := step_lone_go (by simp [stepG, stepG.exec])
theorem st_inScope {c : Code} : step P (lone (F f T (.inScope c :: k) ds kd ro) cs w) = .next (lone (F f T k ds kd ro) cs w) := step_lone_go (by simp [stepG, stepG.exec])
theorem st_seq {a b : Code} : step P (lone (F f T (.code (.seq a b) :: k) ds kd ro) cs w) = .next (lone (F f T (.code a :: .code b :: k) ds kd ro) cs w) := step_lone_go (by simp [stepG, stepG.exec])
theorem st_cond {c : Operand} {a b : Code} {x : Bool} (h : (F f T (.code (.cond c a b) :: k) ds kd ro).eval c = .bool x) :
    step P (lone (F f T (.code (.cond c a b) :: k) ds kd ro) cs w) = .next (lone (F f T (.code (if x then a else b) :: k) ds kd ro) cs w) := step_lone_go (by simp [stepG, stepG.exec, h])
theorem st_block {id : Nat} {c : Code} : step P (lone (F f T (.code (.block id c) :: k) ds kd ro) cs w) = .next (lone (F f T (.code c :: .inBlock id :: k) ds kd ro) cs w) := step_lone_go (by simp [stepG, stepG.exec])
theorem st_loop {c : Code} : step P (lone (F f T (.code (.loop c) :: k) ds kd ro) cs w) = .next (lone (F f T (.code c :: .inLoop c :: k) ds kd ro) cs w) := step_lone_go (by simp [stepG, stepG.exec])
theorem st_inLoop {c : Code} : step P (lone (F f T (.inLoop c :: k) ds kd ro) cs w) = .next (lone (F f T (.code c :: .inLoop c :: k) ds kd ro) cs w) := step_lone_go (by simp [stepG, stepG.exec])
theorem st_scope {c : Code} : step P (lone (F f T (.code (.scope c) :: k) ds kd ro) cs w) = .next (lone (F f T (.code c :: .inScope c :: k) ds kd ro) cs w) := step_lone_go (by simp [stepG, stepG.exec])
theorem st_exit {id : Nat} {k' : List Item} (h : Go.exitTo id k = some k') : step P (lone (F f T (.code (.exit id) :: k) ds kd ro) cs w) = .next (lone (F f T k' ds kd ro) cs w) := step_lone_go (by simp [stepG, stepG.exec, h])
theorem st_goto {l : Nat} {k' : List Item} (h : Go.gotoIn l k = some k') : step P (lone (F f T (.code (.goto l) :: k) ds kd ro) cs w) = .next (lone (F f T k' ds kd ro) cs w) := step_lone_go (by simp [stepG, stepG.exec, h])
theorem st_ret : step P (lone (F f T (.code .ret :: k) ds kd none) cs w) = .next (lone { F f T (.code .ret :: k) ds kd none with mode := .returning } cs w) := step_lone_go (by simp [stepG, stepG.exec])
theorem st_end : step P (lone (F f T [] ds kd none) cs w) = .next (lone { F f T [] ds kd none with mode := .returning } cs w) := step_lone_go (by simp [stepG, stepG.exec])
theorem st_region {id : Nat} {ops : Array Oper} : step P (lone (F f T (.code (.region id ops false) :: k) ds kd ro) cs w) = .next (lone (F f T (.inRegion ops (List.range ops.size) :: k) ds kd ro) cs w) :=
  step_lone_go (by simp [stepG, stepG.exec])
theorem st_drawn {id : Nat} {ops : Array Oper} : step P (lone (F f T (.code (.region id ops true) :: k) ds kd ro) cs w) =
    .next (lone (F f T (.inRegion ops (Region.schedule (P.follows .mixedOrders) ops (w.tape w.drawn (.order f id))) :: k) ds kd ro) cs { w with drawn := w.drawn + 1 }) :=
  step_lone_go (by simp [stepG, stepG.exec, choose, Sem.run, Question.forced, Question.cut])
theorem st_regionEnd {ops : Array Oper} : step P (lone (F f T (.inRegion ops [] :: k) ds kd ro) cs w) = .next (lone (F f T k ds kd ro) cs w) := step_lone_go (by simp [stepG, stepG.exec])

/-- A slot is written. -/
def putA (T : Array Value) (d : Option Nat) (v : Value) : Array Value := match d with | some d => T.setIfInBounds d v | none => T

theorem finish_region {ops : Array Oper} {i : Nat} {is : List Nat} {o : Oper} (ho : ops[i]? = some o) (v : Value) :
    (F f T (.inRegion ops (i :: is) :: k) ds kd ro).finish v = F f (putA T o.dst v) (.inRegion ops is :: k) ds kd ro := by
  unfold Frame.finish putA
  simp only [ho, Option.bind_some]
  cases o.dst <;> rfl
theorem st_unwanted {ops : Array Oper} {i : Nat} {is : List Nat} {o : Oper} (ho : ops[i]? = some o) (hw : Region.wanted o (yielded ops T) = false) :
    step P (lone (F f T (.inRegion ops (i :: is) :: k) ds kd ro) cs w) = .next (lone (F f (putA T o.dst undef) (.inRegion ops is :: k) ds kd ro) cs w) := by
  rw [← finish_region (k := k) (ds := ds) (kd := kd) (ro := ro) (is := is) (f := f) ho]
  exact step_lone_go (by simp [stepG, stepG.exec, ho, hw])

/-- No operation of a round's own defer. -/
def plainOp (ro : Option Nat) (op : Op) : Prop := ∀ l c, ro = some l → op ≠ .defer c

theorem stG_op {ops : Array Oper} {i : Nat} {is : List Nat} {o : Oper} (ho : ops[i]? = some o) (hw : Region.wanted o (yielded ops T) = true) (hp : plainOp ro o.op) :
    stepG P true { frame := F f T (.inRegion ops (i :: is) :: k) ds kd ro, callers := cs, status := .running, dying := none } w =
      stepG.apply P true (F f T (.inRegion ops (i :: is) :: k) ds kd ro) cs none (execOp (F f T (.inRegion ops (i :: is) :: k) ds kd ro).eval o) w := by
  simp only [stepG, stepG.exec, ho, Option.map_some, hw, Option.getD_some, if_true, stepG.oper, Frame.oper?]
  split
  · exact absurd ‹_› (hp _ _ rfl)
  · rfl

variable {ops : Array Oper} {i : Nat} {is : List Nat} {o : Oper} (ho : ops[i]? = some o) (hw : Region.wanted o (yielded ops T) = true) (hp : plainOp ro o.op)
include ho hw hp
theorem st_value {r : Next} {v : Value} (hr : (execOp (F f T (.inRegion ops (i :: is) :: k) ds kd ro).eval o).run P w = .ok r w') (hv : r = .value v ∨ (r = .skip ∧ v = undef)) :
    step P (lone (F f T (.inRegion ops (i :: is) :: k) ds kd ro) cs w) = .next (lone (F f (putA T o.dst v) (.inRegion ops is :: k) ds kd ro) cs w') := by
  rw [← finish_region (k := k) (ds := ds) (kd := kd) (ro := ro) (is := is) (f := f) ho]
  refine step_lone_go ?_
  rw [stG_op ho hw hp]
  rcases hv with rfl | ⟨rfl, rfl⟩ <;> simp [stepG.apply, hr]
theorem st_panic {v : Value} (hr : (execOp (F f T (.inRegion ops (i :: is) :: k) ds kd ro).eval o).run P w = .halt (.panic v) w') :
    step P (lone (F f T (.inRegion ops (i :: is) :: k) ds kd ro) cs w) = .next (lone ((F f T (.inRegion ops (i :: is) :: k) ds kd ro).raise [{ v, recovered := false }]) cs w') := by
  refine step_lone_go ?_
  rw [stG_op ho hw hp]
  simp [stepG.apply, hr]
theorem st_enter {g : FuncId} {args : Array Value} (hr : (execOp (F f T (.inRegion ops (i :: is) :: k) ds kd ro).eval o).run P w = .ok (.enter g args) w') :
    step P (lone (F f T (.inRegion ops (i :: is) :: k) ds kd ro) cs w) = .next (lone (Frame.enter P g args .normal) (F f T (.inRegion ops (i :: is) :: k) ds kd ro :: cs) w') := by
  refine step_lone_go ?_
  rw [stG_op ho hw hp]
  simp [stepG.apply, hr]
theorem st_defer {d : Deferred} (hr : (execOp (F f T (.inRegion ops (i :: is) :: k) ds kd ro).eval o).run P w = .ok (.defer d) w') :
    step P (lone (F f T (.inRegion ops (i :: is) :: k) ds kd ro) cs w) = .next (lone (F f (putA T o.dst undef) (.inRegion ops is :: k) (d :: ds) kd ro) cs w') := by
  rw [← finish_region (k := k) (ds := d :: ds) (kd := kd) (ro := ro) (is := is) (f := f) ho]
  refine step_lone_go ?_
  rw [stG_op ho hw hp]
  simp [stepG.apply, hr]
theorem st_round {l : Nat} {g : FuncId} {tm : Array Value} {a b : Code} (hr : (execOp (F f T (.inRegion ops (i :: is) :: k) ds kd ro).eval o).run P w = .ok (.round l g tm a b) w') :
    step P (lone (F f T (.inRegion ops (i :: is) :: k) ds kd ro) cs w) = .next (lone (Frame.round l g tm a b .normal) (F f T (.inRegion ops (i :: is) :: k) ds kd ro :: cs) w') := by
  refine step_lone_go ?_
  rw [stG_op ho hw hp]
  simp [stepG.apply, hr]
end
end Go.Ev
end
section
/- Regions that run in the text's order. -/
set_option linter.unusedVariables false
set_option linter.unusedSimpArgs false
set_option linter.unusedSectionVars false
namespace Go.Ev
open Go.RowKit

/-- The globals lie in their blocks. -/
def GlobOK (ng : Nat) (φ : Phi) : Prop := ∀ g, g < ng → ∃ p, φ g = some p ∧ p.block = g ∧ p.base = 0
theorem GlobOK.mono {ng : Nat} {φ φ' : Phi} (h : φ.le φ') (G : GlobOK ng φ) : GlobOK ng φ' := fun g hg => let ⟨p, a, b⟩ := G g hg; ⟨p, h _ _ a, b⟩

/-- What a step leaves alone. -/
structure Ext (φ : Phi) (h : Heap) (nx : Nat) (φ' : Phi) (h' : Heap) (nx' : Nat) : Prop where
  le : φ.le φ'
  nxle : nx ≤ nx'
  ph : ∀ id, φ id = none → id < nx → φ' id = none ∧ h'.get id = h.get id
theorem Ext.refl (φ : Phi) (h : Heap) (nx : Nat) : Ext φ h nx φ h nx := ⟨Phi.le_refl φ, Nat.le_refl _, fun _ a _ => ⟨a, rfl⟩⟩
theorem Ext.trans {φ φ1 φ2 : Phi} {h h1 h2 : Heap} {nx n1 n2 : Nat} (a : Ext φ h nx φ1 h1 n1) (b : Ext φ1 h1 n1 φ2 h2 n2) : Ext φ h nx φ2 h2 n2 :=
  ⟨Phi.le_trans a.le b.le, Nat.le_trans a.nxle b.nxle, fun id h1 h2 => by
    obtain ⟨c1, c2⟩ := a.ph id h1 h2
    obtain ⟨d1, d2⟩ := b.ph id c1 (Nat.lt_of_lt_of_le h2 a.nxle)
    exact ⟨d1, d2.trans c2⟩⟩

theorem getT_eq (t : BT AVal) (i : Nat) : getT t i = (t.get i).getD .bot := by
  unfold getT
  rw [← BT.get_path]
  cases t.get i <;> rfl

theorem eval_rel {φ : Phi} {ng size : Nat} {t : BT AVal} {f : FuncId} {T : Array Value} {k : List Item} {ds : List Deferred} {kd : CallKind} {ro : Option Nat} (G : GlobOK ng φ) (h : TRel φ size t T) (x : Operand) : VRel φ (evalT ng t x) ((F f T k ds kd ro).eval x) := by
  cases x with
  | tmp i =>
    show VRel φ (getT t i) (T.getD i undef)
    rw [getT_eq]
    cases hg : t.get i with
    | none => exact .bot _
    | some v => exact h.2 i v hg
  | const v => exact ofV_rel φ 10 v
  | global g =>
    show VRel φ (Bool.rec (motive := fun _ => AVal) .bot (.ptr g 0) (Nat.blt g ng)) (.pointer (some ⟨g, 0, none⟩))
    by_cases hg : g < ng
    · rw [blt_t hg]
      obtain ⟨p, h1, h2, h3⟩ := G g hg
      have := VRel.ptr g 0 p h1
      rw [h2, h3] at this
      exact this
    · rw [blt_f hg]; exact .bot _
  | func g => exact .func g [] [] #[] #[] rfl rfl (fun i v v' h => by simp at h) (fun i v v' h => by simp at h)

theorem putT_get (size : Nat) (t : BT AVal) (d : Option Nat) (v : AVal) (i : Nat) : (putT size t d v).get i = if d = some i ∧ i < size then some v else t.get i := by
  cases d with
  | none => rw [if_neg (fun h => by cases h.1)]; rfl
  | some d =>
    show (Bool.rec (motive := fun _ => BT AVal) t (BT.putP (some v) (BT.path d) t) (Nat.ble (Nat.succ d) size) : BT AVal).get i = _
    by_cases hd : d < size
    · rw [Nat.ble_eq_true_of_le hd]
      show (BT.putP (some v) (BT.path d) t).get i = _
      rw [← BT.put_eq, BT.get_put]
      by_cases e : i = d
      · subst e; rw [if_pos rfl, if_pos ⟨rfl, hd⟩]
      · rw [if_neg e, if_neg (fun h => e (Option.some.inj h.1).symm)]
    · have : Nat.ble (Nat.succ d) size = false := by
        cases hb : Nat.ble (Nat.succ d) size with
        | false => rfl
        | true => exact absurd (Nat.le_of_ble_eq_true hb) hd
      rw [this, if_neg (fun h => hd (by have := Option.some.inj h.1; omega))]
theorem putA_get (T : Array Value) (d : Option Nat) (v : Value) (i : Nat) : (putA T d v).getD i undef = if d = some i ∧ i < T.size then v else T.getD i undef := by
  cases d with
  | none => rw [if_neg (fun h => by cases h.1)]; rfl
  | some d =>
    show (T.setIfInBounds d v).getD i undef = _
    rw [Array.getD_eq_getD_getElem?, Array.getD_eq_getD_getElem?]
    by_cases e : d = i
    · subst e
      by_cases hd : d < T.size
      · rw [if_pos ⟨rfl, hd⟩]; simp [hd]
      · rw [if_neg (fun h => hd h.2)]; simp [hd]
    · rw [if_neg (fun h => e (Option.some.inj h.1)), Array.getElem?_setIfInBounds_ne e]
theorem putA_size (T : Array Value) (d : Option Nat) (v : Value) : (putA T d v).size = T.size := by cases d <;> simp [putA]
theorem TRel.put {φ : Phi} {size : Nat} {t : BT AVal} {T : Array Value} (h : TRel φ size t T) {v : AVal} {v' : Value} (hv : VRel φ v v') (d : Option Nat) : TRel φ size (putT size t d v) (putA T d v') := by
  refine ⟨by rw [putA_size]; exact h.1, fun i u hu => ?_⟩
  rw [putT_get] at hu
  rw [putA_get, h.1]
  split at hu
  · rename_i hc; rw [if_pos hc]; cases hu; exact hv
  · rename_i hc; rw [if_neg hc]; exact h.2 i u hu

theorem undef_rel (φ : Phi) : VRel φ undef' undef := .tup [] #[] rfl (fun i v v' h => by simp at h)

/-! ### Guards -/
theorem wanted_rel {φ : Phi} {size : Nat} {t : BT AVal} {T : Array Value} (h : TRel φ size t T) (ops : Array Oper) (o : Oper) :
    (wanted o.guard t ops.toList = .yes → Region.wanted o (yielded ops T) = true) ∧ (wanted o.guard t ops.toList = .no → Region.wanted o (yielded ops T) = false) := by
  unfold Region.wanted
  cases hg : o.guard with
  | none => exact ⟨(fun _ => rfl), (fun h => by cases h)⟩
  | some g =>
    obtain ⟨j, want⟩ := g
    show (wantedG t ops.toList (j, want) = .yes → _) ∧ (wantedG t ops.toList (j, want) = .no → _)
    unfold wantedG yielded
    dsimp only
    rw [Array.getElem?_toList]
    cases hj : ops[j]? with
    | none => exact ⟨(fun h => by cases h), (fun _ => rfl)⟩
    | some p =>
      dsimp only [Option.bind_some]
      cases hd : p.dst with
      | none => exact ⟨(fun h => by cases h), (fun _ => rfl)⟩
      | some d =>
        dsimp only [Option.bind_some]
        cases hgt : t.get d with
        | none => exact ⟨fun h => (by cases h), fun h => (by cases h)⟩
        | some v =>
          have hr := h.2 d v hgt
          rw [Array.getD_eq_getD_getElem?] at hr
          cases v with
          | bool b =>
            have e := hr.bool_inv
            have e2 : T[d]? = some (.bool b) := by
              cases ht : T[d]? with
              | none => rw [ht] at e; cases e
              | some u => rw [ht] at e; exact congrArg some e
            rw [e2]
            cases want <;> cases b <;> exact ⟨fun h => (by first | rfl | cases h), fun h => (by first | rfl | cases h)⟩
          | tup l =>
            cases l with
            | nil =>
              obtain ⟨a, e, _⟩ := hr.tup_inv
              refine ⟨(fun h => by cases h), (fun _ => ?_)⟩
              cases ht : T[d]? with
              | none => rfl
              | some u => rw [ht] at e; simp at e; subst e; rfl
            | cons x l => exact ⟨fun h => (by cases h), fun h => (by cases h)⟩
          | _ => exact ⟨fun h => (by cases h), fun h => (by cases h)⟩

/-! ### The abstract machine's own region -/
theorem putTK_eq (size : Nat) (t : BT AVal) (d : Option Nat) (v : AVal) (k : BT AVal → RO) : putTK size t d v k = k (putT size t d v) := by
  cases d with
  | none => rfl
  | some d =>
    show (Bool.rec (motive := fun _ => RO) (k t) (BT.putK (some v) (BT.path d) t k) (Nat.ble (Nat.succ d) size) : RO) = k (Bool.rec (motive := fun _ => BT AVal) t (BT.putP (some v) (BT.path d) t) (Nat.ble (Nat.succ d) size))
    cases Nat.ble (Nat.succ d) size with
    | false => rfl
    | true => exact BT.putK_eq _ _ _ _
theorem applyEffK_eq : ∀ (e : Eff) (h : Heap) (k : Heap → RO), applyEffK e h k = k (applyEff h e)
  | [], h, k => rfl
  | p :: e, h, k => by
    show BT.putK p.2 (BT.path p.1) h (fun h => applyEffK e h k) = _
    rw [BT.putK_eq, applyEffK_eq e]
    show k (applyEff (BT.putP p.2 (BT.path p.1) h) e) = k (applyEff (BT.putF p.2 (Nat.succ p.1) h p.1) e)
    rw [BT.putF_path]
theorem forceN_eq (n : Nat) (k : Nat → RO) : forceN n k = k n := by cases n <;> rfl
theorem runOps_cons (E : Env) (ops : List Oper) (size : Nat) (o : Oper) (rest : List Oper) (t : BT AVal) (h : Heap) (nx : Nat) : runOps E ops size (o :: rest) t h nx =
    match wanted o.guard t ops with
    | .yes => (match evOp ⟨E, t, h, nx⟩ o.op with
      | .val v e nx' => runOps E ops size rest (putT size t o.dst v) (applyEff h e) nx'
      | r => .at (o :: rest) t h nx r)
    | .no => runOps E ops size rest (putT size t o.dst undef') h nx
    | .unk => .at (o :: rest) t h nx (.stuck "guard") := by
  show W3.rec (motive := fun _ => RO) (runOp (runOps E ops size rest) (.at (o :: rest) t h nx) size t o.dst h (evOp ⟨E, t, h, nx⟩ o.op)) (putTK size t o.dst undef' (fun t => runOps E ops size rest t h nx)) (.at (o :: rest) t h nx (.stuck "guard")) (wanted o.guard t ops) = _
  cases wanted o.guard t ops with
  | yes =>
    show runOp (runOps E ops size rest) (.at (o :: rest) t h nx) size t o.dst h (evOp ⟨E, t, h, nx⟩ o.op) = _
    cases evOp ⟨E, t, h, nx⟩ o.op with
    | val v e nx' =>
      show putTK size t o.dst v (fun t => applyEffK e h (fun h => forceN nx' (fun nx' => runOps E ops size rest t h nx'))) = _
      rw [putTK_eq, applyEffK_eq, forceN_eq]
    | _ => rfl
  | no => exact putTK_eq _ _ _ _ _
  | unk => rfl

theorem defer_noval {x0 : Cx} {c : Call} {v : AVal} {e : Eff} {nx' : Nat} : evOp x0 (.defer c) ≠ .val v e nx' := by
  show op_defer x0 c ≠ _
  unfold op_defer
  split
  · split <;> (intro h; cases h)
  · intro h; cases h

def IsRel (ops : Array Oper) (is : List Nat) (todo : List Oper) : Prop := is.map (fun i => ops[i]?) = todo.map some
theorem IsRel.cons_inv {ops : Array Oper} {is : List Nat} {o : Oper} {todo : List Oper} (h : IsRel ops is (o :: todo)) : ∃ i is', is = i :: is' ∧ ops[i]? = some o ∧ IsRel ops is' todo := by
  cases is with
  | nil => cases h
  | cons i is => simp [IsRel] at h; exact ⟨i, is, rfl, h.1, h.2⟩
theorem IsRel.nil_inv {ops : Array Oper} {is : List Nat} (h : IsRel ops is []) : is = [] := by simpa [IsRel] using h
theorem IsRel.range (ops : Array Oper) : IsRel ops (List.range ops.size) ops.toList := by
  unfold IsRel
  apply List.ext_getElem?
  intro i
  rw [List.getElem?_map, List.getElem?_map]
  by_cases hi : i < ops.size
  · rw [List.getElem?_range hi]; simp [hi]
  · rw [List.getElem?_eq_none (by simpa using hi), List.getElem?_eq_none (by simpa using hi)]; rfl

/-- What is left when a region stops. -/
inductive ROK (E : Env) (P : Program) (w0 : World) (φ : Phi) (size : Nat) (ops : Array Oper) (f : FuncId) (k : List Item) (ds : List Deferred) (kd : CallKind) (ro : Option Nat) (w : World) (T : Array Value) : RO → List Item → Prop where
  | fin (t : BT AVal) (h : Heap) (nx : Nat) (R : Rep w0 φ h nx w) (ht : TRel φ size t T) : ROK E P w0 φ size ops f k ds kd ro w T (.fin t h nx) k
  | at (o : Oper) (rest : List Oper) (i : Nat) (is : List Nat) (t : BT AVal) (h : Heap) (nx : Nat) (r : OpR) (R : Rep w0 φ h nx w) (ht : TRel φ size t T) (ho : ops[i]? = some o) (his : IsRel ops is rest)
      (hw : Region.wanted o (yielded ops T) = true) (hr : OpOK P w0 φ h nx w (execOp (F f T (.inRegion ops (i :: is) :: k) ds kd ro).eval o) r) (hev : r = evOp ⟨E, t, h, nx⟩ o.op) :
      ROK E P w0 φ size ops f k ds kd ro w T (.at (o :: rest) t h nx r) (.inRegion ops (i :: is) :: k)
  | stuck (rest : List Oper) (t : BT AVal) (h : Heap) (nx : Nat) (why : String) (k' : List Item) : ROK E P w0 φ size ops f k ds kd ro w T (.at rest t h nx (.stuck why)) k'

def RO.h : RO → Heap | .fin _ h _ | .at _ _ h _ _ => h
def RO.nx : RO → Nat | .fin _ _ n | .at _ _ _ n _ => n

theorem runOps_sound {E : Env} {P : Program} (hE : EnvOK E P) {w0 : World} {size : Nat} {ops : Array Oper} {f : FuncId} {k : List Item} {ds : List Deferred} {kd : CallKind} {ro : Option Nat} {cs : List Frame} :
    ∀ (todo : List Oper) (is : List Nat) (φ : Phi) (t : BT AVal) (h : Heap) (nx : Nat) (T : Array Value) (w : World), IsRel ops is todo → GlobOK E.ng φ → Rep w0 φ h nx w → TRel φ size t T →
    ∃ φ' T' k' w', Steps P (lone (F f T (.inRegion ops is :: k) ds kd ro) cs w) (lone (F f T' k' ds kd ro) cs w') ∧
      Ext φ h nx φ' (runOps E ops.toList size todo t h nx).h (runOps E ops.toList size todo t h nx).nx ∧ ROK E P w0 φ' size ops f k ds kd ro w' T' (runOps E ops.toList size todo t h nx) k'
  | [], is, φ, t, h, nx, T, w, his, G, R, ht => by
    rw [his.nil_inv]
    exact ⟨φ, T, k, w, .one st_regionEnd, Ext.refl _ _ _, .fin t h nx R ht⟩
  | o :: rest, is, φ, t, h, nx, T, w, his, G, R, ht => by
    obtain ⟨i, is', rfl, ho, his'⟩ := his.cons_inv
    have hwr := wanted_rel ht ops o
    rw [runOps_cons]
    cases hw : wanted o.guard t ops.toList with
    | yes =>
      have hW := hwr.1 hw
      have O := fun x => eval_rel (f := f) (k := .inRegion ops (i :: is') :: k) (ds := ds) (kd := kd) (ro := ro) G ht x
      have hop := evOp_sound (x0 := ⟨E, t, h, nx⟩) (ρ := (F f T (.inRegion ops (i :: is') :: k) ds kd ro).eval) hE R O o R
      dsimp only
      cases hev : evOp ⟨E, t, h, nx⟩ o.op with
      | val v e nx' =>
        rw [hev] at hop
        obtain ⟨r, v', w', φ', h1, h2, h3, h4, h5, h6, h7⟩ := hop
        have hp : plainOp ro o.op := fun l c _ e => by rw [e] at hev; exact defer_noval hev
        have hst := st_value (P := P) (f := f) (k := k) (ds := ds) (kd := kd) (ro := ro) (cs := cs) (is := is') ho hW hp h1 h2
        obtain ⟨φ'', T', k', w'', s1, s2, s3⟩ := runOps_sound hE rest is' φ' (putT size t o.dst v) (applyEff h e) nx' (putA T o.dst v') w' his' (G.mono h3) h5 ((ht.mono h3).put h4 o.dst)
        exact ⟨φ'', T', k', w'', .head hst s1, Ext.trans ⟨h3, h6, h7⟩ s2, s3⟩
      | stuck why => exact ⟨φ, T, _, w, Steps.refl _ _, Ext.refl _ _ _, .stuck _ _ _ _ _ _⟩
      | _ =>
        rw [hev] at hop
        exact ⟨φ, T, _, w, Steps.refl _ _, Ext.refl _ _ _, .at o rest i is' t h nx _ R ht ho his' hW hop hev.symm⟩
    | no =>
      have hW := hwr.2 hw
      have hst := st_unwanted (P := P) (f := f) (k := k) (ds := ds) (kd := kd) (ro := ro) (cs := cs) (is := is') (w := w) ho hW
      obtain ⟨φ'', T', k', w'', s1, s2, s3⟩ := runOps_sound hE rest is' φ (putT size t o.dst undef') h nx (putA T o.dst undef) w his' G R (ht.put (undef_rel φ) o.dst)
      exact ⟨φ'', T', k', w'', .head hst s1, s2, s3⟩
    | unk => exact ⟨φ, T, _, w, Steps.refl _ _, Ext.refl _ _ _, .stuck _ _ _ _ _ _⟩
end Go.Ev
end
