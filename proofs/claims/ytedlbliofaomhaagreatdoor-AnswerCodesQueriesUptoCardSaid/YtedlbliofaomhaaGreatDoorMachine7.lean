/- The abstract machine of this proof: a deterministic reading of the model's code, and that it says what the model does. -/
import Derived.Test.YtedlbliofaomhaaGreatDoorMachine6
set_option linter.all false
section
/- Operations that ask of types: by what is asked. -/
set_option linter.unusedVariables false
set_option linter.unusedSimpArgs false
namespace Go.Ev
open Go.RowKit

noncomputable def Env.bytes? (E : Env) (t : TypeId) : Option Nat := match E.tys.get t with | some ti => some ti.info.bytes | none => none
/-- A field's place, where it has cells. -/
noncomputable def Env.fld? (E : Env) (s : TypeId) (f : Nat) : Option Nat := match E.under? s with
  | some (.struct fields) => match fields.toList[f]? with
    | some fd => match E.size? fd.type with
      | some (_ + 1) => some fd.offset
      | _ => none
    | none => none
  | _ => none

noncomputable def aggQ (E : Env) (t : TypeId) : Bool := match E.under? t with
  | some d => aggD d
  | none => false
theorem aggQ_at {E : Env} {t : TypeId} (h : aggQ E t = true) : ∃ d, E.under? t = some d ∧ aggD d = true := by
  unfold aggQ at h
  cases hu : E.under? t with
  | none => rw [hu] at h; cases h
  | some d => rw [hu] at h; exact ⟨d, rfl, h⟩
section
variable {E : Env} {t : BT AVal} {h : Heap} {nx : Nat}
/-! ### Conversions -/
noncomputable def convV (E : Env) (h : Heap) (nx : Nat) (a b : Option TypeDesc) (x : AVal) : OpR :=
  match a, b, x with
  | some (.int _), some (.int k), .int _ n => .val (.int k (wrapF k n)) [] nx
  | some .string, some .string, .str s => .val (.str s) [] nx
  | some (.slice e), some .string, x => match E.under? e, sliceLen x with
    | some (.int .u8), some n => match firstOf h 1 n x with
      | some l => match bytesOf l with
        | some s => .val (.str s) [] nx
        | none => .stuck "convert"
      | none => .stuck "convert"
    | _, _ => .stuck "convert"
  | some .string, some (.slice e), .str s => match E.under? e with
    | some (.int .u8) => .val (.slice nx 0 s.length (.gr 1)) [(nx, some (newCells (s.map fun (b : Nat) => .int .u8 (Int.ofNat b))))] (nx + 1)
    | _ => .stuck "convert"
  | _, _, _ => .stuck "convert"
@[go_sem] theorem ev_convV (a b : TypeId) (x : Operand) : op_convert ⟨E, t, h, nx⟩ a b x = convV E h nx (E.under? a) (E.under? b) (evalT E.ng t x) := rfl
@[go_sem] theorem convV_int (j k j' : IntKind) (n : Int) : convV E h nx (some (.int j)) (some (.int k)) (.int j' n) = .val (.int k (k.wrap n)) [] nx := by
  show OpR.val (.int k (wrapF k n)) [] nx = _
  rw [wrapF_eq]
@[go_sem] theorem convV_str (s : List Nat) : convV E h nx (some .string) (some .string) (.str s) = .val (.str s) [] nx := rfl
@[go_sem] theorem opPick_bool {c a b : Operand} : op_pick ⟨E, t, h, nx⟩ c a b = match evalT E.ng t c with
  | .bool true => .val (evalT E.ng t a) [] nx
  | .bool false => .val (evalT E.ng t b) [] nx
  | _ => .stuck "pick" := rfl
@[go_sem] theorem opNot {x : Operand} : op_unOp ⟨E, t, h, nx⟩ .not x = match evalT E.ng t x with
  | .bool b => .val (.bool (!b)) [] nx
  | .int k n => valO (ofSem (Op.unary .not (.int k n))) nx "unOp"
  | _ => .stuck "unOp" := by
  show (match UnOp.not, evalT E.ng t x with
  | .not, .bool b => OpR.val (.bool (!b)) [] nx
  | op, .int k n => valO (ofSem (Op.unary op (.int k n))) nx "unOp"
  | _, _ => .stuck "unOp") = _
  cases evalT E.ng t x <;> rfl
@[go_sem] theorem opNeg {x : Operand} : op_unOp ⟨E, t, h, nx⟩ .neg x = match evalT E.ng t x with
  | .int k n => .val (.int k (k.wrap (0 - n))) [] nx
  | _ => .stuck "unOp" := by
  show (match UnOp.neg, evalT E.ng t x with
  | .not, .bool b => OpR.val (.bool (!b)) [] nx
  | op, .int k n => valO (ofSem (Op.unary op (.int k n))) nx "unOp"
  | _, _ => .stuck "unOp") = _
  cases evalT E.ng t x <;> rfl
@[go_sem] theorem opExtract {x : Nat} {i : Nat} : op_extract ⟨E, t, h, nx⟩ (.tmp x) i = match getT t x with
  | .tup l => valO l[i]? nx "extract"
  | _ => .stuck "extract" := rfl
@[go_sem] theorem ex0 (a : AVal) (l : List AVal) (nx : Nat) (w : String) : valO (a :: l)[0]? nx w = .val a [] nx := rfl
@[go_sem] theorem ex1 (a b : AVal) (l : List AVal) (nx : Nat) (w : String) : valO (a :: b :: l)[1]? nx w = .val b [] nx := rfl
@[go_sem] theorem ex2 (a b c : AVal) (l : List AVal) (nx : Nat) (w : String) : valO (a :: b :: c :: l)[2]? nx w = .val c [] nx := rfl
@[go_sem] theorem ev_nil (x : Operand) : evOp ⟨E, t, h, nx⟩ (.nilCheck x) = op_nilCheck ⟨E, t, h, nx⟩ x := rfl
@[go_sem] theorem opNil_ptr {x : Operand} : op_nilCheck ⟨E, t, h, nx⟩ x = match evalT E.ng t x with
  | .nilptr | .niliface | .nilfunc => .panic (rtErr E "invalid memory address or nil pointer dereference")
  | .ptr id off => .val (.ptr id off) [] nx
  | _ => .stuck "nilCheck" := rfl

/-! ### Places -/
@[go_sem] theorem ev_field (s : TypeId) (x : Operand) (f : Nat) : evOp ⟨E, t, h, nx⟩ (.fieldAddr s x f) = op_fieldAddr ⟨E, t, h, nx⟩ s x f := rfl
theorem opField {s : TypeId} {x : Operand} {f id off o : Nat} (hx : evalT E.ng t x = .ptr id off) (hf : E.fld? s f = some o) : op_fieldAddr ⟨E, t, h, nx⟩ s x f = .val (.ptr id (off + o)) [] nx := by
  unfold Env.fld? at hf
  unfold op_fieldAddr
  dsimp only
  rw [hx]
  cases hu : E.under? s with
  | none => rw [hu] at hf; cases hf
  | some d =>
    rw [hu] at hf
    cases d <;> try cases hf
    rename_i fields
    dsimp only at hf ⊢
    cases hd : fields.toList[f]? with
    | none => rw [hd] at hf; cases hf
    | some fd =>
      rw [hd] at hf
      dsimp only at hf ⊢
      cases hs : E.size? fd.type with
      | none => rw [hs] at hf; cases hf
      | some n =>
        rw [hs] at hf
        cases n with
        | zero => cases hf
        | succ n => cases hf; rfl
@[go_sem] theorem ev_index (ty : TypeId) (x ix : Operand) : evOp ⟨E, t, h, nx⟩ (.indexAddr ty x ix) = op_indexAddr ⟨E, t, h, nx⟩ ty x ix := rfl
theorem opIndex {ty e : TypeId} {x ix : Operand} {id off len sz : Nat} {cap : ACap} {k : IntKind} {n : Int} (hu : E.under? ty = some (.slice e)) (hs : E.size? e = some sz) (hx : evalT E.ng t x = .slice id off len cap) (hi : evalT E.ng t ix = .int k n) (h0 : 0 ≤ n) (hlt : n.toNat < len) :
    op_indexAddr ⟨E, t, h, nx⟩ ty x ix = .val (.ptr id (off + n.toNat * sz)) [] nx := by
  obtain ⟨m, rfl⟩ := Int.eq_ofNat_of_zero_le h0
  unfold op_indexAddr
  dsimp only
  rw [hu, hx, hi]
  show (match Nat.blt m len, E.size? e with | true, some sz => OpR.val (.ptr id (off + m * sz)) [] nx | _, _ => .stuck "indexAddr") = _
  rw [hs, blt_t (by simpa using hlt)]; rfl
/-! ### Reading and writing -/
theorem loadAt_cell {ty : TypeId} {id off n : Nat} {ro : Bool} {cs : BT AVal} {v : AVal} {d : TypeDesc} (hu : E.under? ty = some d) (hd : aggD d = false) (hh : h.get id = some (.cells ro n cs)) (ho : off < n) (hc : cs.get off = some v) : loadAt E h ty id off = some v := by
  unfold loadAt
  rw [hh]
  dsimp only
  unfold Env.under? at hu
  cases ht : E.tys.get ty with
  | none => rw [ht] at hu; cases hu
  | some ti =>
    rw [ht] at hu
    cases hu
    dsimp only
    rw [hd]
    dsimp only
    rw [blt_t ho]
    exact hc
theorem loadAt_agg {ty : TypeId} {id off n sz : Nat} {ro : Bool} {cs : BT AVal} {l : List AVal} {d : TypeDesc} (hu : E.under? ty = some d) (hd : aggD d = true) (hs : E.size? ty = some sz) (hh : h.get id = some (.cells ro n cs)) (ho : off + sz ≤ n) (hc : rdCells cs off sz = some l) : loadAt E h ty id off = some (.agg l) := by
  unfold loadAt
  rw [hh]
  dsimp only
  unfold Env.under? at hu
  unfold Env.size? at hs
  cases ht : E.tys.get ty with
  | none => rw [ht] at hu; cases hu
  | some ti =>
    rw [ht] at hu hs
    cases hu
    cases hs
    dsimp only
    rw [hd]
    dsimp only
    rw [Nat.ble_eq_true_of_le ho]
    dsimp only
    rw [hc]
theorem rdCells_of {cs : BT AVal} : ∀ {l : List AVal} {off : Nat}, (∀ i (hi : i < l.length), cs.get (off + i) = some l[i]) → rdCells cs off l.length = some l
  | [], off, _ => rfl
  | v :: l, off, hc => by
    have h1 : cs.get off = some v := hc 0 (by simp)
    have h2 : rdCells cs (off + 1) l.length = some l := rdCells_of fun i hi => by
      have := hc (i + 1) (by simp; omega)
      rw [show off + 1 + i = off + (i + 1) by omega]; simpa using this
    show (Option.rec (motive := fun _ => Option (List AVal)) none
      (fun v => Option.rec (motive := fun _ => Option (List AVal)) none (fun l => some (v :: l)) (rdCells cs (off + 1) l.length)) (cs.get off) : Option (List AVal)) = _
    rw [h1, h2]
theorem ev_load {ty : TypeId} {a : Operand} {id off : Nat} {v : AVal} (ha : evalT E.ng t a = .ptr id off) (hl : loadAt E h ty id off = some v) : evOp ⟨E, t, h, nx⟩ (.load ty a) = .val v [] nx := by
  show op_load ⟨E, t, h, nx⟩ ty a = _
  unfold op_load
  dsimp only
  rw [ha]
  dsimp only
  rw [hl]; rfl
theorem ev_store {ty : TypeId} {a x : Operand} {id off : Nat} {ob : AObj} (ha : evalT E.ng t a = .ptr id off) (hl : storeAt E h ty id off (evalT E.ng t x) = some ob) : evOp ⟨E, t, h, nx⟩ (.store ty a x) = .val undef' [(id, some ob)] nx := by
  show op_store ⟨E, t, h, nx⟩ ty a x = _
  unfold op_store
  dsimp only
  rw [ha]
  dsimp only
  rw [hl]
theorem ev_box {ty : TypeId} {x : Operand} {v : AVal} (hx : evalT E.ng t x = v) (hv : isBot v = false) : evOp ⟨E, t, h, nx⟩ (.box ty x) = .val (.ptr nx 0) [(nx, some (newCells v.cells))] (nx + 1) := by
  show op_box ⟨E, t, h, nx⟩ x = _
  unfold op_box
  dsimp only
  rw [hx, hv]
theorem ev_alloc {ty : TypeId} {z : AVal} (hz : E.zero? ty = some z) : evOp ⟨E, t, h, nx⟩ (.alloc ty) = .val (.ptr nx 0) [(nx, some (newCells z.cells))] (nx + 1) := by
  show op_alloc ⟨E, t, h, nx⟩ ty = _
  unfold op_alloc
  dsimp only
  rw [hz]
/-! ### len, append -/
theorem ev_len {c : Call} {ty e : TypeId} {x : Operand} {n : Nat} (hc : c.callee = .builtin .len) (ht : c.argTypes = #[ty]) (ha : c.args = #[x]) (hu : E.under? ty = some (.slice e)) {v : AVal} (hx : evalT E.ng t x = v) (hl : sliceLen v = some n) : evOp ⟨E, t, h, nx⟩ (.call c) = .val (.int .i64 (n : Int)) [] nx := by
  show op_call ⟨E, t, h, nx⟩ c = _
  unfold op_call
  rw [hc]
  dsimp only
  rw [ht, ha]
  show lenB E ty (evalT E.ng t x) h nx = _
  unfold lenB
  rw [hu, hx]
  dsimp only
  cases v <;> first | (cases hl; rfl) | cases hl
theorem ev_lenS {c : Call} {ty : TypeId} {x : Operand} {s : List Nat} (hc : c.callee = .builtin .len) (ht : c.argTypes = #[ty]) (ha : c.args = #[x]) (hu : E.under? ty = some .string) (hx : evalT E.ng t x = .str s) : evOp ⟨E, t, h, nx⟩ (.call c) = .val (.int .i64 (s.length : Int)) [] nx := by
  show op_call ⟨E, t, h, nx⟩ c = _
  unfold op_call
  rw [hc]
  dsimp only
  rw [ht, ha]
  show lenB E ty (evalT E.ng t x) h nx = _
  unfold lenB
  rw [hu, hx]
  rfl
end
end Go.Ev
end
section
/- Slices that a function makes: built, and appended to. -/
set_option linter.unusedVariables false
set_option linter.unusedSimpArgs false
namespace Go.Ev
open Go.RowKit

def At (cs : BT AVal) (off : Nat) (l : List AVal) : Prop := ∀ i (hi : i < l.length), cs.get (off + i) = some l[i]
/-- What lay there before reads as it did. -/
def Keep (lo : Nat) (h h' : Heap) : Prop := ∀ i, i < lo → h'.get i = h.get i
theorem Keep.refl (lo : Nat) (h : Heap) : Keep lo h h := fun _ _ => rfl
theorem Keep.trans {lo : Nat} {a b c : Heap} (x : Keep lo a b) (y : Keep lo b c) : Keep lo a c := fun i hi => (y i hi).trans (x i hi)
theorem Keep.mono {lo lo' : Nat} {a b : Heap} (hl : lo' ≤ lo) (x : Keep lo a b) : Keep lo' a b := fun i hi => x i (Nat.lt_of_lt_of_le hi hl)
theorem Keep.put {lo id : Nat} {h : Heap} {o : Option AObj} (hi : lo ≤ id) : Keep lo h (h.put id o) := fun i h' => by rw [BT.get_put, if_neg (by omega)]
/-- A slice that append alone has made: nobody else reaches it. -/
inductive Own (sz : Nat) (h : Heap) (lo hi : Nat) : AVal → List AVal → Prop
  | nil : Own sz h lo hi .nilslice []
  | mk (id len : Nat) (cs : BT AVal) (l : List AVal) (h1 : lo ≤ id) (h2 : id < hi) (hl : l.length = len * sz) (hg : h.get id = some (.cells false l.length cs)) (ha : At cs 0 l) : Own sz h lo hi (.slice id 0 len (.gr sz)) l
theorem Own.notBot {sz lo hi : Nat} {h : Heap} {v : AVal} {l : List AVal} (o : Own sz h lo hi v l) : isBot v = false := by cases o <;> rfl
theorem Own.keep {sz lo hi hi' : Nat} {h h' : Heap} {v : AVal} {l : List AVal} (o : Own sz h lo hi v l) (hk : ∀ i, lo ≤ i → i < hi → h'.get i = h.get i) (hh : hi ≤ hi') : Own sz h' lo hi' v l := by
  cases o with
  | nil => exact .nil
  | mk id len cs l h1 h2 hl hg ha => exact .mk id len cs l h1 (Nat.lt_of_lt_of_le h2 hh) hl ((hk id h1 h2).trans hg) ha
theorem Own.low {sz lo lo' hi : Nat} {h : Heap} {v : AVal} {l : List AVal} (o : Own sz h lo hi v l) (hh : lo' ≤ lo) : Own sz h lo' hi v l := by
  cases o with
  | nil => exact .nil
  | mk id len cs l h1 h2 hl hg ha => exact .mk id len cs l (Nat.le_trans hh h1) h2 hl hg ha
theorem Own.len {sz lo hi : Nat} {h : Heap} {v : AVal} {l : List AVal} (o : Own sz h lo hi v l) (hs : 0 < sz) : sliceLen v = some (l.length / sz) := by
  cases o with
  | nil => simp [sliceLen]
  | mk id len cs l h1 h2 hl hg ha => simp [sliceLen, hl, Nat.mul_div_cancel _ hs]

theorem At.setL {cs : BT AVal} {l l' : List AVal} (ha : At cs 0 l) : At (cs.setL l.length l') 0 (l ++ l') := by
  intro i hi
  rw [BT.get_setL]
  rw [List.length_append] at hi
  by_cases h : i < l.length
  · rw [if_neg (by omega), List.getElem_append_left h]; exact ha i h
  · rw [if_pos (by omega), List.getElem_append_right (by omega), Nat.zero_add, List.getElem?_eq_getElem (by omega)]
theorem At.ofList (l : List AVal) : At (BT.ofList l) 0 l := by
  intro i hi
  rw [BT.get_ofList, Nat.zero_add, List.getElem?_eq_getElem hi]

section
variable {E : Env} {t : BT AVal} {h : Heap} {nx : Nat}
theorem appendV_of {e k b n : Nat} {z : AVal} {l : List AVal} {s : AVal} (hs : E.size? e = some (k + 1)) (hz : E.zero? e = some z) (hb : E.bytes? e = some b) : appendV E e n l s h nx = if n = 0 then append0 s nx else appendN (k + 1) b n l s h nx := by
  unfold appendV
  unfold Env.size? at hs
  unfold Env.zero? at hz
  unfold Env.bytes? at hb
  cases ht : E.tys.get e with
  | none => rw [ht] at hs; cases hs
  | some ti =>
    rw [ht] at hs hz hb
    dsimp only at hs hz hb ⊢
    cases hv : ti.info.zero with
    | none => rw [hv] at hz; cases hz
    | some v =>
      rw [Option.some.inj hs, Option.some.inj hb]
      by_cases hn : n = 0
      · rw [if_pos hn, beq_t hn]
      · rw [if_neg hn, beq_f hn]
/-- Appending to what append has made. -/
theorem appendN_own {k b n lo : Nat} {l l' : List AVal} {s : AVal} (o : Own (k + 1) h lo nx s l) (hn : n ≠ 0) (hl' : l'.length = n * (k + 1)) (hlo : lo ≤ nx) (hok : okA b (l.length / (k + 1) + n) l' = true) :
    ∃ v eff nx', appendN (k + 1) b n l' s h nx = .val v eff nx' ∧ nx' = nx + 1 ∧ Own (k + 1) (applyEff h eff) lo nx' v (l ++ l') ∧ Keep lo h (applyEff h eff) := by
  cases o with
  | nil =>
    refine ⟨.slice nx 0 n (.gr (k + 1)), [(nx, some (newCells l'))], nx + 1, ?_, rfl, ?_, ?_⟩
    · unfold appendN
      dsimp only
      rw [show okA b n l' = true from by simpa using hok]
    · rw [sx_one]
      exact .mk nx n _ l' hlo (Nat.lt_succ_self _) hl' (by rw [BT.get_put, if_pos rfl]; rfl) (At.ofList l')
    · rw [sx_one]; exact Keep.put hlo
  | mk id len cs l h1 h2 hl hg ha =>
    have hdiv : l.length / (k + 1) = len := by rw [hl]; exact Nat.mul_div_cancel _ (Nat.succ_pos k)
    rw [hdiv] at hok
    refine ⟨.slice nx 0 (len + n) (.gr (k + 1)), [(id, none), (nx, some (.cells false (l.length + l'.length) (cs.setL l.length l')))], nx + 1, ?_, rfl, ?_, ?_⟩
    · have hpos : 0 < n * (k + 1) := Nat.mul_pos (Nat.pos_of_ne_zero hn) (Nat.succ_pos k)
      unfold appendN
      dsimp only
      rw [hok, hg]
      dsimp only
      unfold appendS
      dsimp only
      rw [beq_t rfl]
      dsimp only
      rw [show Nat.ble (0 + (len + n) * (k + 1)) l.length = false from by
        rw [Bool.eq_false_iff]; intro hh
        have := Nat.le_of_ble_eq_true hh
        rw [hl, Nat.zero_add, Nat.add_mul] at this
        omega]
      dsimp only
      rw [show Nat.beq (0 + len * (k + 1)) l.length = true from beq_t (by rw [Nat.zero_add, hl])]
    · rw [sx_two]
      refine .mk nx (len + n) (cs.setL l.length l') (l ++ l') hlo (Nat.lt_succ_self _) (by rw [List.length_append, hl, hl', Nat.add_mul]) ?_ (At.setL ha)
      rw [BT.get_put, if_pos rfl, List.length_append]
    · rw [sx_two]; exact (Keep.put h1).trans (Keep.put hlo)
theorem append_own {k b n lo e : Nat} {z : AVal} {l l' : List AVal} {s : AVal} (hs : E.size? e = some (k + 1)) (hz : E.zero? e = some z) (hb : E.bytes? e = some b) (o : Own (k + 1) h lo nx s l) (hl' : l'.length = n * (k + 1)) (hlo : lo ≤ nx)
    (hok : n ≠ 0 → okA b (l.length / (k + 1) + n) l' = true) :
    ∃ v eff nx', appendV E e n l' s h nx = .val v eff nx' ∧ nx ≤ nx' ∧ Own (k + 1) (applyEff h eff) lo nx' v (l ++ l') ∧ Keep lo h (applyEff h eff) := by
  rw [appendV_of hs hz hb]
  by_cases hn : n = 0
  · subst hn
    rw [Nat.zero_mul] at hl'
    have hnil : l' = [] := List.eq_nil_of_length_eq_zero hl'
    subst hnil
    rw [if_pos rfl, List.append_nil]
    refine ⟨s, [], nx, ?_, Nat.le_refl _, o, Keep.refl _ _⟩
    cases o <;> rfl
  · rw [if_neg hn]
    obtain ⟨v, eff, nx', h1, h2, h3, h4⟩ := appendN_own o hn hl' hlo (hok hn)
    exact ⟨v, eff, nx', h1, by omega, h3, h4⟩
/-- A slice's capacity has room for it. -/
def capOK (sz len : Nat) : ACap → Prop
  | .ex c => len ≤ c
  | .gr sz' => sz' = sz
/-- What is read of a slice. -/
inductive Sl (sz : Nat) (h : Heap) : AVal → List AVal → Prop
  | nil : Sl sz h .nilslice []
  | em : Sl sz h .eslice []
  | mk (id off len : Nat) (cap : ACap) (ro : Bool) (n : Nat) (cs : BT AVal) (l : List AVal) (hl : l.length = len * sz) (hk : capOK sz len cap) (hg : h.get id = some (.cells ro n cs)) (ho : off + len * sz ≤ n) (ha : At cs off l) : Sl sz h (.slice id off len cap) l
theorem Own.sl {sz lo hi : Nat} {v : AVal} {l : List AVal} (o : Own sz h lo hi v l) : Sl sz h v l := by
  cases o with
  | nil => exact .nil
  | mk id len cs l h1 h2 hl hg ha => exact .mk id 0 len _ false _ cs l hl rfl hg (by rw [Nat.zero_add, ← hl]; exact Nat.le_refl _) ha
theorem Sl.first {sz : Nat} {v : AVal} {l : List AVal} (s : Sl sz h v l) (hs : 0 < sz) : lenOf v = some (l.length / sz) ∧ sliceLen v = some (l.length / sz) ∧ firstOf h sz (l.length / sz) v = some l := by
  cases s with
  | nil => simp [lenOf, sliceLen, firstOf]
  | em => simp [lenOf, sliceLen, firstOf]
  | mk id off len cap ro n cs l hl hk hg ho ha =>
    have hd : l.length / sz = len := by rw [hl]; exact Nat.mul_div_cancel _ hs
    rw [hd]
    refine ⟨rfl, rfl, ?_⟩
    unfold firstOf
    dsimp only
    rw [hg]
    dsimp only
    rw [Nat.ble_eq_true_of_le ho]
    dsimp only
    rw [← hl]
    exact rdCells_of ha
theorem ev_append {c : Call} {ty u e k b lo : Nat} {d : TypeDesc} {x y : Operand} {z s sv : AVal} {l l' : List AVal} (hc : c.callee = .builtin .append) (ht : c.argTypes = #[ty, u]) (hargs : c.args = #[x, y])
    (hu : E.under? ty = some (.slice e)) (hu' : E.under? u = some d) (hd : srcT d = true) (hs : E.size? e = some (k + 1)) (hz : E.zero? e = some z) (hb : E.bytes? e = some b)
    (hx : evalT E.ng t x = s) (hy : evalT E.ng t y = sv) (o : Own (k + 1) h lo nx s l) (hlo : lo ≤ nx) (hl' : l'.length = l'.length / (k + 1) * (k + 1))
    (h1 : lenOf sv = some (l'.length / (k + 1))) (h2 : firstOf h (k + 1) (l'.length / (k + 1)) sv = some l') (hok : l'.length / (k + 1) ≠ 0 → okA b (l.length / (k + 1) + l'.length / (k + 1)) l' = true) :
    ∃ v eff nx', evOp ⟨E, t, h, nx⟩ (.call c) = .val v eff nx' ∧ nx ≤ nx' ∧ Own (k + 1) (applyEff h eff) lo nx' v (l ++ l') ∧ Keep lo h (applyEff h eff) := by
  have : evOp ⟨E, t, h, nx⟩ (.call c) = appendV E e (l'.length / (k + 1)) l' s h nx := by
    show op_call ⟨E, t, h, nx⟩ c = _
    unfold op_call
    rw [hc]
    dsimp only
    rw [ht, hargs]
    show appendB E ty u (evalT E.ng t x) (evalT E.ng t y) h nx = _
    unfold appendB
    rw [hu, hu', hx, hy]
    cases d with
    | slice e' => dsimp only; rw [show srcT (.slice e') = true from rfl, hs, h1]; dsimp only; rw [h2]
    | string => dsimp only; rw [show srcT .string = true from rfl, hs, h1]; dsimp only; rw [h2]
    | _ => cases hd
  rw [this]
  exact append_own hs hz hb o hl' hlo hok
end
end Go.Ev
end
section
/- Slices that are written out. -/
set_option linter.unusedVariables false
set_option linter.unusedSimpArgs false
namespace Go.Ev
open Go.RowKit

def idx : Nat → List AVal → List (Nat × AVal)
  | _, [] => []
  | j, v :: l => (j, v) :: idx (j + 1) l
theorem cells_one {v : AVal} (hv : cellOK v = true) : v.cells = [v] ∧ isBot v = false := by
  cases v <;> first | exact ⟨rfl, rfl⟩ | cases hv
theorem fill_idx {n : Nat} : ∀ (vs : List AVal) (j : Nat) (cs : BT AVal), j + vs.length ≤ n → (∀ v ∈ vs, cellOK v = true) →
    ∃ c, fill (fun i => some (i * 1, 1)) n cs (idx j vs) = some c ∧ (∀ i (hi : i < vs.length), c.get (j + i) = some vs[i]) ∧ ∀ i, i < j → c.get i = cs.get i
  | [], j, cs, hj, hv => ⟨cs, rfl, fun i hi => absurd hi (Nat.not_lt_zero i), fun _ _ => rfl⟩
  | v :: vs, j, cs, hj, hv => by
    obtain ⟨h1, h2⟩ := cells_one (hv v List.mem_cons_self)
    simp only [List.length_cons] at hj
    obtain ⟨c, g1, g2, g3⟩ := fill_idx (n := n) vs (j + 1) (cs.setL (j * 1) v.cells) (by omega) (fun w hw => hv w (List.mem_cons_of_mem _ hw))
    refine ⟨c, ?_, fun i hi => ?_, fun i hi => ?_⟩
    · show fill (fun i => some (i * 1, 1)) n cs ((j, v) :: idx (j + 1) vs) = _
      unfold fill
      dsimp only
      rw [h1, h2]
      rw [show (Nat.beq [v].length 1 && Nat.ble (j * 1 + [v].length) n && !false) = true from by
        rw [show Nat.beq [v].length 1 = true from rfl, Nat.ble_eq_true_of_le (by simp only [List.length_cons, List.length_nil]; omega)]; rfl]
      dsimp only
      rw [← h1]; exact g1
    · cases i with
      | zero =>
        rw [Nat.add_zero, g3 j (by omega), h1, BT.get_setL, if_pos (by simp only [List.length_cons, List.length_nil]; omega), Nat.mul_one, Nat.sub_self]; rfl
      | succ i =>
        have := g2 i (by simp only [List.length_cons] at hi; omega)
        rw [show j + (i + 1) = j + 1 + i by omega]; simpa using this
    · rw [g3 i (by omega), BT.get_setL, if_neg (by omega)]
theorem ev_buildSlice {E : Env} {t : BT AVal} {h : Heap} {nx : Nat} {ty e n : Nat} {parts : Array (Nat × Operand)} {z : AVal} {vs : List AVal} (hu : E.under? ty = some (.slice e)) (hs : E.size? e = some 1) (hz : E.zero? e = some z) (hzc : z.cells.length = 1)
    (hp : (parts.toList.map fun p => (p.1, evalT E.ng t p.2)) = idx 0 vs) (hn : vs.length = n) (h0 : n ≠ 0) (hb : n ≤ 1000000) (hv : ∀ v ∈ vs, cellOK v = true) :
    ∃ cs, evOp ⟨E, t, h, nx⟩ (.buildSlice ty n parts) = .val (.slice nx 0 n (.ex n)) [(nx, some (.cells false n cs))] (nx + 1) ∧ At cs 0 vs := by
  obtain ⟨c, g1, g2, _⟩ := fill_idx (n := n) vs 0 (BT.ofList (rep n z.cells)) (by omega) hv
  refine ⟨c, ?_, fun i hi => g2 i hi⟩
  show op_buildSlice ⟨E, t, h, nx⟩ ty n parts = _
  unfold op_buildSlice
  dsimp only
  rw [hu]
  dsimp only
  rw [hs, hz, hp]
  dsimp only
  rw [show (Nat.ble (n * 1) 16777216 && Nat.beq z.cells.length 1 && !(Nat.beq (n * 1) 0)) = true from by
    rw [Nat.ble_eq_true_of_le (by omega), beq_t hzc, beq_f (by omega)]; rfl]
  dsimp only
  rw [Nat.mul_one, g1]
theorem Sl.built {h : Heap} {nx n : Nat} {cs : BT AVal} {vs : List AVal} (hn : vs.length = n) (ha : At cs 0 vs) : Sl 1 (h.put nx (some (.cells false n cs))) (.slice nx 0 n (.ex n)) vs :=
  .mk nx 0 n (.ex n) false n cs vs (by omega) (Nat.le_refl n) (by rw [BT.get_put, if_pos rfl]) (by omega) ha
theorem Sl.keep {sz : Nat} {h h' : Heap} {lo : Nat} {v : AVal} {l : List AVal} (s : Sl sz h v l) (hv : ∀ id off len cap, v = .slice id off len cap → id < lo) (hk : Keep lo h h') : Sl sz h' v l := by
  cases s with
  | nil => exact .nil
  | em => exact .em
  | mk id off len cap ro n cs l hl hc hg ho ha => exact .mk id off len cap ro n cs l hl hc ((hk id (hv _ _ _ _ rfl)).trans hg) ho ha
theorem wpO_build {E : Env} {k : FK} {ops rest : List Oper} {o : Oper} {t : BT AVal} {h : Heap} {nx : Nat} {Q : BT AVal → D → Prop} {ty e n : Nat} {parts : Array (Nat × Operand)} {z : AVal} {vs : List AVal} (hw : wanted o.guard t ops = .yes) (hop : o.op = .buildSlice ty n parts)
    (hu : E.under? ty = some (.slice e)) (hs : E.size? e = some 1) (hz : E.zero? e = some z) (hzc : z.cells.length = 1)
    (hp : (parts.toList.map fun p => (p.1, evalT E.ng t p.2)) = idx 0 vs) (hn : vs.length = n) (h0 : n ≠ 0) (hb : n ≤ 1000000) (hv : ∀ v ∈ vs, cellOK v = true)
    (hq : ∀ cs, At cs 0 vs → wpO E k ops rest (putT k.size t o.dst (.slice nx 0 n (.ex n))) ⟨h.put nx (some (.cells false n cs)), nx + 1⟩ Q) : wpO E k ops (o :: rest) t ⟨h, nx⟩ Q := by
  obtain ⟨cs, h1, h2⟩ := ev_buildSlice (t := t) (h := h) (nx := nx) hu hs hz hzc hp hn h0 hb hv
  exact wpO_val hw (by rw [hop]; exact h1) (hq cs h2)
theorem wpO_append {E : Env} {k : FK} {ops rest : List Oper} {op : Oper} {t : BT AVal} {h : Heap} {nx : Nat} {Q : BT AVal → D → Prop} {c : Call} {ty u e j b lo : Nat} {d : TypeDesc} {x y : Operand} {z s sv : AVal} {l l' : List AVal} (hw : wanted op.guard t ops = .yes) (hop : op.op = .call c)
    (hc : c.callee = .builtin .append) (ht : c.argTypes = #[ty, u]) (hargs : c.args = #[x, y])
    (hu : E.under? ty = some (.slice e)) (hu' : E.under? u = some d) (hd : srcT d = true) (hs : E.size? e = some (j + 1)) (hz : E.zero? e = some z) (hb : E.bytes? e = some b)
    (hx : evalT E.ng t x = s) (hy : evalT E.ng t y = sv) (o : Own (j + 1) h lo nx s l) (hlo : lo ≤ nx) (hl' : l'.length = l'.length / (j + 1) * (j + 1))
    (h1 : lenOf sv = some (l'.length / (j + 1))) (h2 : firstOf h (j + 1) (l'.length / (j + 1)) sv = some l') (hok : l'.length / (j + 1) ≠ 0 → okA b (l.length / (j + 1) + l'.length / (j + 1)) l' = true)
    (hq : ∀ v h' nx', nx ≤ nx' → Own (j + 1) h' lo nx' v (l ++ l') → Keep lo h h' → wpO E k ops rest (putT k.size t op.dst v) ⟨h', nx'⟩ Q) : wpO E k ops (op :: rest) t ⟨h, nx⟩ Q := by
  obtain ⟨v, eff, nx', g1, g2, g3, g4⟩ := ev_append (t := t) (h := h) (nx := nx) hc ht hargs hu hu' hd hs hz hb hx hy o hlo hl' h1 h2 hok
  exact wpO_val hw (by rw [hop]; exact g1) (hq v _ nx' g2 g3 g4)
/-- 'okA', where nothing is great. -/
theorem okA_of {b need : Nat} {l : List AVal} (hl : ∀ v ∈ l, cellOK v = true) (hb : b ≤ 1024) (hn : need ≤ 68719476736) : okA b need l = true := by
  have h1 : allOK l = true := by
    clear hn
    induction l with
    | nil => rfl
    | cons v l ih =>
      show (Bool.rec (motive := fun _ => Bool) false (allOK l) (cellOK v) : Bool) = true
      rw [hl v List.mem_cons_self]
      exact ih (fun w hw => hl w (List.mem_cons_of_mem _ hw))
  unfold okA
  have h2 : (2 * need + 512) * b ≤ 281474976710656 :=
    calc (2 * need + 512) * b ≤ (2 * need + 512) * 1024 := Nat.mul_le_mul_left _ hb
      _ ≤ 281474976710656 := by omega
  have h3 : need ≤ 281474976710656 := by omega
  rw [h1, Nat.ble_eq_true_of_le h2, Nat.ble_eq_true_of_le h3]; rfl
end Go.Ev
end
section
/- Slices that are read. -/
set_option linter.unusedVariables false
set_option linter.unusedSimpArgs false
namespace Go.Ev
open Go.RowKit

/-- A slice that is read, of cells that lay there before. -/
def SlB (sz : Nat) (h : Heap) (lo : Nat) (v : AVal) (l : List AVal) : Prop := Sl sz h v l ∧ ∀ id off len cap, v = .slice id off len cap → id < lo
theorem SlB.keep {sz lo : Nat} {h h' : Heap} {v : AVal} {l : List AVal} (s : SlB sz h lo v l) (hk : Keep lo h h') : SlB sz h' lo v l := ⟨s.1.keep s.2 hk, s.2⟩
theorem SlB.len {lo : Nat} {h : Heap} {v : AVal} {l : List AVal} (s : SlB 1 h lo v l) : sliceLen v = some l.length := by
  have := (s.1.first (by decide)).2.1
  rwa [Nat.div_one] at this
theorem SlB.at {E : Env} {t : BT AVal} {h : Heap} {nx lo : Nat} {v : AVal} {l : List AVal} (s : SlB 1 h lo v l) {ty e i : Nat} {d : TypeDesc} {x ix : Operand} {k : IntKind} (hu : E.under? ty = some (.slice e)) (hs : E.size? e = some 1) (hd : E.under? e = some d) (ha : aggD d = false) (hx : evalT E.ng t x = v) (hi : evalT E.ng t ix = .int k (i : Int)) (hlt : i < l.length) :
    ∃ id off, evOp ⟨E, t, h, nx⟩ (.indexAddr ty x ix) = .val (.ptr id off) [] nx ∧ loadAt E h e id off = some l[i] := by
  obtain ⟨s, _⟩ := s
  cases s with
  | nil => simp at hlt
  | em => simp at hlt
  | mk id off len cap ro n cs l hl hcap hg ho hc =>
    refine ⟨id, off + (i : Int).toNat * 1, opIndex hu hs hx hi (by omega) (by simp; omega), ?_⟩
    rw [Int.toNat_natCast, Nat.mul_one]
    exact loadAt_cell hd ha hg (by omega) (hc i hlt)
theorem wpO_index {E : Env} {k : FK} {ops rest : List Oper} {o : Oper} {t : BT AVal} {h : Heap} {nx lo : Nat} {Q : BT AVal → D → Prop} {v : AVal} {l : List AVal} {ty e i : Nat} {d : TypeDesc} {x ix : Operand} {j : IntKind} (hw : wanted o.guard t ops = .yes) (hop : o.op = .indexAddr ty x ix)
    (s : SlB 1 h lo v l) (hu : E.under? ty = some (.slice e)) (hs : E.size? e = some 1) (hd : E.under? e = some d) (ha : aggD d = false) (hx : evalT E.ng t x = v) (hi : evalT E.ng t ix = .int j (i : Int)) (hlt : i < l.length)
    (hq : ∀ id off, loadAt E h e id off = some l[i] → wpO E k ops rest (putT k.size t o.dst (.ptr id off)) ⟨h, nx⟩ Q) : wpO E k ops (o :: rest) t ⟨h, nx⟩ Q := by
  obtain ⟨id, off, h1, h2⟩ := s.at (nx := nx) hu hs hd ha hx hi hlt
  exact wpO_pure hw (by rw [hop]; exact h1) (hq id off h2)
end Go.Ev
end
section
/- Cutting slices that are read. -/
set_option linter.unusedVariables false
set_option linter.unusedSimpArgs false
namespace Go.Ev
open Go.RowKit
theorem At.cut {cs : BT AVal} {off : Nat} {l : List AVal} (ha : At cs off l) {a b : Nat} (hb : b ≤ l.length) : At cs (off + a) ((l.take b).drop a) := by
  intro i hi
  rw [List.length_drop, List.length_take, Nat.min_eq_left hb] at hi
  rw [List.getElem_drop, List.getElem_take, Nat.add_assoc]
  exact ha (a + i) (by omega)
theorem bndO_some {k : IntKind} {i y d : Nat} (h : i ≤ y) : bndO (some (.int k (i : Int))) y d = some i := by
  show (match Nat.ble i y with | true => some i | false => none) = _
  rw [Nat.ble_eq_true_of_le h]
theorem sl_cut {E : Env} {h : Heap} {lo ty e : Nat} {v : AVal} {l : List AVal} {j k : IntKind} {a b : Nat} (s : SlB 1 h lo v l) (hu : E.under? ty = some (.slice e)) (hs : E.size? e = some 1) (hab : a ≤ b) (hb : b ≤ l.length) :
    ∃ v', sliceV E ty v (some (.int j (a : Int))) (some (.int k (b : Int))) none h = some v' ∧ SlB 1 h lo v' ((l.take b).drop a) := by
  obtain ⟨s, hlo⟩ := s
  cases s with
  | nil =>
    have h1 : a = 0 := by simp at hb; omega
    have h2 : b = 0 := by simp at hb; omega
    subst h1; subst h2
    refine ⟨.nilslice, ?_, .nil, fun id off len cap h => by cases h⟩
    unfold sliceV
    rw [hu]
    dsimp only
    rw [hs]
    rfl
  | em =>
    have h1 : a = 0 := by simp at hb; omega
    have h2 : b = 0 := by simp at hb; omega
    subst h1; subst h2
    refine ⟨.eslice, ?_, .em, fun id off len cap h => by cases h⟩
    unfold sliceV
    rw [hu]
    dsimp only
    rw [hs]
    rfl
  | mk id off len cap ro n cs l hl hcap hg ho hc =>
    have hid := hlo id off len cap rfl
    rw [Nat.mul_one] at hl ho
    have hll : ((l.take b).drop a).length = b - a := by rw [List.length_drop, List.length_take, Nat.min_eq_left hb]
    have hS : sliceV E ty (.slice id off len cap) (some (.int j (a : Int))) (some (.int k (b : Int))) none h = sliceS 1 id off len cap (some (.int j (a : Int))) (some (.int k (b : Int))) none (h.get id) := by
      unfold sliceV
      rw [hu]
      dsimp only
      rw [hs]
    rw [hS, hg]
    cases cap with
    | ex c =>
      have hcap' : len ≤ c := hcap
      refine ⟨.slice id (cond (Nat.beq c a) off (off + a * 1)) (b - a) (.ex (c - a)), ?_, ?_, fun id' off' len' cap' h => by cases h; exact hid⟩
      · show sliceE 1 id off len c (some (.int j (a : Int))) (some (.int k (b : Int))) none = _
        unfold sliceE
        rw [show bndO none c c = some c from rfl]
        dsimp only
        rw [bndO_some (show b ≤ c by omega)]
        dsimp only
        rw [bndO_some hab]
      · by_cases hca : c = a
        · have hba : b - a = 0 := by omega
          rw [beq_t hca]
          refine .mk id off (b - a) (.ex (c - a)) ro n cs _ (by omega) (by show b - a ≤ c - a; omega) hg (by omega) ?_
          intro i hi; omega
        · rw [beq_f hca]
          refine .mk id (off + a * 1) (b - a) (.ex (c - a)) ro n cs _ (by omega) (by show b - a ≤ c - a; omega) hg (by omega) ?_
          rw [Nat.mul_one]; exact hc.cut hb
    | gr sz' =>
      have hsz : sz' = 1 := hcap
      subst hsz
      have e : sliceS 1 id off len (.gr 1) (some (.int j (a : Int))) (some (.int k (b : Int))) none (some (.cells ro n cs)) = sliceG 1 id off len n (some (.int j (a : Int))) (some (.int k (b : Int))) := rfl
      rw [e]
      unfold sliceG
      rw [Nat.div_one, bndO_some (show b ≤ n - off by omega)]
      dsimp only
      rw [bndO_some hab]
      dsimp only
      by_cases ha0 : a = 0
      · subst ha0
        refine ⟨.slice id off b (.gr 1), rfl, .mk id off b (.gr 1) ro n cs _ (by omega) rfl hg (by omega) ?_, fun id' off' len' cap' h => by cases h; exact hid⟩
        have := hc.cut (a := 0) hb
        rwa [Nat.add_zero] at this
      · rw [beq_f ha0]
        by_cases han : a < n - off
        · rw [blt_t han]
          refine ⟨.slice id (off + a * 1) (b - a) (.gr 1), rfl, .mk id (off + a * 1) (b - a) (.gr 1) ro n cs _ (by omega) rfl hg (by omega) ?_, fun id' off' len' cap' h => by cases h; exact hid⟩
          rw [Nat.mul_one]; exact hc.cut hb
        · have hba : b = a := by omega
          rw [blt_f han, beq_t hba]
          refine ⟨.eslice, rfl, ?_, fun id' off' len' cap' h => by cases h⟩
          have : (l.take b).drop a = [] := List.eq_nil_of_length_eq_zero (by omega)
          rw [this]; exact .em
end Go.Ev
end
section
/- Structs in boxes; regions that draw their order. -/
set_option linter.unusedVariables false
set_option linter.unusedSimpArgs false
set_option linter.unusedSectionVars false
namespace Go.Ev
open Go.RowKit

/-! ### Boxes -/
def Bx (h : Heap) (P : Nat) (l : List AVal) : Prop := ∃ cs, h.get P = some (.cells false l.length cs) ∧ At cs 0 l
/-- What lay at such places reads as it did. -/
def KeepP (P : Nat → Prop) (h h' : Heap) : Prop := ∀ i, P i → h'.get i = h.get i
/-- All but one object is as it was. -/
def Same1 (P : Nat) (h h' : Heap) : Prop := ∀ i, i ≠ P → h'.get i = h.get i
theorem KeepP.refl {P : Nat → Prop} {h : Heap} : KeepP P h h := fun _ _ => rfl
theorem KeepP.trans {P : Nat → Prop} {a b c : Heap} (x : KeepP P a b) (y : KeepP P b c) : KeepP P a c := fun i hi => (y i hi).trans (x i hi)
theorem KeepP.mono {P P' : Nat → Prop} {a b : Heap} (x : KeepP P a b) (hp : ∀ i, P' i → P i) : KeepP P' a b := fun i hi => x i (hp i hi)
theorem Keep.toP {lo : Nat} {a b : Heap} {P : Nat → Prop} (x : Keep lo a b) (hp : ∀ i, P i → i < lo) : KeepP P a b := fun i hi => x i (hp i hi)
theorem Same1.toP {q : Nat} {a b : Heap} {P : Nat → Prop} (x : Same1 q a b) (hp : ¬ P q) : KeepP P a b := fun i hi => x i (fun e => hp (e ▸ hi))
theorem Same1.keep {q lo : Nat} {a b : Heap} (x : Same1 q a b) (hp : lo ≤ q) : Keep lo a b := fun i hi => x i (by omega)
theorem Bx.keep {h h' : Heap} {P : Nat} {l : List AVal} (b : Bx h P l) (hk : h'.get P = h.get P) : Bx h' P l := let ⟨cs, h1, h2⟩ := b; ⟨cs, hk.trans h1, h2⟩
theorem Bx.new {h : Heap} {P : Nat} {l : List AVal} (hg : h.get P = some (newCells l)) : Bx h P l := ⟨_, hg, At.ofList l⟩
noncomputable def loadL (E : Env) (ty : TypeId) (l : List AVal) (off : Nat) : Option AVal := match E.tys.get ty with
  | some ti => match aggD ti.desc with
    | true => match Nat.ble (off + ti.info.size) l.length with
      | true => some (.agg ((l.drop off).take ti.info.size))
      | false => none
    | false => l[off]?
  | none => none
theorem Bx.load {E : Env} {h : Heap} {P : Nat} {l : List AVal} (b : Bx h P l) (ty off : Nat) : loadAt E h ty P off = loadL E ty l off := by
  obtain ⟨cs, hg, ha⟩ := b
  unfold loadAt loadL
  rw [hg]
  dsimp only
  cases ht : E.tys.get ty with
  | none => rfl
  | some ti =>
    dsimp only
    cases hd : aggD ti.desc with
    | true =>
      dsimp only
      cases hb : Nat.ble (off + ti.info.size) l.length with
      | true =>
        have hle := Nat.le_of_ble_eq_true hb
        dsimp only
        have hl : ((l.drop off).take ti.info.size).length = ti.info.size := by simp; omega
        have : rdCells cs off ti.info.size = some ((l.drop off).take ti.info.size) := by
          conv => lhs; rw [← hl]
          refine rdCells_of fun i hi => ?_
          rw [hl] at hi
          have := ha (off + i) (by omega)
          rw [Nat.zero_add] at this
          rw [this]; simp
        rw [this]
      | false => rfl
    | false =>
      dsimp only
      by_cases ho : off < l.length
      · rw [blt_t ho]
        dsimp only
        have := ha off ho
        rw [Nat.zero_add] at this
        rw [this, List.getElem?_eq_getElem ho]
      · rw [blt_f ho]
        dsimp only
        rw [List.getElem?_eq_none (by omega)]
theorem loadL_one {E : Env} {ty : TypeId} {d : TypeDesc} (hu : E.under? ty = some d) (hd : aggD d = false) (l : List AVal) (off : Nat) : loadL E ty l off = l[off]? := by
  unfold Env.under? at hu
  unfold loadL
  cases ht : E.tys.get ty with
  | none => rw [ht] at hu; cases hu
  | some ti => rw [ht] at hu; cases hu; dsimp only; rw [hd]
theorem loadL_agg {E : Env} {ty sz : Nat} (hu : aggQ E ty = true) (hs : E.size? ty = some sz) {l : List AVal} {off : Nat} (h : off + sz ≤ l.length) : loadL E ty l off = some (.agg ((l.drop off).take sz)) := by
  unfold aggQ Env.under? at hu
  unfold Env.size? at hs
  unfold loadL
  cases ht : E.tys.get ty with
  | none => rw [ht] at hu; cases hu
  | some ti =>
    rw [ht] at hu hs
    cases hs
    dsimp only at hu ⊢
    rw [hu]
    dsimp only
    rw [Nat.ble_eq_true_of_le h]
/-- What a box holds behind a store. -/
def storeL (l : List AVal) (off : Nat) (vc : List AVal) : List AVal := l.take off ++ vc ++ l.drop (off + vc.length)
theorem Bx.store {E : Env} {h : Heap} {P ty off sz : Nat} {l : List AVal} {v : AVal} (b : Bx h P l) (hs : E.size? ty = some sz) (hv : v.cells.length = sz) (ho : off + sz ≤ l.length) (hok : allOK v.cells = true) :
    ∃ ob, storeAt E h ty P off v = some ob ∧ ∀ h' : Heap, h'.get P = some ob → Bx h' P (storeL l off v.cells) := by
  obtain ⟨cs, hg, ha⟩ := b
  refine ⟨.cells false l.length (cs.setL off v.cells), ?_, fun h' hg' => ?_⟩
  · unfold storeAt
    rw [hg]
    dsimp only
    rw [hs]
    dsimp only
    rw [beq_t hv, Nat.ble_eq_true_of_le (by omega), hok]; rfl
  · have hlen : (storeL l off v.cells).length = l.length := by simp [storeL]; omega
    refine ⟨_, by rw [hlen]; exact hg', fun i hi => ?_⟩
    rw [Nat.zero_add, BT.get_setL]
    by_cases h1 : i < off
    · rw [if_neg (by omega)]
      have := ha i (by omega)
      rw [Nat.zero_add] at this
      rw [this]
      simp only [storeL]
      rw [List.getElem_append_left (by simp; omega), List.getElem_append_left (by simp; omega)]
      simp
    · by_cases h2 : i < off + v.cells.length
      · rw [if_pos (by omega)]
        simp only [storeL]
        rw [List.getElem_append_left (by simp; omega), List.getElem_append_right (by simp; omega)]
        rw [List.getElem?_eq_getElem (by omega)]
        congr 2
        simp; omega
      · rw [if_neg (by omega)]
        have := ha i (by omega)
        rw [Nat.zero_add] at this
        rw [this]
        simp only [storeL]
        rw [List.getElem_append_right (by simp; omega), List.getElem_drop]
        congr 2
        simp; omega

/-! ### Operations on boxes -/
section
variable {E : Env} {k : FK} {ops rest : List Oper} {o : Oper} {t : BT AVal} {h : Heap} {nx : Nat} {Q : BT AVal → D → Prop}
theorem Same1.put {h : Heap} {q : Nat} {o : Option AObj} : Same1 q h (h.put q o) := fun i hi => by rw [BT.get_put, if_neg hi]
theorem wpO_box {ty : TypeId} {x : Operand} {v : AVal} (hw : wanted o.guard t ops = .yes) (hop : o.op = .box ty x) (hx : evalT E.ng t x = v) (hv : isBot v = false)
    (hq : ∀ h', Bx h' nx v.cells → Same1 nx h h' → wpO E k ops rest (putT k.size t o.dst (.ptr nx 0)) ⟨h', nx + 1⟩ Q) : wpO E k ops (o :: rest) t ⟨h, nx⟩ Q :=
  wpO_val hw (by rw [hop]; exact ev_box hx hv) (hq _ (.new (by rw [sx_one, BT.get_put, if_pos rfl])) .put)
theorem wpO_alloc {ty : TypeId} {z : AVal} (hw : wanted o.guard t ops = .yes) (hop : o.op = .alloc ty) (hz : E.zero? ty = some z)
    (hq : ∀ h', Bx h' nx z.cells → Same1 nx h h' → wpO E k ops rest (putT k.size t o.dst (.ptr nx 0)) ⟨h', nx + 1⟩ Q) : wpO E k ops (o :: rest) t ⟨h, nx⟩ Q :=
  wpO_val hw (by rw [hop]; exact ev_alloc hz) (hq _ (.new (by rw [sx_one, BT.get_put, if_pos rfl])) .put)
theorem wpO_store {ty : TypeId} {a x : Operand} {P off sz : Nat} {l : List AVal} {v : AVal} (hw : wanted o.guard t ops = .yes) (hop : o.op = .store ty a x) (b : Bx h P l) (ha : evalT E.ng t a = .ptr P off) (hx : evalT E.ng t x = v) (hs : E.size? ty = some sz) (hv : v.cells.length = sz) (ho : off + sz ≤ l.length) (hok : allOK v.cells = true)
    (hq : ∀ h', Bx h' P (storeL l off v.cells) → Same1 P h h' → wpO E k ops rest (putT k.size t o.dst undef') ⟨h', nx⟩ Q) : wpO E k ops (o :: rest) t ⟨h, nx⟩ Q := by
  obtain ⟨ob, h1, h2⟩ := b.store (E := E) hs hv ho hok
  exact wpO_val hw (by rw [hop]; exact ev_store ha (by rw [hx]; exact h1)) (hq _ (h2 _ (by rw [sx_one, BT.get_put, if_pos rfl])) .put)
end

/-! ### Regions that draw their order -/
inductive PL where
  | q (i : Nat) (late : List Nat)
  | l (i : Nat) (late : List Nat)
  | c (is : List (Nat × List Nat))
def opAt (ops : List Oper) (i : Nat) : Oper := (ops[i]?).getD default
def PL.item (ops : List Oper) : PL → DItem
  | .q i late => .q i (opAt ops i) late
  | .l i late => .l i (opAt ops i) late
  | .c is => .c (is.map fun x => (x.1, opAt ops x.1, x.2))
section
variable {E : Env} {k : FK}
def wpD (E : Env) (k : FK) (ops : List Oper) (t0 : BT AVal) : List PL → BT AVal → D → (BT AVal → D → Prop) → Prop
  | [], t, d, Q => Q t d
  | .q i late :: rest, t, d, Q => match wanted (opAt ops i).guard (backTo t0 late t) ops with
    | .yes => match evOp ⟨E, backTo t0 late t, d.h, d.nx⟩ (opAt ops i).op with
      | .val v e nx' => wpD E k ops t0 rest (putT k.size t (opAt ops i).dst v) ⟨applyEff d.h e, nx'⟩ Q
      | _ => False
    | .no => wpD E k ops t0 rest (putT k.size t (opAt ops i).dst undef') d Q
    | .unk => False
  | .l i late :: rest, t, d, Q => match wanted (opAt ops i).guard (backTo t0 late t) ops with
    | .yes => match evOp ⟨E, backTo t0 late t, d.h, d.nx⟩ (opAt ops i).op with
      | .val v e nx' => wpD E k ops t0 rest (putT k.size t (opAt ops i).dst v) ⟨applyEff d.h e, nx'⟩ Q
      | .enter f args => match E.specs.get f with
        | none => AC E f args d (fun v d' => wpD E k ops t0 rest (putT k.size t (opAt ops i).dst v) d' Q)
        | some sp => match sp args d.h d.nx with
          | .val v e nx' => wpD E k ops t0 rest (putT k.size t (opAt ops i).dst v) ⟨applyEff d.h e, nx'⟩ Q
          | _ => False
      | _ => False
    | .no => wpD E k ops t0 rest (putT k.size t (opAt ops i).dst undef') d Q
    | .unk => False
  | .c is :: rest, t, d, Q => (is.map fun x => (x.1, opAt ops x.1, x.2)).all (chkOne E ops t0 t d.h d.nx) = true ∧ wpD E k ops t0 rest t d Q
theorem runQ_eq {ops : List Oper} {size : Nat} {t0 : BT AVal} {o : Oper} {late : List Nat} {t : BT AVal} {h : Heap} {nx : Nat} {g : BT AVal → Heap → Nat → RD} {out : OpR → RD} : runQ E ops size t0 o late t h nx g out = match wanted o.guard (backTo t0 late t) ops with
  | .yes => (match evOp ⟨E, backTo t0 late t, h, nx⟩ o.op with
    | .val v e nx' => g (putT size t o.dst v) (applyEff h e) nx'
    | r => out r)
  | .no => g (putT size t o.dst undef') h nx
  | .unk => out (.stuck "guard") := by
  unfold runQ
  cases wanted o.guard (backTo t0 late t) ops with
  | yes =>
    dsimp only
    cases evOp ⟨E, backTo t0 late t, h, nx⟩ o.op with
    | val v e nx' => dsimp only; rw [putTKD_eq, applyEffKD_eq, forceND_eq]
    | _ => rfl
  | no => dsimp only; rw [putTKD_eq]
  | unk => rfl
theorem runD_cons (ops : List Oper) (size : Nat) (t0 : BT AVal) (i : DItem) (r : List DItem) (t : BT AVal) (h : Heap) (nx : Nat) : runD E ops size t0 (i :: r) t h nx = match i with
  | .q _ o late => runQ E ops size t0 o late t h nx (runD E ops size t0 r) (fun _ => .at [] t h nx (.stuck "a quiet operation"))
  | .l i o late => runQ E ops size t0 o late t h nx (runD E ops size t0 r) (fun x => .at (.l i o late :: r) t h nx x)
  | .c chk => (match chk.all (chkOne E ops t0 t h nx) with
    | true => runD E ops size t0 r t h nx
    | false => .at [] t h nx (.stuck "an unsteady read"))
  | .p _ o late _ o' late' => runP E ops size t0 o late o' late' t h nx (runD E ops size t0 r) := rfl
theorem wpD_sound {ops : List Oper} {t0 : BT AVal} : ∀ (pl : List PL) (t : BT AVal) (d : D) (Q : BT AVal → D → Prop), wpD E k ops t0 pl t d Q → ∀ (td : List AItem) (cs : List AFrame),
    ∃ t' d', Q t' d' ∧ Leads E (drawnR E k cs ops t0 td (runD E ops k.size t0 (pl.map (PL.item ops)) t d.h d.nx)) ⟨⟨k, .run, td, t'⟩, cs, d'⟩ := by
  intro pl
  induction pl with
  | nil => intro t d Q h td cs; exact ⟨t, d, h, _, rfl, .refl E _⟩
  | cons i rest ih =>
    intro t d Q h td cs
    obtain ⟨hp, nx⟩ := d
    rw [List.map_cons, runD_cons]
    have back : ∀ (t2 : BT AVal) (d2 : D), wpD E k ops t0 rest t2 d2 Q → ∃ t' d', Q t' d' ∧ Reach E ⟨⟨k, .run, .inDrawn ops t0 (rest.map (PL.item ops)) :: td, t2⟩, cs, d2⟩ ⟨⟨k, .run, td, t'⟩, cs, d'⟩ := by
      intro t2 d2 hw
      obtain ⟨t', d', q, l⟩ := ih t2 d2 Q hw td cs
      exact ⟨t', d', q, Leads.reach (s0 := ⟨⟨k, .run, .inDrawn ops t0 (rest.map (PL.item ops)) :: td, t2⟩, cs, d2⟩) l⟩
    cases i with
    | q i late =>
      unfold wpD at h
      show ∃ t' d', Q t' d' ∧ Leads E (drawnR E k cs ops t0 td (runQ E ops k.size t0 (opAt ops i) late t hp nx (runD E ops k.size t0 (rest.map (PL.item ops))) (fun _ => .at [] t hp nx (.stuck "a quiet operation")))) _
      rw [runQ_eq]
      cases hw : wanted (opAt ops i).guard (backTo t0 late t) ops with
      | yes =>
        rw [hw] at h
        dsimp only at h ⊢
        cases he : evOp ⟨E, backTo t0 late t, hp, nx⟩ (opAt ops i).op with
        | val v e nx' =>
          rw [he] at h
          exact ih _ ⟨applyEff hp e, nx'⟩ Q h td cs
        | _ => rw [he] at h; exact h.elim
      | no =>
        rw [hw] at h
        exact ih _ ⟨hp, nx⟩ Q h td cs
      | unk => rw [hw] at h; exact h.elim
    | l i late =>
      unfold wpD at h
      show ∃ t' d', Q t' d' ∧ Leads E (drawnR E k cs ops t0 td (runQ E ops k.size t0 (opAt ops i) late t hp nx (runD E ops k.size t0 (rest.map (PL.item ops))) (fun x => .at (.l i (opAt ops i) late :: rest.map (PL.item ops)) t hp nx x))) _
      rw [runQ_eq]
      cases hw : wanted (opAt ops i).guard (backTo t0 late t) ops with
      | yes =>
        rw [hw] at h
        dsimp only at h ⊢
        cases he : evOp ⟨E, backTo t0 late t, hp, nx⟩ (opAt ops i).op with
        | val v e nx' =>
          rw [he] at h
          exact ih _ ⟨applyEff hp e, nx'⟩ Q h td cs
        | enter f args =>
          rw [he] at h
          dsimp only at h ⊢
          cases hs : E.specs.get f with
          | none =>
            rw [hs] at h
            obtain ⟨fr, h1, h2⟩ := AC.call h
            obtain ⟨v, d1, q, r⟩ := h2 ⟨k, .run, .inDrawn ops t0 (.l i (opAt ops i) late :: rest.map (PL.item ops)) :: td, t⟩ cs
            obtain ⟨t', d', q', r'⟩ := back _ _ q
            refine ⟨t', d', q', ⟨fr, ⟨k, .run, .inDrawn ops t0 (.l i (opAt ops i) late :: rest.map (PL.item ops)) :: td, t⟩ :: cs, ⟨hp, nx⟩⟩, ?_, r.trans r'⟩
            show applyR E _ cs ⟨hp, nx⟩ (.enter f args) = _
            unfold applyR
            dsimp only
            rw [hs, h1]; rfl
          | some sp =>
            rw [hs] at h
            dsimp only at h
            cases hsp : sp args hp nx with
            | val v e nx' =>
              rw [hsp] at h
              obtain ⟨t', d', q', r'⟩ := back _ _ h
              refine ⟨t', d', q', ⟨⟨k, .run, .inDrawn ops t0 (rest.map (PL.item ops)) :: td, putT k.size t (opAt ops i).dst v⟩, cs, ⟨applyEff hp e, nx'⟩⟩, ?_, r'⟩
              show applyR E _ cs ⟨hp, nx⟩ (.enter f args) = _
              unfold applyR
              dsimp only
              rw [hs]
              dsimp only
              rw [hsp]; rfl
            | _ => rw [hsp] at h; exact h.elim
        | _ => rw [he] at h; exact h.elim
      | no =>
        rw [hw] at h
        exact ih _ ⟨hp, nx⟩ Q h td cs
      | unk => rw [hw] at h; exact h.elim
    | c is =>
      unfold wpD at h
      show ∃ t' d', Q t' d' ∧ Leads E (drawnR E k cs ops t0 td (match (is.map fun x => (x.1, opAt ops x.1, x.2)).all (chkOne E ops t0 t hp nx) with
        | true => runD E ops k.size t0 (rest.map (PL.item ops)) t hp nx
        | false => .at [] t hp nx (.stuck "an unsteady read"))) _
      rw [h.1]
      exact ih _ ⟨hp, nx⟩ Q h.2 td cs
theorem wp_drawn {id : Nat} {ops : Array Oper} {t : BT AVal} {d : D} {Q : Out → BT AVal → D → Prop} (pl : List PL) (hp : planA ops = some (pl.map (PL.item ops.toList))) (h : wpD E k ops.toList t pl t d (Q .norm)) : wpA E k (.region id ops true) t d Q := by
  intro td cs
  obtain ⟨t', d', q, l⟩ := wpD_sound pl t d _ h td cs
  refine ⟨.norm, t', d', q, Leads.reach (s0 := ⟨⟨k, .run, .code (.region id ops true) :: td, t⟩, cs, d⟩) ?_⟩
  show Leads E (drawnP ⟨E, k, t, cs, d⟩ ops.toList td (planA ops)) _
  rw [hp]
  exact l

/-! ### .. operation by operation -/
variable {ops : List Oper} {t0 t : BT AVal} {h : Heap} {nx : Nat} {rest : List PL} {Q : BT AVal → D → Prop} {i : Nat} {late : List Nat} {o : Oper}
theorem wpD_nil {d : D} : wpD E k ops t0 [] t d Q = Q t d := rfl
theorem wpD_q {v : AVal} {e : Eff} {nx' : Nat} (ho : opAt ops i = o) (hw : wanted o.guard (backTo t0 late t) ops = .yes) (he : evOp ⟨E, backTo t0 late t, h, nx⟩ o.op = .val v e nx') (hn : wpD E k ops t0 rest (putT k.size t o.dst v) ⟨applyEff h e, nx'⟩ Q) : wpD E k ops t0 (.q i late :: rest) t ⟨h, nx⟩ Q := by
  subst ho
  unfold wpD
  rw [hw]
  dsimp only
  rw [he]; exact hn
theorem wpD_l {v : AVal} {e : Eff} {nx' : Nat} (ho : opAt ops i = o) (hw : wanted o.guard (backTo t0 late t) ops = .yes) (he : evOp ⟨E, backTo t0 late t, h, nx⟩ o.op = .val v e nx') (hn : wpD E k ops t0 rest (putT k.size t o.dst v) ⟨applyEff h e, nx'⟩ Q) : wpD E k ops t0 (.l i late :: rest) t ⟨h, nx⟩ Q := by
  subst ho
  unfold wpD
  rw [hw]
  dsimp only
  rw [he]; exact hn
theorem wpD_pure {v : AVal} (ho : opAt ops i = o) (hw : wanted o.guard (backTo t0 late t) ops = .yes) (he : evOp ⟨E, backTo t0 late t, h, nx⟩ o.op = .val v [] nx) (hn : wpD E k ops t0 rest (putT k.size t o.dst v) ⟨h, nx⟩ Q) : wpD E k ops t0 (.q i late :: rest) t ⟨h, nx⟩ Q := wpD_q ho hw he hn
theorem wpD_no {d : D} (ho : opAt ops i = o) (hw : wanted o.guard (backTo t0 late t) ops = .no) (hn : wpD E k ops t0 rest (putT k.size t o.dst undef') d Q) : wpD E k ops t0 (.q i late :: rest) t d Q := by
  subst ho
  unfold wpD
  rw [hw]; exact hn
theorem wpD_lno {d : D} (ho : opAt ops i = o) (hw : wanted o.guard (backTo t0 late t) ops = .no) (hn : wpD E k ops t0 rest (putT k.size t o.dst undef') d Q) : wpD E k ops t0 (.l i late :: rest) t d Q := by
  subst ho
  unfold wpD
  rw [hw]; exact hn
theorem wpD_call {f : FuncId} {args : List AVal} (ho : opAt ops i = o) (hw : wanted o.guard (backTo t0 late t) ops = .yes) (he : evOp ⟨E, backTo t0 late t, h, nx⟩ o.op = .enter f args) (hs : E.specs.get f = none)
    {Q' : AVal → D → Prop} (hc : AC E f args ⟨h, nx⟩ Q') (hn : ∀ v d', Q' v d' → wpD E k ops t0 rest (putT k.size t o.dst v) d' Q) : wpD E k ops t0 (.l i late :: rest) t ⟨h, nx⟩ Q := by
  subst ho
  unfold wpD
  rw [hw]
  dsimp only
  rw [he]
  dsimp only
  rw [hs]
  exact hc.mono hn
theorem wpD_c0 {d : D} (hn : wpD E k ops t0 rest t d Q) : wpD E k ops t0 (.c [] :: rest) t d Q := by
  unfold wpD
  exact ⟨rfl, hn⟩
theorem wpD_c {is : List (Nat × List Nat)} {d : D} (h1 : ∀ x ∈ is, chkOne E ops t0 t d.h d.nx (x.1, opAt ops x.1, x.2) = true) (hn : wpD E k ops t0 rest t d Q) : wpD E k ops t0 (.c is :: rest) t d Q := by
  unfold wpD
  refine ⟨List.all_eq_true.2 fun y hy => ?_, hn⟩
  obtain ⟨x, hx, rfl⟩ := List.mem_map.1 hy
  exact h1 x hx
theorem chk_yes {d : Nat} {v : AVal} (ho : opAt ops i = o) (hd : o.dst = some d) (hw : wanted o.guard (backTo t0 late t) ops = .yes) (he : evOp ⟨E, backTo t0 late t, h, nx⟩ o.op = .val v [] nx) (hv : veq 10 v (getT t d) = true) : chkOne E ops t0 t h nx (i, opAt ops i, late) = true := by
  subst ho
  unfold chkOne
  dsimp only
  rw [hw, hd]
  dsimp only
  rw [he]
  dsimp only
  rw [beq_t rfl, hv]; rfl
theorem chk_no (ho : opAt ops i = o) (hw : wanted o.guard (backTo t0 late t) ops = .no) : chkOne E ops t0 t h nx (i, opAt ops i, late) = true := by
  subst ho
  unfold chkOne
  dsimp only
  rw [hw]
@[go_sem] theorem backTo_nil : backTo t0 [] t = t := rfl
@[go_sem] theorem backTo_ne {s : Nat} {l : List Nat} (h : s ∉ l) : getT (backTo t0 l t) s = getT t s := by
  rw [getT_eq, getT_eq, backTo_get, if_neg h]
/-- Values that are equal to themselves. -/
theorem veq_cell {v : AVal} {n : Nat} (h : (match v with | .bool _ | .int _ _ | .str _ | .nilptr | .nilslice | .eslice | .slice _ _ _ _ | .ptr _ _ | .nilfunc => true | _ => false) = true) : veq (n + 1) v v = true := by
  cases v <;> try cases h
  all_goals unfold veq
  case bool b => simp
  case int k m => simp [intEq_eq]
  case str s => simp [strEq_eq]
  case nilptr => rfl
  case ptr a b => simp
  case nilslice => rfl
  case eslice => rfl
  case slice a b c p => cases p <;> simp [capEq]
  case nilfunc => rfl
def simpleV (v : AVal) : Bool := match v with | .bool _ | .int _ _ | .str _ | .nilptr | .nilslice | .eslice | .slice _ _ _ _ | .ptr _ _ | .nilfunc => true | _ => false
theorem veq_simple {v : AVal} {n : Nat} (h : simpleV v = true) : veq (n + 1) v v = true := veq_cell h
theorem veq_agg {l : List AVal} (h : ∀ v ∈ l, simpleV v = true) : veq 10 (.agg l) (.agg l) = true := by
  unfold veq
  dsimp only
  induction l with
  | nil => rfl
  | cons v l ih =>
    unfold all2
    rw [veq_simple (h v List.mem_cons_self), ih (fun w hw => h w (List.mem_cons_of_mem _ hw))]; rfl
end
end Go.Ev
end
section
/- Cuts of any slice; indexes of slices of structs; what simp asks of. -/
set_option linter.unusedVariables false
set_option linter.unusedSimpArgs false
set_option linter.unusedSectionVars false
namespace Go.Ev
open Go.RowKit

/-- A slice that is read, in objects of such a kind. -/
def SlP (sz : Nat) (h : Heap) (P : Nat → Prop) (v : AVal) (l : List AVal) : Prop := Sl sz h v l ∧ ∀ id off len cap, v = .slice id off len cap → P id
theorem SlB.toP {sz lo : Nat} {h : Heap} {v : AVal} {l : List AVal} (s : SlB sz h lo v l) : SlP sz h (· < lo) v l := s
theorem SlP.toB {sz lo : Nat} {h : Heap} {v : AVal} {l : List AVal} (s : SlP sz h (· < lo) v l) : SlB sz h lo v l := s
theorem SlP.mono {sz : Nat} {h : Heap} {P P' : Nat → Prop} {v : AVal} {l : List AVal} (s : SlP sz h P v l) (hp : ∀ i, P i → P' i) : SlP sz h P' v l := ⟨s.1, fun id off len cap e => hp id (s.2 id off len cap e)⟩
theorem SlP.keep {sz : Nat} {h h' : Heap} {P : Nat → Prop} {v : AVal} {l : List AVal} (s : SlP sz h P v l) (hk : KeepP P h h') : SlP sz h' P v l := by
  refine ⟨?_, s.2⟩
  obtain ⟨s, hv⟩ := s
  cases s with
  | nil => exact .nil
  | em => exact .em
  | mk id off len cap ro n cs l hl hc hg ho ha => exact .mk id off len cap ro n cs l hl hc ((hk id (hv _ _ _ _ rfl)).trans hg) ho ha
theorem SlP.notBot {sz : Nat} {h : Heap} {P : Nat → Prop} {v : AVal} {l : List AVal} (s : SlP sz h P v l) : isBot v = false := by
  obtain ⟨s, _⟩ := s
  cases s <;> rfl
theorem SlP.simple {sz : Nat} {h : Heap} {P : Nat → Prop} {v : AVal} {l : List AVal} (s : SlP sz h P v l) : simpleV v = true := by
  obtain ⟨s, _⟩ := s
  cases s <;> rfl
theorem SlP.cellOK {sz : Nat} {h : Heap} {P : Nat → Prop} {v : AVal} {l : List AVal} (s : SlP sz h P v l) : Go.Ev.cellOK v = true := by
  obtain ⟨s, _⟩ := s
  cases s <;> rfl
theorem SlP.lenN {sz : Nat} {h : Heap} {P : Nat → Prop} {v : AVal} {l : List AVal} (s : SlP sz h P v l) (hs : 0 < sz) : sliceLen v = some (l.length / sz) := (s.1.first hs).2.1
theorem Own.toP {sz lo hi : Nat} {h : Heap} {v : AVal} {l : List AVal} (o : Own sz h lo hi v l) : SlP sz h (fun i => lo ≤ i ∧ i < hi) v l := by
  refine ⟨o.sl, fun id off len cap e => ?_⟩
  cases o with
  | nil => cases e
  | mk id len cs l h1 h2 hl hg ha => cases e; exact ⟨h1, h2⟩
theorem SlP.mod {sz : Nat} {h : Heap} {P : Nat → Prop} {v : AVal} {l : List AVal} (s : SlP sz h P v l) (hs : 0 < sz) : l.length = l.length / sz * sz := by
  obtain ⟨s, _⟩ := s
  cases s with
  | nil => simp
  | em => simp
  | mk id off len cap ro n cs l hl hc hg ho ha => rw [hl, Nat.mul_div_cancel _ hs]

theorem At.cutN {cs : BT AVal} {off : Nat} {l : List AVal} (ha : At cs off l) {a b : Nat} (hb : b ≤ l.length) : At cs (off + a) ((l.take b).drop a) := ha.cut hb
def LoB (lo : Option AVal) (a : Nat) : Prop := ∀ y, a ≤ y → bndO lo y 0 = some a
def HiB (hi : Option AVal) (b len : Nat) : Prop := ∀ y, b ≤ y → bndO hi y len = some b
theorem LoB.none : LoB none 0 := fun _ _ => rfl
theorem LoB.some {k : IntKind} {a : Nat} : LoB (some (.int k (a : Int))) a := fun _ h => bndO_some h
theorem HiB.none {b : Nat} : HiB none b b := fun _ _ => rfl
theorem HiB.some {k : IntKind} {b len : Nat} : HiB (some (.int k (b : Int))) b len := fun _ h => bndO_some h
theorem sl_cutN {E : Env} {h : Heap} {P : Nat → Prop} {ty e sz : Nat} {v : AVal} {l : List AVal} {lo hi : Option AVal} {a b len : Nat} (s : SlP sz h P v l) (hsz : 0 < sz) (hu : E.under? ty = some (.slice e)) (hs : E.size? e = some sz) (hlen : l.length = len * sz) (hlo : LoB lo a) (hhi : HiB hi b len) (hab : a ≤ b) (hb : b ≤ len) :
    ∃ v', sliceV E ty v lo hi none h = some v' ∧ SlP sz h P v' ((l.take (b * sz)).drop (a * sz)) := by
  obtain ⟨s, hP⟩ := s
  cases s with
  | nil =>
    have hz : len = 0 := by
      rcases Nat.eq_zero_or_pos len with h | h
      · exact h
      · have := Nat.mul_pos h hsz; simp at hlen; omega
    subst hz
    have h1 : a = 0 := by omega
    have h2 : b = 0 := by omega
    subst h1; subst h2
    refine ⟨.nilslice, ?_, by simpa using Sl.nil, fun id off len cap h => by cases h⟩
    unfold sliceV
    rw [hu]
    dsimp only
    rw [hs, hhi 0 (Nat.le_refl _), hlo 0 (Nat.le_refl _)]
    rfl
  | em =>
    have hz : len = 0 := by
      rcases Nat.eq_zero_or_pos len with h | h
      · exact h
      · have := Nat.mul_pos h hsz; simp at hlen; omega
    subst hz
    have h1 : a = 0 := by omega
    have h2 : b = 0 := by omega
    subst h1; subst h2
    refine ⟨.eslice, ?_, by simpa using Sl.em, fun id off len cap h => by cases h⟩
    unfold sliceV
    rw [hu]
    dsimp only
    rw [hs, hhi 0 (Nat.le_refl _), hlo 0 (Nat.le_refl _)]
  | mk id off len' cap ro n cs l hl hcap hg ho hc =>
    have hid := hP id off len' cap rfl
    have hll' : len' = len := Nat.eq_of_mul_eq_mul_right hsz (hl.symm.trans hlen)
    subst hll'
    have hbs : b * sz ≤ l.length := by rw [hl]; exact Nat.mul_le_mul_right _ hb
    have hdl : ((l.take (b * sz)).drop (a * sz)).length = (b - a) * sz := by rw [List.length_drop, List.length_take, Nat.min_eq_left hbs, Nat.sub_mul]
    have hle : (b - a) * sz + a * sz = b * sz := by rw [← Nat.add_mul, Nat.sub_add_cancel hab]
    have hS : sliceV E ty (.slice id off len' cap) lo hi none h = sliceS sz id off len' cap lo hi none (h.get id) := by
      unfold sliceV
      rw [hu]
      dsimp only
      rw [hs]
    rw [hS, hg]
    have hnoff : len' ≤ (n - off) / sz := (Nat.le_div_iff_mul_le hsz).2 (by omega)
    cases cap with
    | ex c =>
      have hcap' : len' ≤ c := hcap
      refine ⟨.slice id (cond (Nat.beq c a) off (off + a * sz)) (b - a) (.ex (c - a)), ?_, ?_, fun id' off' len' cap' h => by cases h; exact hid⟩
      · have e0 : sliceS sz id off len' (.ex c) lo hi none (some (.cells ro n cs)) = sliceE sz id off len' c lo hi none := by
          unfold sliceS
          cases hi <;> rfl
        rw [e0]
        unfold sliceE
        rw [show bndO none c c = some c from rfl]
        dsimp only
        rw [hhi c (by omega)]
        dsimp only
        rw [hlo b hab]
      · by_cases hca : c = a
        · have hba : b - a = 0 := by omega
          rw [beq_t hca, hba]
          have hnil : (l.take (b * sz)).drop (a * sz) = [] := List.eq_nil_of_length_eq_zero (by rw [hdl, hba]; simp)
          rw [hnil]
          refine .mk id off 0 (.ex (c - a)) ro n cs _ (by simp) (by show 0 ≤ c - a; omega) hg (by omega) ?_
          intro i hi; simp at hi
        · rw [beq_f hca]
          refine .mk id (off + a * sz) (b - a) (.ex (c - a)) ro n cs _ hdl (by show b - a ≤ c - a; omega) hg (by omega) ?_
          exact hc.cut hbs
    | gr sz' =>
      have hsz' : sz' = sz := hcap
      subst hsz'
      have e0 : sliceS sz' id off len' (.gr sz') lo hi none (some (.cells ro n cs)) = sliceG sz' id off len' n lo hi := by
        unfold sliceS
        have : (Nat.beq sz' sz' && Nat.blt 0 sz') = true := by rw [beq_t rfl, blt_t hsz]; rfl
        cases hi <;> (dsimp only; rw [this])
      rw [e0]
      unfold sliceG
      rw [hhi ((n - off) / sz') (by omega)]
      dsimp only
      rw [hlo b hab]
      dsimp only
      by_cases ha0 : a = 0
      · subst ha0
        refine ⟨.slice id off b (.gr sz'), rfl, .mk id off b (.gr sz') ro n cs _ (by simpa using hdl) rfl hg (by have := Nat.mul_le_mul_right sz' hb; omega) ?_, fun id' off' len' cap' h => by cases h; exact hid⟩
        have := hc.cut (a := 0) hbs
        rw [Nat.zero_mul]
        rwa [Nat.add_zero] at this
      · rw [beq_f ha0]
        by_cases han : a < (n - off) / sz'
        · rw [blt_t han]
          refine ⟨.slice id (off + a * sz') (b - a) (.gr sz'), rfl, .mk id (off + a * sz') (b - a) (.gr sz') ro n cs _ hdl rfl hg (by omega) ?_, fun id' off' len' cap' h => by cases h; exact hid⟩
          exact hc.cut hbs
        · have hba : b = a := by omega
          rw [blt_f han, beq_t hba]
          refine ⟨.eslice, rfl, ?_, fun id' off' len' cap' h => by cases h⟩
          have : (l.take (b * sz')).drop (a * sz') = [] := List.eq_nil_of_length_eq_zero (by rw [hdl, hba]; simp)
          rw [this]; exact .em
section
variable {E : Env} {k : FK} {ops rest : List Oper} {o : Oper} {t : BT AVal} {h : Heap} {nx : Nat} {Q : BT AVal → D → Prop}
theorem wpO_cut {P : Nat → Prop} {ty e sz : Nat} {x : Operand} {lo hi : Option Operand} {v : AVal} {l : List AVal} {a b len : Nat} (hw : wanted o.guard t ops = .yes) (hop : o.op = .slice ty x lo hi none) (s : SlP sz h P v l) (hsz : 0 < sz) (hu : E.under? ty = some (.slice e)) (hs : E.size? e = some sz) (hx : evalT E.ng t x = v) (hlen : l.length = len * sz)
    (hlo : LoB (lo.map (evalT E.ng t)) a) (hhi : HiB (hi.map (evalT E.ng t)) b len) (hab : a ≤ b) (hb : b ≤ len)
    (hq : ∀ v', SlP sz h P v' ((l.take (b * sz)).drop (a * sz)) → wpO E k ops rest (putT k.size t o.dst v') ⟨h, nx⟩ Q) : wpO E k ops (o :: rest) t ⟨h, nx⟩ Q := by
  obtain ⟨v', h1, h2⟩ := sl_cutN s hsz hu hs hlen hlo hhi hab hb
  refine wpO_pure hw ?_ (hq v' h2)
  rw [hop]
  show op_slice ⟨E, t, h, nx⟩ ty x lo hi none = _
  unfold op_slice
  dsimp only
  rw [hx, show (none : Option Operand).map (evalT E.ng t) = none from rfl, h1]; rfl
/-- An element's place. -/
theorem SlP.at {P : Nat → Prop} {sz : Nat} {v : AVal} {l : List AVal} (s : SlP sz h P v l) (hsz : 0 < sz) {ty e i : Nat} {x ix : Operand} {j : IntKind} (hu : E.under? ty = some (.slice e)) (hs : E.size? e = some sz) (hx : evalT E.ng t x = v) (hi : evalT E.ng t ix = .int j (i : Int)) (hlt : i * sz < l.length) :
    ∃ id off, evOp ⟨E, t, h, nx⟩ (.indexAddr ty x ix) = .val (.ptr id off) [] nx ∧ P id ∧ ∃ ro n cs, h.get id = some (.cells ro n cs) ∧ off + sz ≤ n ∧ i * sz + sz ≤ l.length ∧ At cs off ((l.drop (i * sz)).take sz) := by
  obtain ⟨s, hP⟩ := s
  cases s with
  | nil => simp at hlt
  | em => simp at hlt
  | mk id off len cap ro n cs l hl hcap hg ho hc =>
    have hil : i < len := by
      rcases Nat.lt_or_ge i len with h | h
      · exact h
      · have := Nat.mul_le_mul_right sz h; omega
    have h1 : (i + 1) * sz ≤ len * sz := Nat.mul_le_mul_right _ hil
    rw [Nat.add_mul, Nat.one_mul] at h1
    refine ⟨id, off + (i : Int).toNat * sz, opIndex hu hs hx hi (by omega) (by simpa using hil), hP _ _ _ _ rfl, ro, n, cs, hg, by simp only [Int.toNat_natCast]; omega, by omega, ?_⟩
    rw [Int.toNat_natCast]
    intro m hm
    rw [List.length_take, List.length_drop] at hm
    rw [List.getElem_take, List.getElem_drop, Nat.add_assoc]
    exact hc _ (by omega)
theorem wpO_indexP {P : Nat → Prop} {sz : Nat} {v : AVal} {l : List AVal} {ty e i : Nat} {x ix : Operand} {j : IntKind} (hw : wanted o.guard t ops = .yes) (hop : o.op = .indexAddr ty x ix)
    (s : SlP sz h P v l) (hsz : 0 < sz) (hu : E.under? ty = some (.slice e)) (hs : E.size? e = some sz) (ha : aggQ E e = true) (hx : evalT E.ng t x = v) (hi : evalT E.ng t ix = .int j (i : Int)) (hlt : i * sz < l.length)
    (hq : ∀ id off, loadAt E h e id off = some (.agg ((l.drop (i * sz)).take sz)) → wpO E k ops rest (putT k.size t o.dst (.ptr id off)) ⟨h, nx⟩ Q) : wpO E k ops (o :: rest) t ⟨h, nx⟩ Q := by
  obtain ⟨id, off, h1, h2, ro, n, cs, hg, ho, hl, hc⟩ := s.at (nx := nx) hsz hu hs hx hi hlt
  refine wpO_pure hw (by rw [hop]; exact h1) (hq id off ?_)
  obtain ⟨d, hd1, hd2⟩ := aggQ_at ha
  refine loadAt_agg hd1 hd2 hs hg ho ?_
  have : ((l.drop (i * sz)).take sz).length = sz := by rw [List.length_take, List.length_drop]; omega
  conv => lhs; rw [← this]
  exact rdCells_of hc
end
/-! ### What simp asks of -/
section
variable {E : Env} {t : BT AVal} {h : Heap} {nx : Nat}
noncomputable def faV (E : Env) (s f : Nat) (v : AVal) (nx : Nat) : OpR := match E.under? s, v with
  | some (.struct fields), .ptr id off => match fields.toList[f]? with
    | some fd => match E.size? fd.type with
      | some (_ + 1) => .val (.ptr id (off + fd.offset)) [] nx
      | _ => .stuck "fieldAddr"
    | none => .stuck "fieldAddr"
  | _, _ => .stuck "fieldAddr"
@[go_sem] theorem ev_fieldV (s : TypeId) (x : Operand) (f : Nat) : op_fieldAddr ⟨E, t, h, nx⟩ s x f = faV E s f (evalT E.ng t x) nx := rfl
theorem faV_ptr {s f id off o : Nat} (hf : E.fld? s f = some o) : faV E s f (.ptr id off) nx = .val (.ptr id (off + o)) [] nx :=
  opField (E := E) (t := (BT.nil : BT AVal).put 0 (some (.ptr id off))) (h := BT.nil) (x := .tmp 0) (by rw [evalT_tmp, getT_eq, BT.get_put, if_pos rfl]; rfl) hf
noncomputable def ldV (E : Env) (h : Heap) (ty : TypeId) (v : AVal) (nx : Nat) : OpR := match v with
  | .ptr id off => valO (loadAt E h ty id off) nx "load"
  | _ => .stuck "load"
@[go_sem] theorem ev_loadV (ty : TypeId) (a : Operand) : evOp ⟨E, t, h, nx⟩ (.load ty a) = ldV E h ty (evalT E.ng t a) nx := rfl
@[go_sem] theorem ldV_ptr (ty : TypeId) (id off : Nat) : ldV E h ty (.ptr id off) nx = valO (loadAt E h ty id off) nx "load" := rfl
@[go_sem] theorem ev_lenV (ty : TypeId) (x : Operand) : evOp ⟨E, t, h, nx⟩ (.call { callee := .builtin .len, args := #[x], argTypes := #[ty] }) = lenB E ty (evalT E.ng t x) h nx := rfl
theorem lenB_of {ty e n : Nat} {v : AVal} (hu : E.under? ty = some (.slice e)) (hl : sliceLen v = some n) : ∀ (h : Heap) (nx : Nat), lenB E ty v h nx = .val (.int .i64 (n : Int)) [] nx := fun h nx => by
  unfold lenB
  rw [hu]
  dsimp only
  cases v <;> first | (cases hl; rfl) | cases hl
@[go_sem] theorem ev_build (ty : TypeId) (ps : Array (Nat × Operand)) : evOp ⟨E, t, h, nx⟩ (.build ty ps) = valO (buildV E ty (ps.toList.map fun p => (p.1, evalT E.ng t p.2))) nx "build" := rfl
@[go_sem] theorem evalT_str (ng : Nat) (t : BT AVal) (s : ByteArray) : evalT ng t (.const (.string s)) = .str (s.data.toList.map UInt8.toNat) := rfl
end
attribute [go_sem] List.getElem?_cons_zero List.getElem?_cons_succ
end Go.Ev
end
section
/- Slices that grow from a slice that is written out; stores of one cell; the same in regions that draw their order. -/
set_option linter.unusedVariables false
set_option linter.unusedSimpArgs false
set_option linter.unusedSectionVars false
namespace Go.Ev
open Go.RowKit

/-- A slice that may be appended to: made by append, or full. -/
inductive Gro (sz : Nat) (h : Heap) (lo hi : Nat) : AVal → List AVal → Prop
  | own {v : AVal} {l : List AVal} (o : Own sz h lo hi v l) : Gro sz h lo hi v l
  | full (id len n : Nat) (ro : Bool) (cs : BT AVal) (l : List AVal) (h1 : lo ≤ id) (h2 : id < hi) (hl : l.length = len * sz) (hg : h.get id = some (.cells ro n cs)) (ho : len * sz ≤ n) (ha : At cs 0 l) : Gro sz h lo hi (.slice id 0 len (.ex len)) l
section
variable {E : Env} {t : BT AVal} {h h' : Heap} {nx lo hi hi' sz : Nat} {v s : AVal} {l l' : List AVal}
theorem Gro.notBot (g : Gro sz h lo hi v l) : isBot v = false := by
  cases g with
  | own o => exact o.notBot
  | full => rfl
theorem Gro.toP (g : Gro sz h lo hi v l) : SlP sz h (fun i => lo ≤ i ∧ i < hi) v l := by
  cases g with
  | own o => exact o.toP
  | full id len n ro cs l h1 h2 hl hg ho ha => exact ⟨.mk id 0 len (.ex len) ro n cs l hl (Nat.le_refl _) hg (by omega) ha, fun id' off len' cap e => by cases e; exact ⟨h1, h2⟩⟩
theorem Gro.keep (g : Gro sz h lo hi v l) (hk : ∀ i, lo ≤ i → i < hi → h'.get i = h.get i) (hh : hi ≤ hi') : Gro sz h' lo hi' v l := by
  cases g with
  | own o => exact .own (o.keep hk hh)
  | full id len n ro cs l h1 h2 hl hg ho ha => exact .full id len n ro cs l h1 (Nat.lt_of_lt_of_le h2 hh) hl ((hk id h1 h2).trans hg) ho ha
theorem Gro.low {lo' : Nat} (g : Gro sz h lo hi v l) (hh : lo' ≤ lo) : Gro sz h lo' hi v l := by
  cases g with
  | own o => exact .own (o.low hh)
  | full id len n ro cs l h1 h2 hl hg ho ha => exact .full id len n ro cs l (Nat.le_trans hh h1) h2 hl hg ho ha
theorem Gro.built {n : Nat} {cs : BT AVal} {vs : List AVal} (hlo : lo ≤ nx) (hl : vs.length = n * sz) (ha : At cs 0 vs) : Gro sz (h.put nx (some (.cells false (n * sz) cs))) lo (nx + 1) (.slice nx 0 n (.ex n)) vs :=
  .full nx n (n * sz) false cs vs hlo (Nat.lt_succ_self _) hl (by rw [BT.get_put, if_pos rfl]) (Nat.le_refl _) ha
theorem append_gro {k b n e : Nat} {z : AVal} (hs : E.size? e = some (k + 1)) (hz : E.zero? e = some z) (hb : E.bytes? e = some b) (g : Gro (k + 1) h lo nx s l) (hl' : l'.length = n * (k + 1)) (hlo : lo ≤ nx)
    (hok : n ≠ 0 → okA b (l.length / (k + 1) + n) l' = true) :
    ∃ v eff nx', appendV E e n l' s h nx = .val v eff nx' ∧ nx ≤ nx' ∧ Gro (k + 1) (applyEff h eff) lo nx' v (l ++ l') ∧ Keep lo h (applyEff h eff) := by
  cases g with
  | own o =>
    obtain ⟨v, eff, nx', h1, h2, h3, h4⟩ := append_own hs hz hb o hl' hlo hok
    exact ⟨v, eff, nx', h1, h2, .own h3, h4⟩
  | full id len m ro cs l h1 h2 hl hg ho ha =>
    rw [appendV_of hs hz hb]
    by_cases hn : n = 0
    · subst hn
      rw [Nat.zero_mul] at hl'
      have hnil : l' = [] := List.eq_nil_of_length_eq_zero hl'
      subst hnil
      rw [if_pos rfl, List.append_nil]
      exact ⟨_, [], nx, rfl, Nat.le_refl _, .full id len m ro cs l h1 h2 hl hg ho ha, Keep.refl _ _⟩
    · rw [if_neg hn]
      have hdiv : l.length / (k + 1) = len := by rw [hl]; exact Nat.mul_div_cancel _ (Nat.succ_pos k)
      have hok := hok hn
      rw [hdiv] at hok
      refine ⟨.slice nx 0 (len + n) (.gr (k + 1)), [(nx, some (newCells (l ++ l')))], nx + 1, ?_, Nat.le_succ _, ?_, ?_⟩
      · unfold appendN
        dsimp only
        rw [hok, hg]
        dsimp only
        unfold appendS
        dsimp only
        rw [show Nat.ble (len + n) len = false from by
          rw [Bool.eq_false_iff]; intro hh
          have := Nat.le_of_ble_eq_true hh
          omega]
        dsimp only
        rw [Nat.zero_add, Nat.ble_eq_true_of_le ho]
        dsimp only
        rw [show rdCells cs 0 (len * (k + 1)) = some l from by rw [← hl]; exact rdCells_of ha]
      · rw [sx_one]
        exact .own (.mk nx (len + n) _ (l ++ l') hlo (Nat.lt_succ_self _) (by rw [List.length_append, hl, hl', Nat.add_mul]) (by rw [BT.get_put, if_pos rfl]; rfl) (At.ofList _))
      · rw [sx_one]; exact Keep.put hlo
theorem ev_appendG {c : Call} {ty u e k b : Nat} {d : TypeDesc} {x y : Operand} {z sv : AVal} (hc : c.callee = .builtin .append) (ht : c.argTypes = #[ty, u]) (hargs : c.args = #[x, y])
    (hu : E.under? ty = some (.slice e)) (hu' : E.under? u = some d) (hd : srcT d = true) (hs : E.size? e = some (k + 1)) (hz : E.zero? e = some z) (hb : E.bytes? e = some b)
    (hx : evalT E.ng t x = s) (hy : evalT E.ng t y = sv) (g : Gro (k + 1) h lo nx s l) (hlo : lo ≤ nx) (hl' : l'.length = l'.length / (k + 1) * (k + 1))
    (h1 : lenOf sv = some (l'.length / (k + 1))) (h2 : firstOf h (k + 1) (l'.length / (k + 1)) sv = some l') (hok : l'.length / (k + 1) ≠ 0 → okA b (l.length / (k + 1) + l'.length / (k + 1)) l' = true) :
    ∃ v eff nx', evOp ⟨E, t, h, nx⟩ (.call c) = .val v eff nx' ∧ nx ≤ nx' ∧ Gro (k + 1) (applyEff h eff) lo nx' v (l ++ l') ∧ Keep lo h (applyEff h eff) := by
  have : evOp ⟨E, t, h, nx⟩ (.call c) = appendV E e (l'.length / (k + 1)) l' s h nx := by
    show op_call ⟨E, t, h, nx⟩ c = _
    unfold op_call
    rw [hc]
    dsimp only
    rw [ht, hargs]
    show appendB E ty u (evalT E.ng t x) (evalT E.ng t y) h nx = _
    unfold appendB
    rw [hu, hu', hx, hy]
    cases d with
    | slice e' => dsimp only; rw [show srcT (.slice e') = true from rfl, hs, h1]; dsimp only; rw [h2]
    | string => dsimp only; rw [show srcT .string = true from rfl, hs, h1]; dsimp only; rw [h2]
    | _ => cases hd
  rw [this]
  exact append_gro hs hz hb g hl' hlo hok
theorem ev_buildSlice0 {ty e : Nat} {z : AVal} {sz : Nat} (hu : E.under? ty = some (.slice e)) (hs : E.size? e = some sz) (hz : E.zero? e = some z) : evOp ⟨E, t, h, nx⟩ (.buildSlice ty 0 #[]) = .val (.slice nx 0 0 (.ex 0)) [(nx, some (newCells []))] (nx + 1) := by
  show op_buildSlice ⟨E, t, h, nx⟩ ty 0 #[] = _
  unfold op_buildSlice
  dsimp only
  rw [hu]
  dsimp only
  rw [hs, hz]
  dsimp only
  rw [Nat.zero_mul, show (Nat.ble 0 16777216 && Nat.beq z.cells.length sz && !(Nat.beq 0 0)) = false from by
    rw [show Nat.beq 0 0 = true from rfl]; simp]
theorem ev_buildSlice1 {ty e sz : Nat} {parts : Array (Nat × Operand)} {z v : AVal} (hu : E.under? ty = some (.slice e)) (hs : E.size? e = some sz) (hz : E.zero? e = some z) (hzc : z.cells.length = sz)
    (hp : (parts.toList.map fun p => (p.1, evalT E.ng t p.2)) = [(0, v)]) (hv : v.cells.length = sz) (hb : isBot v = false) (h0 : 0 < sz) (hsz : sz ≤ 1000) :
    ∃ cs, evOp ⟨E, t, h, nx⟩ (.buildSlice ty 1 parts) = .val (.slice nx 0 1 (.ex 1)) [(nx, some (.cells false (1 * sz) cs))] (nx + 1) ∧ At cs 0 v.cells := by
  refine ⟨(BT.ofList (rep 1 z.cells)).setL 0 v.cells, ?_, fun i hi => ?_⟩
  · show op_buildSlice ⟨E, t, h, nx⟩ ty 1 parts = _
    unfold op_buildSlice
    dsimp only
    rw [hu]
    dsimp only
    rw [hs, hz, hp]
    dsimp only
    rw [show (Nat.ble (1 * sz) 16777216 && Nat.beq z.cells.length sz && !(Nat.beq (1 * sz) 0)) = true from by
      rw [Nat.ble_eq_true_of_le (by omega), beq_t hzc, beq_f (by omega)]; rfl]
    dsimp only
    have : fill (fun i => some (i * sz, sz)) (1 * sz) (BT.ofList (rep 1 z.cells)) [(0, v)] = some ((BT.ofList (rep 1 z.cells)).setL 0 v.cells) := by
      unfold fill
      dsimp only
      rw [Nat.zero_mul, Nat.zero_add, hb, beq_t hv, Nat.ble_eq_true_of_le (by omega)]
      rfl
    rw [this]
  · rw [BT.get_setL, if_pos (by omega), Nat.zero_add, Nat.sub_zero, List.getElem?_eq_getElem hi]
end
section
variable {E : Env} {k : FK} {ops rest : List Oper} {o : Oper} {t : BT AVal} {h : Heap} {nx : Nat} {Q : BT AVal → D → Prop}
theorem wpO_appendG {c : Call} {ty u e j b lo : Nat} {d : TypeDesc} {x y : Operand} {z s sv : AVal} {l l' : List AVal} (hw : wanted o.guard t ops = .yes) (hop : o.op = .call c)
    (hc : c.callee = .builtin .append) (ht : c.argTypes = #[ty, u]) (hargs : c.args = #[x, y])
    (hu : E.under? ty = some (.slice e)) (hu' : E.under? u = some d) (hd : srcT d = true) (hs : E.size? e = some (j + 1)) (hz : E.zero? e = some z) (hb : E.bytes? e = some b)
    (hx : evalT E.ng t x = s) (hy : evalT E.ng t y = sv) (g : Gro (j + 1) h lo nx s l) (hlo : lo ≤ nx) {P : Nat → Prop} (hsv : SlP (j + 1) h P sv l') (hok : okA b (l.length / (j + 1) + l'.length / (j + 1)) l' = true)
    (hq : ∀ v h' nx', nx ≤ nx' → Gro (j + 1) h' lo nx' v (l ++ l') → Keep lo h h' → wpO E k ops rest (putT k.size t o.dst v) ⟨h', nx'⟩ Q) : wpO E k ops (o :: rest) t ⟨h, nx⟩ Q := by
  obtain ⟨a1, a2, a3⟩ := hsv.1.first (Nat.succ_pos j)
  obtain ⟨v, eff, nx', g1, g2, g3, g4⟩ := ev_appendG (t := t) (h := h) (nx := nx) hc ht hargs hu hu' hd hs hz hb hx hy g hlo (hsv.mod (Nat.succ_pos j)) a1 a3 (fun _ => hok)
  exact wpO_val hw (by rw [hop]; exact g1) (hq v _ nx' g2 g3 g4)
theorem wpO_build0 {ty e sz : Nat} {z : AVal} {lo : Nat} (hw : wanted o.guard t ops = .yes) (hop : o.op = .buildSlice ty 0 #[]) (hu : E.under? ty = some (.slice e)) (hs : E.size? e = some sz) (hz : E.zero? e = some z) (hlo : lo ≤ nx)
    (hq : ∀ h', Gro sz h' lo (nx + 1) (.slice nx 0 0 (.ex 0)) [] → Same1 nx h h' → wpO E k ops rest (putT k.size t o.dst (.slice nx 0 0 (.ex 0))) ⟨h', nx + 1⟩ Q) : wpO E k ops (o :: rest) t ⟨h, nx⟩ Q :=
  wpO_val hw (by rw [hop]; exact ev_buildSlice0 hu hs hz) (hq _ (.full nx 0 0 false (BT.ofList []) [] hlo (Nat.lt_succ_self _) (by simp) (by rw [sx_one, BT.get_put, if_pos rfl]; rfl) (by omega) (fun i hi => absurd hi (Nat.not_lt_zero i))) .put)
theorem wpO_build1 {ty e sz : Nat} {parts : Array (Nat × Operand)} {z v : AVal} {lo : Nat} (hw : wanted o.guard t ops = .yes) (hop : o.op = .buildSlice ty 1 parts) (hu : E.under? ty = some (.slice e)) (hs : E.size? e = some sz) (hz : E.zero? e = some z) (hzc : z.cells.length = sz)
    (hp : (parts.toList.map fun p => (p.1, evalT E.ng t p.2)) = [(0, v)]) (hv : v.cells.length = sz) (hb : isBot v = false) (h0 : 0 < sz) (hsz : sz ≤ 1000) (hlo : lo ≤ nx)
    (hq : ∀ h', Gro sz h' lo (nx + 1) (.slice nx 0 1 (.ex 1)) v.cells → Same1 nx h h' → wpO E k ops rest (putT k.size t o.dst (.slice nx 0 1 (.ex 1))) ⟨h', nx + 1⟩ Q) : wpO E k ops (o :: rest) t ⟨h, nx⟩ Q := by
  obtain ⟨cs, h1, h2⟩ := ev_buildSlice1 (t := t) (h := h) (nx := nx) hu hs hz hzc hp hv hb h0 hsz
  refine wpO_val hw (by rw [hop]; exact h1) (hq _ ?_ .put)
  rw [sx_one]
  exact Gro.built hlo (by omega) h2
theorem wpO_buildL {ty e n : Nat} {parts : Array (Nat × Operand)} {z : AVal} {vs : List AVal} {lo : Nat} (hw : wanted o.guard t ops = .yes) (hop : o.op = .buildSlice ty n parts)
    (hu : E.under? ty = some (.slice e)) (hs : E.size? e = some 1) (hz : E.zero? e = some z) (hzc : z.cells.length = 1)
    (hp : (parts.toList.map fun p => (p.1, evalT E.ng t p.2)) = idx 0 vs) (hn : vs.length = n) (h0 : n ≠ 0) (hb : n ≤ 1000000) (hv : ∀ v ∈ vs, cellOK v = true) (hlo : lo ≤ nx)
    (hq : ∀ h', Gro 1 h' lo (nx + 1) (.slice nx 0 n (.ex n)) vs → Same1 nx h h' → wpO E k ops rest (putT k.size t o.dst (.slice nx 0 n (.ex n))) ⟨h', nx + 1⟩ Q) : wpO E k ops (o :: rest) t ⟨h, nx⟩ Q :=
  wpO_build hw hop hu hs hz hzc hp hn h0 hb hv fun cs hcs => hq _ (by have := Gro.built (sz := 1) (n := n) (h := h) hlo (by omega) hcs; rwa [Nat.mul_one] at this) .put
/-- Storing one cell. -/
theorem wpO_store1 {ty : TypeId} {a x : Operand} {P off : Nat} {l : List AVal} {v : AVal} (hw : wanted o.guard t ops = .yes) (hop : o.op = .store ty a x) (b : Bx h P l) (ha : evalT E.ng t a = .ptr P off) (hx : evalT E.ng t x = v) (hs : E.size? ty = some 1) (ho : off + 1 ≤ l.length) (hok : cellOK v = true)
    (hq : ∀ h', Bx h' P (storeL l off [v]) → Same1 P h h' → wpO E k ops rest (putT k.size t o.dst undef') ⟨h', nx⟩ Q) : wpO E k ops (o :: rest) t ⟨h, nx⟩ Q := by
  obtain ⟨c1, c2⟩ := cells_one hok
  refine wpO_store hw hop b ha hx hs (by rw [c1]; rfl) ho ?_ ?_
  · rw [c1]
    show (Bool.rec (motive := fun _ => Bool) false true (cellOK v) : Bool) = true
    rw [hok]
  · rw [c1]; exact hq
theorem allOK_of {l : List AVal} (hl : ∀ v ∈ l, cellOK v = true) : allOK l = true := by
  induction l with
  | nil => rfl
  | cons v l ih =>
    show (Bool.rec (motive := fun _ => Bool) false (allOK l) (cellOK v) : Bool) = true
    rw [hl v List.mem_cons_self]
    exact ih (fun w hw => hl w (List.mem_cons_of_mem _ hw))
theorem wpO_storeA {ty sz : Nat} {a x : Operand} {P off : Nat} {l vs : List AVal} (hw : wanted o.guard t ops = .yes) (hop : o.op = .store ty a x) (b : Bx h P l) (ha : evalT E.ng t a = .ptr P off) (hx : evalT E.ng t x = .agg vs) (hs : E.size? ty = some sz) (hv : vs.length = sz) (ho : off + sz ≤ l.length) (hok : ∀ v ∈ vs, cellOK v = true)
    (hq : ∀ h', Bx h' P (storeL l off vs) → Same1 P h h' → wpO E k ops rest (putT k.size t o.dst undef') ⟨h', nx⟩ Q) : wpO E k ops (o :: rest) t ⟨h, nx⟩ Q :=
  wpO_store hw hop b ha hx hs hv ho (allOK_of hok) hq
theorem storeL_all {l vs : List AVal} (h : vs.length = l.length) : storeL l 0 vs = vs := by
  unfold storeL
  rw [Nat.zero_add, List.drop_eq_nil_of_le (by omega)]; simp
end
section
variable {E : Env} {k : FK} {ops : List Oper} {rest : List PL} {o : Oper} {t0 t : BT AVal} {h : Heap} {nx i : Nat} {late : List Nat} {Q : BT AVal → D → Prop}
theorem wpD_storeV {ty : TypeId} {a x : Operand} {P off sz : Nat} {l : List AVal} {v : AVal} (hoi : opAt ops i = o) (hw : wanted o.guard (backTo t0 late t) ops = .yes) (hop : o.op = .store ty a x) (b : Bx h P l) (ha : evalT E.ng (backTo t0 late t) a = .ptr P off) (hx : evalT E.ng (backTo t0 late t) x = v) (hs : E.size? ty = some sz) (hv : v.cells.length = sz) (ho : off + sz ≤ l.length) (hok : allOK v.cells = true)
    (hq : ∀ h', Bx h' P (storeL l off v.cells) → Same1 P h h' → wpD E k ops t0 rest (putT k.size t o.dst undef') ⟨h', nx⟩ Q) : wpD E k ops t0 (.l i late :: rest) t ⟨h, nx⟩ Q := by
  obtain ⟨ob, h1, h2⟩ := b.store (E := E) hs hv ho hok
  exact wpD_l hoi hw (by rw [hop]; exact ev_store ha (by rw [hx]; exact h1)) (hq _ (h2 _ (by rw [sx_one, BT.get_put, if_pos rfl])) .put)
theorem wpD_store1 {ty : TypeId} {a x : Operand} {P off : Nat} {l : List AVal} {v : AVal} (hoi : opAt ops i = o) (hw : wanted o.guard (backTo t0 late t) ops = .yes) (hop : o.op = .store ty a x) (b : Bx h P l) (ha : evalT E.ng (backTo t0 late t) a = .ptr P off) (hx : evalT E.ng (backTo t0 late t) x = v) (hs : E.size? ty = some 1) (ho : off + 1 ≤ l.length) (hok : cellOK v = true)
    (hq : ∀ h', Bx h' P (storeL l off [v]) → Same1 P h h' → wpD E k ops t0 rest (putT k.size t o.dst undef') ⟨h', nx⟩ Q) : wpD E k ops t0 (.l i late :: rest) t ⟨h, nx⟩ Q := by
  obtain ⟨c1, c2⟩ := cells_one hok
  refine wpD_storeV hoi hw hop b ha hx hs (by rw [c1]; rfl) ho ?_ ?_
  · rw [c1]
    show (Bool.rec (motive := fun _ => Bool) false true (cellOK v) : Bool) = true
    rw [hok]
  · rw [c1]; exact hq
theorem wpD_storeA {ty sz : Nat} {a x : Operand} {P off : Nat} {l vs : List AVal} (hoi : opAt ops i = o) (hw : wanted o.guard (backTo t0 late t) ops = .yes) (hop : o.op = .store ty a x) (b : Bx h P l) (ha : evalT E.ng (backTo t0 late t) a = .ptr P off) (hx : evalT E.ng (backTo t0 late t) x = .agg vs) (hs : E.size? ty = some sz) (hv : vs.length = sz) (ho : off + sz ≤ l.length) (hok : ∀ v ∈ vs, cellOK v = true)
    (hq : ∀ h', Bx h' P (storeL l off vs) → Same1 P h h' → wpD E k ops t0 rest (putT k.size t o.dst undef') ⟨h', nx⟩ Q) : wpD E k ops t0 (.l i late :: rest) t ⟨h, nx⟩ Q :=
  wpD_storeV hoi hw hop b ha hx hs hv ho (allOK_of hok) hq
theorem wpD_appendG {c : Call} {ty u e j b lo : Nat} {d : TypeDesc} {x y : Operand} {z s sv : AVal} {l l' : List AVal} (hoi : opAt ops i = o) (hw : wanted o.guard (backTo t0 late t) ops = .yes) (hop : o.op = .call c)
    (hc : c.callee = .builtin .append) (ht : c.argTypes = #[ty, u]) (hargs : c.args = #[x, y])
    (hu : E.under? ty = some (.slice e)) (hu' : E.under? u = some d) (hd : srcT d = true) (hs : E.size? e = some (j + 1)) (hz : E.zero? e = some z) (hb : E.bytes? e = some b)
    (hx : evalT E.ng (backTo t0 late t) x = s) (hy : evalT E.ng (backTo t0 late t) y = sv) (g : Gro (j + 1) h lo nx s l) (hlo : lo ≤ nx) {P : Nat → Prop} (hsv : SlP (j + 1) h P sv l') (hok : okA b (l.length / (j + 1) + l'.length / (j + 1)) l' = true)
    (hq : ∀ v h' nx', nx ≤ nx' → Gro (j + 1) h' lo nx' v (l ++ l') → Keep lo h h' → wpD E k ops t0 rest (putT k.size t o.dst v) ⟨h', nx'⟩ Q) : wpD E k ops t0 (.l i late :: rest) t ⟨h, nx⟩ Q := by
  obtain ⟨a1, a2, a3⟩ := hsv.1.first (Nat.succ_pos j)
  obtain ⟨v, eff, nx', g1, g2, g3, g4⟩ := ev_appendG (t := backTo t0 late t) (h := h) (nx := nx) hc ht hargs hu hu' hd hs hz hb hx hy g hlo (hsv.mod (Nat.succ_pos j)) a1 a3 (fun _ => hok)
  exact wpD_l hoi hw (by rw [hop]; exact g1) (hq v _ nx' g2 g3 g4)
theorem wpD_alloc {ty : TypeId} {z : AVal} (hoi : opAt ops i = o) (hw : wanted o.guard (backTo t0 late t) ops = .yes) (hop : o.op = .alloc ty) (hz : E.zero? ty = some z)
    (hq : ∀ h', Bx h' nx z.cells → Same1 nx h h' → wpD E k ops t0 rest (putT k.size t o.dst (.ptr nx 0)) ⟨h', nx + 1⟩ Q) : wpD E k ops t0 (.q i late :: rest) t ⟨h, nx⟩ Q :=
  wpD_q hoi hw (by rw [hop]; exact ev_alloc hz) (hq _ (.new (by rw [sx_one, BT.get_put, if_pos rfl])) .put)
theorem wpD_build1 {ty e sz : Nat} {parts : Array (Nat × Operand)} {z v : AVal} {lo : Nat} (hoi : opAt ops i = o) (hw : wanted o.guard (backTo t0 late t) ops = .yes) (hop : o.op = .buildSlice ty 1 parts) (hu : E.under? ty = some (.slice e)) (hs : E.size? e = some sz) (hz : E.zero? e = some z) (hzc : z.cells.length = sz)
    (hp : (parts.toList.map fun p => (p.1, evalT E.ng (backTo t0 late t) p.2)) = [(0, v)]) (hv : v.cells.length = sz) (hb : isBot v = false) (h0 : 0 < sz) (hsz : sz ≤ 1000) (hlo : lo ≤ nx)
    (hq : ∀ h', Gro sz h' lo (nx + 1) (.slice nx 0 1 (.ex 1)) v.cells → Same1 nx h h' → wpD E k ops t0 rest (putT k.size t o.dst (.slice nx 0 1 (.ex 1))) ⟨h', nx + 1⟩ Q) : wpD E k ops t0 (.q i late :: rest) t ⟨h, nx⟩ Q := by
  obtain ⟨cs, h1, h2⟩ := ev_buildSlice1 (t := backTo t0 late t) (h := h) (nx := nx) hu hs hz hzc hp hv hb h0 hsz
  refine wpD_q hoi hw (by rw [hop]; exact h1) (hq _ ?_ .put)
  rw [sx_one]
  exact Gro.built hlo (by omega) h2
theorem wpD_build0 {ty e sz : Nat} {z : AVal} {lo : Nat} (hoi : opAt ops i = o) (hw : wanted o.guard (backTo t0 late t) ops = .yes) (hop : o.op = .buildSlice ty 0 #[]) (hu : E.under? ty = some (.slice e)) (hs : E.size? e = some sz) (hz : E.zero? e = some z) (hlo : lo ≤ nx)
    (hq : ∀ h', Gro sz h' lo (nx + 1) (.slice nx 0 0 (.ex 0)) [] → Same1 nx h h' → wpD E k ops t0 rest (putT k.size t o.dst (.slice nx 0 0 (.ex 0))) ⟨h', nx + 1⟩ Q) : wpD E k ops t0 (.q i late :: rest) t ⟨h, nx⟩ Q :=
  wpD_q hoi hw (by rw [hop]; exact ev_buildSlice0 hu hs hz) (hq _ (.full nx 0 0 false (BT.ofList []) [] hlo (Nat.lt_succ_self _) (by simp) (by rw [sx_one, BT.get_put, if_pos rfl]; rfl) (by omega) (fun i hi => absurd hi (Nat.not_lt_zero i))) .put)
theorem wpD_buildL {ty e n : Nat} {parts : Array (Nat × Operand)} {z : AVal} {vs : List AVal} {lo : Nat} (hoi : opAt ops i = o) (hw : wanted o.guard (backTo t0 late t) ops = .yes) (hop : o.op = .buildSlice ty n parts)
    (hu : E.under? ty = some (.slice e)) (hs : E.size? e = some 1) (hz : E.zero? e = some z) (hzc : z.cells.length = 1)
    (hp : (parts.toList.map fun p => (p.1, evalT E.ng (backTo t0 late t) p.2)) = idx 0 vs) (hn : vs.length = n) (h0 : n ≠ 0) (hb : n ≤ 1000000) (hv : ∀ v ∈ vs, cellOK v = true) (hlo : lo ≤ nx)
    (hq : ∀ h', Gro 1 h' lo (nx + 1) (.slice nx 0 n (.ex n)) vs → Same1 nx h h' → wpD E k ops t0 rest (putT k.size t o.dst (.slice nx 0 n (.ex n))) ⟨h', nx + 1⟩ Q) : wpD E k ops t0 (.q i late :: rest) t ⟨h, nx⟩ Q := by
  obtain ⟨cs, h1, h2⟩ := ev_buildSlice (t := backTo t0 late t) (h := h) (nx := nx) hu hs hz hzc hp hn h0 hb hv
  refine wpD_q hoi hw (by rw [hop]; exact h1) (hq _ ?_ .put)
  rw [sx_one]
  have := Gro.built (sz := 1) (n := n) (h := h) hlo (by omega) h2
  rwa [Nat.mul_one] at this
theorem wpD_cut {P : Nat → Prop} {ty e sz : Nat} {x : Operand} {lo hi : Option Operand} {v : AVal} {l : List AVal} {a b len : Nat} (hoi : opAt ops i = o) (hw : wanted o.guard (backTo t0 late t) ops = .yes) (hop : o.op = .slice ty x lo hi none) (s : SlP sz h P v l) (hsz : 0 < sz) (hu : E.under? ty = some (.slice e)) (hs : E.size? e = some sz) (hx : evalT E.ng (backTo t0 late t) x = v) (hlen : l.length = len * sz)
    (hlo : LoB (lo.map (evalT E.ng (backTo t0 late t))) a) (hhi : HiB (hi.map (evalT E.ng (backTo t0 late t))) b len) (hab : a ≤ b) (hb : b ≤ len)
    (hq : ∀ v', SlP sz h P v' ((l.take (b * sz)).drop (a * sz)) → wpD E k ops t0 rest (putT k.size t o.dst v') ⟨h, nx⟩ Q) : wpD E k ops t0 (.q i late :: rest) t ⟨h, nx⟩ Q := by
  obtain ⟨v', h1, h2⟩ := sl_cutN s hsz hu hs hlen hlo hhi hab hb
  refine wpD_pure hoi hw ?_ (hq v' h2)
  rw [hop]
  show op_slice ⟨E, backTo t0 late t, h, nx⟩ ty x lo hi none = _
  unfold op_slice
  dsimp only
  rw [hx, show (none : Option Operand).map (evalT E.ng (backTo t0 late t)) = none from rfl, h1]; rfl
theorem wpD_index {lo : Nat} {v : AVal} {l : List AVal} {ty e m : Nat} {d : TypeDesc} {x ix : Operand} {j : IntKind} (hoi : opAt ops i = o) (hw : wanted o.guard (backTo t0 late t) ops = .yes) (hop : o.op = .indexAddr ty x ix)
    (s : SlB 1 h lo v l) (hu : E.under? ty = some (.slice e)) (hs : E.size? e = some 1) (hd : E.under? e = some d) (ha : aggD d = false) (hx : evalT E.ng (backTo t0 late t) x = v) (hi : evalT E.ng (backTo t0 late t) ix = .int j (m : Int)) (hlt : m < l.length)
    (hq : ∀ id off, loadAt E h e id off = some l[m] → wpD E k ops t0 rest (putT k.size t o.dst (.ptr id off)) ⟨h, nx⟩ Q) : wpD E k ops t0 (.q i late :: rest) t ⟨h, nx⟩ Q := by
  obtain ⟨id, off, h1, h2⟩ := s.at (t := backTo t0 late t) (nx := nx) hu hs hd ha hx hi hlt
  exact wpD_pure hoi hw (by rw [hop]; exact h1) (hq id off h2)
end
end Go.Ev
end
section
/- What an append leaves as it was; indexes; results in boxes. -/
set_option linter.unusedVariables false
set_option linter.unusedSimpArgs false
set_option linter.unusedSectionVars false
namespace Go.Ev
open Go.RowKit

/-- A slice's object. -/
def sid : AVal → Option Nat
  | .slice id _ _ _ => some id
  | _ => none
section
variable {E : Env} {t : BT AVal} {h h' : Heap} {nx lo hi hi' sz : Nat} {v s : AVal} {l l' : List AVal}
theorem Gro.sid_lt (g : Gro sz h lo hi v l) {i : Nat} (he : sid v = some i) : lo ≤ i ∧ i < hi := by
  cases g with
  | own o =>
    cases o with
    | nil => cases he
    | mk id len cs l h1 h2 hl hg ha => cases he; exact ⟨h1, h2⟩
  | full id len n ro cs l h1 h2 hl hg ho ha => cases he; exact ⟨h1, h2⟩
theorem Own.keepS (o : Own sz h lo hi v l) (hk : ∀ i, sid v = some i → h'.get i = h.get i) (hh : hi ≤ hi') : Own sz h' lo hi' v l := by
  cases o with
  | nil => exact .nil
  | mk id len cs l h1 h2 hl hg ha => exact .mk id len cs l h1 (Nat.lt_of_lt_of_le h2 hh) hl ((hk id rfl).trans hg) ha
theorem Gro.keepS (g : Gro sz h lo hi v l) (hk : ∀ i, sid v = some i → h'.get i = h.get i) (hh : hi ≤ hi') : Gro sz h' lo hi' v l := by
  cases g with
  | own o => exact .own (o.keepS hk hh)
  | full id len n ro cs l h1 h2 hl hg ho ha => exact .full id len n ro cs l h1 (Nat.lt_of_lt_of_le h2 hh) hl ((hk id rfl).trans hg) ho ha
/-- The slice alone, where its object is. -/
theorem Gro.toS (g : Gro sz h lo hi v l) : SlP sz h (fun i => sid v = some i) v l := ⟨g.toP.1, fun id off len cap e => by subst e; rfl⟩
/-- An append leaves all but the slice's object as it was. -/
def Grown (s : AVal) (nx : Nat) (h h' : Heap) : Prop := ∀ i, i < nx → sid s ≠ some i → h'.get i = h.get i
theorem appendV_grown {k b n e nx' : Nat} {z : AVal} {eff : Eff} (hs : E.size? e = some (k + 1)) (hz : E.zero? e = some z) (hb : E.bytes? e = some b) (hsb : simpleV s = true) (ha : appendV E e n l' s h nx = .val v eff nx') : Grown s nx h (applyEff h eff) ∧ (sid v = sid s ∨ sid v = some nx) := by
  rw [appendV_of hs hz hb] at ha
  by_cases hn : n = 0
  · rw [if_pos hn] at ha
    unfold append0 at ha
    cases s <;> cases ha <;> exact ⟨fun i _ _ => rfl, .inl rfl⟩
  · rw [if_neg hn] at ha
    unfold appendN at ha
    cases s with
    | nilslice =>
      dsimp only at ha
      split at ha <;> cases ha
      exact ⟨fun i hi _ => by rw [sx_one, BT.get_put, if_neg (by omega)], .inr rfl⟩
    | slice id off len cap =>
      dsimp only at ha
      split at ha
      · unfold appendS at ha
        split at ha
        · split at ha
          · split at ha
            · split at ha <;> cases ha
              exact ⟨fun i hi hne => by rw [sx_one, BT.get_put, if_neg (fun e => hne (by rw [e]; rfl))], .inl rfl⟩
            · split at ha
              · split at ha <;> cases ha
                exact ⟨fun i hi hne => by rw [sx_one, BT.get_put, if_neg (by omega)], .inr rfl⟩
              · cases ha
          · split at ha
            · split at ha
              · cases ha
                exact ⟨fun i hi hne => by rw [sx_one, BT.get_put, if_neg (fun e => hne (by rw [e]; rfl))], .inl rfl⟩
              · split at ha
                · cases ha
                · split at ha
                  · cases ha
                    exact ⟨fun i hi hne => by rw [sx_two, BT.get_put, if_neg (by omega), BT.get_put, if_neg (fun e => hne (by rw [e]; rfl))], .inr rfl⟩
                  · split at ha <;> cases ha
                    exact ⟨fun i hi hne => by rw [sx_two, BT.get_put, if_neg (by omega), BT.get_put, if_neg (fun e => hne (by rw [e]; rfl))], .inr rfl⟩
            · cases ha
        · cases ha
      · cases ha
    | _ => cases ha
theorem ev_appendX {c : Call} {ty u e k b : Nat} {d : TypeDesc} {x y : Operand} {z sv : AVal} (hc : c.callee = .builtin .append) (ht : c.argTypes = #[ty, u]) (hargs : c.args = #[x, y])
    (hu : E.under? ty = some (.slice e)) (hu' : E.under? u = some d) (hd : srcT d = true) (hs : E.size? e = some (k + 1)) (hz : E.zero? e = some z) (hb : E.bytes? e = some b)
    (hx : evalT E.ng t x = s) (hy : evalT E.ng t y = sv) (g : Gro (k + 1) h lo nx s l) (hlo : lo ≤ nx) (hl' : l'.length = l'.length / (k + 1) * (k + 1))
    (h1 : lenOf sv = some (l'.length / (k + 1))) (h2 : firstOf h (k + 1) (l'.length / (k + 1)) sv = some l') (hok : l'.length / (k + 1) ≠ 0 → okA b (l.length / (k + 1) + l'.length / (k + 1)) l' = true) :
    ∃ v eff nx', evOp ⟨E, t, h, nx⟩ (.call c) = .val v eff nx' ∧ nx ≤ nx' ∧ Gro (k + 1) (applyEff h eff) lo nx' v (l ++ l') ∧ Grown s nx h (applyEff h eff) ∧ (sid v = sid s ∨ sid v = some nx) := by
  have : evOp ⟨E, t, h, nx⟩ (.call c) = appendV E e (l'.length / (k + 1)) l' s h nx := by
    show op_call ⟨E, t, h, nx⟩ c = _
    unfold op_call
    rw [hc]
    dsimp only
    rw [ht, hargs]
    show appendB E ty u (evalT E.ng t x) (evalT E.ng t y) h nx = _
    unfold appendB
    rw [hu, hu', hx, hy]
    cases d with
    | slice e' => dsimp only; rw [show srcT (.slice e') = true from rfl, hs, h1]; dsimp only; rw [h2]
    | string => dsimp only; rw [show srcT .string = true from rfl, hs, h1]; dsimp only; rw [h2]
    | _ => cases hd
  rw [this]
  obtain ⟨v, eff, nx', g1, g2, g3, g4⟩ := append_gro (l' := l') hs hz hb g hl' hlo hok
  obtain ⟨g5, g6⟩ := appendV_grown hs hz hb g.toP.simple g1
  exact ⟨v, eff, nx', g1, g2, g3, g5, g6⟩
/-- A result that lies in a box. -/
theorem res_cell {i ty P : Nat} {v : AVal} (hg : getT t i = .ptr P 0) (hl : loadAt E h ty P 0 = some v) (hb : isBot v = false) : resultsV E h t [.cell i ty] = some [v] := by
  have : t.get i = some (.ptr P 0) := by
    rw [getT_eq] at hg
    cases hx : t.get i with
    | none => rw [hx] at hg; cases hg
    | some w => rw [hx] at hg; rw [show w = _ from hg]
  unfold resultsV
  simp only [this, hl, resultsV]
end
section
variable {E : Env} {k : FK} {ops rest : List Oper} {o : Oper} {t : BT AVal} {h : Heap} {nx : Nat} {Q : BT AVal → D → Prop}
theorem wpO_appendX {c : Call} {ty u e j b lo : Nat} {d : TypeDesc} {x y : Operand} {z s sv : AVal} {l l' : List AVal} (hw : wanted o.guard t ops = .yes) (hop : o.op = .call c)
    (hc : c.callee = .builtin .append) (ht : c.argTypes = #[ty, u]) (hargs : c.args = #[x, y])
    (hu : E.under? ty = some (.slice e)) (hu' : E.under? u = some d) (hd : srcT d = true) (hs : E.size? e = some (j + 1)) (hz : E.zero? e = some z) (hb : E.bytes? e = some b)
    (hx : evalT E.ng t x = s) (hy : evalT E.ng t y = sv) (g : Gro (j + 1) h lo nx s l) (hlo : lo ≤ nx) {P : Nat → Prop} (hsv : SlP (j + 1) h P sv l') (hok : okA b (l.length / (j + 1) + l'.length / (j + 1)) l' = true)
    (hq : ∀ v h' nx', nx ≤ nx' → Gro (j + 1) h' lo nx' v (l ++ l') → Grown s nx h h' → (sid v = sid s ∨ sid v = some nx) → wpO E k ops rest (putT k.size t o.dst v) ⟨h', nx'⟩ Q) : wpO E k ops (o :: rest) t ⟨h, nx⟩ Q := by
  obtain ⟨a1, a2, a3⟩ := hsv.1.first (Nat.succ_pos j)
  obtain ⟨v, eff, nx', g1, g2, g3, g4, g5⟩ := ev_appendX (t := t) (h := h) (nx := nx) hc ht hargs hu hu' hd hs hz hb hx hy g hlo (hsv.mod (Nat.succ_pos j)) a1 a3 (fun _ => hok)
  exact wpO_val hw (by rw [hop]; exact g1) (hq v _ nx' g2 g3 g4 g5)
theorem SlP.at1 {P : Nat → Prop} {v : AVal} {l : List AVal} (s : SlP 1 h P v l) {ty e i : Nat} {d : TypeDesc} {x ix : Operand} {j : IntKind} (hu : E.under? ty = some (.slice e)) (hs : E.size? e = some 1) (hd : E.under? e = some d) (ha : aggD d = false) (hx : evalT E.ng t x = v) (hi : evalT E.ng t ix = .int j (i : Int)) (hlt : i < l.length) :
    ∃ id off, evOp ⟨E, t, h, nx⟩ (.indexAddr ty x ix) = .val (.ptr id off) [] nx ∧ loadAt E h e id off = some l[i] := by
  obtain ⟨s, _⟩ := s
  cases s with
  | nil => simp at hlt
  | em => simp at hlt
  | mk id off len cap ro n cs l hl hcap hg ho hc =>
    refine ⟨id, off + (i : Int).toNat * 1, opIndex hu hs hx hi (by omega) (by simp; omega), ?_⟩
    rw [Int.toNat_natCast, Nat.mul_one]
    exact loadAt_cell hd ha hg (by omega) (hc i hlt)
theorem wpO_index1 {P : Nat → Prop} {v : AVal} {l : List AVal} {ty e i : Nat} {d : TypeDesc} {x ix : Operand} {j : IntKind} (hw : wanted o.guard t ops = .yes) (hop : o.op = .indexAddr ty x ix)
    (s : SlP 1 h P v l) (hu : E.under? ty = some (.slice e)) (hs : E.size? e = some 1) (hd : E.under? e = some d) (ha : aggD d = false) (hx : evalT E.ng t x = v) (hi : evalT E.ng t ix = .int j (i : Int)) (hlt : i < l.length)
    (hq : ∀ id off, loadAt E h e id off = some l[i] → wpO E k ops rest (putT k.size t o.dst (.ptr id off)) ⟨h, nx⟩ Q) : wpO E k ops (o :: rest) t ⟨h, nx⟩ Q := by
  obtain ⟨id, off, h1, h2⟩ := s.at1 (nx := nx) hu hs hd ha hx hi hlt
  exact wpO_pure hw (by rw [hop]; exact h1) (hq id off h2)
end
section
variable {E : Env} {k : FK} {ops : List Oper} {rest : List PL} {o : Oper} {t0 t : BT AVal} {h : Heap} {nx i : Nat} {late : List Nat} {Q : BT AVal → D → Prop}
theorem wpD_appendX {c : Call} {ty u e j b lo : Nat} {d : TypeDesc} {x y : Operand} {z s sv : AVal} {l l' : List AVal} (hoi : opAt ops i = o) (hw : wanted o.guard (backTo t0 late t) ops = .yes) (hop : o.op = .call c)
    (hc : c.callee = .builtin .append) (ht : c.argTypes = #[ty, u]) (hargs : c.args = #[x, y])
    (hu : E.under? ty = some (.slice e)) (hu' : E.under? u = some d) (hd : srcT d = true) (hs : E.size? e = some (j + 1)) (hz : E.zero? e = some z) (hb : E.bytes? e = some b)
    (hx : evalT E.ng (backTo t0 late t) x = s) (hy : evalT E.ng (backTo t0 late t) y = sv) (g : Gro (j + 1) h lo nx s l) (hlo : lo ≤ nx) {P : Nat → Prop} (hsv : SlP (j + 1) h P sv l') (hok : okA b (l.length / (j + 1) + l'.length / (j + 1)) l' = true)
    (hq : ∀ v h' nx', nx ≤ nx' → Gro (j + 1) h' lo nx' v (l ++ l') → Grown s nx h h' → (sid v = sid s ∨ sid v = some nx) → wpD E k ops t0 rest (putT k.size t o.dst v) ⟨h', nx'⟩ Q) : wpD E k ops t0 (.l i late :: rest) t ⟨h, nx⟩ Q := by
  obtain ⟨a1, a2, a3⟩ := hsv.1.first (Nat.succ_pos j)
  obtain ⟨v, eff, nx', g1, g2, g3, g4, g5⟩ := ev_appendX (t := backTo t0 late t) (h := h) (nx := nx) hc ht hargs hu hu' hd hs hz hb hx hy g hlo (hsv.mod (Nat.succ_pos j)) a1 a3 (fun _ => hok)
  exact wpD_l hoi hw (by rw [hop]; exact g1) (hq v _ nx' g2 g3 g4 g5)
theorem wpD_index1 {P : Nat → Prop} {v : AVal} {l : List AVal} {ty e m : Nat} {d : TypeDesc} {x ix : Operand} {j : IntKind} (hoi : opAt ops i = o) (hw : wanted o.guard (backTo t0 late t) ops = .yes) (hop : o.op = .indexAddr ty x ix)
    (s : SlP 1 h P v l) (hu : E.under? ty = some (.slice e)) (hs : E.size? e = some 1) (hd : E.under? e = some d) (ha : aggD d = false) (hx : evalT E.ng (backTo t0 late t) x = v) (hi : evalT E.ng (backTo t0 late t) ix = .int j (m : Int)) (hlt : m < l.length)
    (hq : ∀ id off, loadAt E h e id off = some l[m] → wpD E k ops t0 rest (putT k.size t o.dst (.ptr id off)) ⟨h, nx⟩ Q) : wpD E k ops t0 (.q i late :: rest) t ⟨h, nx⟩ Q := by
  obtain ⟨id, off, h1, h2⟩ := s.at1 (t := backTo t0 late t) (nx := nx) hu hs hd ha hx hi hlt
  exact wpD_pure hoi hw (by rw [hop]; exact h1) (hq id off h2)
end

/-! ### Conditions -/
inductive Tr where
  | mk (op : Int) (name : List Nat) (n m : Int) (s : List Nat) (subs : List Tr)
mutual
/-- A condition's cells. -/
def Pc (h : Heap) (P : Nat → Prop) : Tr → List AVal → Prop
  | .mk op name n m s subs, c => ∃ v l, c = [.int .i64 op, .str name, .int .i64 n, .int .i64 m, .str s, v] ∧ SlP 6 h P v l ∧ PcL h P subs l
def PcL (h : Heap) (P : Nat → Prop) : List Tr → List AVal → Prop
  | [], l => l = []
  | t :: ts, l => ∃ a b, l = a ++ b ∧ Pc h P t a ∧ PcL h P ts b
end
mutual
theorem Pc.keep {h h' : Heap} {P : Nat → Prop} (hk : KeepP P h h') : ∀ (t : Tr) (c : List AVal), Pc h P t c → Pc h' P t c
  | .mk op name n m s subs, c, hp => by
    rw [Pc] at hp ⊢
    obtain ⟨v, l, h1, h2, h3⟩ := hp
    exact ⟨v, l, h1, h2.keep hk, PcL.keep hk subs l h3⟩
theorem PcL.keep {h h' : Heap} {P : Nat → Prop} (hk : KeepP P h h') : ∀ (ts : List Tr) (l : List AVal), PcL h P ts l → PcL h' P ts l
  | [], l, hp => by rw [PcL] at hp ⊢; exact hp
  | t :: ts, l, hp => by
    rw [PcL] at hp ⊢
    obtain ⟨a, b, h1, h2, h3⟩ := hp
    exact ⟨a, b, h1, Pc.keep hk t a h2, PcL.keep hk ts b h3⟩
end
mutual
theorem Pc.mono {h : Heap} {P P' : Nat → Prop} (hk : ∀ i, P i → P' i) : ∀ (t : Tr) (c : List AVal), Pc h P t c → Pc h P' t c
  | .mk op name n m s subs, c, hp => by
    rw [Pc] at hp ⊢
    obtain ⟨v, l, h1, h2, h3⟩ := hp
    exact ⟨v, l, h1, h2.mono hk, PcL.mono hk subs l h3⟩
theorem PcL.mono {h : Heap} {P P' : Nat → Prop} (hk : ∀ i, P i → P' i) : ∀ (ts : List Tr) (l : List AVal), PcL h P ts l → PcL h P' ts l
  | [], l, hp => by rw [PcL] at hp ⊢; exact hp
  | t :: ts, l, hp => by
    rw [PcL] at hp ⊢
    obtain ⟨a, b, h1, h2, h3⟩ := hp
    exact ⟨a, b, h1, Pc.mono hk t a h2, PcL.mono hk ts b h3⟩
end
section
variable {h : Heap} {P : Nat → Prop}
theorem Pc.len {t : Tr} {c : List AVal} (hp : Pc h P t c) : c.length = 6 := by
  cases t
  rw [Pc] at hp
  obtain ⟨v, l, h1, _⟩ := hp
  rw [h1]; rfl
theorem Pc.cells {t : Tr} {c : List AVal} (hp : Pc h P t c) : ∀ v ∈ c, cellOK v = true := by
  cases t
  rw [Pc] at hp
  obtain ⟨v, l, h1, h2, _⟩ := hp
  have := h2.cellOK
  subst h1
  intro w hw
  simp only [List.mem_cons, List.not_mem_nil, or_false] at hw
  rcases hw with rfl | rfl | rfl | rfl | rfl | rfl <;> first | rfl | exact this
theorem Pc.simple {t : Tr} {c : List AVal} (hp : Pc h P t c) : ∀ v ∈ c, simpleV v = true := by
  cases t
  rw [Pc] at hp
  obtain ⟨v, l, h1, h2, _⟩ := hp
  have := h2.simple
  subst h1
  intro w hw
  simp only [List.mem_cons, List.not_mem_nil, or_false] at hw
  rcases hw with rfl | rfl | rfl | rfl | rfl | rfl <;> first | rfl | exact this
theorem PcL.len : ∀ {ts : List Tr} {l : List AVal}, PcL h P ts l → l.length = ts.length * 6
  | [], l, hp => by rw [PcL] at hp; subst hp; rfl
  | t :: ts, l, hp => by
    rw [PcL] at hp
    obtain ⟨a, b, h1, h2, h3⟩ := hp
    have := h2.len
    have := h3.len
    subst h1
    simp only [List.length_append, List.length_cons]; omega
theorem PcL.cells : ∀ {ts : List Tr} {l : List AVal}, PcL h P ts l → ∀ v ∈ l, cellOK v = true
  | [], l, hp => by rw [PcL] at hp; subst hp; simp
  | t :: ts, l, hp => by
    rw [PcL] at hp
    obtain ⟨a, b, h1, h2, h3⟩ := hp
    subst h1
    intro v hv
    rcases List.mem_append.1 hv with hv | hv
    · exact h2.cells v hv
    · exact h3.cells v hv
theorem PcL.app : ∀ {ts us : List Tr} {l m : List AVal}, PcL h P ts l → PcL h P us m → PcL h P (ts ++ us) (l ++ m)
  | [], us, l, m, hp, hq => by rw [PcL] at hp; subst hp; exact hq
  | t :: ts, us, l, m, hp, hq => by
    rw [PcL] at hp
    obtain ⟨a, b, h1, h2, h3⟩ := hp
    rw [List.cons_append, PcL]
    exact ⟨a, b ++ m, by rw [h1, List.append_assoc], h2, h3.app hq⟩
theorem PcL.one {t : Tr} {c : List AVal} (hp : Pc h P t c) : PcL h P [t] c := by
  rw [PcL]
  exact ⟨c, [], by simp, hp, by rw [PcL]⟩
theorem PcL.at : ∀ {ts : List Tr} {l : List AVal} {i : Nat} (hi : i < ts.length), PcL h P ts l → Pc h P ts[i] ((l.drop (i * 6)).take 6)
  | t :: ts, l, 0, hi, hp => by
    rw [PcL] at hp
    obtain ⟨a, b, h1, h2, h3⟩ := hp
    subst h1
    rw [Nat.zero_mul, List.drop_zero, List.take_left' h2.len]
    exact h2
  | t :: ts, l, i + 1, hi, hp => by
    rw [PcL] at hp
    obtain ⟨a, b, h1, h2, h3⟩ := hp
    subst h1
    have := h3.at (i := i) (by simpa using hi)
    have e : (i + 1) * 6 = a.length + i * 6 := by rw [h2.len]; omega
    rw [e, ← List.drop_drop, List.drop_left' rfl]
    exact this
theorem PcL.take : ∀ {ts : List Tr} {l : List AVal} (k : Nat), PcL h P ts l → PcL h P (ts.take k) (l.take (k * 6))
  | ts, l, 0, hp => by simp [PcL]
  | [], l, k + 1, hp => by rw [PcL] at hp; subst hp; simp [PcL]
  | t :: ts, l, k + 1, hp => by
    rw [PcL] at hp
    obtain ⟨a, b, h1, h2, h3⟩ := hp
    subst h1
    rw [List.take_succ_cons, PcL]
    refine ⟨a, b.take (k * 6), ?_, h2, h3.take k⟩
    rw [show (k + 1) * 6 = a.length + k * 6 by rw [h2.len]; omega, List.take_length_add_append]
end
end Go.Ev
end
section
/- Ranges over functions. -/
set_option linter.unusedVariables false
set_option linter.unusedSimpArgs false
set_option linter.unusedSectionVars false
namespace Go.Ev
open Go.RowKit

section
variable {E : Env} {k : FK} {ops rest : List Oper} {o : Oper} {t : BT AVal} {h : Heap} {nx : Nat} {Q : BT AVal → D → Prop}
theorem wpO_round {l : Nat} {args : List AVal} {r : ALoop} (hw : wanted o.guard t ops = .yes) (he : evOp ⟨E, t, h, nx⟩ o.op = .round l args) (hl : h.get l = some (.loop r)) (hp : r.params.length = args.length)
    {Q' : AVal → D → Prop} (hc : RC E r l args ⟨h, nx⟩ Q') (hn : ∀ v d', Q' v d' → wpO E k ops rest (putT k.size t o.dst v) d' Q) : wpO E k ops (o :: rest) t ⟨h, nx⟩ Q := by
  unfold wpO
  rw [hw]
  dsimp only
  rw [he]
  dsimp only
  refine ⟨r, hl, hp, fun c cs => ?_⟩
  obtain ⟨v, d', q, rr⟩ := hc c cs
  exact ⟨v, d', hn v d' q, rr⟩
@[go_sem] theorem invokeFn_y (l : Nat) (args : List AVal) : invokeFn (.yield l) [] [] args = .round l args := rfl
@[go_sem] theorem ev_makeFunc (f : Nat) (first cap : Array Operand) : evOp ⟨E, t, h, nx⟩ (.makeFunc (.func f) first cap) = .val (.func (.func f) (first.toList.map (evalT E.ng t)) (cap.toList.map (evalT E.ng t))) [] nx := rfl
/-- A round: the assignment, then the body. -/
theorem RC.of_wp {fn size : Nat} {tm : BT AVal} {ps : List Nat} {as body : Code} {x l : Nat} {args : List AVal} {d : D} {Q : AVal → D → Prop}
    (ha : wpA E ⟨fn, size, [], .normal, some l⟩ as (setParams size tm ps args) d (fun o t1 d1 => o = .norm ∧ d1.h.get l = some (.loop ⟨.ready, none, fn, size, tm, ps, as, body, x⟩) ∧
      wpA E ⟨fn, size, [], .normal, some l⟩ body t1 ⟨d1.h.set l (.loop ⟨.busy, none, fn, size, tm, ps, as, body, x⟩), d1.nx⟩ (fun o t2 d2 => o = .norm ∧ d2.h.get l = some (.loop ⟨.busy, none, fn, size, tm, ps, as, body, x⟩) ∧
        Q (.bool true) ⟨d2.h.set l (.loop ⟨.ready, none, fn, size, tm, ps, as, body, x⟩), d2.nx⟩))) : RC E ⟨.ready, none, fn, size, tm, ps, as, body, x⟩ l args d Q := by
  intro c cs
  obtain ⟨o, t1, d1, ⟨rfl, hl1, hb⟩, r1⟩ := ha [.beginRound, .code body] (c :: cs)
  obtain ⟨o, t2, d2, ⟨rfl, hl2, hq⟩, r2⟩ := hb [] (c :: cs)
  refine ⟨_, _, hq, Reach.trans r1 (Reach.head ?_ (Reach.trans r2 (Reach.one ?_)))⟩
  · show beginRoundR ⟨E, ⟨fn, size, [], .normal, some l⟩, t1, c :: cs, d1⟩ [.code body] = _
    unfold beginRoundR
    dsimp only
    rw [hl1]
    rfl
  · show leave ⟨fn, size, [], .normal, some l⟩ t2 (c :: cs) d2 [] none = _
    unfold leave
    dsimp only
    rw [hl2]
    rfl
theorem RC.of_wp' {fn size : Nat} {tm : BT AVal} {ps : List Nat} {as body : Code} {x l : Nat} {args : List AVal} {d : D} {Q : AVal → D → Prop} {r0 : ALoop} (hr : r0 = ⟨.ready, none, fn, size, tm, ps, as, body, x⟩)
    (h : ∀ lb, wpA E ⟨fn, size, [], .normal, some l⟩ as (setParams size tm ps args) d (fun o t1 d1 => o = .norm ∧ d1.h.get l = some (.loop r0) ∧
      wpA E ⟨fn, size, [], .normal, some l⟩ body t1 ⟨d1.h.set l lb, d1.nx⟩ (fun o t2 d2 => o = .norm ∧ d2.h.get l = some lb ∧ Q (.bool true) ⟨d2.h.set l (.loop r0), d2.nx⟩))) : RC E r0 l args d Q := by
  subst hr
  exact RC.of_wp (h _)
end

/-! ### Frames that a range leaves -/
/-- What is left to do comes to the function's end. -/
def Gs (E : Env) (f : FuncId) (fn : Func) (Q : AVal → D → Prop) (cs : List AFrame) (k : FK) (td : List AItem) (t : BT AVal) (d : D) : Prop :=
  ∃ size td' t' d' vs, Reach E ⟨⟨k, .run, td, t⟩, cs, d⟩ ⟨⟨⟨f, size, [], .normal, none⟩, .returning, td', t'⟩, cs, d'⟩ ∧ resultsV E d'.h t' fn.results.toList = some vs ∧ Q (ret1 vs) d'
section
variable {E : Env} {f : FuncId} {fn : Func} {Q : AVal → D → Prop} {cs : List AFrame} {k : FK} {td : List AItem} {t : BT AVal} {d : D}
theorem Gs.head {td' : List AItem} {t' : BT AVal} {d' : D} {k' : FK} (h : Reach E ⟨⟨k, .run, td, t⟩, cs, d⟩ ⟨⟨k', .run, td', t'⟩, cs, d'⟩) (g : Gs E f fn Q cs k' td' t' d') : Gs E f fn Q cs k td t d :=
  let ⟨size, td2, t2, d2, vs, r, h1, h2⟩ := g
  ⟨size, td2, t2, d2, vs, h.trans r, h1, h2⟩
theorem Gs.seq {a b : Code} (g : Gs E f fn Q cs k (.code a :: .code b :: td) t d) : Gs E f fn Q cs k (.code (.seq a b) :: td) t d := g.head (.one rfl)
theorem Gs.block {id : Nat} {a : Code} (g : Gs E f fn Q cs k (.code a :: .inBlock id :: td) t d) : Gs E f fn Q cs k (.code (.block id a) :: td) t d := g.head (.one rfl)
theorem Gs.inBlock {id : Nat} (g : Gs E f fn Q cs k td t d) : Gs E f fn Q cs k (.inBlock id :: td) t d := g.head (.one rfl)
theorem Gs.wp {a : Code} (h : wpA E k a t d (fun o t' d' => o = .norm ∧ Gs E f fn Q cs k td t' d')) : Gs E f fn Q cs k (.code a :: td) t d := by
  obtain ⟨o, t', d', ⟨rfl, g⟩, r⟩ := h td cs
  exact g.head r
/-- The loop itself. -/
theorem Gs.range {fu size : Nat} {fop : Operand} {ps : Array Tmp} {as body : Code} {fid : Nat} {first cap : List AVal} {h : Heap} {nx : Nat} {Q' : AVal → D → Prop} (hf : evalT E.ng t fop = .func (.func fid) first cap)
    (hc : AC E fid (first ++ [.func (.yield (nx + 1)) [] []] ++ cap) ⟨(h.set nx (.deferred (some []))).set (nx + 1) (.loop ⟨.ready, none, fu, size, t, ps.toList, as, body, nx⟩), nx + 2⟩ Q')
    (hq : ∀ v d', Q' v d' → d'.h.get (nx + 1) = some (.loop ⟨.ready, none, fu, size, t, ps.toList, as, body, nx⟩) ∧
      Gs E f fn Q cs ⟨fu, size, [.coll nx], .normal, none⟩ td t ⟨d'.h.set (nx + 1) (.loop ⟨.exhausted, none, fu, size, t, ps.toList, as, body, nx⟩), d'.nx⟩) :
    Gs E f fn Q cs ⟨fu, size, [], .normal, none⟩ (.code (.rangeFunc fop ps as body) :: td) t ⟨h, nx⟩ := by
  obtain ⟨fr, h1, h2⟩ := AC.call hc
  obtain ⟨v, d', q, r⟩ := h2 ⟨⟨fu, size, [.coll nx], .normal, none⟩, .run, .inRangeFunc (nx + 1) :: td, t⟩ cs
  obtain ⟨q1, q2⟩ := hq v d' q
  refine q2.head (Reach.head (s1 := ⟨fr, ⟨⟨fu, size, [.coll nx], .normal, none⟩, .run, .inRangeFunc (nx + 1) :: td, t⟩ :: cs, ⟨(h.set nx (.deferred (some []))).set (nx + 1) (.loop ⟨.ready, none, fu, size, t, ps.toList, as, body, nx⟩), nx + 2⟩⟩) ?_ (r.trans (Reach.one ?_)))
  · show enterRange E ⟨fu, size, [], .normal, none⟩ t cs ⟨h, nx⟩ ps as body td (evalT E.ng t fop) = _
    rw [hf]
    unfold enterRange
    dsimp only
    rw [h1]; rfl
  · show endR ⟨E, ⟨fu, size, [.coll nx], .normal, none⟩, t, cs, d'⟩ td (nx + 1) (d'.h.get (nx + 1)) = _
    rw [q1]; rfl
theorem Gs.range' {fu size : Nat} {fop : Operand} {ps : Array Tmp} {as body : Code} {fid : Nat} {first cap : List AVal} {h : Heap} {nx : Nat} (hf : evalT E.ng t fop = .func (.func fid) first cap)
    (hh : ∀ r0 : ALoop, r0 = ⟨.ready, none, fu, size, t, ps.toList, as, body, nx⟩ → ∃ Q' : AVal → D → Prop, AC E fid (first ++ [.func (.yield (nx + 1)) [] []] ++ cap) ⟨(h.set nx (.deferred (some []))).set (nx + 1) (.loop r0), nx + 2⟩ Q' ∧
      ∀ v d', Q' v d' → d'.h.get (nx + 1) = some (.loop r0) ∧ ∀ o, Gs E f fn Q cs ⟨fu, size, [.coll nx], .normal, none⟩ td t ⟨d'.h.set (nx + 1) o, d'.nx⟩) :
    Gs E f fn Q cs ⟨fu, size, [], .normal, none⟩ (.code (.rangeFunc fop ps as body) :: td) t ⟨h, nx⟩ := by
  obtain ⟨Q', h1, h2⟩ := hh _ rfl
  exact Gs.range hf h1 fun v d' q => ⟨(h2 v d' q).1, (h2 v d' q).2 _⟩
/-- The end: what the loop has deferred (nothing) is taken. -/
theorem Gs.ends {size x : Nat} {a : Code} (hfn : fn.results.toList = fn.results.toList)
    (h : wpA E ⟨f, size, [.coll x], .normal, none⟩ a t d (fun o t' d' => (o = .norm ∨ o = .ret) ∧ d'.h.get x = some (.deferred (some [])) ∧ ∃ vs, resultsV E (d'.h.set x (.deferred none)) t' fn.results.toList = some vs ∧ Q (ret1 vs) ⟨d'.h.set x (.deferred none), d'.nx⟩)) : Gs E f fn Q cs ⟨f, size, [.coll x], .normal, none⟩ [.code a] t d := by
  obtain ⟨o, t', d', ⟨ho, g1, vs, g2, g3⟩, r⟩ := h [] cs
  have hstep : ∀ td', stepA E ⟨⟨⟨f, size, [.coll x], .normal, none⟩, .returning, td', t'⟩, cs, d'⟩ = .next ⟨⟨⟨f, size, [], .normal, none⟩, .returning, td', t'⟩, cs, ⟨d'.h.set x (.deferred none), d'.nx⟩⟩ := fun td' => by
    show unwindD E ⟨⟨f, size, [.coll x], .normal, none⟩, .returning, td', t'⟩ cs d' [] (.coll x) = _
    unfold unwindD
    dsimp only
    rw [g1]; rfl
  rcases ho with rfl | rfl
  · refine ⟨size, [], t', _, vs, Reach.trans r (Reach.head (s1 := ⟨⟨⟨f, size, [.coll x], .normal, none⟩, .returning, [], t'⟩, cs, d'⟩) rfl (Reach.one (hstep []))), g2, g3⟩
  · obtain ⟨td', r⟩ := r
    exact ⟨size, td', t', _, vs, Reach.trans r (Reach.one (hstep td')), g2, g3⟩
theorem AC.of_Gs {c : Code} {args : List AVal} {size : Nat} (hf : E.fns.get f = some fn) (hb : fn.body = some c) (hs : fn.ntmps + (args.length - fn.ntmps) = size)
    (h : ∀ cs, Gs E f fn Q cs ⟨f, size, [], .normal, none⟩ [.code c] (BT.ofList args) d) : AC E f args d Q := by
  subst hs
  exact ⟨_, fn, by unfold enterF; rw [hf]; dsimp only; rw [hb], hf, fun cs => h cs⟩
end
end Go.Ev
end
