/- The abstract machine of this proof: a deterministic reading of the model's code, and that it says what the model does. -/
import Derived.Test.YtedlbliofaomhaaGreatDoorMachine5
import Derived.RangeFuncNested
import Derived.KernelRfl
import Derived.Attr
set_option linter.all false
section
/- The machine: a step; the whole run. -/
set_option linter.unusedVariables false
set_option linter.unusedSimpArgs false
set_option linter.unusedSectionVars false
namespace Go.Ev
open Go.RowKit

theorem specR_np {fr : AFrame} {cs : List AFrame} {d : D} {r : OpR} : (∃ s, specR fr cs d r = .next s) ∨ ∃ w, specR fr cs d r = .stuck w := by
  cases r with
  | val v e n => exact .inl ⟨_, rfl⟩
  | _ => exact .inr ⟨_, rfl⟩
theorem nextO_np {cs : List AFrame} {d : D} {o : Option AFrame} : (∃ s, nextO cs d o = .next s) ∨ ∃ w, nextO cs d o = .stuck w := by
  cases o with
  | none => exact .inr ⟨_, rfl⟩
  | some g => exact .inl ⟨_, rfl⟩
theorem applyR_np {E : Env} {fr : AFrame} {cs : List AFrame} {d : D} {r : OpR} (hr : ∀ l, r ≠ .choose l) : (∃ s, applyR E fr cs d r = .next s) ∨ ∃ w, applyR E fr cs d r = .stuck w := by
  cases r with
  | choose l => exact absurd rfl (hr l)
  | val v e n => exact .inl ⟨_, rfl⟩
  | enter f args =>
    unfold applyR
    dsimp only
    cases E.specs.get f with
    | none => exact nextO_np
    | some sp => exact specR_np
  | round l args =>
    unfold applyR
    dsimp only
    unfold enterRound
    split
    · cases Nat.beq _ _ with
      | true => exact .inl ⟨_, rfl⟩
      | false => exact .inr ⟨_, rfl⟩
    · exact .inr ⟨_, rfl⟩
  | defer x =>
    unfold applyR
    dsimp only
    split
    · exact .inl ⟨_, rfl⟩
    · exact .inr ⟨_, rfl⟩
  | recover =>
    unfold applyR
    dsimp only
    split
    · unfold doRecover
      split
      · exact .inl ⟨_, rfl⟩
      · exact .inl ⟨_, rfl⟩
      · exact .inl ⟨_, rfl⟩
      · exact .inr ⟨_, rfl⟩
    · exact .inr ⟨_, rfl⟩
  | panic v => exact .inl ⟨_, rfl⟩
  | stuck w => exact .inr ⟨_, rfl⟩
theorem applyR_nd {E : Env} {fr : AFrame} {cs : List AFrame} {d : D} {r : OpR} (v : AVal) (s : S) : applyR E fr cs d r ≠ .done v s := by
  intro e
  by_cases hr : ∃ l, r = .choose l
  · obtain ⟨l, rfl⟩ := hr; cases e
  · rcases applyR_np (E := E) (fr := fr) (cs := cs) (d := d) (r := r) (fun l h => hr ⟨l, h⟩) with ⟨s, hs⟩ | ⟨w, hs⟩ <;> (rw [hs] at e; cases e)

section
variable {E : Env} {P : Program} (hM : MachOK E P) {w0 : World} {B : Nat} {base : List Frame} {φ : Phi} {h : Heap} {nx lo : Nat} {cs : List AFrame} {cs' : List Frame} {w : World} {s' : S}
include hM

omit hM in
theorem UOut.steps {fr fr2 : Frame} {cs2 : List Frame} {φ2 : Phi} {w2 : World} (q : QExt B φ φ2) (s : Steps P (lone fr cs' w) (lone fr2 cs2 w2)) {r : R} (hd : ∀ v s', r ≠ .done v s') (o : UOut E P w0 B base φ2 fr2 cs2 w2 r) : UOut E P w0 B base φ fr cs' w r := by
  cases o with
  | next s' hh =>
    obtain ⟨φ', fr', cs'', w', g0, g1, g2⟩ := hh
    exact .next s' ⟨φ', fr', cs'', w', q.trans g0, s.trans g1, g2⟩
  | done v s' _ _ _ _ _ _ => exact absurd rfl (hd v s')
  | panicked c => exact .panicked c
  | branch l hh =>
    obtain ⟨s', hm, φ', fr', cs'', w', g0, g1, g2⟩ := hh
    exact .branch l ⟨s', hm, φ', fr', cs'', w', q.trans g0, s.trans g1, g2⟩
  | stuck why => exact .stuck why

theorem applyR_out {k : FK} {todo : List AItem} {t : BT AVal} {T : Array Value} {ds : List Deferred} {kd : CallKind} {ro : Option Nat}
    {ops : Array Oper} {i : Nat} {is : List Nat} {o : Oper} {kk : List Item} {r : OpR}
    (R : Rep w0 φ h nx w) (G : GlobOK E.ng φ) (hlo : lo ≤ nx) (hw : WRel E φ h nx lo k.size todo t (.inRegion ops (i :: is) :: kk) T) (hk : KRel φ k (F k.fn T (.inRegion ops (i :: is) :: kk) ds kd ro)) (C : FsRel E φ h B base k.kind lo cs cs')
    (ho : ops[i]? = some o) (hwt : Region.wanted o (yielded ops T) = true) (hop : OpOK P w0 φ h nx w (execOp (F k.fn T (.inRegion ops (i :: is) :: kk) ds kd ro).eval o) r)
    (hp : ∀ c, o.op = .defer c → (∃ d, r = .defer d) ∨ ∃ s, r = .stuck s) : UOut E P w0 B base φ (F k.fn T (.inRegion ops (i :: is) :: kk) ds kd ro) cs' w (applyR E ⟨k, .run, todo, t⟩ cs ⟨h, nx⟩ r) := by
  by_cases hr : ∃ l, r = .choose l
  · obtain ⟨l, rfl⟩ := hr
    exact .branch _ (applyR_branch hM G hlo hw hk C ho hwt hop hp)
  · rcases applyR_np (E := E) (fr := ⟨k, .run, todo, t⟩) (cs := cs) (d := ⟨h, nx⟩) (r := r) (fun l h => hr ⟨l, h⟩) with ⟨s, hs⟩ | ⟨why, hs⟩
    · rw [hs]; exact .next s (applyR_sound hM R G hlo hw hk C ho hwt hop hp hs)
    · rw [hs]; exact .stuck why

omit hM in
theorem goS_out {k : FK} {t : BT AVal} {td : List AItem} {td' : List Item} {T : Array Value} {ds : List Deferred} {kd : CallKind} {ro : Option Nat} {fr : Frame} {T0 : Array Value} {td0 : List Item}
    (R : Rep w0 φ h nx w) (G : GlobOK E.ng φ) (hlo : lo ≤ nx) (ht : TRel φ k.size t T) (htd : TdRel φ td td') (hk : KRel φ k (F k.fn T0 td0 ds kd ro)) (C : FsRel E φ h B base k.kind lo cs cs') {φ0 : Phi} {w1 : World} (q : QExt B φ0 φ) (hs : Steps P (lone fr cs' w1) (lone (F k.fn T td' ds kd ro) cs' w)) :
    UOut E P w0 B base φ0 fr cs' w1 (goS k t cs ⟨h, nx⟩ td) :=
  .next _ ⟨φ, _, cs', w, q, hs, R, G, lo, hlo, .run k td t td' T ds kd ro ⟨hk.fn, hk.defers, hk.kind, hk.ro⟩ (.plain _ _ _ _ ht htd), C⟩

omit hM in
theorem KRel.to {k : FK} {T T' : Array Value} {td td' : List Item} {ds : List Deferred} {kd : CallKind} {ro : Option Nat} (hk : KRel φ k (F k.fn T td ds kd ro)) : KRel φ k (F k.fn T' td' ds kd ro) := ⟨hk.fn, hk.defers, hk.kind, hk.ro⟩

/-- A region in the text's order. -/
theorem region_out {k : FK} {t : BT AVal} {td : List AItem} {td' : List Item} {T : Array Value} {ds : List Deferred} {kd : CallKind} {ro : Option Nat} {ops : Array Oper} {todo : List Oper} {is : List Nat} {fr : Frame} {w1 : World} {T0 : Array Value} {td0 : List Item}
    (R : Rep w0 φ h nx w) (G : GlobOK E.ng φ) (hlo : lo ≤ nx) (ht : TRel φ k.size t T) (htd : TdRel φ td td') (hk : KRel φ k (F k.fn T0 td0 ds kd ro)) (C : FsRel E φ h B base k.kind lo cs cs') (his : IsRel ops is todo) {φ0 : Phi} (q : QExt B φ0 φ)
    (hs : Steps P (lone fr cs' w1) (lone (F k.fn T (.inRegion ops is :: td') ds kd ro) cs' w)) :
    UOut E P w0 B base φ0 fr cs' w1 (regionR E k cs ops.toList td (runOps E ops.toList k.size todo t h nx)) := by
  obtain ⟨φ', T', k', w', s1, X, hr⟩ := runOps_sound (f := k.fn) (k := td') (ds := ds) (kd := kd) (ro := ro) (cs := cs') hM.env todo is φ t h nx T w his G R ht
  have X' : ExtB nx φ h φ' (runOps E ops.toList k.size todo t h nx).h := ⟨X.le, fun id a b => X.ph id b a⟩
  have hnx := X.nxle
  have q' := q.trans (X'.q (Nat.le_trans C.bound hlo))
  generalize runOps E ops.toList k.size todo t h nx = ro' at *
  cases hr with
  | fin t2 h2 nx2 R2 ht2 => exact goS_out R2 (G.mono X'.le) (Nat.le_trans hlo hnx) ht2 (htd.mono X'.le) (hk.mono X'.le) (C.mono (X'.sub hlo) (Nat.le_refl _)) q' (hs.trans s1)
  | «at» o rest i is2 t2 h2 nx2 r R2 ht2 ho his2 hw hr2 hev =>
    refine UOut.steps q' (hs.trans s1) (fun v s' e => ?_) (applyR_out hM R2 (G.mono X'.le) (Nat.le_trans hlo hnx) (.plain _ _ _ _ ht2 (.cons (.inRegion ops (o :: rest) (i :: is2) ?_) (htd.mono X'.le))) (hk.mono X'.le).to (C.mono (X'.sub hlo) (Nat.le_refl _)) ho hw hr2 (fun c hc => ?_))
    · exact applyR_nd v s' (show applyR E ⟨k, .run, .inRegion ops.toList (o :: rest) :: td, t2⟩ cs ⟨h2, nx2⟩ r = .done v s' from e)
    · show (i :: is2).map _ = (o :: rest).map some
      rw [List.map_cons, List.map_cons, ho]
      exact congrArg _ his2
    · rw [hev, hc]; exact defer_shape
  | stuck rest t2 h2 nx2 why k2 => exact .stuck why

/-- A region that draws its order. -/
theorem drawn_out {k : FK} {t0 : BT AVal} {td : List AItem} {td' : List Item} {T : Array Value} {ds : List Deferred} {kd : CallKind} {ro : Option Nat} {ops : Array Oper} {masks : List Nat} {fr : Frame} {w1 : World} {rd : RD} {k' : List Item} {φ0 : Phi} {h0 : Heap} {T0 : Array Value} {td0 : List Item}
    (G : GlobOK E.ng φ0) (hlo : lo ≤ rd.nx) (htd : TdRel φ0 td td') (hk : KRel φ0 k (F k.fn T0 td0 ds kd ro)) (C : FsRel E φ0 h0 B base k.kind lo cs cs') (X : ExtB lo φ0 h0 φ rd.h)
    (hs : Steps P (lone fr cs' w1) (lone (F k.fn T k' ds kd ro) cs' w)) (hr : DOK E P w0 k.size ops masks t0 lo k.fn td' ds kd ro φ w T rd k') {φ3 : Phi} (q : QExt B φ3 φ0) :
    UOut E P w0 B base φ3 fr cs' w1 (drawnR E k cs ops.toList t0 td rd) := by
  have q' := q.trans (X.q C.bound)
  cases hr with
  | fin t2 h2 nx2 R2 ht2 => exact goS_out R2 (G.mono X.le) hlo ht2 (htd.mono X.le) (hk.mono X.le) (C.mono X (Nat.le_refl _)) q' hs
  | «at» y o late rest post t2 h2 nx2 r R2 ho hw hr2 hp W =>
    refine UOut.steps q' hs (fun v s' e => ?_) (applyR_out hM R2 (G.mono X.le) hlo (.drawn ops masks t0 y o late rest post td t2 td' T W (htd.mono X.le)) (hk.mono X.le).to (C.mono X (Nat.le_refl _)) ho hw hr2 hp)
    exact applyR_nd v s' (show applyR E ⟨k, .run, .inDrawn ops.toList t0 (.l y o late :: rest) :: td, t2⟩ cs ⟨h2, nx2⟩ r = .done v s' from e)
  | stuck rest t2 h2 nx2 why k2 => exact .stuck why

theorem drawn_start {k : FK} {t : BT AVal} {td : List AItem} {td' : List Item} {T : Array Value} {ds : List Deferred} {kd : CallKind} {ro : Option Nat} {ops : Array Oper} {todo : List DItem} {L : List Nat} {fr : Frame} {w1 : World} {T0 : Array Value} {td0 : List Item}
    (R : Rep w0 φ h nx w) (G : GlobOK E.ng φ) (hlo : lo ≤ nx) (ht : TRel φ k.size t T) (htd : TdRel φ td td') (hk : KRel φ k (F k.fn T0 td0 ds kd ro)) (C : FsRel E φ h B base k.kind lo cs cs') (hp : planA ops = some todo) (hL : wholeOrders ops = true → Sched ops L) {φ0 : Phi} (q : QExt B φ0 φ)
    (hs : Steps P (lone fr cs' w1) (lone (F k.fn T (.inRegion ops L :: td') ds kd ro) cs' w)) :
    UOut E P w0 B base φ0 fr cs' w1 (drawnR E k cs ops.toList t td (runD E ops.toList k.size t todo t h nx)) := by
  unfold planA at hp
  cases hwo : wholeOrders ops with
  | false => rw [hwo] at hp; cases hp
  | true =>
    rw [hwo] at hp
    have S := hL hwo
    dsimp only at hp
    unfold planOf at hp
    cases hm : masksF [] ops.toList with
    | none => rw [hm] at hp; cases hp
    | some masks =>
      rw [hm] at hp
      dsimp only at hp
      have key : ∀ pl, planIf ops.toList masks pl = some todo → UOut E P w0 B base φ0 fr cs' w1 (drawnR E k cs ops.toList t td (runD E ops.toList k.size t todo t h nx)) := by
        intro pl hp
        unfold planIf at hp
        split at hp
        · rename_i hok
          rw [Bool.and_eq_true] at hok
          have SM := sched_masks hm S
          have D : DFr E ops masks k.size t t φ h nx lo true 0 L T := ⟨hok.2, ⟨[], SM, fun i hi => by cases hi⟩, .init ht, fun i m hi => by simp at hi, fun _ => none, fun i _ hi => by simp at hi, fun i _ j _ hi => by simp at hi⟩
          obtain ⟨φ', T', k', w', s1, X, hnx, hr⟩ := runD_sound (f := k.fn) (k := td') (ds := ds) (kd := kd) (ro := ro) (cs := cs') hM.env _ _ todo 0 0 L t φ h nx T w (Nat.le_refl _) hp hok.1 D R G hlo
          exact drawn_out hM G (Nat.le_trans hlo hnx) htd hk C X (hs.trans s1) hr q
        · cases hp
      split at hp
      · rename_i l hl
        cases hp
        exact key _ hl
      · exact key _ hp

/-- .. goes on behind a value. -/
theorem drawn_again {k : FK} {t0 t : BT AVal} {td : List AItem} {td' : List Item} {T : Array Value} {ds : List Deferred} {kd : CallKind} {ro : Option Nat} {ops : Array Oper} {masks : List Nat} {rest : List DItem} {is : List Nat}
    (R : Rep w0 φ h nx w) (G : GlobOK E.ng φ) (hlo : lo ≤ nx) (htd : TdRel φ td td') (hk : KRel φ k (F k.fn T (.inRegion ops is :: td') ds kd ro)) (C : FsRel E φ h B base k.kind lo cs cs') (W : DTop E ops masks k.size t0 t φ h nx lo rest is T) :
    UOut E P w0 B base φ (F k.fn T (.inRegion ops is :: td') ds kd ro) cs' w (drawnR E k cs ops.toList t0 td (runD E ops.toList k.size t0 rest t h nx)) := by
  have W0 := W
  obtain ⟨_, _, _, _, x, r, rfl, _⟩ := W0
  rw [runD_c]
  cases hc : x.all (chkOne E ops.toList t0 t h nx) with
  | false => exact .stuck _
  | true =>
    dsimp only
    obtain ⟨seen, louds, pl, e1, e2, D⟩ := W.chk hc
    obtain ⟨φ', T', k', w', s1, X, hnx, hr⟩ := runD_sound (f := k.fn) (k := td') (ds := ds) (kd := kd) (ro := ro) (cs := cs') hM.env _ _ r seen louds is t φ h nx T w (Nat.le_refl _) e1 e2 D R G hlo
    exact drawn_out hM G (Nat.le_trans hlo hnx) htd hk C X s1 hr (QExt.refl _ _)

omit hM in
theorem F_atR (f : FuncId) (T : Array Value) (k : List Item) (ds : List Deferred) (kd : CallKind) (ro : Option Nat) : F f T k ds kd ro = ({ (default : Frame) with fn := f, kind := kd, roundOf := ro } : Frame).atR { tmps := T, defers := ds } k := rfl

/-- A frame's code is left. -/
theorem leave_out {k : FK} {t : BT AVal} {td0 : List AItem} {td' : List Item} {T : Array Value} {ds : List Deferred} {kd : CallKind} {ro : Option Nat} {jump : Option Code}
    (R : Rep w0 φ h nx w) (G : GlobOK E.ng φ) (hlo : lo ≤ nx) (ht : TRel φ k.size t T) (hk : KRel φ k (F k.fn T td' ds kd ro)) (C : FsRel E φ h B base k.kind lo cs cs')
    (hj : (jump = none ∧ td' = []) ∨ (∃ kk, jump = some .ret ∧ td' = .code .ret :: kk) ∨ (∃ id kk, jump = some (.exit id) ∧ td' = .code (.exit id) :: kk ∧ Go.exitTo id kk = none) ∨ (∃ l kk, jump = some (.goto l) ∧ td' = .code (.goto l) :: kk ∧ Go.gotoIn l kk = none)) :
    UOut E P w0 B base φ (F k.fn T td' ds kd ro) cs' w (Ev.leave k t cs ⟨h, nx⟩ td0 jump) := by
  obtain ⟨fnk, size, defers, kind, ro0⟩ := k
  have hro := hk.ro
  have hkd : kd = kind := hk.kind
  subst hkd
  cases ro0 with
  | none =>
    cases ro with
    | some _ => exact hro.elim
    | none =>
      rcases hj with ⟨rfl, rfl⟩ | ⟨kk, rfl, rfl⟩ | ⟨id, kk, rfl, rfl, _⟩ | ⟨l, kk, rfl, rfl, _⟩
      · exact .next _ ⟨φ, _, cs', w, QExt.refl _ _, .one st_end, R, G, lo, hlo, .leave ⟨fnk, size, defers, kd, none⟩ .returning td0 t _ ⟨hk.fn, hk.defers, hk.kind, hk.ro⟩ .returning (fun e => by cases e) ht, C⟩
      · exact .next _ ⟨φ, _, cs', w, QExt.refl _ _, .one st_ret, R, G, lo, hlo, .leave ⟨fnk, size, defers, kd, none⟩ .returning td0 t _ ⟨hk.fn, hk.defers, hk.kind, hk.ro⟩ .returning (fun e => by cases e) ht, C⟩
      · exact .stuck _
      · exact .stuck _
  | some l =>
    cases ro with
    | none => exact hro.elim
    | some lb =>
      obtain ⟨p, hp, hpb⟩ := hro
      show UOut E P w0 B base φ (F fnk T td' ds kd (some lb)) cs' w (leaveRound ⟨⟨fnk, size, defers, kd, some l⟩, .run, td0, t⟩ cs ⟨h, nx⟩ l jump (h.get l))
      unfold leaveRound
      split
      · rename_i st pd fnl szl tml pml asl bdl dfl hl
        obtain ⟨ob, e1, e2⟩ := R.obj l _ p hl hp
        cases e2 with
        | loop _ l' L =>
          rw [hpb] at e1
          have her := run_endRound (P := P) (w := w) jump e1
          unfold retRound
          split
          · rename_i _ _ c rest hkn
            dsimp only at hkn
            subst hkn
            cases C with
            | cons _ _ lo2 _ c' _ cs2' hb hc tl =>
              have R' := R.setObj hl hp rfl (o' := .loop ⟨match (generalizing := false) jump with | none => .ready | some _ => .done, jump, fnl, szl, tml, pml, asl, bdl, dfl⟩) (ob := .loop { l' with state := if jump.isNone then .ready else .done, pending := jump })
                (.loop _ _ ⟨by cases jump <;> rfl, rfl, L.fn, L.tmps, L.params, L.assign, L.body, L.defers⟩)
              rw [hpb] at R'
              have hstep : step P (lone (F fnk T td' ds .normal (some lb)) (c' :: cs2') w) = .next (lone (c'.finish (.bool jump.isNone)) cs2' (w.putObj lb (.loop { l' with state := if jump.isNone then .ready else .done, pending := jump }))) := by
                rw [F_atR]
                rcases hj with ⟨rfl, rfl⟩ | ⟨kk, rfl, rfl⟩ | ⟨id, kk, rfl, rfl, hx⟩ | ⟨l, kk, rfl, rfl, hx⟩
                · exact stepR_round_end rfl rfl her
                · exact stepR_round_ret rfl rfl her
                · exact stepR_round_exit rfl rfl hx her
                · exact stepR_round_goto rfl rfl hx her
              have X := extB_set (φ := φ) (h := h) (b := lo) (.loop ⟨match (generalizing := false) jump with | none => .ready | some _ => .done, jump, fnl, szl, tml, pml, asl, bdl, dfl⟩) hp
              have hc' := hc.mono X hlo
              have tl' := tl.mono (X.sub hb) (Nat.le_refl _)
              cases hc' with
              | normal k2 todo2 t2 todo2' T2 ds2 kd2 ro2 hk2 hw2 =>
                exact .next _ ⟨φ, _, cs2', _, QExt.refl _ _, .one hstep, SRel.finish R' G (Nat.le_trans hb hlo) hw2 hk2 tl' (.bool _)⟩
          · exact .stuck _
      · exact .stuck _

/-- A step of a running frame. -/
theorem run_sound {k : FK} {todo : List AItem} {t : BT AVal} {todo' : List Item} {T : Array Value} {ds : List Deferred} {kd : CallKind} {ro : Option Nat}
    (R : Rep w0 φ h nx w) (G : GlobOK E.ng φ) (hlo : lo ≤ nx) (hk : KRel φ k (F k.fn T todo' ds kd ro)) (hw : RRel E φ h nx lo k.size todo t todo' T) (C : FsRel E φ h B base k.kind lo cs cs') :
    UOut E P w0 B base φ (F k.fn T todo' ds kd ro) cs' w (runT E k t cs ⟨h, nx⟩ todo) := by
  cases hw with
  | drawn ops masks t0 rest is kk _ kk' _ W htd => exact drawn_again hM R G hlo htd hk C W
  | plain _ _ _ _ ht htd =>
    have go : ∀ {td td'}, TdRel φ td td' → step P (lone (F k.fn T todo' ds kd ro) cs' w) = .next (lone (F k.fn T td' ds kd ro) cs' w) → UOut E P w0 B base φ (F k.fn T todo' ds kd ro) cs' w (goS k t cs ⟨h, nx⟩ td) := fun htd' hst => goS_out R G hlo ht htd' hk C (QExt.refl _ _) (.one hst)
    have O := fun x => eval_rel (f := k.fn) (k := todo') (ds := ds) (kd := kd) (ro := ro) G ht x
    cases htd with
    | nil => exact leave_out hM R G hlo ht hk C (.inl ⟨rfl, rfl⟩)
    | @cons a b l m ha hl =>
      cases ha with
      | inRegion ops todo is his => exact region_out hM R G hlo ht hl hk C his (QExt.refl _ _) (Steps.refl _ _)
      | inBlock id => exact go hl st_inBlock
      | inLoop c => exact go (.cons (.code c) (.cons (.inLoop c) hl)) st_inLoop
      | inScope c => exact go hl st_inScope
      | inRangeFunc l p hp => exact .stuck _
      | beginRound =>
        obtain ⟨fnk, size, defers, kind, ro0⟩ := k
        have hro := hk.ro
        cases ro0 with
        | none => exact .stuck _
        | some lr =>
          cases ro with
          | none => exact hro.elim
          | some lb =>
            obtain ⟨p, hp, hpb⟩ := hro
            show UOut E P w0 B base φ _ cs' w (beginR ⟨E, ⟨fnk, size, defers, kind, some lr⟩, t, cs, ⟨h, nx⟩⟩ l lr (h.get lr))
            unfold beginR
            split
            · rename_i pd fnl szl tml pml asl bdl dfl hl2
              obtain ⟨ob, e1, e2⟩ := R.obj lr _ p hl2 hp
              cases e2 with
              | loop _ l' L =>
                rw [hpb] at e1
                have hb := run_beginRound (P := P) (w := w) e1 L.state
                have R' := R.setObj hl2 hp rfl (o' := .loop ⟨.busy, pd, fnl, szl, tml, pml, asl, bdl, dfl⟩) (ob := .loop { l' with state := .busy }) (.loop _ _ ⟨rfl, L.pending, L.fn, L.tmps, L.params, L.assign, L.body, L.defers⟩)
                rw [hpb] at R'
                exact goS_out (k := ⟨fnk, size, defers, kind, some lr⟩) R' G hlo ht hl hk (C.mono (extB_set _ hp) (Nat.le_refl _)) (QExt.refl _ _) (.one (by rw [F_atR]; exact stepR_beginRound rfl hb))
            · exact .stuck _
      | endRangeFunc lr p hp =>
        show UOut E P w0 B base φ _ cs' w (endR ⟨E, k, t, cs, ⟨h, nx⟩⟩ l lr (h.get lr))
        unfold endR
        split
        · rename_i st pd fnl szl tml pml asl bdl dfl hl2
          obtain ⟨ob, e1, e2⟩ := R.obj lr _ p hl2 hp
          cases e2 with
          | loop _ l' L =>
            have key : st ≠ .busy → UOut E P w0 B base φ (F k.fn T (.endRangeFunc p.block :: m) ds kd ro) cs' w (match (generalizing := false) pd with
                | none => W.put ⟨E, k, t, cs, ⟨h, nx⟩⟩ lr (.loop ⟨.exhausted, none, fnl, szl, tml, pml, asl, bdl, dfl⟩) l
                | some c => W.put ⟨E, k, t, cs, ⟨h, nx⟩⟩ lr (.loop ⟨.exhausted, some c, fnl, szl, tml, pml, asl, bdl, dfl⟩) (.code c :: l)) := by
              intro hst
              have hpd : l'.pending = pd := L.pending
              have he := run_endLoop (P := P) (w := w) e1 (by rw [L.state]; exact hst)
              have hstep := stepR_endRangeFunc (b := { (default : Frame) with fn := k.fn, kind := kd, roundOf := ro }) (a := { tmps := T, defers := ds }) (k := m) (cs := cs') he
              have R' := R.setObj hl2 hp rfl (o' := .loop ⟨.exhausted, pd, fnl, szl, tml, pml, asl, bdl, dfl⟩) (ob := .loop { l' with state := .exhausted }) (.loop _ _ ⟨rfl, L.pending, L.fn, L.tmps, L.params, L.assign, L.body, L.defers⟩)
              have hl' : (Option.map Item.code l'.pending).toList ++ m = (Option.map Item.code pd).toList ++ m := by rw [hpd]
              rw [hl'] at hstep
              cases pd with
              | none => exact goS_out R' G hlo ht hl hk (C.mono (extB_set _ hp) (Nat.le_refl _)) (QExt.refl _ _) (.one (show step P (lone (F k.fn T (.endRangeFunc p.block :: m) ds kd ro) cs' w) = .next (lone (F k.fn T m ds kd ro) cs' _) from hstep))
              | some c => exact goS_out R' G hlo ht (.cons (.code c) hl) hk (C.mono (extB_set _ hp) (Nat.le_refl _)) (QExt.refl _ _) (.one (show step P (lone (F k.fn T (.endRangeFunc p.block :: m) ds kd ro) cs' w) = .next (lone (F k.fn T (.code c :: m) ds kd ro) cs' _) from hstep))
            cases st with
            | busy => exact .stuck _
            | _ => exact key (fun e => by cases e)
        · exact .stuck _
      | code c =>
        show UOut E P w0 B base φ (F k.fn T (.code c :: m) ds kd ro) cs' w (execC ⟨E, k, t, cs, ⟨h, nx⟩⟩ l c)
        cases c with
        | ret => exact leave_out hM R G hlo ht hk C (.inr (.inl ⟨m, rfl, rfl⟩))
        | skip => exact go hl st_skip
        | label lb => exact go hl st_label
        | seq a b => exact go (.cons (.code a) (.cons (.code b) hl)) st_seq
        | cond c a b =>
          have hc := O c
          show UOut E P w0 B base φ (F k.fn T (.code (.cond c a b) :: m) ds kd ro) cs' w (condR ⟨E, k, t, cs, ⟨h, nx⟩⟩ a b l (evalT E.ng t c))
          unfold condR
          split
          · rename_i x hx
            rw [hx] at hc
            have hst := st_cond (P := P) (cs := cs') (w := w) (a := a) (b := b) hc.bool_inv
            cases x with
            | true => exact go (.cons (.code a) hl) hst
            | false => exact go (.cons (.code b) hl) hst
          · exact .stuck _
        | block id c => exact go (.cons (.code c) (.cons (.inBlock id) hl)) st_block
        | loop c => exact go (.cons (.code c) (.cons (.inLoop c) hl)) st_loop
        | scope c => exact go (.cons (.code c) (.cons (.inScope c) hl)) st_scope
        | exit id =>
          have hx := exitTo_rel id hl
          show UOut E P w0 B base φ (F k.fn T (.code (.exit id) :: m) ds kd ro) cs' w (exitR ⟨E, k, t, cs, ⟨h, nx⟩⟩ id l (exitTo id l))
          cases he : exitTo id l with
          | some t' =>
            obtain ⟨k', e1, e2⟩ := hx.1 t' he
            exact go e2 (st_exit e1)
          | none => exact leave_out hM R G hlo ht hk C (.inr (.inr (.inl ⟨id, m, rfl, rfl, hx.2 he⟩)))
        | goto lb =>
          have hx := gotoIn_rel lb hl
          show UOut E P w0 B base φ (F k.fn T (.code (.goto lb) :: m) ds kd ro) cs' w (gotoR ⟨E, k, t, cs, ⟨h, nx⟩⟩ lb l (gotoIn lb l))
          cases he : gotoIn lb l with
          | some t' =>
            obtain ⟨k', e1, e2⟩ := hx.1 t' he
            exact go e2 (st_goto e1)
          | none => exact leave_out hM R G hlo ht hk C (.inr (.inr (.inr ⟨lb, m, rfl, rfl, hx.2 he⟩)))
        | region id ops dr =>
          cases dr with
          | false => exact region_out hM R G hlo ht hl hk C (IsRel.range ops) (QExt.refl _ _) (.one st_region)
          | true =>
            show UOut E P w0 B base φ (F k.fn T (.code (.region id ops true) :: m) ds kd ro) cs' w (drawnP ⟨E, k, t, cs, ⟨h, nx⟩⟩ ops.toList l (planA ops))
            cases hp : planA ops with
            | none => exact .stuck _
            | some todo => exact drawn_start hM R.drew G hlo ht hl hk C hp (fun hwo => sched_ok hwo _ _) (QExt.refl _ _) (.one st_drawn)
        | rangeFunc g ps assign body =>
          have hg := O g
          show UOut E P w0 B base φ (F k.fn T (.code (.rangeFunc g ps assign body) :: m) ds kd ro) cs' w (enterRange E k t cs ⟨h, nx⟩ ps assign body l (evalT E.ng t g))
          unfold enterRange
          split
          · rename_i f first cap hev
            rw [hev] at hg
            rcases hg.func_inv with ⟨f', a', b', e1, e2, e3, e4⟩ | ⟨_, _, e1, _⟩
            · cases e1
              obtain ⟨fnk, size, defers, kind, ro0⟩ := k
              have hro := hk.ro
              have hev2 : ∀ (b : Frame) (ds' : List Deferred), (b.atR { tmps := T, defers := ds' } []).eval g = Value.func (.func f) a' b' := fun b ds' => by
                rw [← e2]; cases g <;> rfl
              have hres : ∀ (lb : Nat) (w1 : World), (resolve ({ tmps := T, defers := ds } : Act).eval (rangeCall g lb) 0).run P w1 = .ok { target := .fn (.func f) b', args := a' ++ #[.func (.yield lb) #[] #[]] } w1 := fun lb w1 => by
                have hg2 : ({ tmps := T, defers := ds } : Act).eval g = Value.func (.func f) a' b' := by rw [← e2]; cases g <;> rfl
                have hc2 : ({ tmps := T, defers := ds } : Act).eval (.const (Value.func (.yield lb) #[] #[])) = Value.func (.yield lb) #[] #[] := rfl
                simp [resolve, rangeCall, hg2, hc2, Deferred.ofValue]
              cases ro0 with
              | none =>
                cases ro with
                | some _ => exact hro.elim
                | none =>
                  dsimp only
                  cases he : enterF E f (first ++ [AVal.func (.yield (nx + 1)) [] []] ++ cap) .normal with
                  | none => exact .stuck _
                  | some fr2 =>
                    let p1 : Place := ⟨w.heap.size, 0, 0, 0⟩
                    let p2 : Place := ⟨w.heap.size + 1, 0, 0, 0⟩
                    have f1 := R.fresh
                    have R1 := (R.phantom (.deferred (some []))).alloc nx (.deferred (some [])) p1 (.deferred (some [])) (by rw [BT.get_set, if_pos rfl]) f1 rfl (.deferredS [] [] (.nil _))
                    have hle1 : φ.le (φ.upd nx p1) := Phi.le_upd (.inl f1)
                    have f2 := R1.fresh
                    have hle2 : (φ.upd nx p1).le ((φ.upd nx p1).upd (nx + 1) p2) := Phi.le_upd (.inl f2)
                    have hle := Phi.le_trans hle1 hle2
                    have R2 := (R1.phantom (.loop ⟨.ready, none, fnk, size, t, ps.toList, assign, body, nx⟩)).alloc (nx + 1) (.loop ⟨.ready, none, fnk, size, t, ps.toList, assign, body, nx⟩) p2
                      (.loop { state := .ready, pending := none, fn := fnk, tmps := T, params := ps, assign := assign, body := body, defers := w.heap.size }) (by rw [BT.get_set, if_pos rfl]) f2 (by simp [p2])
                      (.loop _ _ ⟨rfl, rfl, rfl, ht.mono hle, rfl, rfl, rfl, p1, hle2 _ _ (Phi.upd_same _ _ _), rfl⟩)
                    have hX : ExtB lo φ h ((φ.upd nx p1).upd (nx + 1) p2) ((h.set nx (.deferred (some []))).set (nx + 1) (.loop ⟨.ready, none, fnk, size, t, ps.toList, assign, body, nx⟩)) := ⟨hle, fun id hid hn => by
                      refine ⟨?_, ?_⟩
                      · unfold Phi.upd; rw [if_neg (by omega), if_neg (by omega)]; exact hn
                      · rw [BT.get_set, if_neg (by omega), BT.get_set, if_neg (by omega)]⟩
                    have hl2 : LRel ((φ.upd nx p1).upd (nx + 1) p2) (first ++ [AVal.func (.yield (nx + 1)) [] []] ++ cap) ((a' ++ #[Value.func (.yield (w.heap.size + 1)) #[] #[]]) ++ b').toList := by
                      rw [Array.toList_append, Array.toList_append]
                      exact ((e3.mono hle).append (.cons (.yield (nx + 1) p2 (Phi.upd_same _ _ _)) (.nil _))).append (e4.mono hle)
                    obtain ⟨g1, g2, g3⟩ := enter_rel hM (h := (h.set nx (.deferred (some []))).set (nx + 1) (.loop ⟨.ready, none, fnk, size, t, ps.toList, assign, body, nx⟩)) (nx := nx + 1 + 1) (lo := nx + 1 + 1) he hl2
                    have hst := stepR_rangeFunc (P := P) (cs := cs') (k := m) (b := { (default : Frame) with fn := fnk, kind := kd, roundOf := none }) (a := { tmps := T, defers := ds }) (run_enterLoop_outer (P := P) (w := w) fnk T ps assign body) (hres _ _) (by simp only [invoke]; exact g3 _)
                    refine .next _ ⟨_, _, _, _, hX.q C.bound, .one hst, R2, G.mono hle, nx + 1 + 1, Nat.le_refl _, g1, ?_⟩
                    rw [g2]
                    refine .cons .normal (nx + 1 + 1) lo _ _ cs cs' (by omega) (.normal ⟨fnk, size, .coll nx :: defers, kind, none⟩ (.inRangeFunc (nx + 1) :: l) t (.inRangeFunc (w.heap.size + 1) :: m) T ({ target := .collected w.heap.size, args := #[] } :: ds) kd none ⟨rfl, .cons (.coll nx p1 (hle2 _ _ (Phi.upd_same _ _ _))) (hk.defers.mono hle), hk.kind, trivial⟩
                      (.plain _ _ _ _ (ht.mono hle) (.cons (.inRangeFunc (nx + 1) p2 (Phi.upd_same _ _ _)) (hl.mono hle)))) (C.mono hX (Nat.le_refl _))
              | some lr =>
                cases ro with
                | none => exact hro.elim
                | some lb =>
                  obtain ⟨p, hp, hpb⟩ := hro
                  dsimp only
                  split
                  · rename_i lp hlp
                    obtain ⟨ob, q1, q2⟩ := R.obj lr _ p hlp hp
                    cases q2 with
                    | loop _ l' L =>
                      rw [hpb] at q1
                      cases he : enterF E f (first ++ [AVal.func (.yield nx) [] []] ++ cap) .normal with
                      | none => exact .stuck _
                      | some fr2 =>
                        let p2 : Place := ⟨w.heap.size, 0, 0, 0⟩
                        have f1 := R.fresh
                        have hle : φ.le (φ.upd nx p2) := Phi.le_upd (.inl f1)
                        obtain ⟨pd, hpd1, hpd2⟩ := L.defers
                        have R2 := (R.phantom (.loop ⟨.ready, none, fnk, size, t, ps.toList, assign, body, lp.defers⟩)).alloc nx (.loop ⟨.ready, none, fnk, size, t, ps.toList, assign, body, lp.defers⟩) p2
                          (.loop { state := .ready, pending := none, fn := fnk, tmps := T, params := ps, assign := assign, body := body, defers := l'.defers }) (by rw [BT.get_set, if_pos rfl]) f1 rfl
                          (.loop _ _ ⟨rfl, rfl, rfl, ht.mono hle, rfl, rfl, rfl, pd, hle _ _ hpd1, hpd2⟩)
                        have hX : ExtB lo φ h (φ.upd nx p2) (h.set nx (.loop ⟨.ready, none, fnk, size, t, ps.toList, assign, body, lp.defers⟩)) := ⟨hle, fun id hid hn => by
                          refine ⟨?_, ?_⟩
                          · unfold Phi.upd; rw [if_neg (by omega)]; exact hn
                          · rw [BT.get_set, if_neg (by omega)]⟩
                        have hl2 : LRel (φ.upd nx p2) (first ++ [AVal.func (.yield nx) [] []] ++ cap) ((a' ++ #[Value.func (.yield w.heap.size) #[] #[]]) ++ b').toList := by
                          rw [Array.toList_append, Array.toList_append]
                          exact ((e3.mono hle).append (.cons (.yield nx p2 (Phi.upd_same _ _ _)) (.nil _))).append (e4.mono hle)
                        obtain ⟨g1, g2, g3⟩ := enter_rel hM (h := h.set nx (.loop ⟨.ready, none, fnk, size, t, ps.toList, assign, body, lp.defers⟩)) (nx := nx + 1) (lo := nx + 1) he hl2
                        have hst := stepR_rangeFunc (P := P) (cs := cs') (k := m) (b := { (default : Frame) with fn := fnk, kind := kd, roundOf := some lb }) (a := { tmps := T, defers := ds }) (run_enterLoop_inner (P := P) (w := w) q1 fnk T ps assign body) (hres _ _) (by simp only [invoke]; exact g3 _)
                        refine .next _ ⟨_, _, _, _, hX.q C.bound, .one hst, R2, G.mono hle, nx + 1, Nat.le_refl _, g1, ?_⟩
                        rw [g2]
                        refine .cons .normal (nx + 1) lo _ _ cs cs' (by omega) (.normal ⟨fnk, size, defers, kind, some lr⟩ (.inRangeFunc nx :: l) t (.inRangeFunc w.heap.size :: m) T ds kd (some lb) ⟨rfl, hk.defers.mono hle, hk.kind, p, hle _ _ hp, hpb⟩
                          (.plain _ _ _ _ (ht.mono hle) (.cons (.inRangeFunc nx p2 (Phi.upd_same _ _ _)) (hl.mono hle)))) (C.mono hX (Nat.le_refl _))
                  · exact .stuck _
            · cases e1
          · exact .stuck _
        | refuse why => exact .stuck _

theorem stepA_sound {s : S} {fr : Frame} (S : SRel E w0 B base φ s fr cs' w) : UOut E P w0 B base φ fr cs' w (stepA E s) := by
  obtain ⟨fr0, cs0, ⟨h0, nx0⟩⟩ := s
  obtain ⟨k, m, todo, t⟩ := fr0
  obtain ⟨R, G, lo, hlo, T, C⟩ := S
  cases T with
  | run k todo t todo' T ds kd ro hk hw => exact run_sound hM R G hlo hk hw C
  | leave k m todo t _ hk hm hr ht =>
    cases m with
    | run => exact absurd rfl hr
    | returning => exact unwind_sound hM R G hlo hk hm hr ht C
    | panicking c => exact unwind_sound hM R G hlo hk hm hr ht C

/-- What a run that ends says. -/
theorem runA_sound : ∀ (n : Nat) {s : S} {φ : Phi} {fr : Frame} {cs' : List Frame} {w : World}, SRel E w0 B base φ s fr cs' w → ∀ {v : AVal} {s' : S}, runA E n s = .done v s' →
    ∃ φ' fr' w' v', QExt B φ φ' ∧ Steps P (lone fr cs' w) (lone fr' base w') ∧ fr'.leaving P w' (.returned v') ∧ fr'.fn = s'.fr.k.fn ∧ VRel φ' v v' ∧ Rep w0 φ' s'.d.h s'.d.nx w'
  | 0, s, φ, fr, cs', w, S, v, s', h => by cases h
  | n + 1, s, φ, fr, cs', w, S, v, s', h => by
    have o := stepA_sound hM S
    have h : (R.rec (motive := fun _ => R) (fun s' => runA E n s') (fun v s' => .done v s') (fun c => .panicked c) (fun l => .branch l) (fun w => .stuck w) (stepA E s) : R) = .done v s' := h
    generalize stepA E s = r at *
    cases o with
    | next s2 hh =>
      obtain ⟨φ2, fr2, cs2, w2, g0, g1, g2⟩ := hh
      obtain ⟨φ3, fr3, w3, v3, k0, k1, k2⟩ := runA_sound n g2 h
      exact ⟨φ3, fr3, w3, v3, g0.trans k0, g1.trans k1, k2⟩
    | done v1 s1 v' hv hb hl hf R =>
      cases h
      subst hb
      exact ⟨φ, fr, w, v', QExt.refl _ _, Steps.refl _ _, hl, hf, hv, R⟩
    | panicked c => cases h
    | branch l hh => cases h
    | stuck why => cases h

/-- A run from one state to another. -/
theorem runA_next : ∀ (n : Nat) {s : S} {φ : Phi} {fr : Frame} {cs' : List Frame} {w : World}, SRel E w0 B base φ s fr cs' w → ∀ {s' : S}, runA E n s = .next s' →
    ∃ φ' fr' cs'' w', QExt B φ φ' ∧ Steps P (lone fr cs' w) (lone fr' cs'' w') ∧ SRel E w0 B base φ' s' fr' cs'' w'
  | 0, s, φ, fr, cs', w, S, s', h => by cases h; exact ⟨φ, fr, cs', w, QExt.refl _ _, Steps.refl _ _, S⟩
  | n + 1, s, φ, fr, cs', w, S, s', h => by
    have o := stepA_sound hM S
    have h : (R.rec (motive := fun _ => R) (fun s' => runA E n s') (fun v s' => .done v s') (fun c => .panicked c) (fun l => .branch l) (fun w => .stuck w) (stepA E s) : R) = .next s' := h
    generalize stepA E s = r at *
    cases o with
    | next s2 hh =>
      obtain ⟨φ2, fr2, cs2, w2, g0, g1, g2⟩ := hh
      obtain ⟨φ3, fr3, cs3, w3, k0, k1, k2⟩ := runA_next n g2 h
      exact ⟨φ3, fr3, cs3, w3, g0.trans k0, g1.trans k1, k2⟩
    | done v1 s1 v' hv hb hl hf R => cases h
    | panicked c => cases h
    | branch l hh => cases h
    | stuck why => cases h

omit hM in
theorem allL_spec {f : S → Bool} : ∀ {l : List S}, allL f l = true → ∀ s ∈ l, f s = true
  | [], _, s, hs => by cases hs
  | x :: l, h, s, hs => by
    have h : (Bool.rec (motive := fun _ => Bool) false (allL f l) (f x) : Bool) = true := h
    cases hx : f x with
    | false => rw [hx] at h; cases h
    | true =>
      rw [hx] at h
      rcases List.mem_cons.1 hs with rfl | hs
      · exact hx
      · exact allL_spec h s hs
/-- Where a run comes to. -/
inductive ROut (E : Env) (P : Program) (w0 : World) (B : Nat) (base : List Frame) (φ : Phi) (fr : Frame) (cs' : List Frame) (w : World) : R → Prop
  | next (s' : S) (h : ∃ φ' fr' cs'' w', QExt B φ φ' ∧ Steps P (lone fr cs' w) (lone fr' cs'' w') ∧ SRel E w0 B base φ' s' fr' cs'' w') : ROut E P w0 B base φ fr cs' w (.next s')
  | done (v : AVal) (s' : S) (h : ∃ φ' fr' w' v', QExt B φ φ' ∧ Steps P (lone fr cs' w) (lone fr' base w') ∧ fr'.leaving P w' (.returned v') ∧ fr'.fn = s'.fr.k.fn ∧ VRel φ' v v' ∧ Rep w0 φ' s'.d.h s'.d.nx w') : ROut E P w0 B base φ fr cs' w (.done v s')
  | panicked (c : List PEnt) : ROut E P w0 B base φ fr cs' w (.panicked c)
  | branch (l : List S) (h : ∃ s' ∈ l, ∃ φ' fr' cs'' w', QExt B φ φ' ∧ Steps P (lone fr cs' w) (lone fr' cs'' w') ∧ SRel E w0 B base φ' s' fr' cs'' w') : ROut E P w0 B base φ fr cs' w (.branch l)
  | stuck (why : String) : ROut E P w0 B base φ fr cs' w (.stuck why)
omit hM in
theorem ROut.steps {fr fr2 : Frame} {cs2 : List Frame} {φ2 : Phi} {w2 : World} (q : QExt B φ φ2) (s : Steps P (lone fr cs' w) (lone fr2 cs2 w2)) {r : R} (o : ROut E P w0 B base φ2 fr2 cs2 w2 r) : ROut E P w0 B base φ fr cs' w r := by
  cases o with
  | next s' hh =>
    obtain ⟨φ', fr', cs'', w', g0, g1, g2⟩ := hh
    exact .next s' ⟨φ', fr', cs'', w', q.trans g0, s.trans g1, g2⟩
  | done v s' hh =>
    obtain ⟨φ', fr', w', v', g0, g1, g2⟩ := hh
    exact .done v s' ⟨φ', fr', w', v', q.trans g0, s.trans g1, g2⟩
  | panicked c => exact .panicked c
  | branch l hh =>
    obtain ⟨s', hm, φ', fr', cs'', w', g0, g1, g2⟩ := hh
    exact .branch l ⟨s', hm, φ', fr', cs'', w', q.trans g0, s.trans g1, g2⟩
  | stuck why => exact .stuck why
theorem runA_out : ∀ (n : Nat) {s : S} {φ : Phi} {fr : Frame} {cs' : List Frame} {w : World}, SRel E w0 B base φ s fr cs' w → ROut E P w0 B base φ fr cs' w (runA E n s)
  | 0, s, φ, fr, cs', w, S => .next s ⟨φ, fr, cs', w, QExt.refl _ _, Steps.refl _ _, S⟩
  | n + 1, s, φ, fr, cs', w, S => by
    have o := stepA_sound hM S
    show ROut E P w0 B base φ fr cs' w (R.rec (motive := fun _ => R) (fun s' => runA E n s') (fun v s' => .done v s') (fun c => .panicked c) (fun l => .branch l) (fun w => .stuck w) (stepA E s))
    generalize stepA E s = r at *
    cases o with
    | next s2 hh =>
      obtain ⟨φ2, fr2, cs2, w2, g0, g1, g2⟩ := hh
      exact (runA_out n g2).steps g0 g1
    | done v1 s1 v' hv hb hl hf R =>
      subst hb
      exact .done v1 s1 ⟨φ, fr, w, v', QExt.refl _ _, Steps.refl _ _, hl, hf, hv, R⟩
    | panicked c => exact .panicked c
    | branch l hh => exact .branch l hh
    | stuck why => exact .stuck why

/-- Every way ends, and is liked. -/
theorem allRuns_sound {chk : AVal → S → Bool} (c : Nat) : ∀ (n : Nat) {s : S} {φ : Phi} {fr : Frame} {cs' : List Frame} {w : World}, SRel E w0 B base φ s fr cs' w → allRuns E chk c n s = true →
    ∃ v s', chk v s' = true ∧ ∃ φ' fr' w' v', QExt B φ φ' ∧ Steps P (lone fr cs' w) (lone fr' base w') ∧ fr'.leaving P w' (.returned v') ∧ fr'.fn = s'.fr.k.fn ∧ VRel φ' v v' ∧ Rep w0 φ' s'.d.h s'.d.nx w'
  | 0, s, φ, fr, cs', w, S, h => by cases h
  | n + 1, s, φ, fr, cs', w, S, h => by
    have o := runA_out hM c S
    have h : (R.rec (motive := fun _ => Bool) (fun s' => allRuns E chk c n s') (fun v s' => chk v s') (fun _ => false) (fun l => allL (allRuns E chk c n) l) (fun _ => false) (runA E c s) : Bool) = true := h
    generalize runA E c s = r at *
    cases o with
    | next s2 hh =>
      obtain ⟨φ2, fr2, cs2, w2, g0, g1, g2⟩ := hh
      obtain ⟨v, s', k0, φ3, fr3, w3, v3, kq, k1, k2⟩ := allRuns_sound c n g2 h
      exact ⟨v, s', k0, φ3, fr3, w3, v3, g0.trans kq, g1.trans k1, k2⟩
    | done v1 s1 hh => exact ⟨v1, s1, h, hh⟩
    | panicked c => cases h
    | branch l hh =>
      obtain ⟨s2, hm, φ2, fr2, cs2, w2, g0, g1, g2⟩ := hh
      obtain ⟨v, s', k0, φ3, fr3, w3, v3, kq, k1, k2⟩ := allRuns_sound c n g2 (allL_spec h s2 hm)
      exact ⟨v, s', k0, φ3, fr3, w3, v3, g0.trans kq, g1.trans k1, k2⟩
    | stuck why => cases h
end

/-- Closed runs, every one of which is liked, as a contract. -/
theorem calls_of_all {E : Env} {P : Program} (hM : MachOK E P) {f : FuncId} {w : World} {φ : Phi} {h : Heap} {nx : Nat} (R : Rep w φ h nx w) (G : GlobOK E.ng φ) {args : List AVal} {args' : Array Value} (ha : LRel φ args args'.toList) {fr : AFrame} (he : enterF E f args .normal = some fr)
    {chk : AVal → S → Bool} {c n : Nat} (hr : allRuns E (fun v s' => Nat.beq s'.fr.k.fn f && chk v s') c n ⟨fr, [], ⟨h, nx⟩⟩ = true) :
    Calls P f args' w fun e w' => ∃ φ' v v' s', chk v s' = true ∧ QExt nx φ φ' ∧ e = .returned v' ∧ VRel φ' v v' ∧ Rep w φ' s'.d.h s'.d.nx w' := by
  intro cs
  obtain ⟨g1, g2, g3⟩ := enter_rel hM (h := h) (nx := nx) (lo := nx) he ha
  have S : SRel E w nx cs φ ⟨fr, [], ⟨h, nx⟩⟩ (Frame.enter P f args' .normal) cs w := ⟨R, G, nx, Nat.le_refl _, g1, by
    show FsRel E φ h nx cs fr.k.kind nx [] cs
    rw [g2]; exact .nil nx (Nat.le_refl _)⟩
  obtain ⟨v, s', k0, φ', fr', w', v', kq, k1, k2, k3, k4, k5⟩ := allRuns_sound hM c n S hr
  rw [Bool.and_eq_true] at k0
  exact ⟨.returned v', w', fr', ⟨φ', v, v', s', k0.2, kq, rfl, k4, k5⟩, k1, k3.trans (Nat.eq_of_beq_eq_true k0.1), k2⟩

/-- A closed run, as a contract. -/
theorem calls_of_run {E : Env} {P : Program} (hM : MachOK E P) {f : FuncId} {w : World} {φ : Phi} {h : Heap} {nx : Nat} (R : Rep w φ h nx w) (G : GlobOK E.ng φ) {args : List AVal} {args' : Array Value} (ha : LRel φ args args'.toList) {fr : AFrame} (he : enterF E f args .normal = some fr)
    {n : Nat} {v : AVal} {s' : S} (hr : runA E n ⟨fr, [], ⟨h, nx⟩⟩ = .done v s') (hf : s'.fr.k.fn = f) :
    Calls P f args' w fun e w' => ∃ φ' v', e = .returned v' ∧ VRel φ' v v' ∧ Rep w φ' s'.d.h s'.d.nx w' := by
  intro cs
  obtain ⟨g1, g2, g3⟩ := enter_rel hM (h := h) (nx := nx) (lo := nx) he ha
  have S : SRel E w nx cs φ ⟨fr, [], ⟨h, nx⟩⟩ (Frame.enter P f args' .normal) cs w := ⟨R, G, nx, Nat.le_refl _, g1, by
    show FsRel E φ h nx cs fr.k.kind nx [] cs
    rw [g2]; exact .nil nx (Nat.le_refl _)⟩
  obtain ⟨φ', fr', w', v', kq, k1, k2, k3, k4, k5⟩ := runA_sound hM n S hr
  exact ⟨.returned v', w', fr', ⟨φ', v', rfl, k4, k5⟩, k1, k3.trans hf, k2⟩
end Go.Ev
end
section
/- Memory of calls: what a function gives for arguments of one content, computed once. -/
set_option linter.unusedVariables false
set_option linter.unusedSimpArgs false
set_option linter.unusedSectionVars false
namespace Go.Ev
open Go.RowKit

/-- The ids of an entry: those below ng stand for themselves, the next ones for the objects that the arguments reach, the others for new objects. -/
structure Entry where
  globs : List (Nat × List AVal)
  args : List AVal
  objs : List (List AVal)
  res : AVal
  news : List (List AVal)

noncomputable section
def nthD : List Nat → Nat → Nat → Nat
  | [], i, nx => nx + i
  | x :: _, 0, _ => x
  | _ :: l, i + 1, nx => nthD l i nx
def ren (b : Nat) (ρ : List Nat) (nx c : Nat) : Nat := cond (Nat.blt c b) c (nthD ρ (c - b) nx)

/-- Equal but for the ids. -/
def meq (f : Nat → Nat) : Nat → AVal → AVal → Bool
  | 0, _, _ => false
  | d + 1, x, y => match x, y with
    | .bool a, .bool b => a == b
    | .int j a, .int k b => decide (j = k) && intEq a b
    | .str a, .str b => strEq a b
    | .nilptr, .nilptr | .nilslice, .nilslice | .eslice, .eslice | .nilmap, .nilmap | .nilfunc, .nilfunc | .niliface, .niliface => true
    | .ptr a b, .ptr a' b' => Nat.beq (f a) a' && Nat.beq b b'
    | .slice a b c p, .slice a' b' c' p' => Nat.beq (f a) a' && Nat.beq b b' && Nat.beq c c' && capEq p p'
    | .func (.func g) a b, .func (.func g') a' b' => Nat.beq g g' && all2 (meq f d) a a' && all2 (meq f d) b b'
    | .iface t v, .iface u w => Nat.beq t u && meq f d v w
    | .agg a, .agg b => all2 (meq f d) a b
    | .tup a, .tup b => all2 (meq f d) a b
    | _, _ => false
def relab (f : Nat → Nat) : Nat → AVal → AVal
  | 0, _ => .bot
  | d + 1, x => match x with
    | .ptr a b => .ptr (f a) b
    | .slice a b c p => .slice (f a) b c p
    | .map a => .map (f a)
    | .func (.func g) a b => .func (.func g) (a.map (relab f d)) (b.map (relab f d))
    | .func _ _ _ => .bot
    | .iface t v => .iface t (relab f d v)
    | .agg a => .agg (a.map (relab f d))
    | .tup a => .tup (a.map (relab f d))
    | v => v
/-- The ids that are met for the first time. -/
def addId (b : Nat) (ρ : List Nat) (c a : Nat) : List Nat := cond (Nat.beq c (b + ρ.length)) (ρ ++ [a]) ρ
def scan (b : Nat) : Nat → AVal → AVal → List Nat → List Nat
  | 0, _, _, ρ => ρ
  | d + 1, x, y, ρ => match x, y with
    | .ptr c _, .ptr a _ => addId b ρ c a
    | .slice c _ _ _, .slice a _ _ _ => addId b ρ c a
    | .func _ l m, .func _ l' m' => ((m.zip m').foldl (fun ρ p => scan b d p.1 p.2 ρ) ((l.zip l').foldl (fun ρ p => scan b d p.1 p.2 ρ) ρ))
    | .iface _ v, .iface _ v' => scan b d v v' ρ
    | .agg l, .agg l' => (l.zip l').foldl (fun ρ p => scan b d p.1 p.2 ρ) ρ
    | .tup l, .tup l' => (l.zip l').foldl (fun ρ p => scan b d p.1 p.2 ρ) ρ
    | _, _ => ρ
def scanL (b : Nat) (l l' : List AVal) (ρ : List Nat) : List Nat := (l.zip l').foldl (fun ρ p => scan b 10 p.1 p.2 ρ) ρ
def cellsOf : Option AObj → Option (List AVal)
  | some (.cells _ n cs) => rdCells cs 0 n
  | _ => none
def scanO (h : Heap) (b : Nat) : Nat → List (List AVal) → List Nat → List Nat
  | _, [], ρ => ρ
  | i, o :: os, ρ => match cellsOf (h.get (nthD ρ i 0)) with
    | some l => scanO h b (i + 1) os (scanL b o l ρ)
    | none => ρ
def objOK (h : Heap) (f : Nat → Nat) (o : List AVal) : Option AObj → Bool
  | some (.cells _ n cs) => Nat.beq n o.length && (match rdCells cs 0 n with | some l => all2 (meq f 10) o l | none => false)
  | _ => false
def objsOK (h : Heap) (f : Nat → Nat) : Nat → List (List AVal) → Bool
  | _, [] => true
  | c, o :: os => objOK h f o (h.get (f c)) && objsOK h f (c + 1) os
def globsOK (h : Heap) (f : Nat → Nat) (ng : Nat) : List (Nat × List AVal) → Bool
  | [] => true
  | g :: gs => Nat.blt g.1 ng && objOK h f g.2 (h.get g.1) && globsOK h f ng gs
def allGe (b : Nat) : List Nat → Bool
  | [] => true
  | x :: l => Nat.ble b x && allGe b l
def newEff (f : Nat → Nat) : Nat → List (List AVal) → Eff
  | _, [] => []
  | nx, o :: os => (nx, some (.cells false o.length (BT.ofList (o.map (relab f 10))))) :: newEff f (nx + 1) os
def entryR (ng : Nat) (e : Entry) (args : List AVal) (h : Heap) (nx : Nat) (ρ : List Nat) : Option OpR :=
  match Nat.beq ρ.length e.objs.length && nodupB ρ && allGe ng ρ && all2 (meq (ren ng ρ nx) 10) e.args args && objsOK h (ren ng ρ nx) ng e.objs && globsOK h (ren ng ρ nx) ng e.globs with
  | true => some (.val (relab (ren ng ρ nx) 10 e.res) (newEff (ren ng ρ nx) nx e.news) (nx + e.news.length))
  | false => none
def entryOf (ng : Nat) (e : Entry) (args : List AVal) (h : Heap) (nx : Nat) : Option OpR :=
  match Nat.beq e.args.length args.length with
  | true => entryR ng e args h nx (scanO h ng 0 e.objs (scanL ng e.args args []))
  | false => none
def memo (ng : Nat) : List Entry → List AVal → Heap → Nat → OpR
  | [], _, _, _ => .stuck "no entry"
  | e :: es, args, h, nx => match entryOf ng e args h nx with
    | some r => r
    | none => memo ng es args h nx

/-! ### How an entry is shown -/
def objsHeap (ro : Bool) : Nat → List (List AVal) → Heap → Heap
  | _, [], h => h
  | c, o :: os, h => objsHeap ro (c + 1) os (h.set c (.cells ro o.length (BT.ofList o)))
def globsHeap : List (Nat × List AVal) → Heap
  | [] => .nil
  | g :: gs => (globsHeap gs).set g.1 (.cells true g.2.length (BT.ofList g.2))
def entryHeap (ng : Nat) (e : Entry) : Heap := objsHeap true ng e.objs (globsHeap e.globs)
def newOK (h : Heap) (f : Nat → Nat) (o : List AVal) : Option AObj → Bool
  | some (.cells false n cs) => Nat.beq n o.length && (match rdCells cs 0 n with | some l => all2 (meq f 10) o l | none => false)
  | _ => false
def newsOK (h : Heap) (f : Nat → Nat) : Nat → List (List AVal) → Bool
  | _, [] => true
  | c, o :: os => newOK h f o (h.get (f c)) && newsOK h f (c + 1) os
def resOK (m : Nat) (e : Entry) (v : AVal) (h : Heap) (nx : Nat) (σ : List Nat) : Bool :=
  Nat.beq σ.length e.news.length && nodupB σ && allGe m σ && meq (ren m σ nx) 10 e.res v && newsOK h (ren m σ nx) m e.news
def resChk (m : Nat) (e : Entry) (v : AVal) (s : S) : Bool := resOK m e v s.d.h s.d.nx (scanO s.d.h m 0 e.news (scan m 10 e.res v []))
def globsLt (ng : Nat) : List (Nat × List AVal) → Bool
  | [] => true
  | g :: gs => Nat.blt g.1 ng && globsLt ng gs
def entryRuns (E : Env) (f : FuncId) (c n : Nat) (e : Entry) : Bool :=
  match enterF E f e.args .normal with
  | some fr => globsLt E.ng e.globs && allRuns E (fun v s => Nat.beq s.fr.k.fn f && resChk (E.ng + e.objs.length) e v s) c n ⟨fr, [], ⟨entryHeap E.ng e, E.ng + e.objs.length⟩⟩
  | none => false
end

/-! ### Values -/
theorem all2_len {α : Type} {f : α → α → Bool} : ∀ {a b : List α}, all2 f a b = true → a.length = b.length ∧ ∀ (i : Nat) x y, a[i]? = some x → b[i]? = some y → f x y = true
  | [], [], _ => ⟨rfl, fun i x y h => by simp at h⟩
  | [], _ :: _, h => by cases h
  | _ :: _, [], h => by cases h
  | x :: a, y :: b, h => by
    unfold all2 at h
    rw [Bool.and_eq_true] at h
    obtain ⟨h1, h2⟩ := all2_len h.2
    refine ⟨by simp [h1], fun i u v hu hv => ?_⟩
    cases i with
    | zero => simp at hu hv; subst hu; subst hv; exact h.1
    | succ i => exact h2 i u v (by simpa using hu) (by simpa using hv)
theorem meq_rel {φ : Phi} {f : Nat → Nat} : ∀ (k : Nat) {a b : AVal} {x : Value}, meq f k a b = true → VRel φ b x → VRel (fun c => φ (f c)) a x
  | 0, a, b, x, h, hx => by cases h
  | k + 1, a, b, x, h, hx => by
    have ih := fun {a b x} => meq_rel (φ := φ) (f := f) k (a := a) (b := b) (x := x)
    have ihl : ∀ {l l' : List AVal} {m : List Value}, all2 (meq f k) l l' = true → LRel φ l' m → LRel (fun c => φ (f c)) l m := fun {l l' m} h1 h2 => by
      obtain ⟨g1, g2⟩ := all2_len h1
      refine ⟨g1.trans h2.1, fun i v v' hv hv' => ?_⟩
      have hi : i < l'.length := by
        rw [← g1]
        rcases Nat.lt_or_ge i l.length with h | h
        · exact h
        · rw [List.getElem?_eq_none h] at hv; cases hv
      exact ih (g2 i v l'[i] hv (by simp [hi])) (h2.2 i l'[i] v' (by simp [hi]) hv')
    unfold meq at h
    split at h
    · rw [eq_of_beq h]; rw [hx.bool_inv]; exact .bool _
    · rw [Bool.and_eq_true] at h
      rw [of_decide_eq_true h.1, intEq_to h.2]; rw [hx.int_inv]; exact .int _ _
    · rw [strEq_to h]
      cases hx with
      | str _ hb => exact .str _ hb
    · rw [hx.nilptr_inv]; exact .nilptr
    · rw [hx.nilslice_inv]; exact .nilslice
    · obtain ⟨a, c, rfl⟩ := hx.eslice_inv; exact .eslice a c
    · rw [hx.nilmap_inv]; exact .nilmap
    · rw [hx.nilfunc_inv]; exact .nilfunc
    · rw [hx.niliface_inv]; exact .niliface
    · rw [Bool.and_eq_true] at h
      obtain ⟨p, h1, rfl⟩ := hx.ptr_inv
      rw [← Nat.eq_of_beq_eq_true h.1] at h1
      rw [Nat.eq_of_beq_eq_true h.2]
      exact .ptr _ _ p h1
    · simp only [Bool.and_eq_true] at h
      obtain ⟨⟨⟨h1, h2⟩, h3⟩, h4⟩ := h
      have e1 := Nat.eq_of_beq_eq_true h1
      rw [Nat.eq_of_beq_eq_true h2, Nat.eq_of_beq_eq_true h3, capEq_eq h4]
      cases hx with
      | sliceE _ _ _ _ p hp hl => exact .sliceE _ _ _ _ p (by rw [e1]; exact hp) hl
      | sliceG _ _ _ _ _ p hp hl g1 g2 => exact .sliceG _ _ _ _ _ p (by rw [e1]; exact hp) hl g1 g2
    · simp only [Bool.and_eq_true] at h
      obtain ⟨⟨h1, h2⟩, h3⟩ := h
      rw [Nat.eq_of_beq_eq_true h1]
      rcases hx.func_inv with ⟨g, a', b', e, rfl, q1, q2⟩ | ⟨l, p, e, _⟩
      · cases e
        have r1 := ihl h2 q1
        have r2 := ihl h3 q2
        exact .func _ _ _ _ _ (by simpa using r1.1) (by simpa using r2.1) (fun i v v' g1 g2 => r1.2 i v v' g1 (by simpa using g2)) (fun i v v' g1 g2 => r2.2 i v v' g1 (by simpa using g2))
      · cases e
    · rw [Bool.and_eq_true] at h
      obtain ⟨x', rfl, hx'⟩ := hx.iface_inv
      rw [Nat.eq_of_beq_eq_true h.1]
      exact .iface _ _ _ (ih h.2 hx')
    · obtain ⟨a', rfl, q⟩ := hx.agg_inv; exact .agg' (ihl h q)
    · obtain ⟨a', rfl, q⟩ := hx.tup_inv; exact .tup' (ihl h q)
    · cases h
theorem relab_rel {φ φ2 : Phi} {f : Nat → Nat} (hf : ∀ c p, φ c = some p → φ2 (f c) = some p) : ∀ (k : Nat) {a : AVal} {x : Value}, VRel φ a x → VRel φ2 (relab f k a) x
  | 0, a, x, hx => .bot x
  | k + 1, a, x, hx => by
    have ih := fun {a x} => relab_rel (φ := φ) (φ2 := φ2) (f := f) hf k (a := a) (x := x)
    have ihl : ∀ {l : List AVal} {m : List Value}, LRel φ l m → LRel φ2 (l.map (relab f k)) m := fun {l m} h => by
      refine ⟨by simp [h.1], fun i v v' hv hv' => ?_⟩
      rw [List.getElem?_map] at hv
      cases hl : l[i]? with
      | none => rw [hl] at hv; cases hv
      | some u => rw [hl] at hv; cases hv; exact ih (h.2 i u v' hl hv')
    cases hx with
    | bot v => exact .bot x
    | bool b => exact .bool b
    | int j n => exact .int j n
    | str s h => exact .str s h
    | nilptr => exact .nilptr
    | ptr id off p h => exact .ptr _ off p (hf _ _ h)
    | nilslice => exact .nilslice
    | eslice a c => exact .eslice a c
    | sliceE id off len c p h hl => exact .sliceE _ off len c p (hf _ _ h) hl
    | sliceG id off len sz c p h hl h1 h2 => exact .sliceG _ off len sz c p (hf _ _ h) hl h1 h2
    | nilmap => exact .nilmap
    | map id p h => exact .map _ p (hf _ _ h)
    | func g a b a' b' ha hb h h' =>
      have r1 := ihl (.of_arr ha h)
      have r2 := ihl (.of_arr hb h')
      exact .func _ _ _ _ _ (by simpa using r1.1) (by simpa using r2.1) (fun i v v' g1 g2 => r1.2 i v v' g1 (by simpa using g2)) (fun i v v' g1 g2 => r2.2 i v v' g1 (by simpa using g2))
    | yield l p h => exact .bot _
    | nilfunc => exact .nilfunc
    | iface t v v' h => exact .iface t _ v' (ih h)
    | niliface => exact .niliface
    | agg l a hs h => exact .agg' (ihl (.of_arr hs h))
    | tup l a hs h => exact .tup' (ihl (.of_arr hs h))

/-! ### Ids -/
theorem nthD_lt : ∀ (ρ : List Nat) (i nx : Nat), i < ρ.length → nthD ρ i nx = ρ[i]?.getD 0
  | [], i, nx, h => by simp at h
  | x :: l, 0, nx, h => rfl
  | x :: l, i + 1, nx, h => by show nthD l i nx = _; rw [nthD_lt l i nx (by simpa using h)]; simp
theorem nthD_ge : ∀ (ρ : List Nat) (i nx : Nat), ρ.length ≤ i → nthD ρ i nx = nx + (i - ρ.length)
  | [], i, nx, h => rfl
  | x :: l, 0, nx, h => by simp at h
  | x :: l, i + 1, nx, h => by show nthD l i nx = _; rw [nthD_ge l i nx (by simpa using h)]; simp
theorem allGe_mem {b : Nat} : ∀ {l : List Nat}, allGe b l = true → ∀ x ∈ l, b ≤ x
  | [], _, x, hx => by cases hx
  | y :: l, h, x, hx => by
    unfold allGe at h
    rw [Bool.and_eq_true] at h
    rcases List.mem_cons.1 hx with rfl | hx
    · exact Nat.le_of_ble_eq_true h.1
    · exact allGe_mem h.2 x hx
theorem nodupB_get : ∀ {l : List Nat}, nodupB l = true → ∀ (i j : Nat) x, l[i]? = some x → l[j]? = some x → i = j
  | [], _, i, j, x, h, _ => by simp at h
  | y :: l, h, i, j, x, hi, hj => by
    obtain ⟨h1, h2⟩ := nodupB_cons h
    cases i with
    | zero =>
      simp at hi; subst hi
      cases j with
      | zero => rfl
      | succ j => exact absurd (List.mem_of_getElem? (by simpa using hj)) h1
    | succ i =>
      cases j with
      | zero => simp at hj; subst hj; exact absurd (List.mem_of_getElem? (by simpa using hi)) h1
      | succ j => rw [nodupB_get h2 i j x (by simpa using hi) (by simpa using hj)]
theorem ren_lt {b nx c : Nat} {ρ : List Nat} (h : c < b) : ren b ρ nx c = c := by unfold ren; rw [blt_t h]; rfl
theorem ren_old {b nx c : Nat} {ρ : List Nat} (h : b ≤ c) (h2 : c < b + ρ.length) : ∃ x, ρ[c - b]? = some x ∧ ren b ρ nx c = x := by
  have hlt : c - b < ρ.length := by omega
  refine ⟨ρ[c - b], by simp [hlt], ?_⟩
  unfold ren
  rw [blt_f (by omega)]
  show nthD ρ (c - b) nx = _
  rw [nthD_lt _ _ _ hlt]; simp [hlt]
theorem ren_new {b nx c : Nat} {ρ : List Nat} (h : b + ρ.length ≤ c) : ren b ρ nx c = nx + (c - (b + ρ.length)) := by
  unfold ren
  rw [blt_f (by omega)]
  show nthD ρ (c - b) nx = _
  rw [nthD_ge _ _ _ (by omega)]; omega

theorem ren_inj {b nx : Nat} {ρ : List Nat} (hn : nodupB ρ = true) (hg : allGe b ρ = true) {c d : Nat} (hc : c < b + ρ.length) (hd : d < b + ρ.length) (h : ren b ρ nx c = ren b ρ nx d) : c = d := by
  rcases Nat.lt_or_ge c b with c1 | c1 <;> rcases Nat.lt_or_ge d b with d1 | d1
  · rwa [ren_lt c1, ren_lt d1] at h
  · obtain ⟨x, h1, h2⟩ := ren_old (nx := nx) d1 hd
    have := allGe_mem hg x (List.mem_of_getElem? h1)
    rw [ren_lt c1, h2] at h; omega
  · obtain ⟨x, h1, h2⟩ := ren_old (nx := nx) c1 hc
    have := allGe_mem hg x (List.mem_of_getElem? h1)
    rw [ren_lt d1, h2] at h; omega
  · obtain ⟨x, h1, h2⟩ := ren_old (nx := nx) c1 hc
    obtain ⟨y, g1, g2⟩ := ren_old (nx := nx) d1 hd
    rw [h2, g2] at h; subst h
    have := nodupB_get hn _ _ _ h1 g1
    omega

/-! ### Heaps -/
theorem objsHeap_get (ro : Bool) : ∀ (os : List (List AVal)) (c : Nat) (h : Heap) (j : Nat), (objsHeap ro c os h).get j = if c ≤ j ∧ j < c + os.length then (os[j - c]?).map (fun o => .cells ro o.length (BT.ofList o)) else h.get j
  | [], c, h, j => by rw [if_neg (by simp only [List.length_nil]; omega)]; rfl
  | o :: os, c, h, j => by
    show (objsHeap ro (c + 1) os (h.set c (.cells ro o.length (BT.ofList o)))).get j = _
    rw [objsHeap_get ro os, BT.get_set]
    by_cases h1 : j = c
    · subst h1
      rw [if_neg (by omega), if_pos rfl, if_pos (by simp)]; simp
    · by_cases h2 : c ≤ j ∧ j < c + (o :: os).length
      · have h3 : c + 1 ≤ j ∧ j < c + 1 + os.length := by simp at h2; omega
        rw [if_pos h3, if_pos h2, show j - c = (j - (c + 1)) + 1 by omega]; simp
      · have h3 : ¬ (c + 1 ≤ j ∧ j < c + 1 + os.length) := by simp at h2; omega
        rw [if_neg h3, if_neg h1, if_neg h2]
theorem globsHeap_get : ∀ {gs : List (Nat × List AVal)} {j : Nat} {o : AObj}, (globsHeap gs).get j = some o → ∃ l, (j, l) ∈ gs ∧ o = .cells true l.length (BT.ofList l)
  | [], j, o, h => by rw [show globsHeap [] = .nil from rfl, BT.get_nil] at h; cases h
  | g :: gs, j, o, h => by
    rw [show globsHeap (g :: gs) = (globsHeap gs).set g.1 (.cells true g.2.length (BT.ofList g.2)) from rfl, BT.get_set] at h
    split at h
    · rename_i e; subst e; cases h; exact ⟨g.2, List.mem_cons_self, rfl⟩
    · obtain ⟨l, h1, h2⟩ := globsHeap_get h
      exact ⟨l, List.mem_cons_of_mem _ h1, h2⟩
theorem globsLt_mem {ng : Nat} : ∀ {gs : List (Nat × List AVal)}, globsLt ng gs = true → ∀ g l, (g, l) ∈ gs → g < ng
  | [], _, g, l, h => by cases h
  | x :: gs, h, g, l, hm => by
    unfold globsLt at h
    rw [Bool.and_eq_true] at h
    rcases List.mem_cons.1 hm with e | hm
    · subst e; exact Nat.le_of_ble_eq_true h.1
    · exact globsLt_mem h.2 g l hm

/-- What is asked of an object. -/
def Cont (f : Nat → Nat) (o : List AVal) (cs : BT AVal) : Prop := ∀ (j : Nat) v, o[j]? = some v → ∃ b, cs.get j = some b ∧ meq f 10 v b = true
theorem objOK_spec {h : Heap} {f : Nat → Nat} {o : List AVal} {x : Option AObj} (hk : objOK h f o x = true) : ∃ ro cs, x = some (.cells ro o.length cs) ∧ Cont f o cs := by
  unfold objOK at hk
  split at hk
  · rename_i ro n cs
    rw [Bool.and_eq_true] at hk
    have hn := Nat.eq_of_beq_eq_true hk.1
    subst hn
    refine ⟨ro, cs, rfl, fun j v hv => ?_⟩
    cases hr : rdCells cs 0 o.length with
    | none => rw [hr] at hk; cases hk.2
    | some l =>
      rw [hr] at hk
      obtain ⟨g1, g2⟩ := all2_len hk.2
      obtain ⟨k1, k2⟩ := rdCells_spec _ _ _ _ hr
      have hj : j < o.length := by
        rcases Nat.lt_or_ge j o.length with h | h
        · exact h
        · rw [List.getElem?_eq_none h] at hv; cases hv
      have := k2 j hj
      rw [Nat.zero_add] at this
      have hl : l[j]? = some l[j] := by simp
      exact ⟨l[j], by rw [this, hl], g2 j v _ hv hl⟩
  · cases hk
theorem newOK_spec {h : Heap} {f : Nat → Nat} {o : List AVal} {x : Option AObj} (hk : newOK h f o x = true) : ∃ cs, x = some (.cells false o.length cs) ∧ Cont f o cs := by
  unfold newOK at hk
  split at hk
  · rename_i n cs
    have : objOK h f o (some (.cells false n cs)) = true := hk
    obtain ⟨ro, cs', e, hc⟩ := objOK_spec this
    cases e
    exact ⟨cs, rfl, hc⟩
  · cases hk
theorem objsOK_get {h : Heap} {f : Nat → Nat} : ∀ {os : List (List AVal)} {c : Nat}, objsOK h f c os = true → ∀ (i : Nat) o, os[i]? = some o → ∃ ro cs, h.get (f (c + i)) = some (.cells ro o.length cs) ∧ Cont f o cs
  | [], c, _, i, o, hi => by simp at hi
  | x :: os, c, hk, i, o, hi => by
    unfold objsOK at hk
    rw [Bool.and_eq_true] at hk
    cases i with
    | zero => simp at hi; subst hi; exact objOK_spec hk.1
    | succ i =>
      have := objsOK_get hk.2 i o (by simpa using hi)
      rwa [show c + 1 + i = c + (i + 1) by omega] at this
theorem newsOK_get {h : Heap} {f : Nat → Nat} : ∀ {os : List (List AVal)} {c : Nat}, newsOK h f c os = true → ∀ (i : Nat) o, os[i]? = some o → ∃ cs, h.get (f (c + i)) = some (.cells false o.length cs) ∧ Cont f o cs
  | [], c, _, i, o, hi => by simp at hi
  | x :: os, c, hk, i, o, hi => by
    unfold newsOK at hk
    rw [Bool.and_eq_true] at hk
    cases i with
    | zero => simp at hi; subst hi; exact newOK_spec hk.1
    | succ i =>
      have := newsOK_get hk.2 i o (by simpa using hi)
      rwa [show c + 1 + i = c + (i + 1) by omega] at this
theorem globsOK_get {h : Heap} {f : Nat → Nat} {ng : Nat} : ∀ {gs : List (Nat × List AVal)}, globsOK h f ng gs = true → ∀ g l, (g, l) ∈ gs → g < ng ∧ ∃ ro cs, h.get g = some (.cells ro l.length cs) ∧ Cont f l cs
  | [], _, g, l, hm => by cases hm
  | x :: gs, hk, g, l, hm => by
    unfold globsOK at hk
    simp only [Bool.and_eq_true] at hk
    rcases List.mem_cons.1 hm with e | hm
    · subst e; exact ⟨Nat.le_of_ble_eq_true hk.1.1, objOK_spec hk.1.2⟩
    · exact globsOK_get hk.2 g l hm

theorem cont_rel {φ : Phi} {f : Nat → Nat} {o : List AVal} {cs : BT AVal} {p : Place} {ccs : Array Value} (hc : Cont f o cs) (h : CRel φ o.length cs p ccs) : CRel (fun c => φ (f c)) o.length (BT.ofList o) p ccs := by
  refine ⟨h.1, h.2.1, h.2.2.1, fun i v hi hv => ?_⟩
  rw [BT.get_ofList] at hv
  obtain ⟨b, h1, h2⟩ := hc i v hv
  obtain ⟨x, g1, g2⟩ := h.2.2.2 i b hi h1
  exact ⟨x, g1, meq_rel 10 h2 g2⟩

/-- What an entry says. -/
def EntryOK (E : Env) (P : Program) (f : FuncId) (e : Entry) : Prop :=
  ∀ (w : World) (φ : Phi) (args' : Array Value), Rep w φ (entryHeap E.ng e) (E.ng + e.objs.length) w → GlobOK E.ng φ → LRel φ e.args args'.toList →
    Calls P f args' w fun en w' => ∃ v' φ', en = .returned v' ∧ QExt (E.ng + e.objs.length) φ φ' ∧ VRel φ' e.res v' ∧ Rep w φ' (objsHeap false (E.ng + e.objs.length) e.news .nil) (E.ng + e.objs.length + e.news.length) w'

theorem entryMemo_ok {E : Env} {P : Program} (hM : MachOK E P) {f : FuncId} {c n : Nat} {e : Entry} (hr : entryRuns E f c n e = true) : EntryOK E P f e := by
  intro w φ args' R G ha
  unfold entryRuns at hr
  split at hr
  · rename_i fr he
    rw [Bool.and_eq_true] at hr
    refine (calls_of_all hM R G ha he hr.2).mono fun en w' ⟨φ', v, v', s', hchk, hq, hen, hv, R'⟩ => ?_
    unfold resChk at hchk
    generalize scanO s'.d.h (E.ng + e.objs.length) 0 e.news (scan (E.ng + e.objs.length) 10 e.res v []) = σ at hchk
    unfold resOK at hchk
    simp only [Bool.and_eq_true] at hchk
    obtain ⟨⟨⟨⟨k1, k2⟩, k3⟩, k4⟩, k5⟩ := hchk
    have k1 := Nat.eq_of_beq_eq_true k1
    generalize hm : E.ng + e.objs.length = m at *
    let g := ren m σ s'.d.nx
    have hold : ∀ c, c < m → g c = c := fun c hc => ren_lt hc
    have hge : ∀ c, m + e.news.length ≤ c → φ' (g c) = none := fun c hc => by
      cases hp : φ' (g c) with
      | none => rfl
      | some p =>
        have h1 := R'.dom _ p hp
        have h2 : g c = s'.d.nx + (c - (m + σ.length)) := ren_new (by omega)
        omega
    refine ⟨v', fun c => φ' (g c), hen, ⟨fun c p hc => ?_, fun c hc hn => ?_⟩, meq_rel 10 k4 hv, R'.below, ?_, ?_, ?_, ?_, ?_⟩
    · have := R.dom c p hc
      show φ' (g c) = some p
      rw [hold c this]; exact hq.1 c p hc
    · show φ' (g c) = none
      rw [hold c hc]; exact hq.2 c hc hn
    · intro c o p ho hp
      rw [objsHeap_get] at ho
      split at ho
      · rename_i hc
        cases hoc : e.news[c - m]? with
        | none => rw [hoc] at ho; cases ho
        | some l =>
          rw [hoc] at ho; cases ho
          obtain ⟨cs, h1, h2⟩ := newsOK_get k5 (c - m) l hoc
          rw [show m + (c - m) = c by omega] at h1
          obtain ⟨ob, q1, q2⟩ := R'.obj (g c) _ p h1 hp
          cases q2 with
          | cells _ _ _ ccs T fz hcr hf => exact ⟨_, q1, .cells false _ _ ccs T fz (cont_rel h2 hcr) hf⟩
      · rw [BT.get_nil] at ho; cases ho
    · intro c d oc od pc pd hoc hod hpc hpd hb
      rw [objsHeap_get] at hoc hod
      split at hoc
      · rename_i hc
        split at hod
        · rename_i hd
          have key : ∀ x, m ≤ x ∧ x < m + e.news.length → ∃ l cs, s'.d.h.get (g x) = some (.cells false l cs) := fun x hx => by
            obtain ⟨cs, h1, _⟩ := newsOK_get k5 (x - m) e.news[x - m] (by simp)
            rw [show m + (x - m) = x by omega] at h1
            exact ⟨_, cs, h1⟩
          obtain ⟨_, _, g1⟩ := key c hc
          obtain ⟨_, _, g2⟩ := key d hd
          have := R'.inj _ _ _ _ _ _ g1 g2 hpc hpd hb
          exact ren_inj k2 k3 (by omega) (by omega) this
        · rw [BT.get_nil] at hod; cases hod
      · rw [BT.get_nil] at hoc; cases hoc
    · intro c o p ho hp hro
      rw [objsHeap_get] at ho
      split at ho
      · rename_i hc
        obtain ⟨cs, h1, _⟩ := newsOK_get k5 (c - m) e.news[c - m] (by simp)
        rw [show m + (c - m) = c by omega] at h1
        exact R'.rw (g c) _ p h1 hp rfl
      · rw [BT.get_nil] at ho; cases ho
    · intro c p hp
      rcases Nat.lt_or_ge c (m + e.news.length) with h | h
      · exact h
      · have := hge c h
        rw [this] at hp; cases hp
    · intro c o ho
      rw [objsHeap_get] at ho
      split at ho
      · rename_i hc; exact hc.2
      · rw [BT.get_nil] at ho; cases ho
  · cases hr

theorem newEff_get (f : Nat → Nat) : ∀ (os : List (List AVal)) (nx : Nat) (h : Heap) (j : Nat), (applyEff h (newEff f nx os)).get j = if nx ≤ j ∧ j < nx + os.length then (os[j - nx]?).map (fun o => .cells false o.length (BT.ofList (o.map (relab f 10)))) else h.get j
  | [], nx, h, j => by rw [if_neg (by simp only [List.length_nil]; omega)]; rfl
  | o :: os, nx, h, j => by
    show (applyEff (h.put nx (some (.cells false o.length (BT.ofList (o.map (relab f 10)))))) (newEff f (nx + 1) os)).get j = _
    rw [newEff_get f os, BT.get_put]
    by_cases h1 : j = nx
    · subst h1
      rw [if_neg (by omega), if_pos rfl, if_pos (by simp)]; simp
    · by_cases h2 : nx ≤ j ∧ j < nx + (o :: os).length
      · have h3 : nx + 1 ≤ j ∧ j < nx + 1 + os.length := by simp at h2; omega
        rw [if_pos h3, if_pos h2, show j - nx = (j - (nx + 1)) + 1 by omega]; simp
      · have h3 : ¬ (nx + 1 ≤ j ∧ j < nx + 1 + os.length) := by simp at h2; omega
        rw [if_neg h3, if_neg h1, if_neg h2]

/-- An entry, where it is used. -/
theorem entryR_ok {E : Env} {P : Program} {f : FuncId} {e : Entry} (hE : EntryOK E P f e) {w0 w : World} {φ : Phi} {h : Heap} {nx : Nat} {args : List AVal} {args' : Array Value} {ρ : List Nat} {v : AVal} {ef : Eff} {nx' : Nat}
    (hr : entryR E.ng e args h nx ρ = some (.val v ef nx')) (R : Rep w0 φ h nx w) (G : GlobOK E.ng φ) (ha : LRel φ args args'.toList) :
    Calls P f args' w fun en w' => ∃ v' φ', en = .returned v' ∧ φ.le φ' ∧ VRel φ' v v' ∧ Rep w0 φ' (applyEff h ef) nx' w' ∧ nx ≤ nx' ∧ ∀ id, φ id = none → id < nx → φ' id = none ∧ (applyEff h ef).get id = h.get id := by
  unfold entryR at hr
  split at hr
  · rename_i hc
    simp only [Bool.and_eq_true] at hc
    obtain ⟨⟨⟨⟨⟨c1, c2⟩, c3⟩, c4⟩, c5⟩, c6⟩ := hc
    have c1 := Nat.eq_of_beq_eq_true c1
    cases hr
    generalize hm : E.ng + e.objs.length = m
    let g := ren E.ng ρ nx
    have hgl : ∀ c, c < E.ng → g c = c := fun c hc => ren_lt hc
    have hnew : ∀ c, m ≤ c → g c = nx + (c - m) := fun c hc => by have := ren_new (b := E.ng) (nx := nx) (ρ := ρ) (c := c) (by omega); rw [show m = E.ng + ρ.length by omega]; exact this
    have hnone : ∀ c, m ≤ c → φ (g c) = none := fun c hc => by
      cases hp : φ (g c) with
      | none => rfl
      | some p => have := R.dom _ p hp; have := hnew c hc; omega
    have hlive : ∀ c o, (entryHeap E.ng e).get c = some o → c < m ∧ ∃ l ro cs, o = .cells true l.length (BT.ofList l) ∧ h.get (g c) = some (.cells ro l.length cs) ∧ Cont g l cs := fun c o ho => by
      unfold entryHeap at ho
      rw [objsHeap_get] at ho
      split at ho
      · rename_i hc
        cases hoc : e.objs[c - E.ng]? with
        | none => rw [hoc] at ho; cases ho
        | some l =>
          rw [hoc] at ho; cases ho
          obtain ⟨ro, cs, h1, h2⟩ := objsOK_get c5 (c - E.ng) l hoc
          rw [show E.ng + (c - E.ng) = c by omega] at h1
          exact ⟨by omega, l, ro, cs, rfl, h1, h2⟩
      · obtain ⟨l, h1, h2⟩ := globsHeap_get ho
        obtain ⟨g1, ro, cs, g2, g3⟩ := globsOK_get c6 c l h1
        exact ⟨by omega, l, ro, cs, h2, by rw [hgl c g1]; exact g2, g3⟩
    have Rc : Rep w (fun c => φ (g c)) (entryHeap E.ng e) m w := by
      refine ⟨Below.refl _ _, fun c o p ho hp => ?_, fun c d oc od pc pd hoc hod hpc hpd hb => ?_, fun c o p ho hp hro => ?_, fun c p hp => ?_, fun c o ho => (hlive c o ho).1⟩
      · obtain ⟨_, l, ro, cs, rfl, h1, h2⟩ := hlive c o ho
        obtain ⟨ob, q1, q2⟩ := R.obj (g c) _ p h1 hp
        cases q2 with
        | cells _ _ _ ccs T fz hcr hf => exact ⟨_, q1, .cells true _ _ ccs T fz (cont_rel h2 hcr) (fun e => by cases e)⟩
      · obtain ⟨g1, _, _, _, _, g2, _⟩ := hlive c oc hoc
        obtain ⟨k1, _, _, _, _, k2, _⟩ := hlive d od hod
        have := R.inj _ _ _ _ _ _ g2 k2 hpc hpd hb
        exact ren_inj c2 c3 (by omega) (by omega) this
      · obtain ⟨_, l, ro, cs, rfl, _⟩ := hlive c o ho
        cases hro
      · rcases Nat.lt_or_ge c m with h | h
        · exact h
        · rw [hnone c h] at hp; cases hp
    have Gc : GlobOK E.ng (fun c => φ (g c)) := fun c hc => by
      obtain ⟨p, h1, h2⟩ := G c hc
      exact ⟨p, by show φ (g c) = some p; rw [hgl c hc]; exact h1, h2⟩
    have hac : LRel (fun c => φ (g c)) e.args args'.toList := by
      obtain ⟨g1, g2⟩ := all2_len c4
      refine ⟨g1.trans ha.1, fun i x x' hx hx' => ?_⟩
      have hi : i < args.length := by
        rw [← g1]
        rcases Nat.lt_or_ge i e.args.length with h | h
        · exact h
        · rw [List.getElem?_eq_none h] at hx; cases hx
      exact meq_rel 10 (g2 i x args[i] hx (by simp [hi])) (ha.2 i args[i] x' (by simp [hi]) hx')
    rw [← hm] at Rc
    refine (hE w _ args' Rc Gc hac).mono fun en w' ⟨v', φ', hen, hq, hv, R'⟩ => ?_
    rw [hm] at hq R'
    let φ2 : Phi := fun id => if id < nx then φ id else φ' (m + (id - nx))
    have hlt : ∀ id, id < nx → φ2 id = φ id := fun id hid => if_pos hid
    have hge : ∀ id, nx ≤ id → φ2 id = φ' (m + (id - nx)) := fun id hid => if_neg (by omega)
    have hle : φ.le φ2 := fun id p hp => by rw [hlt id (R.dom id p hp)]; exact hp
    have hmap : ∀ c p, φ' c = some p → φ2 (g c) = some p := fun c p hp => by
      rcases Nat.lt_or_ge c m with hc | hc
      · have hcs : φ (g c) = some p := by
          cases hh : φ (g c) with
          | none => have := hq.2 c hc hh; rw [this] at hp; cases hp
          | some p' => have := hq.1 c p' hh; rw [hp] at this; exact this.symm
        exact hle _ _ hcs
      · rw [hge _ (by rw [hnew c hc]; omega), hnew c hc, show m + (nx + (c - m) - nx) = c by omega]; exact hp
    have hbel := R'.below
    have hget := newEff_get g e.news nx h
    refine ⟨v', φ2, hen, hle, relab_rel hmap 10 hv, ⟨R.below.trans (hbel.mono R.below.size), ?_, ?_, ?_, ?_, ?_⟩, Nat.le_add_right _ _, fun id hn hid => ⟨by rw [hlt id hid]; exact hn, by rw [hget, if_neg (by omega)]⟩⟩
    · intro id o p ho hp
      rw [hget] at ho
      split at ho
      · rename_i hid
        rw [hge id hid.1] at hp
        cases hoc : e.news[id - nx]? with
        | none => rw [hoc] at ho; cases ho
        | some l =>
          rw [hoc] at ho; cases ho
          have hob := R'.obj (m + (id - nx)) (.cells false l.length (BT.ofList l)) p (by rw [objsHeap_get, if_pos (by omega), show m + (id - nx) - m = id - nx by omega, hoc]; rfl) hp
          obtain ⟨ob, q1, q2⟩ := hob
          cases q2 with
          | cells _ _ _ ccs T fz hcr hf =>
            refine ⟨_, q1, .cells false _ _ ccs T fz ⟨hcr.1, hcr.2.1, hcr.2.2.1, fun i u hi hu => ?_⟩ hf⟩
            rw [BT.get_ofList, List.getElem?_map] at hu
            cases hl : l[i]? with
            | none => rw [hl] at hu; cases hu
            | some a =>
              rw [hl] at hu; cases hu
              obtain ⟨x, e1, e2⟩ := hcr.2.2.2 i a hi (by rw [BT.get_ofList]; exact hl)
              exact ⟨x, e1, relab_rel hmap 10 e2⟩
      · rename_i hid
        have hlt2 := R.hdom id o ho
        rw [hlt id hlt2] at hp
        obtain ⟨ob, q1, q2⟩ := R.obj id o p ho hp
        have hb := R.block_lt ho hp
        exact ⟨ob, by rw [hbel.block _ hb]; exact q1, q2.mono hle⟩
    · intro id jd oi oj pi pj hoi hoj hpi hpj hb
      have new_ge : ∀ id o p, nx ≤ id → (applyEff h (newEff g nx e.news)).get id = some o → φ2 id = some p → w.heap.size ≤ p.block := fun id o p hid ho hp => by
        rw [hget] at ho
        split at ho
        · rename_i hc
          rw [hge id hc.1] at hp
          cases hoc : e.news[id - nx]? with
          | none => rw [hoc] at ho; cases ho
          | some l => exact R'.rw (m + (id - nx)) (.cells false l.length (BT.ofList l)) p (by rw [objsHeap_get, if_pos (by omega), show m + (id - nx) - m = id - nx by omega, hoc]; rfl) hp rfl
        · have := R.hdom id o ho; omega
      have old_lt : ∀ id o p, id < nx → (applyEff h (newEff g nx e.news)).get id = some o → φ2 id = some p → h.get id = some o ∧ φ id = some p ∧ p.block < w.heap.size := fun id o p hid ho hp => by
        rw [hget, if_neg (by omega)] at ho
        rw [hlt id hid] at hp
        exact ⟨ho, hp, R.block_lt ho hp⟩
      rcases Nat.lt_or_ge id nx with h1 | h1 <;> rcases Nat.lt_or_ge jd nx with h2 | h2
      · obtain ⟨a1, a2, a3⟩ := old_lt id oi pi h1 hoi hpi
        obtain ⟨b1, b2, b3⟩ := old_lt jd oj pj h2 hoj hpj
        exact R.inj id jd oi oj pi pj a1 b1 a2 b2 hb
      · obtain ⟨a1, a2, a3⟩ := old_lt id oi pi h1 hoi hpi
        have := new_ge jd oj pj h2 hoj hpj
        omega
      · obtain ⟨a1, a2, a3⟩ := old_lt jd oj pj h2 hoj hpj
        have := new_ge id oi pi h1 hoi hpi
        omega
      · rw [hget] at hoi hoj
        split at hoi
        · rename_i hi
          split at hoj
          · rename_i hj
            rw [hge _ h1] at hpi
            rw [hge _ h2] at hpj
            have li : id - nx < e.news.length := by omega
            have lj : jd - nx < e.news.length := by omega
            have gi : ∃ o, (objsHeap false m e.news .nil).get (m + (id - nx)) = some o := ⟨_, by rw [objsHeap_get, if_pos (by omega), show m + (id - nx) - m = id - nx by omega, List.getElem?_eq_getElem li]; rfl⟩
            have gj : ∃ o, (objsHeap false m e.news .nil).get (m + (jd - nx)) = some o := ⟨_, by rw [objsHeap_get, if_pos (by omega), show m + (jd - nx) - m = jd - nx by omega, List.getElem?_eq_getElem lj]; rfl⟩
            obtain ⟨o1, g1⟩ := gi
            obtain ⟨o2, g2⟩ := gj
            have := R'.inj _ _ _ _ _ _ g1 g2 hpi hpj hb
            omega
          · have := R.hdom jd oj hoj; omega
        · have := R.hdom id oi hoi; omega
    · intro id o p ho hp hro
      rw [hget] at ho
      split at ho
      · rename_i hc
        rw [hge id hc.1] at hp
        cases hoc : e.news[id - nx]? with
        | none => rw [hoc] at ho; cases ho
        | some l =>
          have := R'.rw (m + (id - nx)) (.cells false l.length (BT.ofList l)) p (by rw [objsHeap_get, if_pos (by omega), show m + (id - nx) - m = id - nx by omega, hoc]; rfl) hp rfl
          exact Nat.le_trans R.below.size this
      · have h2 := R.hdom id o ho
        rw [hlt id h2] at hp
        exact R.rw id o p ho hp hro
    · intro id p hp
      rcases Nat.lt_or_ge id nx with h1 | h1
      · omega
      · rw [hge id h1] at hp
        have := R'.dom _ p hp
        omega
    · intro id o ho
      rw [hget] at ho
      split at ho
      · rename_i hc; omega
      · have := R.hdom id o ho; omega
  · cases hr

theorem memo_ok {E : Env} {P : Program} {f : FuncId} : ∀ {es : List Entry}, (∀ e ∈ es, EntryOK E P f e) → SpecOK E P f (memo E.ng es)
  | [], _ => fun w0 w φ h nx args args' v e nx' hv => by cases hv
  | e :: es, hes => fun w0 w φ h nx args args' v ef nx' hv R G ha => by
    have hv : (match entryOf E.ng e args h nx with | some r => r | none => memo E.ng es args h nx) = .val v ef nx' := hv
    cases ho : entryOf E.ng e args h nx with
    | none =>
      rw [ho] at hv
      exact memo_ok (es := es) (fun e he => hes e (List.mem_cons_of_mem _ he)) w0 w φ h nx args args' v ef nx' hv R G ha
    | some r =>
      rw [ho] at hv
      dsimp only at hv
      subst hv
      unfold entryOf at ho
      split at ho
      · exact entryR_ok (hes e List.mem_cons_self) ho R G ha
      · cases ho
/-- An entry that was shown where fewer functions had specs. -/
theorem EntryOK.env {E E' : Env} {P : Program} {f : FuncId} {e : Entry} (h : EntryOK E P f e) (hn : E'.ng = E.ng) : EntryOK E' P f e := by
  intro w φ args' R G ha
  rw [hn] at R G ⊢
  exact h w φ args' R G ha
end Go.Ev
end
section
/- The tables of a program. -/
set_option linter.unusedVariables false
set_option linter.unusedSimpArgs false
namespace Go.Ev
open Go.RowKit

def zszI (i : TypeInfo) : Bool := match i.zero with
  | some v => Nat.beq v.cells.size i.size
  | none => true
def fldI (n : Nat) (d : TypeDesc) : Bool := match d with
  | .struct fs => fs.toList.all fun f => Nat.blt f.type n
  | .named _ u => Nat.blt u n
  | _ => true
def tysOK (P : Program) : Bool := P.types.toList.all fun i => zszI i && fldI P.types.size i.desc
def eqsOK (P : Program) (eqs : List TypeId) : Bool := eqs.all fun t => !P.stoodInHeld t && !P.eqGuardType P.depth t
def namesOK (P : Program) : Bool := P.funcs.toList.all fun f => !(f.name == "runtime.NumGoroutine")

section
variable {P : Program} {specs : BT (List AVal → Heap → Nat → OpR)} {eqs : List TypeId} (hT : tysOK P = true)
include hT
theorem tysOK_at {t : TypeId} {i : TypeInfo} (h : P.types[t]? = some i) : zszI i = true ∧ fldI P.types.size i.desc = true := by
  have := List.all_eq_true.1 hT i (by rw [Array.mem_toList_iff]; exact Array.mem_of_getElem? h)
  rwa [Bool.and_eq_true] at this
omit hT in
theorem info_at {t : TypeId} {i : TypeInfo} (h : P.types[t]? = some i) : P.info? t = some i := by
  have hlt : t < P.types.size := (Array.getElem?_eq_some_iff.1 h).1
  show Tables.info? P.toTables t = some i
  unfold Tables.info?
  rw [if_pos hlt]; exact h
theorem tys_get {t : TypeId} {ti : TI} (h : (Env.of P specs eqs).tys.get t = some ti) : P.types[t]? = some ti.info ∧ P.underlying t = some ti.desc ∧ (∀ fs, ti.desc = .struct fs → ∃ (u : Nat) (i : TypeInfo), P.types[u]? = some i ∧ i.desc = TypeDesc.struct fs) := by
  unfold Env.of at h
  dsimp only at h
  rw [BT.get_ofList, List.getElem?_map, Array.getElem?_toList] at h
  cases hi : P.types[t]? with
  | none => rw [hi] at h; cases h
  | some i =>
    rw [hi] at h
    simp only [Option.map_some, Option.some.injEq] at h
    have hinfo := info_at hi
    have hfld := (tysOK_at hT hi).2
    have hself := hi
    subst h
    obtain ⟨desc, a1, a2, a3, a4, a5, a6, a7, a8, a9⟩ := i
    dsimp only at hfld ⊢
    cases desc with
    | named nm u =>
      have hu : u < P.types.size := Nat.le_of_ble_eq_true hfld
      have hj : P.types[u]? = some P.types[u] := by simp [hu]
      have hjL : P.types.toList[u]? = some P.types[u] := by rw [Array.getElem?_toList]; exact hj
      refine ⟨rfl, ?_, fun fs hfs => ?_⟩
      · dsimp only
        rw [hjL]
        unfold Program.underlying
        rw [hinfo]
        dsimp only
        rw [info_at hj]; rfl
      · dsimp only at hfs
        rw [hjL] at hfs
        exact ⟨u, _, hj, hfs⟩
    | struct fs => exact ⟨rfl, by unfold Program.underlying; rw [hinfo], fun fs' h => ⟨t, _, hself, h⟩⟩
    | _ => exact ⟨rfl, by unfold Program.underlying; rw [hinfo], fun fs h => by cases h⟩

theorem envOK_of (hE : eqsOK P eqs = true) : EnvOK (Env.of P specs eqs) P := by
  refine ⟨fun t ti h => ?_, fun t ti v h hv => ?_, fun f fn h => ?_, rfl, fun t ti fs h hd f hf => ?_, fun t h => ?_⟩
  · obtain ⟨h1, h2, _⟩ := tys_get hT h
    exact ⟨info_at h1, h2⟩
  · obtain ⟨h1, _, _⟩ := tys_get hT h
    have := (tysOK_at hT h1).1
    unfold zszI at this
    rw [hv] at this
    exact Nat.eq_of_beq_eq_true this
  · unfold Env.of at h
    dsimp only at h
    rwa [BT.get_ofList, Array.getElem?_toList] at h
  · obtain ⟨_, _, h3⟩ := tys_get hT h
    obtain ⟨u, i, h4, h5⟩ := h3 fs hd
    have := (tysOK_at hT h4).2
    unfold fldI at this
    rw [h5] at this
    have hlt : f.type < P.types.size := Nat.le_of_ble_eq_true (List.all_eq_true.1 this f hf)
    unfold Env.of
    dsimp only
    rw [BT.get_ofList, List.getElem?_map, Array.getElem?_toList]
    exact ⟨_, by rw [show P.types[f.type]? = some P.types[f.type] by simp [hlt]]; rfl⟩
  · have hm : t ∈ eqs := List.contains_iff_mem.1 h
    have := List.all_eq_true.1 hE t hm
    rw [Bool.and_eq_true, Bool.not_eq_true', Bool.not_eq_true'] at this
    exact this
end

theorem names_of {P : Program} {specs : BT (List AVal → Heap → Nat → OpR)} {eqs : List TypeId} (hN : namesOK P = true) : ∀ f fn, (Env.of P specs eqs).fns.get f = some fn → (fn.name == "runtime.NumGoroutine") = false := by
  intro f fn h
  unfold Env.of at h
  dsimp only at h
  rw [BT.get_ofList] at h
  have := List.all_eq_true.1 hN fn (List.mem_of_getElem? h)
  rwa [Bool.not_eq_true'] at this

/-- The specs, as a list. -/
noncomputable def specsL : List (Nat × (List AVal → Heap → Nat → OpR)) → BT (List AVal → Heap → Nat → OpR)
  | [] => .nil
  | x :: l => (specsL l).set x.1 x.2
theorem specsL_get : ∀ {l : List (Nat × (List AVal → Heap → Nat → OpR))} {f : Nat} {sp : List AVal → Heap → Nat → OpR}, (specsL l).get f = some sp → (f, sp) ∈ l
  | [], f, sp, h => by rw [show specsL [] = .nil from rfl, BT.get_nil] at h; cases h
  | x :: l, f, sp, h => by
    rw [show specsL (x :: l) = (specsL l).set x.1 x.2 from rfl, BT.get_set] at h
    split at h
    · rename_i e; subst e; cases h; exact List.mem_cons_self
    · exact List.mem_cons_of_mem _ (specsL_get h)
def bodied (P : Program) (f : Nat) : Bool := match P.funcs[f]? with
  | some fn => fn.body.isSome
  | none => false
theorem machOK_of {P : Program} {eqs : List TypeId} {l : List (Nat × (List AVal → Heap → Nat → OpR))} (hT : tysOK P = true) (hE : eqsOK P eqs = true) (hN : namesOK P = true)
    (hs : ∀ f sp, (f, sp) ∈ l → SpecOK (Env.of P (specsL l) eqs) P f sp ∧ bodied P f = true) : MachOK (Env.of P (specsL l) eqs) P := by
  refine ⟨envOK_of hT hE, names_of hN, fun f sp h => ?_⟩
  obtain ⟨h1, h2⟩ := hs f sp (specsL_get h)
  refine ⟨h1, ?_⟩
  unfold bodied at h2
  cases hf : P.funcs[f]? with
  | none => rw [hf] at h2; cases h2
  | some fn =>
    rw [hf] at h2
    dsimp only at h2
    obtain ⟨b, hb⟩ := Option.isSome_iff_exists.1 h2
    refine ⟨fn, b, ?_, hb⟩
    unfold Env.of
    dsimp only
    rw [BT.get_ofList, Array.getElem?_toList]; exact hf
/-- Where the specs do not matter. -/
theorem SpecOK.env {E E' : Env} {P : Program} {f : FuncId} {sp : List AVal → Heap → Nat → OpR} (h : SpecOK E P f sp) (hn : E'.ng = E.ng) : SpecOK E' P f sp := by
  intro w0 w φ hp nx args args' v e nx' h1 h2 h3 h4
  rw [hn] at h3
  exact h w0 w φ hp nx args args' v e nx' h1 h2 h3 h4
end Go.Ev
namespace Go.Ev
open Go.RowKit
theorem EsOK.nil {E : Env} {P : Program} {f : FuncId} : ∀ e ∈ ([] : List Entry), EntryOK E P f e := fun e h => by cases h
theorem EsOK.cons {E : Env} {P : Program} {f : FuncId} {e : Entry} {es : List Entry} (h : EntryOK E P f e) (hs : ∀ e ∈ es, EntryOK E P f e) : ∀ e' ∈ e :: es, EntryOK E P f e' := fun e' he => by
  rcases List.mem_cons.1 he with rfl | he
  · exact h
  · exact hs e' he
/-- One more function that is remembered. -/
theorem MachOK.remember {P : Program} {eqs : List TypeId} {l : List (Nat × (List AVal → Heap → Nat → OpR))} (M : MachOK (Env.of P (specsL l) eqs) P) {f : FuncId} {es : List Entry} (hes : ∀ e ∈ es, EntryOK (Env.of P (specsL l) eqs) P f e) (hb : bodied P f = true) {n : Nat} (hn : (Env.of P (specsL l) eqs).ng = n) :
    MachOK (Env.of P (specsL ((f, memo n es) :: l)) eqs) P := by
  refine ⟨⟨M.env.tys, M.env.zsz, M.env.fns, M.env.err, M.env.fld, M.env.eqs⟩, M.nm, fun g sp h => ?_⟩
  have h' : ((specsL l).set f (memo n es)).get g = some sp := h
  rw [BT.get_set] at h'
  split at h'
  · rename_i e
    subst e
    cases h'
    subst hn
    refine ⟨(memo_ok hes).env rfl, ?_⟩
    unfold bodied at hb
    cases hf : P.funcs[g]? with
    | none => rw [hf] at hb; cases hb
    | some fn =>
      rw [hf] at hb
      obtain ⟨b, hb'⟩ := Option.isSome_iff_exists.1 hb
      refine ⟨fn, b, ?_, hb'⟩
      unfold Env.of
      dsimp only
      rw [BT.get_ofList, Array.getElem?_toList]; exact hf
  · obtain ⟨h1, h2⟩ := M.specs g sp h'
    exact ⟨h1.env rfl, h2⟩

/-- A call without arguments, where one package-level variable (a row of cells) is known. -/
theorem closed_call {E : Env} {P : Program} {f : FuncId} {K : List AVal} {v : AVal} (h : EntryOK E P f ⟨[(0, K)], [], [], v, []⟩) (hng : 1 ≤ E.ng) {w : World} {ccs : Array Value} {T : TypeId} {fz : Nat × Nat} (h0 : w.heap[0]? = some (.cells ccs T fz)) (hn : K.length ≤ ccs.size)
    (hc : ∀ (i : Nat) (x : AVal), K[i]? = some x → ∃ y, ccs[i]? = some y ∧ ∀ φ, VRel φ x y) : Calls P f #[] w fun e w' => ∃ φ y, e = .returned y ∧ VRel φ v y ∧ Below w.heap.size w w' := by
  let φ : Phi := fun g => if g = 0 then some ⟨0, 0, K.length, ccs.size⟩ else if g < E.ng then some ⟨g, 0, 0, 0⟩ else none
  have hget : ∀ c o, (entryHeap E.ng ⟨[(0, K)], [], [], v, []⟩).get c = some o → c = 0 ∧ o = .cells true K.length (BT.ofList K) := fun c o ho => by
    have ho : (globsHeap [(0, K)]).get c = some o := ho
    obtain ⟨l, h1, h2⟩ := globsHeap_get ho
    simp at h1
    obtain ⟨rfl, rfl⟩ := h1
    exact ⟨rfl, h2⟩
  have R : Rep w φ (entryHeap E.ng ⟨[(0, K)], [], [], v, []⟩) E.ng w := by
    refine ⟨Below.refl _ _, fun c o p ho hp => ?_, fun c d oc od pc pd hoc hod hpc hpd hb => ?_, fun c o p ho hp hro => ?_, fun c p hp => ?_, fun c o ho => ?_⟩
    · obtain ⟨rfl, rfl⟩ := hget c o ho
      cases hp
      refine ⟨_, h0, .cells true _ _ ccs T fz ⟨rfl, rfl, by simpa using hn, fun i x hi hx => ?_⟩ (fun e => by cases e)⟩
      rw [BT.get_ofList] at hx
      obtain ⟨y, g1, g2⟩ := hc i x hx
      exact ⟨y, by simpa using g1, g2 _⟩
    · rw [(hget c oc hoc).1, (hget d od hod).1]
    · obtain ⟨rfl, rfl⟩ := hget c o ho
      cases hro
    · by_cases h1 : c = 0
      · omega
      · have hp : (if c = 0 then some ⟨0, 0, K.length, ccs.size⟩ else if c < E.ng then some ⟨c, 0, 0, 0⟩ else none : Option Place) = some p := hp
        rw [if_neg h1] at hp
        split at hp
        · assumption
        · cases hp
    · rw [(hget c o ho).1]; omega
  have G : GlobOK E.ng φ := fun g hg => by
    by_cases h1 : g = 0
    · subst h1; exact ⟨_, if_pos rfl, rfl, rfl⟩
    · exact ⟨⟨g, 0, 0, 0⟩, (if_neg h1).trans (if_pos hg), rfl, rfl⟩
  exact (h w φ #[] R G (.nil _)).mono fun e w' ⟨y, φ', h1, _, h2, h3⟩ => ⟨φ', y, h1, h2, h3.below⟩
end Go.Ev
end
section
/- Proofs about the abstract machine's runs: code by code. -/
set_option linter.unusedVariables false
set_option linter.unusedSimpArgs false
set_option linter.unusedSectionVars false
namespace Go.Ev
open Go.RowKit

def Reach (E : Env) (s s' : S) : Prop := ∃ n, runA E n s = .next s'
theorem Reach.refl (E : Env) (s : S) : Reach E s s := ⟨0, rfl⟩
theorem Reach.head {E : Env} {s s1 s2 : S} (h : stepA E s = .next s1) (r : Reach E s1 s2) : Reach E s s2 := by
  obtain ⟨n, hn⟩ := r
  refine ⟨n + 1, ?_⟩
  show (R.rec (motive := fun _ => R) (fun s' => runA E n s') (fun v s' => .done v s') (fun c => .panicked c) (fun l => .branch l) (fun w => .stuck w) (stepA E s) : R) = _
  rw [h]; exact hn
theorem Reach.one {E : Env} {s s1 : S} (h : stepA E s = .next s1) : Reach E s s1 := .head h (.refl E s1)
theorem Reach.trans {E : Env} : ∀ {s s1 s2 : S}, Reach E s s1 → Reach E s1 s2 → Reach E s s2 := by
  intro s s1 s2 ⟨n, hn⟩ h2
  induction n generalizing s with
  | zero => cases hn; exact h2
  | succ n ih =>
    have h : (R.rec (motive := fun _ => R) (fun s' => runA E n s') (fun v s' => .done v s') (fun c => .panicked c) (fun l => .branch l) (fun w => .stuck w) (stepA E s) : R) = .next s1 := hn
    cases hs : stepA E s with
    | next s' => rw [hs] at h; exact .head hs (ih h)
    | _ => rw [hs] at h; cases h

/-- How code is left. -/
inductive Out where
  | norm
  | ret
  | exit (id : Nat)

section
variable {E : Env} {k : FK}
/-- Where code comes to, whatever is behind it. -/
def Comes' (E : Env) (k : FK) (s : S) (td : List AItem) (cs : List AFrame) (t' : BT AVal) (d' : D) : Out → Prop
  | .norm => Reach E s ⟨⟨k, .run, td, t'⟩, cs, d'⟩
  | .ret => ∃ td', Reach E s ⟨⟨k, .returning, td', t'⟩, cs, d'⟩
  | .exit id => ∀ td', exitTo id td = some td' → Reach E s ⟨⟨k, .run, td', t'⟩, cs, d'⟩
def wpA (E : Env) (k : FK) (c : Code) (t : BT AVal) (d : D) (Q : Out → BT AVal → D → Prop) : Prop :=
  ∀ td cs, ∃ o t' d', Q o t' d' ∧ Comes' E k ⟨⟨k, .run, .code c :: td, t⟩, cs, d⟩ td cs t' d' o
theorem wpA.mono {c : Code} {t : BT AVal} {d : D} {Q Q' : Out → BT AVal → D → Prop} (h : wpA E k c t d Q) (hq : ∀ o t' d', Q o t' d' → Q' o t' d') : wpA E k c t d Q' :=
  fun td cs => let ⟨o, t', d', q, r⟩ := h td cs; ⟨o, t', d', hq _ _ _ q, r⟩
theorem Comes'.head {s s1 : S} {td : List AItem} {cs : List AFrame} {t' : BT AVal} {d' : D} {o : Out} (h : Reach E s s1) (r : Comes' E k s1 td cs t' d' o) : Comes' E k s td cs t' d' o := by
  cases o with
  | norm => exact h.trans r
  | ret => obtain ⟨td', r⟩ := r; exact ⟨td', h.trans r⟩
  | exit id => exact fun td' e => h.trans (r td' e)

/-- Behind the first of two. -/
def thenQ (Q1 : BT AVal → D → Prop) (Q : Out → BT AVal → D → Prop) : Out → BT AVal → D → Prop
  | .norm, t, d => Q1 t d
  | o, t, d => Q o t d
theorem wp_seq {a b : Code} {t : BT AVal} {d : D} {Q : Out → BT AVal → D → Prop} (h : wpA E k a t d (thenQ (fun t d => wpA E k b t d Q) Q)) : wpA E k (.seq a b) t d Q := by
  intro td cs
  obtain ⟨o, t1, d1, q, r⟩ := h (.code b :: td) cs
  have s0 : Reach E ⟨⟨k, .run, .code (.seq a b) :: td, t⟩, cs, d⟩ ⟨⟨k, .run, .code a :: .code b :: td, t⟩, cs, d⟩ := .one rfl
  cases o with
  | norm =>
    obtain ⟨o2, t2, d2, q2, r2⟩ := q td cs
    exact ⟨o2, t2, d2, q2, .head (s0.trans r) r2⟩
  | ret => exact ⟨.ret, t1, d1, q, .head s0 r⟩
  | exit id => exact ⟨.exit id, t1, d1, q, .head s0 (fun td' e => r td' e)⟩
theorem wp_skip {t : BT AVal} {d : D} {Q : Out → BT AVal → D → Prop} (h : Q .norm t d) : wpA E k .skip t d Q := fun td cs => ⟨.norm, t, d, h, Reach.one rfl⟩
theorem wp_label {l : Nat} {t : BT AVal} {d : D} {Q : Out → BT AVal → D → Prop} (h : Q .norm t d) : wpA E k (.label l) t d Q := fun td cs => ⟨.norm, t, d, h, Reach.one rfl⟩
theorem wp_ret {t : BT AVal} {d : D} {Q : Out → BT AVal → D → Prop} (hk : k.ro = none) (h : Q .ret t d) : wpA E k .ret t d Q := fun td cs => by
  obtain ⟨fn, size, ds, kd, ro⟩ := k
  cases hk
  exact ⟨.ret, t, d, h, _, Reach.one rfl⟩
theorem wp_exit {id : Nat} {t : BT AVal} {d : D} {Q : Out → BT AVal → D → Prop} (h : Q (.exit id) t d) : wpA E k (.exit id) t d Q := fun td cs => by
  refine ⟨.exit id, t, d, h, fun td' e => Reach.one ?_⟩
  show exitR ⟨E, k, t, cs, d⟩ id td (exitTo id td) = _
  rw [e]; rfl
theorem wp_cond {c : Operand} {a b : Code} {x : Bool} {t : BT AVal} {d : D} {Q : Out → BT AVal → D → Prop} (hc : evalT E.ng t c = .bool x) (h : wpA E k (if x then a else b) t d Q) : wpA E k (.cond c a b) t d Q := by
  intro td cs
  obtain ⟨o, t1, d1, q, r⟩ := h td cs
  refine ⟨o, t1, d1, q, .head (Reach.one ?_) r⟩
  show condR ⟨E, k, t, cs, d⟩ a b td (evalT E.ng t c) = _
  rw [hc]
  cases x <;> rfl
theorem wp_block {id : Nat} {c : Code} {t : BT AVal} {d : D} {Q : Out → BT AVal → D → Prop} (h : wpA E k c t d (fun o t d => match o with | .norm => Q .norm t d | .ret => Q .ret t d | .exit i => if i = id then Q .norm t d else Q (.exit i) t d)) : wpA E k (.block id c) t d Q := by
  intro td cs
  obtain ⟨o, t1, d1, q, r⟩ := h (.inBlock id :: td) cs
  have s0 : Reach E ⟨⟨k, .run, .code (.block id c) :: td, t⟩, cs, d⟩ ⟨⟨k, .run, .code c :: .inBlock id :: td, t⟩, cs, d⟩ := .one rfl
  cases o with
  | norm => exact ⟨.norm, t1, d1, q, .head s0 (r.trans (Reach.one rfl))⟩
  | ret => exact ⟨.ret, t1, d1, q, .head s0 r⟩
  | exit i =>
    dsimp only at q
    by_cases e : i = id
    · rw [if_pos e] at q
      subst e
      exact ⟨.norm, t1, d1, q, .head s0 (r td (by unfold exitTo; rw [beq_t rfl]; rfl))⟩
    · rw [if_neg e] at q
      refine ⟨.exit i, t1, d1, q, .head s0 (fun td' e' => r td' ?_)⟩
      unfold exitTo
      rw [beq_f (Ne.symm e)]; exact e'
theorem wp_scope {c : Code} {t : BT AVal} {d : D} {Q : Out → BT AVal → D → Prop} (h : wpA E k c t d Q) : wpA E k (.scope c) t d Q := by
  intro td cs
  obtain ⟨o, t1, d1, q, r⟩ := h (.inScope c :: td) cs
  have s0 : Reach E ⟨⟨k, .run, .code (.scope c) :: td, t⟩, cs, d⟩ ⟨⟨k, .run, .code c :: .inScope c :: td, t⟩, cs, d⟩ := .one rfl
  cases o with
  | norm => exact ⟨.norm, t1, d1, q, .head s0 (r.trans (Reach.one rfl))⟩
  | ret => exact ⟨.ret, t1, d1, q, .head s0 r⟩
  | exit i => exact ⟨.exit i, t1, d1, q, .head s0 (fun td' e => r td' e)⟩
/-- A loop, at a round's head. -/
def wpL (E : Env) (k : FK) (c : Code) (t : BT AVal) (d : D) (Q : Out → BT AVal → D → Prop) : Prop :=
  ∀ td cs, ∃ o t' d', Q o t' d' ∧ Comes' E k ⟨⟨k, .run, .code c :: .inLoop c :: td, t⟩, cs, d⟩ td cs t' d' o
theorem wp_loop {c : Code} {t : BT AVal} {d : D} {Q : Out → BT AVal → D → Prop} (h : wpL E k c t d Q) : wpA E k (.loop c) t d Q := by
  intro td cs
  obtain ⟨o, t1, d1, q, r⟩ := h td cs
  exact ⟨o, t1, d1, q, .head (Reach.one rfl) r⟩
theorem wpL_round {c : Code} {t : BT AVal} {d : D} {Q : Out → BT AVal → D → Prop} (h : wpA E k c t d (thenQ (fun t d => wpL E k c t d Q) Q)) : wpL E k c t d Q := by
  intro td cs
  obtain ⟨o, t1, d1, q, r⟩ := h (.inLoop c :: td) cs
  cases o with
  | norm =>
    obtain ⟨o2, t2, d2, q2, r2⟩ := q td cs
    exact ⟨o2, t2, d2, q2, .head (r.trans (Reach.one rfl)) r2⟩
  | ret => exact ⟨.ret, t1, d1, q, r⟩
  | exit id => exact ⟨.exit id, t1, d1, q, fun td' e => r td' e⟩

/-! ### Calls -/
/-- What a function comes to: it stands before its return. -/
def AC (E : Env) (f : FuncId) (args : List AVal) (d : D) (Q : AVal → D → Prop) : Prop :=
  ∃ fr fn, enterF E f args .normal = some fr ∧ E.fns.get f = some fn ∧ ∀ cs, ∃ size td t' d' vs, Reach E ⟨fr, cs, d⟩ ⟨⟨⟨f, size, [], .normal, none⟩, .returning, td, t'⟩, cs, d'⟩ ∧ resultsV E d'.h t' fn.results.toList = some vs ∧ Q (ret1 vs) d'
theorem AC.mono {f : FuncId} {args : List AVal} {d : D} {Q Q' : AVal → D → Prop} (h : AC E f args d Q) (hq : ∀ v d', Q v d' → Q' v d') : AC E f args d Q' := by
  obtain ⟨fr, fn, h1, h2, h3⟩ := h
  exact ⟨fr, fn, h1, h2, fun cs => let ⟨size, td, t', d', vs, r, g, q⟩ := h3 cs; ⟨size, td, t', d', vs, r, g, hq _ _ q⟩⟩
theorem AC.of_wp {f : FuncId} {fn : Func} {c : Code} {args : List AVal} {d : D} {Q : AVal → D → Prop} (hf : E.fns.get f = some fn) (hb : fn.body = some c)
    (h : wpA E ⟨f, fn.ntmps + (args.length - fn.ntmps), [], .normal, none⟩ c (BT.ofList args) d (fun o t' d' => (o = .norm ∨ o = .ret) ∧ ∃ vs, resultsV E d'.h t' fn.results.toList = some vs ∧ Q (ret1 vs) d')) : AC E f args d Q := by
  refine ⟨_, fn, by unfold enterF; rw [hf]; dsimp only; rw [hb], hf, fun cs => ?_⟩
  obtain ⟨o, t', d', ⟨ho, vs, g1, g2⟩, r⟩ := h [] cs
  rcases ho with rfl | rfl
  · exact ⟨_, [], t', d', vs, Reach.trans r (Reach.one rfl), g1, g2⟩
  · obtain ⟨td', r⟩ := r
    exact ⟨_, td', t', d', vs, r, g1, g2⟩
theorem retV_eq {fr : AFrame} {cs : List AFrame} {d : D} {vs : List AVal} : retV fr cs d (some vs) = doReturn fr d (ret1 vs) cs := by
  unfold retV ret1
  split
  · rename_i v e; cases e; rfl
  · rename_i vs' hne e
    cases e
    split
    · exact absurd rfl (hne _)
    · rfl
  · rename_i e; cases e
/-- A call, from its caller. -/
theorem AC.call {f : FuncId} {args : List AVal} {d : D} {Q : AVal → D → Prop} (h : AC E f args d Q) : ∃ fr, enterF E f args .normal = some fr ∧ ∀ c cs, ∃ v d', Q v d' ∧ Reach E ⟨fr, c :: cs, d⟩ ⟨c.finish v, cs, d'⟩ := by
  obtain ⟨fr, fn, h1, h2, h3⟩ := h
  refine ⟨fr, h1, fun c cs => ?_⟩
  obtain ⟨size, td, t', d', vs, r, g, q⟩ := h3 (c :: cs)
  refine ⟨_, d', q, r.trans (Reach.one ?_)⟩
  show unwind0 E ⟨⟨f, size, [], .normal, none⟩, .returning, td, t'⟩ (c :: cs) d' .returning = _
  unfold unwind0
  dsimp only
  rw [h2]
  dsimp only
  rw [g, retV_eq]; rfl
/-- .. and as a contract against the model. -/
theorem AC.calls {P : Program} (hM : MachOK E P) {f : FuncId} {w : World} {φ : Phi} {h : Heap} {nx : Nat} (R : Rep w φ h nx w) (G : GlobOK E.ng φ) {args : List AVal} {args' : Array Value} (ha : LRel φ args args'.toList) {Q : AVal → D → Prop} (hc : AC E f args ⟨h, nx⟩ Q) :
    Calls P f args' w fun e w' => ∃ φ' v v' d', Q v d' ∧ QExt nx φ φ' ∧ e = .returned v' ∧ VRel φ' v v' ∧ Rep w φ' d'.h d'.nx w' := by
  intro cs
  obtain ⟨fr, fn, h1, h2, h3⟩ := hc
  obtain ⟨g1, g2, g3⟩ := enter_rel hM (h := h) (nx := nx) (lo := nx) h1 ha
  have S : SRel E w nx cs φ ⟨fr, [], ⟨h, nx⟩⟩ (Frame.enter P f args' .normal) cs w := ⟨R, G, nx, Nat.le_refl _, g1, by
    show FsRel E φ h nx cs fr.k.kind nx [] cs
    rw [g2]; exact .nil nx (Nat.le_refl _)⟩
  obtain ⟨size, td, t', d', vs, ⟨n, hn⟩, g, q⟩ := h3 []
  obtain ⟨φ2, fr2, cs2, w2, k0, k1, S2⟩ := runA_next hM n S hn
  have hst : stepA E ⟨⟨⟨f, size, [], .normal, none⟩, .returning, td, t'⟩, [], d'⟩ = .done (ret1 vs) ⟨⟨⟨f, size, [], .normal, none⟩, .returning, td, t'⟩, [], d'⟩ := by
    show unwind0 E ⟨⟨f, size, [], .normal, none⟩, .returning, td, t'⟩ [] d' .returning = _
    unfold unwind0
    dsimp only
    rw [h2]
    dsimp only
    rw [g, retV_eq]; rfl
  have o := stepA_sound hM S2
  rw [hst] at o
  cases o with
  | done _ _ v' hv hb hl hf R2 =>
    subst hb
    exact ⟨.returned v', w2, fr2, ⟨φ2, _, v', d', q, k0, rfl, hv, R2⟩, k1, hf, hl⟩

/-! ### Regions -/
/-- A round of a loop over a function, from the caller of the loop's function. -/
def RC (E : Env) (r : ALoop) (l : Nat) (args : List AVal) (d : D) (Q : AVal → D → Prop) : Prop :=
  ∀ c cs, ∃ v d', Q v d' ∧ Reach E ⟨⟨⟨r.fn, r.size, [], .normal, some l⟩, .run, [.code r.assign, .beginRound, .code r.body], setParams r.size r.tmps r.params args⟩, c :: cs, d⟩ ⟨c.finish v, cs, d'⟩
/-- A region's operations, in the text's order. -/
def wpO (E : Env) (k : FK) (ops : List Oper) : List Oper → BT AVal → D → (BT AVal → D → Prop) → Prop
  | [], t, d, Q => Q t d
  | o :: rest, t, d, Q => match wanted o.guard t ops with
    | .yes => match evOp ⟨E, t, d.h, d.nx⟩ o.op with
      | .val v e nx' => wpO E k ops rest (putT k.size t o.dst v) ⟨applyEff d.h e, nx'⟩ Q
      | .enter f args => match E.specs.get f with
        | none => AC E f args d (fun v d' => wpO E k ops rest (putT k.size t o.dst v) d' Q)
        | some sp => match sp args d.h d.nx with
          | .val v e nx' => wpO E k ops rest (putT k.size t o.dst v) ⟨applyEff d.h e, nx'⟩ Q
          | _ => False
      | .round l args => ∃ r, d.h.get l = some (.loop r) ∧ r.params.length = args.length ∧ RC E r l args d (fun v d' => wpO E k ops rest (putT k.size t o.dst v) d' Q)
      | _ => False
    | .no => wpO E k ops rest (putT k.size t o.dst undef') d Q
    | .unk => False
/-- A step's outcome, from which a state is come to. -/
def Leads (E : Env) (r : R) (s : S) : Prop := ∃ s1, r = .next s1 ∧ Reach E s1 s
theorem Leads.reach {s0 s : S} (h : Leads E (stepA E s0) s) : Reach E s0 s := let ⟨_, e, r⟩ := h; .head e r
theorem wpO_sound {ops : List Oper} : ∀ (todo : List Oper) (t : BT AVal) (d : D) (Q : BT AVal → D → Prop), wpO E k ops todo t d Q → ∀ (td : List AItem) (cs : List AFrame),
    ∃ t' d', Q t' d' ∧ Leads E (regionR E k cs ops td (runOps E ops k.size todo t d.h d.nx)) ⟨⟨k, .run, td, t'⟩, cs, d'⟩ := by
  intro todo
  induction todo with
  | nil => intro t d Q h td cs; exact ⟨t, d, h, _, rfl, .refl E _⟩
  | cons o rest ih =>
    intro t d Q h td cs
    obtain ⟨hp, nx⟩ := d
    rw [runOps_cons]
    unfold wpO at h
    -- from the frame to which a value has come back
    have back : ∀ (t2 : BT AVal) (d2 : D), wpO E k ops rest t2 d2 Q → ∃ t' d', Q t' d' ∧ Reach E ⟨⟨k, .run, .inRegion ops rest :: td, t2⟩, cs, d2⟩ ⟨⟨k, .run, td, t'⟩, cs, d'⟩ := by
      intro t2 d2 hw
      obtain ⟨t', d', q, l⟩ := ih t2 d2 Q hw td cs
      exact ⟨t', d', q, Leads.reach (s0 := ⟨⟨k, .run, .inRegion ops rest :: td, t2⟩, cs, d2⟩) l⟩
    cases hw : wanted o.guard t ops with
    | yes =>
      rw [hw] at h
      dsimp only at h ⊢
      cases he : evOp ⟨E, t, hp, nx⟩ o.op with
      | val v e nx' =>
        rw [he] at h
        exact ih _ ⟨applyEff hp e, nx'⟩ Q h td cs
      | enter f args =>
        rw [he] at h
        dsimp only at h ⊢
        cases hs : E.specs.get f with
        | none =>
          rw [hs] at h
          obtain ⟨fr, h1, h2⟩ := AC.call h
          obtain ⟨v, d1, q, r⟩ := h2 ⟨k, .run, .inRegion ops (o :: rest) :: td, t⟩ cs
          obtain ⟨t', d', q', r'⟩ := back _ _ q
          refine ⟨t', d', q', ⟨fr, ⟨k, .run, .inRegion ops (o :: rest) :: td, t⟩ :: cs, ⟨hp, nx⟩⟩, ?_, r.trans r'⟩
          show applyR E _ cs ⟨hp, nx⟩ (.enter f args) = _
          unfold applyR
          dsimp only
          rw [hs, h1]; rfl
        | some sp =>
          rw [hs] at h
          dsimp only at h
          cases hsp : sp args hp nx with
          | val v e nx' =>
            rw [hsp] at h
            obtain ⟨t', d', q', r'⟩ := back _ _ h
            refine ⟨t', d', q', ⟨⟨k, .run, .inRegion ops rest :: td, putT k.size t o.dst v⟩, cs, ⟨applyEff hp e, nx'⟩⟩, ?_, r'⟩
            show applyR E _ cs ⟨hp, nx⟩ (.enter f args) = _
            unfold applyR
            dsimp only
            rw [hs]
            dsimp only
            rw [hsp]; rfl
          | _ => rw [hsp] at h; exact h.elim
      | round l args =>
        rw [he] at h
        dsimp only at h ⊢
        obtain ⟨r, h1, h2, h3⟩ := h
        obtain ⟨v, d1, q, rr⟩ := h3 ⟨k, .run, .inRegion ops (o :: rest) :: td, t⟩ cs
        obtain ⟨t', d', q', r'⟩ := back _ _ q
        refine ⟨t', d', q', ⟨⟨⟨r.fn, r.size, [], .normal, some l⟩, .run, [.code r.assign, .beginRound, .code r.body], setParams r.size r.tmps r.params args⟩, ⟨k, .run, .inRegion ops (o :: rest) :: td, t⟩ :: cs, ⟨hp, nx⟩⟩, ?_, rr.trans r'⟩
        show enterRound _ cs ⟨hp, nx⟩ l args (hp.get l) = _
        rw [h1]
        unfold enterRound
        dsimp only
        rw [beq_t h2]; rfl
      | _ => rw [he] at h; exact h.elim
    | no =>
      rw [hw] at h
      exact ih _ ⟨hp, nx⟩ Q h td cs
    | unk => rw [hw] at h; exact h.elim
theorem wp_region {id : Nat} {ops : Array Oper} {t : BT AVal} {d : D} {Q : Out → BT AVal → D → Prop} (h : wpO E k ops.toList ops.toList t d (Q .norm)) : wpA E k (.region id ops false) t d Q := by
  intro td cs
  obtain ⟨t', d', q, l⟩ := wpO_sound _ t d _ h td cs
  exact ⟨.norm, t', d', q, Leads.reach (s0 := ⟨⟨k, .run, .code (.region id ops false) :: td, t⟩, cs, d⟩) l⟩
end
end Go.Ev
end
section
/- Lemmas by which the machine's operations are reckoned with unknown values. -/
set_option linter.unusedVariables false
set_option linter.unusedSimpArgs false
namespace Go.Ev
open Go.RowKit

attribute [go_sem] ne_eq not_false_eq_true eq_self decide_true decide_false
/-! ### Slots -/
theorem getT_putT_h {size : Nat} {t : BT AVal} {d i : Nat} {v : AVal} : getT (putT size t (some d) v) i = if i = d ∧ i < size then v else getT t i := by
  rw [getT_eq, putT_get, getT_eq]
  by_cases h : i = d ∧ i < size
  · rw [if_pos h, if_pos ⟨by rw [h.1], h.2⟩]; rfl
  · rw [if_neg h, if_neg (fun e => h ⟨(Option.some.inj e.1).symm, e.2⟩)]
@[go_sem] theorem putT_none {size : Nat} {t : BT AVal} {v : AVal} : putT size t none v = t := rfl
@[go_sem] theorem getT_put_same {size : Nat} {t : BT AVal} {d : Nat} {v : AVal} (h : d < size) : getT (putT size t (some d) v) d = v := by rw [getT_putT_h, if_pos ⟨rfl, h⟩]
@[go_sem] theorem getT_put_ne {size : Nat} {t : BT AVal} {d i : Nat} {v : AVal} (h : i ≠ d) : getT (putT size t (some d) v) i = getT t i := by rw [getT_putT_h, if_neg (fun e => h e.1)]
theorem getT_ofList (l : List AVal) (i : Nat) : getT (BT.ofList l) i = (l[i]?).getD .bot := by rw [getT_eq, BT.get_ofList]
@[go_sem] theorem getT_ofL0 (a : AVal) (l : List AVal) : getT (BT.ofList (a :: l)) 0 = a := by rw [getT_ofList]; rfl
@[go_sem] theorem getT_ofL1 (a b : AVal) (l : List AVal) : getT (BT.ofList (a :: b :: l)) 1 = b := by rw [getT_ofList]; rfl
@[go_sem] theorem getT_ofL2 (a b c : AVal) (l : List AVal) : getT (BT.ofList (a :: b :: c :: l)) 2 = c := by rw [getT_ofList]; rfl
@[go_sem] theorem evalT_tmp (ng : Nat) (t : BT AVal) (i : Nat) : evalT ng t (.tmp i) = getT t i := rfl
@[go_sem] theorem evalT_int (ng : Nat) (t : BT AVal) (k : IntKind) (n : Int) : evalT ng t (.const (.int k n)) = .int k n := rfl
@[go_sem] theorem evalT_bool (ng : Nat) (t : BT AVal) (b : Bool) : evalT ng t (.const (.bool b)) = .bool b := rfl
@[go_sem] theorem evalT_nils (ng : Nat) (t : BT AVal) : evalT ng t (.const (.slice none 0 0)) = .nilslice := rfl
@[go_sem] theorem evalT_func (ng : Nat) (t : BT AVal) (f : Nat) : evalT ng t (.func f) = .func (.func f) [] [] := rfl
def isBV (want : Bool) (v : AVal) : W3 := isB want (some v)
@[go_sem] theorem isBV_t (b : Bool) : isBV true (.bool b) = cond b .yes .no := rfl
@[go_sem] theorem isBV_f (b : Bool) : isBV false (.bool b) = cond b .no .yes := rfl
@[go_sem] theorem isBV_u (w : Bool) : isBV w (.tup []) = .no := rfl
theorem isB_eq (w : Bool) (t : BT AVal) (i : Nat) : isB w (t.get i) = isBV w (getT t i) := by
  rw [getT_eq]
  cases t.get i with
  | none => rfl
  | some v => rfl
@[go_sem] theorem wanted_none (t : BT AVal) (ops : List Oper) : wanted none t ops = .yes := rfl
theorem wanted_some (j : Nat) (w : Bool) (t : BT AVal) (ops : List Oper) : wanted (some (j, w)) t ops = match ops[j]? with
    | some p => (match p.dst with
      | some d => isBV w (getT t d)
      | none => .no)
    | none => .no := by
  show wantedG t ops (j, w) = _
  unfold wantedG
  dsimp only
  cases ops[j]? with
  | none => rfl
  | some p =>
    dsimp only
    cases p.dst with
    | none => rfl
    | some d => dsimp only; rw [isB_eq]

theorem wanted_yes {j d : Nat} {w : Bool} {t : BT AVal} {ops : List Oper} {p : Oper} (ho : ops[j]? = some p) (hd : p.dst = some d) (ht : getT t d = .bool w) : wanted (some (j, w)) t ops = .yes := by
  rw [wanted_some, ho]
  dsimp only
  rw [hd]
  dsimp only
  rw [ht]; cases w <;> rfl
theorem wanted_not {j d : Nat} {w : Bool} {t : BT AVal} {ops : List Oper} {p : Oper} (ho : ops[j]? = some p) (hd : p.dst = some d) (ht : getT t d = .bool (!w)) : wanted (some (j, w)) t ops = .no := by
  rw [wanted_some, ho]
  dsimp only
  rw [hd]
  dsimp only
  rw [ht]; cases w <;> rfl
theorem wanted_und {j d : Nat} {w : Bool} {t : BT AVal} {ops : List Oper} {p : Oper} (ho : ops[j]? = some p) (hd : p.dst = some d) (ht : getT t d = undef') : wanted (some (j, w)) t ops = .no := by
  rw [wanted_some, ho]
  dsimp only
  rw [hd]
  dsimp only
  rw [ht]; rfl
/-! ### Operations -/
section
variable {E : Env} {t : BT AVal} {h : Heap} {nx : Nat}
@[go_sem] theorem ev_move (x : Operand) : evOp ⟨E, t, h, nx⟩ (.move x) = .val (evalT E.ng t x) [] nx := rfl
@[go_sem] theorem ev_assign (x : Operand) : evOp ⟨E, t, h, nx⟩ (.assign x) = .val (evalT E.ng t x) [] nx := rfl
@[go_sem] theorem ev_bin (op : BinOp) (ty : TypeId) (x y : Operand) (yt : TypeId) : evOp ⟨E, t, h, nx⟩ (.binOp op ty x y yt) = valO (binV E op ty (isC x || isC y) (evalT E.ng t x) (evalT E.ng t y)) nx "binOp" := rfl
@[go_sem] theorem valO_some (v : AVal) (nx : Nat) (w : String) : valO (some v) nx w = .val v [] nx := rfl
@[go_sem] theorem ev_conv (a b : TypeId) (x : Operand) : evOp ⟨E, t, h, nx⟩ (.convert a b x) = op_convert ⟨E, t, h, nx⟩ a b x := rfl
@[go_sem] theorem ev_not (ty : TypeId) (x : Operand) : evOp ⟨E, t, h, nx⟩ (.unOp .not ty x) = op_unOp ⟨E, t, h, nx⟩ .not x := rfl
@[go_sem] theorem ev_un (op : UnOp) (ty : TypeId) (x : Operand) : evOp ⟨E, t, h, nx⟩ (.unOp op ty x) = op_unOp ⟨E, t, h, nx⟩ op x := rfl
@[go_sem] theorem ev_pick (c a b : Operand) : evOp ⟨E, t, h, nx⟩ (.pick c a b) = op_pick ⟨E, t, h, nx⟩ c a b := rfl
@[go_sem] theorem ev_extract (x : Nat) (i : Nat) : evOp ⟨E, t, h, nx⟩ (.extract (.tmp x) i) = op_extract ⟨E, t, h, nx⟩ (.tmp x) i := rfl
theorem conv_int {a b : TypeId} {x : Operand} {j k j' : IntKind} {n : Int} (ha : E.under? a = some (.int j)) (hb : E.under? b = some (.int k)) (hx : evalT E.ng t x = .int j' n) : op_convert ⟨E, t, h, nx⟩ a b x = .val (.int k (k.wrap n)) [] nx := by
  unfold op_convert
  dsimp only
  rw [ha, hb, hx]
  dsimp only
  rw [wrapF_eq]
@[go_sem] theorem binV_int {op : BinOp} {ty : TypeId} {c : Bool} {j k : IntKind} {a b : Int} : binV E op ty c (.int j a) (.int k b) = binII op j a k b := rfl
@[go_sem] theorem binII_add {k : IntKind} {a b : Int} : binII .add k a k b = some (.int k (k.wrap (a + b))) := by
  show binSame .add k k a b = _
  unfold binSame
  rw [show decide (k = k) = true from by simp]
  show some (AVal.int k (wrapF k (a + b))) = _
  rw [wrapF_eq]
@[go_sem] theorem binII_sub {k : IntKind} {a b : Int} : binII .sub k a k b = some (.int k (k.wrap (a - b))) := by
  show binSame .sub k k a b = _
  unfold binSame
  rw [show decide (k = k) = true from by simp]
  show some (AVal.int k (wrapF k (a - b))) = _
  rw [wrapF_eq]
@[go_sem] theorem binII_mul {k : IntKind} {a b : Int} : binII .mul k a k b = some (.int k (k.wrap (a * b))) := by
  show binSame .mul k k a b = _
  unfold binSame
  rw [show decide (k = k) = true from by simp]
  show some (AVal.int k (wrapF k (a * b))) = _
  rw [wrapF_eq]
@[go_sem] theorem binII_eql {k : IntKind} {a b : Int} : binII .eql k a k b = some (.bool (decide (a = b))) := by
  show binSame .eql k k a b = _
  unfold binSame
  rw [show decide (k = k) = true from by simp]
  show some (AVal.bool (intEq a b)) = _
  rw [intEq_eq]; rfl
@[go_sem] theorem binII_neq {k : IntKind} {a b : Int} : binII .neq k a k b = some (.bool (!decide (a = b))) := by
  show binSame .neq k k a b = _
  unfold binSame
  rw [show decide (k = k) = true from by simp]
  show some (AVal.bool (!intEq a b)) = _
  rw [intEq_eq]; rfl
@[go_sem] theorem binII_lss {k : IntKind} {a b : Int} : binII .lss k a k b = some (.bool (decide (a < b))) := by
  show binSame .lss k k a b = _
  unfold binSame
  rw [show decide (k = k) = true from by simp]
  show some (AVal.bool (intLt a b)) = _
  rw [intLt_eq]
@[go_sem] theorem binII_gtr {k : IntKind} {a b : Int} : binII .gtr k a k b = some (.bool (decide (b < a))) := by
  show binSame .gtr k k a b = _
  unfold binSame
  rw [show decide (k = k) = true from by simp]
  show some (AVal.bool (intLt b a)) = _
  rw [intLt_eq]
@[go_sem] theorem binII_leq {k : IntKind} {a b : Int} : binII .leq k a k b = some (.bool (decide (a ≤ b))) := by
  show binSame .leq k k a b = _
  unfold binSame
  rw [show decide (k = k) = true from by simp]
  show some (AVal.bool (!intLt b a)) = _
  rw [intLt_eq, ← decide_not]
  congr 3
  exact propext Int.not_lt
@[go_sem] theorem binII_geq {k : IntKind} {a b : Int} : binII .geq k a k b = some (.bool (decide (b ≤ a))) := by
  show binSame .geq k k a b = _
  unfold binSame
  rw [show decide (k = k) = true from by simp]
  show some (AVal.bool (!intLt a b)) = _
  rw [intLt_eq, ← decide_not]
  congr 3
  exact propext Int.not_lt
theorem binII_bits {op : BinOp} {k : IntKind} {a b : Int} (ho : op = .and ∨ op = .or ∨ op = .xor ∨ op = .andNot) : binII op k a k b = ofSem (Op.intBits op k a b) := by
  rcases ho with rfl | rfl | rfl | rfl <;>
  · show binSame _ k k a b = _
    unfold binSame
    rw [show decide (k = k) = true from by simp]
    rfl
@[go_sem] theorem binII_and {k : IntKind} {a b : Int} : binII .and k a k b = some (.int k (k.wrap (BitVec.ofInt k.bits a &&& BitVec.ofInt k.bits b).toNat)) := by rw [binII_bits (.inl rfl)]; rfl
@[go_sem] theorem binII_or {k : IntKind} {a b : Int} : binII .or k a k b = some (.int k (k.wrap (BitVec.ofInt k.bits a ||| BitVec.ofInt k.bits b).toNat)) := by rw [binII_bits (.inr (.inl rfl))]; rfl
@[go_sem] theorem binII_xor {k : IntKind} {a b : Int} : binII .xor k a k b = some (.int k (k.wrap (BitVec.ofInt k.bits a ^^^ BitVec.ofInt k.bits b).toNat)) := by rw [binII_bits (.inr (.inr (.inl rfl)))]; rfl
@[go_sem] theorem binII_shl {j k : IntKind} {a b : Int} (hb : 0 ≤ b) : binII .shl j a k b = some (.int j (j.wrap (a * 2 ^ min b.toNat j.bits))) := by
  show ofSem (Op.shift .shl j a k b) = _
  unfold Op.shift
  rw [if_neg (Int.not_lt.2 hb)]
  rfl
@[go_sem] theorem binII_shr {j k : IntKind} {a b : Int} (hb : 0 ≤ b) : binII .shr j a k b = some (.int j (a.fdiv (2 ^ min b.toNat j.bits))) := by
  show ofSem (Op.shift .shr j a k b) = _
  unfold Op.shift
  rw [if_neg (Int.not_lt.2 hb)]
  rfl
@[go_sem] theorem binII_quo {k : IntKind} {a b : Int} (hb : b ≠ 0) : binII .quo k a k b = some (.int k (k.wrap (a.tdiv b))) := by
  show binSame .quo k k a b = _
  unfold binSame
  rw [show decide (k = k) = true from by simp]
  show ofSem (Op.intDiv .quo k a b) = _
  unfold Op.intDiv
  rw [if_neg hb]
  rfl
@[go_sem] theorem binII_rem {k : IntKind} {a b : Int} (hb : b ≠ 0) : binII .rem k a k b = some (.int k (a.tmod b)) := by
  show binSame .rem k k a b = _
  unfold binSame
  rw [show decide (k = k) = true from by simp]
  show ofSem (Op.intDiv .rem k a b) = _
  unfold Op.intDiv
  rw [if_neg hb]
  rfl
@[go_sem] theorem sx_nil : applyEff h [] = h := rfl
@[go_sem] theorem sx_one (i : Nat) (o : Option AObj) : applyEff h [(i, o)] = h.put i o := rfl
@[go_sem] theorem sx_two (i j : Nat) (o p : Option AObj) : applyEff h [(i, o), (j, p)] = (h.put i o).put j p := rfl
end

section
variable {E : Env} {k : FK} {ops : List Oper}
theorem wpO_nil {t : BT AVal} {d : D} {Q : BT AVal → D → Prop} : wpO E k ops [] t d Q = Q t d := rfl
theorem wpO_val {o : Oper} {rest : List Oper} {t : BT AVal} {h : Heap} {nx : Nat} {Q : BT AVal → D → Prop} {v : AVal} {e : Eff} {nx' : Nat} (hw : wanted o.guard t ops = .yes) (he : evOp ⟨E, t, h, nx⟩ o.op = .val v e nx') (hn : wpO E k ops rest (putT k.size t o.dst v) ⟨applyEff h e, nx'⟩ Q) : wpO E k ops (o :: rest) t ⟨h, nx⟩ Q := by
  unfold wpO
  rw [hw]
  dsimp only
  rw [he]; exact hn
theorem wpO_pure {o : Oper} {rest : List Oper} {t : BT AVal} {h : Heap} {nx : Nat} {Q : BT AVal → D → Prop} {v : AVal} (hw : wanted o.guard t ops = .yes) (he : evOp ⟨E, t, h, nx⟩ o.op = .val v [] nx) (hn : wpO E k ops rest (putT k.size t o.dst v) ⟨h, nx⟩ Q) : wpO E k ops (o :: rest) t ⟨h, nx⟩ Q := wpO_val hw he hn
theorem wpO_no {o : Oper} {rest : List Oper} {t : BT AVal} {d : D} {Q : BT AVal → D → Prop} (hw : wanted o.guard t ops = .no) (hn : wpO E k ops rest (putT k.size t o.dst undef') d Q) : wpO E k ops (o :: rest) t d Q := by
  unfold wpO
  rw [hw]
  exact hn
theorem wpO_call {o : Oper} {rest : List Oper} {t : BT AVal} {h : Heap} {nx : Nat} {Q : BT AVal → D → Prop} {f : FuncId} {args : List AVal} (hw : wanted o.guard t ops = .yes) (he : evOp ⟨E, t, h, nx⟩ o.op = .enter f args) (hs : E.specs.get f = none)
    {Q' : AVal → D → Prop} (hc : AC E f args ⟨h, nx⟩ Q') (hn : ∀ v d', Q' v d' → wpO E k ops rest (putT k.size t o.dst v) d' Q) : wpO E k ops (o :: rest) t ⟨h, nx⟩ Q := by
  unfold wpO
  rw [hw]
  dsimp only
  rw [he]
  dsimp only
  rw [hs]
  exact hc.mono hn
theorem wp_seqR {E : Env} {k : FK} {a b : Code} {t : BT AVal} {d : D} {Q : Out → BT AVal → D → Prop} (Rr : BT AVal → D → Prop) (h1 : wpA E k a t d (thenQ Rr Q)) (h2 : ∀ t d, Rr t d → wpA E k b t d Q) : wpA E k (.seq a b) t d Q :=
  wp_seq (h1.mono fun o t' d' q => by
    cases o with
    | norm => exact h2 _ _ q
    | ret => exact q
    | exit i => exact q)
theorem wp_while {E : Env} {k : FK} {c : Code} {t : BT AVal} {d : D} {Q : Out → BT AVal → D → Prop} {α : Type} (m : α → Nat) (Inv : α → BT AVal → D → Prop)
    (step : ∀ a t d, Inv a t d → wpA E k c t d (thenQ (fun t d => ∃ a', m a' < m a ∧ Inv a' t d) Q)) {a : α} (h0 : Inv a t d) : wpA E k (.loop c) t d Q := by
  refine wp_loop ?_
  have go : ∀ n a t d, m a < n → Inv a t d → wpL E k c t d Q := by
    intro n
    induction n with
    | zero => intro a t d h; omega
    | succ n ih =>
      intro a t d hm hi
      refine wpL_round ((step a t d hi).mono fun o t' d' q => ?_)
      cases o with
      | norm =>
        obtain ⟨a', h1, h2⟩ := q
        exact ih a' t' d' (by omega) h2
      | ret => exact q
      | exit i => exact q
  exact go (m a + 1) a t d (Nat.lt_succ_self _) h0
theorem AC.of_wp' {E : Env} {f : FuncId} {fn : Func} {c : Code} {args : List AVal} {d : D} {size : Nat} {Q : AVal → D → Prop} (hf : E.fns.get f = some fn) (hb : fn.body = some c) (hs : fn.ntmps + (args.length - fn.ntmps) = size)
    (h : wpA E ⟨f, size, [], .normal, none⟩ c (BT.ofList args) d (fun o t' d' => (o = .norm ∨ o = .ret) ∧ ∃ vs, resultsV E d'.h t' fn.results.toList = some vs ∧ Q (ret1 vs) d')) : AC E f args d Q := by
  subst hs
  exact AC.of_wp hf hb h
theorem res_one {E : Env} {h : Heap} {t : BT AVal} {i : Nat} {v : AVal} (hg : getT t i = v) (hv : isBot v = false) : resultsV E h t [.tmp i] = some [v] := by
  have : t.get i = some v := by
    rw [getT_eq] at hg
    cases hx : t.get i with
    | none => rw [hx] at hg; subst hg; cases hv
    | some w => rw [hx] at hg; rw [show w = v from hg]
  unfold resultsV
  rw [this]; rfl
end
end Go.Ev
end
