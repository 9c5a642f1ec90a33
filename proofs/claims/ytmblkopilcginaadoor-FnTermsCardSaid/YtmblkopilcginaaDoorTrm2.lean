/-
  laws.FnTerms: the card, by a typed machine over the code
-/
import Derived.Lib.Overlaps
import Derived.Laws.Externs
import Derived.ChangeArms
import Derived.SizedLaws
import Derived.WideShapes
import Derived.Below
import Derived.Lib.ItoaNum
import Derived.Test.YtmblkopilcginaaDoorProg
import Derived.Shelf.Spec.SlicesInsertGrow
import Derived.Test.YtmblkopilcginaaDoorTrm1
set_option linter.unusedVariables false
set_option linter.unusedSimpArgs false
set_option linter.unusedSectionVars false
namespace Go.Vm
section
variable {P : Program} {E : Env} {R : Type} {r : R} {s : St} {a : Act} {w : World} {o : Oper} {n : Nat} {c0 : Cf}
variable {Al : Nat → Prop} {be : List Bt}

theorem vargs_ok {c : Cf} (hev : Evs E c s a) : ∀ (l : List Operand) (args : List A0), vargs E s l = some args → (l.map a.eval).length = args.length ∧
    ∀ (i : Nat) (y : A0), args[i]? = some y → ∃ v, (l.map a.eval)[i]? = some v ∧ c.ra0 y v
  | [], args, h => by simp only [vargs] at h; cases h; exact ⟨rfl, fun i y h => by simp at h⟩
  | x :: l, args, h => by
    simp only [vargs] at h
    split at h
    · rename_i y l' ex hl
      cases h
      obtain ⟨h1, h2⟩ := vargs_ok hev l l' hl
      have hx := hev.2 x
      rw [ex] at hx
      refine ⟨by simpa using h1, fun i z hz => ?_⟩
      cases i with
      | zero => simp at hz; subst hz; exact ⟨a.eval x, rfl, hx⟩
      | succ i => simpa using h2 i z (by simpa using hz)
    · cases h

/-- Boxes that the operation doesn't touch are left alone. -/
def FrT (E : Env) (c : Cf) (s : St) (o : Op) (w' : World) : Prop :=
  (∀ (b : Nat) (cs : List V) (g cap : Nat), c.mem[b]? = some (.box cs) → c.be[b]? = some (.blk g cap) → b ∉ touches E s o → w'.heap[g]? = c.w.heap[g]?) ∧ ∀ g, c.Al g → w'.heap[g]? = c.w.heap[g]?

theorem i_call {Q : Exit → Act → World → Prop} {K : Cont R} (h : At P E n c0 s a w Al be) (hdst : ∀ d, o.dst = some d → d < n) {f : Nat} {args : Array Operand} {ts : Array TypeId}
    (ho : o.op = .call { callee := .value (.func f), args := args, argTypes := ts }) (hv : vop E o.op s K = some r) : o.wp P a w (fun a' w' => Post n c0 s o.dst w (E.calm f) K r a' w' ∧ FrT E ⟨w, Al, be, s.mem⟩ s o.op w') Q := by
  rw [ho] at hv
  simp only [vop] at hv
  split at hv
  · rename_i hd avs hh ha
    obtain ⟨h1, h2⟩ := vargs_ok h.evs args.toList avs ha
    obtain ⟨hen, hs⟩ := h.hE.call f hd hh
    have hc := hs R avs (args.toList.map a.eval) ⟨w, Al, be, s.mem⟩ K r h.ok (fun g => h.to.keeps _ _ (h.glob g)) h1 h2 hv
    unfold Oper.wp
    have hrun : (execOp a.eval o).run P w = .ok (.enter f (args.toList.map a.eval).toArray) w := by
      have : (args.toList.map a.eval).toArray = args.map a.eval := by rw [← Array.toList_map]
      rw [this]
      have hen' := hen (args.map a.eval) w
      simp [execOp, ho, resolve, invoke, Act.eval, Deferred.ofValue]
      simpa using hen'
    rw [hrun, Oper.upon_enter]
    refine Calls.mono hc fun e w' he => ?_
    obtain ⟨v, av, Al', be', mem', rfl, hK, hok, hto, hra, hcm, hfr⟩ := he
    refine ⟨h.post hok hto hdst hK hra hcm, fun b cs g cap hm e hna => hfr b cs g cap hm e ?_, fun g hg => hto.block g (h.ok.lt g hg) fun hl => h.ok.av g hl hg⟩
    rw [ho] at hna
    simp only [touches, ha] at hna
    exact hna
  · cases hv

theorem capArgs_ok {c : Cf} : ∀ (caps : List CV) (vs : List Value), CapsOK c.w c.Al c.be caps vs → vs.length = (capArgs caps).length ∧
    ∀ (i : Nat) (y : A0), (capArgs caps)[i]? = some y → ∃ v, vs[i]? = some v ∧ c.ra0 y v
  | [], vs, h => by
    have h : vs = [] := h
    subst h
    exact ⟨rfl, fun i y hy => by simp [capArgs] at hy⟩
  | .d k x :: r, vs, h => by
    obtain ⟨v, vs', rfl, h1, h2⟩ := h
    obtain ⟨g1, g2⟩ := capArgs_ok r vs' h2
    refine ⟨by simp [capArgs, g1], fun i y hy => ?_⟩
    cases i with
    | zero => simp [capArgs] at hy; subst hy; exact ⟨v, rfl, h1⟩
    | succ i => simpa using g2 i y (by simpa [capArgs] using hy)
  | .ptr b off :: r, vs, h => by
    obtain ⟨g, cap, vs', e, rfl, h2⟩ := h
    obtain ⟨g1, g2⟩ := capArgs_ok r vs' h2
    refine ⟨by simp [capArgs, g1], fun i y hy => ?_⟩
    cases i with
    | zero => simp [capArgs] at hy; subst hy; exact ⟨_, rfl, g, cap, e, rfl⟩
    | succ i => simpa using g2 i y (by simpa [capArgs] using hy)

theorem i_callv {Q : Exit → Act → World → Prop} {K : Cont R} {cm : Bool} (h : At P E n c0 s a w Al be) (hdst : ∀ d, o.dst = some d → d < n) {t : Nat} {args : Array Operand} {ts : Array TypeId}
    (ho : o.op = .call { callee := .value (.tmp t), args := args, argTypes := ts }) (hcm : cm = false) (hv : vop E o.op s K = some r) : o.wp P a w (fun a' w' => Post n c0 s o.dst w cm K r a' w' ∧ FrT E ⟨w, Al, be, s.mem⟩ s o.op w') Q := by
  subst hcm
  rw [ho] at hv
  simp only [vop] at hv
  split at hv
  · rename_i f caps ht
    split at hv
    · rename_i hd avs hh ha
      have hf := h.evs.2 (.tmp t)
      have ht' : E.eval s (.tmp t) = .v (.one (.clo f caps)) := ht
      rw [ht'] at hf
      obtain ⟨cs, hcl, hcaps⟩ := hf
      obtain ⟨h1, h2⟩ := vargs_ok h.evs args.toList avs ha
      obtain ⟨h3, h4⟩ := capArgs_ok (c := ⟨w, Al, be, s.mem⟩) caps cs hcaps
      obtain ⟨hen, hs⟩ := h.hE.call f hd hh
      have hc := hs R (avs ++ capArgs caps) (args.toList.map a.eval ++ cs) ⟨w, Al, be, s.mem⟩ K r h.ok (fun g => h.to.keeps _ _ (h.glob g)) (by simp only [List.length_append, h1, h3]) (fun i y hy => by
        by_cases hi : i < avs.length
        · rw [List.getElem?_append_left hi] at hy
          obtain ⟨v, hv, hr⟩ := h2 i y hy
          exact ⟨v, by rw [List.getElem?_append_left (by rw [h1]; exact hi)]; exact hv, hr⟩
        · rw [List.getElem?_append_right (by omega)] at hy
          obtain ⟨v, hv, hr⟩ := h4 _ y hy
          exact ⟨v, by rw [List.getElem?_append_right (by rw [h1]; omega), h1]; exact hv, hr⟩) hv
      unfold Oper.wp
      have hrun : (execOp a.eval o).run P w = .ok (.enter f (args.toList.map a.eval ++ cs).toArray) w := by
        have e1 : (args.toList.map a.eval ++ cs).toArray = args.map a.eval ++ cs.toArray := by
          apply Array.ext'; simp
        rw [e1]
        have hen' := hen (args.map a.eval ++ cs.toArray) w
        simp only [execOp, ho, resolve, hcl, Deferred.ofValue, invoke, Sem.run_bind, Sem.run_pure, Result.andThen_ok]
        simpa using hen'
      rw [hrun, Oper.upon_enter]
      refine Calls.mono hc fun e w' he => ?_
      obtain ⟨v, av, Al', be', mem', rfl, hK, hok, hto, hra, _, hfr⟩ := he
      refine ⟨h.post hok hto hdst hK hra (fun h => by cases h), fun b cs g cap hm e hna => hfr b cs g cap hm e ?_, fun g hg => hto.block g (h.ok.lt g hg) fun hl => h.ok.av g hl hg⟩
      rw [ho] at hna
      simp only [touches, ht, ha] at hna
      exact hna
    · cases hv
  · cases hv

theorem pure_of {K : Cont R} (h : At P E n c0 s a w Al be) (hp : pureOp o.op = true) (hv : vop E o.op s K = some r) : PureRes P ⟨w, Al, be, s.mem⟩ a o K s.mem r := by
  cases ho : o.op with
  | move x => rw [ho] at hv; exact p_move h.evs (.inl ho) hv
  | assign x => rw [ho] at hv; exact p_move h.evs (.inr ho) hv
  | pick x y z => exact p_pick h.evs ho hv
  | load t x => exact p_load h.hE h.ok h.evs ho hv
  | nilCheck x => exact p_nilCheck h.evs ho hv
  | binOp op t x y u => exact p_bin h.hE h.evs ho hv
  | unOp op t x => exact p_un h.evs ho hv
  | convert t u x => exact p_conv h.hE h.ok h.evs ho hv
  | slice t x lo hi mx => exact p_slice h.hE h.evs ho hv
  | fieldAddr t x f => exact p_fieldAddr h.hE h.evs ho hv
  | field t x f => exact p_field h.hE h.evs ho hv
  | indexAddr t x y => exact p_indexAddr h.hE h.ok h.evs ho hv
  | index t x y => exact p_index h.hE h.evs ho hv
  | extract x i => exact p_extract h.evs ho hv
  | makeFunc fn first cs => exact p_makeFunc h.evs ho hv
  | build t parts => exact p_build h.hE h.evs ho hv
  | call c =>
    obtain ⟨callee, args, ts⟩ := c
    cases callee with
    | builtin b => cases b <;> first | exact p_len h.hE h.ok h.evs ho hv | (rw [ho] at hp; simp [pureOp] at hp)
    | _ => rw [ho] at hp; simp [pureOp] at hp
  | _ => rw [ho] at hp; simp [pureOp] at hp

theorem _root_.Go.Oper.wp.mono' {o : Oper} {Q : Exit → Act → World → Prop} {K L : Act → World → Prop} {a : Act} {w : World} (h : o.wp P a w (fun a' w' => K a' w' ∧ L a' w') Q) : o.wp P a w K Q :=
  Oper.wp_mono (fun _ _ h => h.1) h

theorem vop_call {Q : Exit → Act → World → Prop} {K : Cont R} (h : At P E n c0 s a w Al be) (hdst : ∀ d, o.dst = some d → d < n) (hc : callOp o.op = true)
    (hv : vop E o.op s K = some r) : o.wp P a w (fun a' w' => Post n c0 s o.dst w (calmOp E.calm o.op) K r a' w' ∧ FrT E ⟨w, Al, be, s.mem⟩ s o.op w') Q := by
  cases ho : o.op with
  | call c =>
    obtain ⟨callee, args, ts⟩ := c
    rw [← ho]
    cases callee with
    | value x => cases x <;> first | (have h1 := i_call (Q := Q) h hdst ho hv; rw [show calmOp E.calm o.op = E.calm _ by rw [ho]; rfl]; exact h1) | exact i_callv h hdst ho (by rw [ho]; rfl) hv | (rw [ho] at hv; simp [vop] at hv)
    | _ => rw [ho] at hc; cases hc
  | _ => rw [ho] at hc; cases hc

/-- One operation. -/
theorem vop_sound {Q : Exit → Act → World → Prop} {K : Cont R} (h : At P E n c0 s a w Al be) (hdst : ∀ d, o.dst = some d → d < n) (hst : ∀ t x y, o.op = .store t x y → o.dst = none)
    (hv : vop E o.op s K = some r) : o.wp P a w (Post n c0 s o.dst w (calmOp E.calm o.op) K r) Q := by
  by_cases hp : pureOp o.op = true
  · exact h.pure hdst (pure_of h hp hv)
  · cases ho : o.op with
    | box t x => exact i_box h hdst ho hv
    | alloc t => exact i_alloc h hdst ho hv
    | buildSlice t len parts => exact i_buildSlice h hdst ho hv
    | makeSlice t x y => exact i_makeSlice h hdst ho hv
    | store t x y => exact i_store h (hst t x y ho) ho hv
    | call c =>
      obtain ⟨callee, args, ts⟩ := c
      cases callee with
      | builtin b => cases b <;> first | exact i_append h hdst ho hv | (rw [ho] at hp; exact absurd rfl hp) | (rw [ho] at hv; simp [vop, vbuiltin] at hv)
      | value x => cases x <;> first | exact (i_call h hdst ho hv).mono' | exact (i_callv h hdst ho rfl hv).mono' | (rw [ho] at hv; simp [vop] at hv)
      | invoke x m => rw [ho] at hv; simp [vop] at hv
    | _ => rw [ho] at hp hv; first | exact absurd rfl hp | (simp [vop] at hv)

theorem boolOf_some {x : A} {b : Bool} (h : boolOf x = some b) : x = litB b := by
  unfold boolOf at h
  split at h
  · cases h; rfl
  · cases h

/-- Behind an operation. -/
theorem land_ok {n : Nat} {c0 : Cf} {split : Bool} {dst : Option Nat} {K2 : St → Option R} {a' : Act} {w' : World} {w0 : World} {cm : Bool} (h : Post n c0 s dst w0 cm (land split dst s K2) r a' w') :
    (∃ s', Good n c0 s' a' w' ∧ K2 s' = some r) ∧ (cm = true → Ext w0 w') := by
  obtain ⟨⟨av, mem', hK, hg⟩, hcm⟩ := h
  refine ⟨?_, hcm⟩
  simp only [land] at hK
  split at hK
  · split at hK
    · rename_i b hb
      have := boolOf_some hb
      subst this
      split at hK
      · rename_i hb'; subst hb'
        exact ⟨_, hg, hK⟩
      · rename_i hb'
        have : b = false := by simpa using hb'
        subst this
        exact ⟨_, hg, hK⟩
    · exact ⟨_, hg, hK⟩
  · exact ⟨_, hg, hK⟩

theorem wanted_ok {ops : Array Oper} {b : Bool} (hg : Good n c0 s a w) (h : wantedV ops.toList o s = some b) : Region.wanted o (yielded ops a.tmps) = b := by
  obtain ⟨Al, be, hc, ht, hn, hd, hr⟩ := hg
  unfold wantedV at h
  unfold Region.wanted
  split at h
  · rename_i hgd; rw [hgd]; cases h; rfl
  · rename_i j want hgd
    rw [hgd]
    split at h
    · rename_i t ht'
      split at h
      · rename_i hu
        cases h
        have h1 := hr t
        rw [hu] at h1
        have h2 : a.tmps.getD t undef = undef := h1
        have h5 : (ops[j]?).bind (·.dst) = some t := by rw [← Array.getElem?_toList]; exact ht'
        simp only [yielded, h5, Option.bind_some]
        cases h4 : a.tmps[t]? with
        | none => cases want <;> rfl
        | some x =>
          simp [h4] at h2
          subst h2
          cases want <;> rfl
      split at h
      · rename_i b' hb'
        cases h
        have e := boolOf_some hb'
        have h1 := hr t
        rw [e] at h1
        have h2 : a.tmps.getD t undef = .bool b' := by simpa [litB, Cf.ra, Cf.ra0, Cf.r1, enc, Rd] using h1
        have h3 : a.tmps[t]? = some (.bool b') := by
          cases h4 : a.tmps[t]? with
          | none => simp [h4, undef] at h2
          | some x => simp [h4] at h2; rw [h2]
        have h5 : (ops[j]?).bind (·.dst) = some t := by rw [← Array.getElem?_toList]; exact ht'
        simp only [yielded, h5, Option.bind_some, h3]
        cases b' <;> cases want <;> rfl
      · cases h
    · cases h

theorem good_skip (hg : Good n c0 s a w) {dst : Option Nat} (hdst : ∀ d, dst = some d → d < n) : Good n c0 (s.put? dst (.v (.one .undef))) (a.put dst undef) w := by
  obtain ⟨Al, be, hc, ht, hn, hd, hr⟩ := hg
  exact good_put (mem' := s.mem) hc ht hn hd hr hdst rfl

theorem dstOk_ok (h : dstOk E o = true) : (∀ d, o.dst = some d → d < E.n) ∧ (∀ t x y, o.op = .store t x y → o.dst = none) := by
  unfold dstOk at h
  constructor
  · intro d hd
    rw [hd] at h
    simp only [Bool.and_eq_true, Nat.blt_eq] at h
    exact h.1
  · intro t x y ho
    cases hd : o.dst with
    | none => rfl
    | some d => rw [hd, ho] at h; simp at h

/-- What is asked of a run. -/
structure Ask0 (P : Program) (E : Env) (c0 : Cf) : Prop where
  hE : EnvOK P E
  ok : c0.ok
  glob : ∀ g, c0.r1 (E.glob g) (.pointer (some ⟨g, 0, none⟩))

structure Ask (P : Program) (E : Env) (c0 : Cf) : Prop extends Ask0 P E c0 where
  keep : E.keep = c0.mem.length

theorem Ask0.at (h : Ask0 P E c0) (hg : Good n c0 s a w) : ∃ Al be, At P E n c0 s a w Al be := by
  obtain ⟨Al, be, hc, ht, hn, hd, hr⟩ := hg
  exact ⟨Al, be, h.hE, hc, ht, hn, hd, hr, h.glob⟩

/-- The block of a box. -/
def BoxG (c0 : Cf) (g : Nat) : Prop := ∃ (b : Nat) (cs : List V) (cap : Nat), c0.mem[b]? = some (.box cs) ∧ c0.be[b]? = some (.blk g cap)

def HeapG (c0 : Cf) (w w' : World) : Prop := ∀ g, BoxG c0 g → w'.heap[g]? = w.heap[g]?

theorem HeapG.of_boxK {c : Cf} (ht : c0.To c) {w' : World} (h : BoxK c w') : HeapG c0 c.w w' := by
  rintro g ⟨b, cs, cap, hm, e⟩
  rcases ht.boxes b cs hm with ⟨cs', hm'⟩ | hal
  rotate_left
  · exact h.2 g (hal g cap e)
  obtain ⟨g', cap', e', hv⟩ := ht.keeps (.ptr b 0) (.pointer (some ⟨g, 0, none⟩)) ⟨g, cap, e, rfl⟩
  injection hv with hv; injection hv with hv; injection hv with hv
  subst hv
  exact h.1 b cs' g cap' hm' e'

theorem HeapG.of_ext (hc : c0.ok) {w w' : World} (hs : c0.w.heap.size ≤ w.heap.size) (h : Ext w w') : HeapG c0 w w' := by
  rintro g ⟨b, cs, cap, hm, e⟩
  exact h.block g (Nat.lt_of_lt_of_le (live_lt hc ⟨b, _, cap, hm, rfl, e⟩) hs)

/-- What was data at a time stays avs it was. -/
def HeapA (c0 : Cf) (w w' : World) : Prop := ∀ g, c0.Al g → w'.heap[g]? = w.heap[g]?

theorem HeapA.of_good {c1 : Cf} (hto : c1.To c0) (hc : c0.ok) {s' : St} {a' : Act} {w' : World} {m m' : Nat} (h : Good m c0 s a w) (h' : Good m' c0 s' a' w') : HeapA c1 w w' := by
  obtain ⟨_, _, _, t1, _⟩ := h
  obtain ⟨_, _, _, t2, _⟩ := h'
  intro g hg
  have h1 := hto.al g hg
  exact (t2.block g (hc.lt g h1) (fun hl => hc.av g hl h1)).trans (t1.block g (hc.lt g h1) (fun hl => hc.av g hl h1)).symm

/-- Some boxes of a time stay avs they were. -/
def HeapP (c0 : Cf) (pb : List Nat) (w w' : World) : Prop := ∀ (b : Nat) (cs : List V) (g cap : Nat), b ∈ pb → c0.mem[b]? = some (.box cs) → c0.be[b]? = some (.blk g cap) → w'.heap[g]? = w.heap[g]?

theorem HeapP.of_g {pb : List Nat} {w w' : World} (h : HeapG c0 w w') : HeapP c0 pb w w' := fun b cs g cap _ hm e => h g ⟨b, cs, cap, hm, e⟩

theorem HeapP.of_frT {c1 : Cf} {pb : List Nat} (ht : c1.To ⟨w, Al, be, s.mem⟩) {w' : World} (h : FrT E ⟨w, Al, be, s.mem⟩ s o.op w') (hl : ((touches E s o.op).all fun b => !pb.contains b) = true) : HeapP c1 pb w w' := by
  intro b cs g cap hb hm e
  rcases ht.boxes b cs hm with ⟨cs', hm'⟩ | hal
  · obtain ⟨g', cap', e', hv⟩ := ht.keeps (.ptr b 0) (.pointer (some ⟨g, 0, none⟩)) ⟨g, cap, e, rfl⟩
    injection hv with hv; injection hv with hv; injection hv with hv
    subst hv
    refine h.1 b cs' g cap' hm' e' fun ht' => ?_
    have := List.all_eq_true.1 hl b ht'
    simp [hb] at this
  · exact h.2 g (hal g cap e)

theorem vop_boxy {Q : Exit → Act → World → Prop} {K : Cont R} (h : At P E n c0 s a w Al be) (hdst : ∀ d, o.dst = some d → d < n) (hb : boxyOp o.op = true)
    (hv : vop E o.op s K = some r) : o.wp P a w (fun a' w' => Post n c0 s o.dst w false K r a' w' ∧ BoxK ⟨w, Al, be, s.mem⟩ w') Q := by
  cases ho : o.op with
  | call c =>
    obtain ⟨callee, args, ts⟩ := c
    cases callee with
    | builtin b => cases b <;> first | exact i_append2 h hdst ho hv | (rw [ho] at hb; cases hb)
    | _ => rw [ho] at hb; cases hb
  | _ => rw [ho] at hb; cases hb

/-- One step of a region. -/
theorem step_op {ops : Array Oper} {Q : Exit → Act → World → Prop} {i : Nat} {l : List Nat} {K : St → Option R} {c1 : Cf} (hto : c1.To c0) (h : Ask0 P E c0) (hg : Good E.n c0 s a w)
    (hv : vops E ops.toList (i :: l) s K = some r) :
    wpOp P ops Q i (fun a' w' => ((calmAt E.calm ops i = true → Ext w w') ∧ (boxyAt ops i = true → HeapG c1 w w') ∧ HeapA c1 w w' ∧ ∀ pb, opAt callOp ops i = true → leaves E pb ops.toList s i = true → HeapP c1 pb w w') ∧ ∃ s', Good E.n c0 s' a' w' ∧ vops E ops.toList l s' K = some r) a w := by
  simp only [vops] at hv
  split at hv
  · cases hv
  · rename_i o ho
    have ho' : ops[i]? = some o := by rw [← Array.getElem?_toList]; exact ho
    split at hv
    · rename_i hdk
      obtain ⟨hd1, hd2⟩ := dstOk_ok hdk
      split at hv
      · cases hv
      · rename_i b hb
        have hw := wanted_ok hg hb
        unfold wpOp
        simp only [ho', hw]
        split at hv
        · rename_i hbt
          subst hbt
          simp only [if_true]
          refine .inl ?_
          have hg2 : Good E.n c0 (s.fzOs E (frozenOps E o.op)) a w := Good.fzOs E _ hg
          obtain ⟨Al, be, hat⟩ := h.at hg2
          by_cases hbx : boxyOp o.op = true
          · refine Oper.wp_mono (fun a' w' hp => ?_) (vop_boxy (Q := Q) hat hd1 hbx hv)
            obtain ⟨hp, hbk⟩ := hp
            obtain ⟨⟨s', hs', hk⟩, _⟩ := land_ok hp
            refine ⟨⟨fun hc => ?_, fun _ => HeapG.of_boxK (hto.trans hat.to) hbk, HeapA.of_good hto h.ok hg hs', fun pb _ _ => HeapP.of_g (HeapG.of_boxK (hto.trans hat.to) hbk)⟩, s', hs', hk⟩
            have hc : calmOp E.calm o.op = true := by simpa [calmAt, opAt, ho'] using hc
            exfalso
            cases hop : o.op with
            | call c =>
              obtain ⟨callee, args, ts⟩ := c
              cases callee with
              | builtin b =>
                rw [hop] at hbx hc
                cases b with
                | append => exact absurd hc (by simp [calmOp, pureOp])
                | _ => cases hbx
              | _ => rw [hop] at hbx; cases hbx
            | _ => rw [hop] at hbx; cases hbx
          · by_cases hcl : callOp o.op = true
            · refine Oper.wp_mono (fun a' w' hp => ?_) (vop_call (Q := Q) hat hd1 hcl hv)
              obtain ⟨hp, hfr⟩ := hp
              obtain ⟨⟨s', hs', hk⟩, hcm⟩ := land_ok hp
              refine ⟨⟨fun hc => hcm ?_, fun hc => absurd ?_ hbx, HeapA.of_good hto h.ok hg hs', fun pb _ hl => HeapP.of_frT (hto.trans hat.to) hfr ?_⟩, s', hs', hk⟩
              · simpa [calmAt, opAt, ho'] using hc
              · simpa [boxyAt, opAt, ho'] using hc
              · unfold leaves at hl
                rw [ho] at hl
                exact hl
            refine Oper.wp_mono (fun a' w' hp => ?_) (vop_sound (Q := Q) hat hd1 hd2 hv)
            obtain ⟨⟨s', hs', hk⟩, hcm⟩ := land_ok hp
            refine ⟨⟨fun hc => hcm ?_, fun hc => absurd ?_ hbx, HeapA.of_good hto h.ok hg hs', fun pb hc _ => absurd ?_ hcl⟩, s', hs', hk⟩
            rotate_left 2
            · simpa [opAt, ho'] using hc
            · simpa [calmAt, opAt, ho'] using hc
            · simpa [boxyAt, opAt, ho'] using hc
        · rename_i hbf
          have : b = false := by simpa using hbf
          subst this
          simp only [Bool.false_eq_true, if_false]
          exact ⟨⟨fun _ => Ext.refl w, fun _ _ _ => rfl, fun _ _ => rfl, fun _ _ _ _ _ _ _ _ _ _ => rfl⟩, _, good_skip hg hd1, hv⟩
    · cases hv

theorem vops_text {ops : Array Oper} {Q : Exit → Act → World → Prop} {K : St → Option R} (h : Ask0 P E c0) (hQ : ∀ s' a' w', Good E.n c0 s' a' w' → K s' = some r → Q .normal a' w') :
    ∀ (l : List Nat) (s : St) (a : Act) (w : World), Good E.n c0 s a w → vops E ops.toList l s K = some r → wpOps P ops Q l a w
  | [], s, a, w, hg, hv => hQ s a w hg hv
  | i :: l, s, a, w, hg, hv => by
    rw [wpOps_cons]
    exact wpOp_mono (fun a' w' h' => let ⟨_, s', hs', hk⟩ := h'; vops_text h hQ l s' a' w' hs' hk) (step_op (Q := Q) (Cf.To.refl _) h hg hv)

theorem step_pure {ops : Array Oper} {s0 : St} {a0 : Act} {m : Nat} {pb : List Nat} (hpb : ∀ b off, 3 ≤ m → s0.get (m - 3) = .v (.one (.ptr b off)) → b ∈ pb) {i : Nat} {l : List Nat} {K : St → Option R} {o : Oper} {W : World → World → Prop} {c1 : Cf} (ho : ops[i]? = some o) (hp : pureOp o.op = true) (hc1 : c1.ok) (hto : c1.To c0) (h : Ask0 P E c0) (hg : Good E.n c0 s a w)
    (hs0 : s0.mem = c1.mem) (hr0 : ∀ t, c1.ra (s0.get t) (a0.tmps.getD t undef)) (hst : ∀ t, (∀ o ∈ ops.toList, o.dst ≠ some t) → a.tmps.getD t undef = a0.tmps.getD t undef)
    (hW : (memOp o.op = false) ∨ (∀ w w', W w w' → Ext w w') ∨ ((∀ w w', W w w' → (m = 1 → HeapG c1 w w') ∧ (m = 2 → HeapA c1 w w') ∧ (m ≠ 1 → m ≠ 2 → HeapP c1 pb w w')) ∧ isLoad o.op = true ∧ boxOK E s0 ops.toList s i m = true))
    (hv : vops E ops.toList (i :: l) s K = some r) :
    ∃ v, YieldsE W P ops o v a w ∧ ∃ s', Good E.n c0 s' (a.put o.dst v) w ∧ vops E ops.toList l s' K = some r := by
  simp only [vops] at hv
  rw [Array.getElem?_toList, ho] at hv
  simp only at hv
  split at hv
  · rename_i hdk
    obtain ⟨hd1, hd2⟩ := dstOk_ok hdk
    split at hv
    · cases hv
    · rename_i b hb
      have hw := wanted_ok hg hb
      split at hv
      · rename_i hbt
        subst hbt
        have hg2 : Good E.n c0 (s.fzOs E (frozenOps E o.op)) a w := Good.fzOs E _ hg
        obtain ⟨Al, be, hat⟩ := h.at hg2
        have key : ∃ av v, land (guardHere ops.toList i) o.dst (s.fzOs E (frozenOps E o.op)) (fun s' => vops E ops.toList l s' K) av (s.fzOs E (frozenOps E o.op)).mem = some r ∧
            (∀ w', W w w' → (execOp a.eval o).run P w' = .ok (.value v) w') ∧ (⟨w, Al, be, (s.fzOs E (frozenOps E o.op)).mem⟩ : Cf).ra av v := by
          rcases hW with hm | hx | ⟨hx, hl, hbx⟩
          · obtain ⟨av, v, hK, hrun, hra⟩ := pure_of hat hp hv
            exact ⟨av, v, hK, fun w' _ => hrun w' (fun h => by rw [hm] at h; cases h), hra⟩
          · obtain ⟨av, v, hK, hrun, hra⟩ := pure_of hat hp hv
            exact ⟨av, v, hK, fun w' hw => hrun w' (fun _ => hx _ _ hw), hra⟩
          · cases hop : o.op with
            | load t x =>
              have hfz : s.fzOs E (frozenOps E o.op) = s := by rw [hop]; rfl
              obtain ⟨av, v, g, off, p, hK, hex, hp1, hgl, hrun, hra⟩ := p_load_core hat.hE hat.ok hat.evs hop hv
              rw [hfz] at hex
              unfold boxOK at hbx
              rw [Array.getElem?_toList, ho] at hbx
              simp only [hop] at hbx
              obtain ⟨hp1, hae⟩ := hp1
              split at hbx
              rotate_left
              · rename_i hm1
                have hm1 : m = 2 := by simpa using hm1
                split at hbx
                · rename_i t'
                  split at hbx
                  · rename_i d ds hs0t
                    have h1 := hr0 t'
                    rw [hs0t] at h1
                    rcases h1 with h1 | ⟨g', off', hv', hg', _⟩
                    · cases h1
                    · have h2 := hst t' (fun o' ho' => by
                        have := List.all_eq_true.1 hbx o' ho'
                        simpa using this)
                      have hae : a.tmps.getD t' undef = .pointer (some ⟨g, off, none⟩) := hae
                      rw [h2, hv'] at hae
                      injection hae with hae; injection hae with hae; injection hae with hae
                      subst hae
                      rw [← hop]
                      exact ⟨av, v, hK, fun w' hw => hrun w' ((hx _ _ hw).2.1 hm1 g' hg'), hra⟩
                  · cases hbx
                · cases hbx
              rename_i hm1
              have hm2 : m ≠ 2 := by simpa using hm1
              rw [hex] at hbx
              cases p with
              | ptr b off' =>
                simp only at hbx
                split at hbx
                · rename_i cs hm
                  rw [hs0] at hm
                  obtain ⟨g1, cap1, cells, T, e1, _⟩ := hc1.blk b _ hm
                  obtain ⟨g2, cap2, e2, hv2⟩ := (hto.trans hat.to).keeps (.ptr b 0) _ ⟨g1, cap1, e1, rfl⟩
                  injection hv2 with hv2; injection hv2 with hv2; injection hv2 with hv2
                  subst hv2
                  obtain ⟨g3, cap3, e3, hv3⟩ := hp1
                  injection hv3 with hv3; injection hv3 with hv3; injection hv3 with hv3 hv4
                  subst hv3
                  rw [e2] at e3; cases e3
                  rw [← hop]
                  by_cases hm1 : m = 1
                  · exact ⟨av, v, hK, fun w' hw => hrun w' ((hx _ _ hw).1 hm1 g ⟨b, cs, cap1, hm, e1⟩), hra⟩
                  · simp only [beq_iff_eq, hm1, Bool.or_eq_true, false_or] at hbx
                    split at hbx
                    · rename_i b' off2 hs0t
                      simp only [Bool.and_eq_true, beq_iff_eq, Nat.ble_eq] at hbx
                      obtain ⟨hbb, h3⟩ := hbx
                      subst hbb
                      have hbm := hpb b' off2 h3 hs0t
                      exact ⟨av, v, hK, fun w' hw => hrun w' ((hx _ _ hw).2.2 hm1 hm2 b' cs g cap1 hbm hm e1), hra⟩
                    · cases hbx
                · cases hbx
              | _ => simp at hbx
            | _ => rw [hop] at hl; cases hl
        obtain ⟨av, v, hK, hrun, hra⟩ := key
        refine ⟨v, .inl ⟨hw, hrun⟩, ?_⟩
        have hpost : Post E.n c0 (s.fzOs E (frozenOps E o.op)) o.dst w false (land (guardHere ops.toList i) o.dst (s.fzOs E (frozenOps E o.op)) fun s' => vops E ops.toList l s' K) r (a.put o.dst v) w :=
          hat.post hat.ok (Cf.To.refl _) hd1 hK hra (fun h => by cases h)
        exact (land_ok hpost).1
      · rename_i hbf
        have : b = false := by simpa using hbf
        subst this
        exact ⟨undef, .inr ⟨hw, rfl⟩, _, good_skip hg hd1, hv⟩
  · cases hv

end
end Go.Vm

namespace Go.Vm

/-! ### Regions that draw -/
section
variable {P : Program} {E : Env} {R : Type} {r : R} {s : St} {a : Act} {w : World} {n : Nat} {c0 : Cf} {ops : Array Oper} {Q : Exit → Act → World → Prop}
variable {Al : Nat → Prop} {be : List Bt}

theorem wpOp_put {K : Act → World → Prop} {i : Nat} {o : Oper} (hi : ops[i]? = some o) (h : wpOp P ops Q i K a w) :
    wpOp P ops Q i (fun a' w' => K a' w' ∧ ∃ v, a'.tmps = (a.put o.dst v).tmps) a w := by
  unfold wpOp at *
  simp only [hi] at *
  split
  · rename_i hw
    simp only [hw, if_true] at h
    rcases h with h | h
    case inr => exact .inr h
    refine .inl ?_
    unfold Oper.wp at *
    generalize (execOp a.eval o).run P w = r at *
    cases r with
    | ok n w' =>
      cases n <;> simp only [Oper.upon] at h ⊢
      case value u => exact ⟨h, u, rfl⟩
      case skip => exact ⟨h, _, rfl⟩
      case defer d => exact ⟨h, undef, by cases o.dst <;> rfl⟩
      case enter f args =>
        refine Calls.mono h fun e w'' he => ?_
        cases e with
        | returned u => exact ⟨he, u, rfl⟩
        | panicked c => exact he
        | outgrown => exact he
      case row row args => exact Rows.mono h fun u w'' he => ⟨he, u, rfl⟩
    | halt x w' =>
      cases x <;> simp only [Oper.upon] at h ⊢
      case panic u => exact h
  · rename_i hw
    simp only [hw] at h
    exact ⟨h, _, rfl⟩

theorem eval_tmps {a a' : Act} (h : a'.tmps = a.tmps) : a'.eval = a.eval := by
  funext x
  cases x <;> simp [Act.eval, h]

/-- Number 'i' has been executed early: its block is 'g'. -/
def E1 (P : Program) (ops : Array Oper) (a : Act) (w : World) (i g : Nat) : Prop :=
  ∃ (o : Oper) (d : Nat) (cells : Array Value) (T : TypeId) (mk : Nat → Value) (we : World), ops[i]? = some o ∧ o.guard = none ∧ o.dst = some d ∧ newOp o.op = true ∧
    (∀ w', (execOp a.eval o).run P w' = .ok (.value (mk w'.heap.size)) (w'.alloc (.cells cells T))) ∧ we.heap.size = g ∧ a.tmps.getD d undef = mk g ∧ w.heap[g]? = some (.cells cells T (0, 0))

theorem E1.keep {a a' : Act} {w w' : World} {i g : Nat} (h : E1 P ops a w i g) (he : ∀ o, ops[i]? = some o → execOp a'.eval o = execOp a.eval o)
    (hd : ∀ o d, ops[i]? = some o → o.dst = some d → a'.tmps.getD d undef = a.tmps.getD d undef) (hw : w'.heap[g]? = w.heap[g]?) : E1 P ops a' w' i g := by
  obtain ⟨o, d, cells, T, mk, we, h1, h2, h3, h4, h5, h6, h7, h8⟩ := h
  exact ⟨o, d, cells, T, mk, we, h1, h2, h3, h4, by rw [he o h1]; exact h5, h6, by rw [hd o d h1 h3]; exact h7, by rw [hw]; exact h8⟩

structure GX (P : Program) (ops : Array Oper) (n : Nat) (c0 : Cf) (a0 : Act) (X : List (Nat × Nat)) (s : St) (a : Act) (w : World) (Al : Nat → Prop) (be : List Bt) : Prop where
  ok : (⟨w, Al, be, s.mem⟩ : Cf).ok
  to : c0.To ⟨w, Al, be, s.mem⟩
  n : a.tmps.size = n
  d : a.defers = []
  r : ∀ t, (⟨w, Al, be, s.mem⟩ : Cf).ra (s.get t) (a.tmps.getD t undef)
  ex : ∀ p ∈ X, E1 P ops a w p.1 p.2 ∧ ¬ (⟨w, Al, be, s.mem⟩ : Cf).live p.2 ∧ ¬ Al p.2 ∧ c0.w.heap.size ≤ p.2 ∧ p.2 < w.heap.size
  nd1 : (X.map (·.1)).Nodup
  nd2 : (X.map (·.2)).Nodup
  st : ∀ t, (∀ o ∈ ops.toList, o.dst ≠ some t) → a.tmps.getD t undef = a0.tmps.getD t undef

def GoodX (P : Program) (ops : Array Oper) (n : Nat) (c0 : Cf) (a0 : Act) (X : List (Nat × Nat)) (s : St) (a : Act) (w : World) : Prop := ∃ Al be, GX P ops n c0 a0 X s a w Al be

theorem GX.root {a0 : Act} {X : List (Nat × Nat)} (h : GX P ops n c0 a0 X s a w Al be) : Good n ⟨w, Al, be, s.mem⟩ s a w := ⟨Al, be, h.ok, Cf.To.refl _, h.n, h.d, h.r⟩

/-- What has been executed early stays so along a step. -/
theorem GX.step {a0 : Act} {X : List (Nat × Nat)} {s' : St} {a' : Act} {w' : World} (h : GX P ops n c0 a0 X s a w Al be) (hg : Good n ⟨w, Al, be, s.mem⟩ s' a' w')
    (he : ∀ p ∈ X, (∀ o, ops[p.1]? = some o → execOp a'.eval o = execOp a.eval o) ∧ ∀ o d, ops[p.1]? = some o → o.dst = some d → a'.tmps.getD d undef = a.tmps.getD d undef)
    (hst : ∀ t, (∀ o ∈ ops.toList, o.dst ≠ some t) → a'.tmps.getD t undef = a.tmps.getD t undef) :
    GoodX P ops n c0 a0 X s' a' w' := by
  obtain ⟨Al', be', hok, ht, hn, hd, hr⟩ := hg
  refine ⟨Al', be', hok, h.to.trans ht, hn, hd, hr, fun p hp => ?_, h.nd1, h.nd2, fun t ht' => (hst t ht').trans (h.st t ht')⟩
  obtain ⟨e1, e2, e3, e4, e5⟩ := h.ex p hp
  refine ⟨e1.keep (he p hp).1 (he p hp).2 (ht.block p.2 e5 e2), fun hl => ?_, fun hl => ?_, e4, Nat.lt_of_lt_of_le e5 ht.size⟩
  · rcases ht.livenew _ hl with h1 | h1
    · exact e2 h1
    · exact absurd h1 (by show ¬ (w.heap.size ≤ p.2); omega)
  · rcases ht.alnew _ hl with h1 | h1 | h1
    · exact e3 h1
    · exact e2 h1
    · exact absurd h1 (by show ¬ (w.heap.size ≤ p.2); omega)

theorem GX.same {a0 : Act} {X : List (Nat × Nat)} {s' : St} (h : GX P ops n c0 a0 X s a w Al be) (hg : Good n ⟨w, Al, be, s.mem⟩ s' a w) : GoodX P ops n c0 a0 X s' a w :=
  h.step hg (fun _ _ => ⟨fun _ _ => rfl, fun _ _ _ _ => rfl⟩) fun _ _ => rfl

theorem good_junk {n : Nat} {c0 : Cf} {s : St} {a : Act} {w : World} (h : Good n c0 s a w) (d : Option Nat) : Good n c0 (s.put? d A.junk) a w := by
  obtain ⟨Al, be, hc, ht, hn, hd, hr⟩ := h
  cases d with
  | none => exact ⟨Al, be, hc, ht, hn, hd, hr⟩
  | some d =>
    refine ⟨Al, be, hc, ht, hn, hd, fun t => ?_⟩
    show Cf.ra _ (if d = t then A.junk else s.get t) _
    split
    · trivial
    · exact hr t

theorem good_junkAll {n : Nat} {c0 : Cf} {a : Act} {w : World} {ol : List Oper} : ∀ (ns : List Nat) {s : St}, Good n c0 s a w → Good n c0 (junkAll ol ns s) a w
  | [], _, h => h
  | _ :: r, _, h => good_junkAll r (good_junk h _)

theorem junkAll_get {ol : List Oper} : ∀ (ns : List Nat) (s : St) (d : Nat), s.get d = A.junk → (junkAll ol ns s).get d = A.junk
  | [], _, _, h => h
  | k :: r, s, d, h => by
    refine junkAll_get r _ d ?_
    cases (ol[k]?).bind (·.dst) with
    | none => exact h
    | some d' =>
      show (if d' = d then A.junk else s.get d) = _
      split
      · rfl
      · exact h

theorem junkAll_junk {ol : List Oper} : ∀ (ns : List Nat) (s : St) (k d : Nat) (o : Oper), k ∈ ns → ol[k]? = some o → o.dst = some d → (junkAll ol ns s).get d = A.junk
  | [], _, _, _, _, h, _, _ => by simp at h
  | k' :: r, s, k, d, o, h, ho, hd => by
    rcases List.mem_cons.1 h with rfl | h
    · refine junkAll_get r _ d ?_
      rw [ho]
      show (s.put? (o.dst) A.junk).get d = _
      rw [hd]
      show (if d = d then A.junk else s.get d) = _
      rw [if_pos rfl]
    · exact junkAll_junk r _ k d o h ho hd

/-- A new block, early. -/
theorem GX.early {a0 : Act} {X : List (Nat × Nat)} (hA : Ask0 P E c0) (h : GX P ops n c0 a0 X s a w Al be) (hn : n = E.n) {k : Nat} {o : Oper} (ho : ops[k]? = some o) (hnew : newOp o.op = true) (hok : newOK E ops.toList s k = true)
    (hkX : k ∉ X.map (·.1)) (hj : ∀ d, o.dst = some d → s.get d = A.junk)
    (hap : ∀ p ∈ X, ∃ ok, ops[p.1]? = some ok ∧ ∀ d, o.dst = some d → d ∉ ok.looksAt ops ∧ ok.dst ≠ some d) (hself : ∀ d, o.dst = some d → d ∉ o.looksAt ops) (hns : ∀ (j : Nat) (o : Oper) cs b, ops[j]? = some o → o.op ≠ .select cs b)
    {K : Act → World → Prop} (hK : ∀ a' w' g, Ext w w' → GoodX P ops n c0 a0 ((k, g) :: X) s a' w' → K a' w') : wpOp P ops Q k K a w := by
  unfold newOK at hok
  rw [Array.getElem?_toList, ho] at hok
  simp only [Bool.and_eq_true, Option.isNone_iff_eq_none, Option.isSome_iff_exists] at hok
  obtain ⟨⟨⟨hg, hdk⟩, ⟨d, hd⟩⟩, ⟨u, hv⟩⟩ := hok
  have hg2 : Good n c0 (s.fzOs E (frozenOps E o.op)) a w := Good.fzOs E _ ⟨Al, be, h.ok, h.to, h.n, h.d, h.r⟩
  obtain ⟨Al2, be2, hat⟩ := hA.at hg2
  obtain ⟨cells, T, mk, cap, x, y, _, _, hrun, _⟩ := nsem hat hnew hv
  have hw : Region.wanted o (yielded ops a.tmps) = true := by simp [Region.wanted, hg]
  have hext := Ext.alloc w (.cells cells T)
  unfold wpOp
  simp only [ho, hw, if_true]
  refine .inl ?_
  unfold Oper.wp
  rw [hrun w, Oper.upon_value]
  refine hK _ _ w.heap.size hext ?_
  obtain ⟨h1, h2⟩ := step_ext h.ok hext
  have hdn : d < a.tmps.size := by rw [h.n, hn]; exact (dstOk_ok hdk).1 d hd
  have hget : ∀ t, (a.put o.dst (mk w.heap.size)).tmps.getD t undef = if t = d then mk w.heap.size else a.tmps.getD t undef := by
    intro t
    rw [hd]
    show (a.tmps.setIfInBounds d _).getD t undef = _
    split
    · rename_i ht; subst ht; simp [hdn]
    · rename_i ht
      simp [Array.getD_eq_getD_getElem?, Array.getElem?_setIfInBounds_ne (Ne.symm ht)]
  have hex : ∀ p ∈ X, E1 P ops (a.put o.dst (mk w.heap.size)) (w.alloc (.cells cells T)) p.1 p.2 := by
    intro p hp
    obtain ⟨e1, e2, e3, e4, e5⟩ := h.ex p hp
    obtain ⟨ok, hok, hfree⟩ := hap p hp
    refine e1.keep (fun o2 ho2 => ?_) (fun o2 d2 ho2 hd2 => ?_) (hext.block _ e5)
    · rw [hok] at ho2; cases ho2
      exact execOp_put ok (fun cs b => hns p.1 ok cs b hok) a o.dst _ (fun d' hd' => (hfree d' hd').1)
    · rw [hok] at ho2; cases ho2
      rw [hget, if_neg (fun e => (hfree d hd).2 (by rw [hd2, e]))]
  refine ⟨Al, be, h1, h.to.trans h2, ?_, ?_, fun t => ?_, fun p hp => ?_, ?_, ?_, fun t ht' => ?_⟩
  · rw [hd]; show (a.tmps.setIfInBounds _ _).size = n; simp [h.n]
  · rw [hd]; exact h.d
  · rw [hget]
    split
    · rename_i ht; subst ht
      rw [hj t hd]; trivial
    · exact ra_keep h2.keeps (h.r t)
  · rcases List.mem_cons.1 hp with rfl | hp
    · refine ⟨⟨o, d, cells, T, mk, w, ho, hg, hd, hnew, fun w' => ?_, rfl, ?_, new_cells w cells T⟩, fun hl => ?_, fun hl => ?_, h.to.size, ?_⟩
      · rw [execOp_put o (fun cs b => hns k o cs b ho) a o.dst _ hself]; exact hrun w'
      · rw [hget, if_pos rfl]
      · exact absurd (live_lt h.ok hl) (Nat.lt_irrefl _)
      · exact absurd (h.ok.lt _ hl) (Nat.lt_irrefl _)
      · show w.heap.size < (w.heap.push _).size; simp
    · obtain ⟨e1, e2, e3, e4, e5⟩ := h.ex p hp
      exact ⟨hex p hp, e2, e3, e4, Nat.lt_of_lt_of_le e5 hext.size⟩
  · simp only [List.map_cons, List.nodup_cons]; exact ⟨hkX, h.nd1⟩
  · simp only [List.map_cons, List.nodup_cons]
    refine ⟨fun hm => ?_, h.nd2⟩
    obtain ⟨p, hp, he⟩ := List.mem_map.1 hm
    have := (h.ex p hp).2.2.2.2
    have he : p.2 = w.heap.size := he
    omega
  · rw [hget, if_neg (fun e => ht' o (List.mem_of_getElem? (by rw [Array.getElem?_toList]; exact ho)) (by rw [hd, e])), h.st t ht']

end
end Go.Vm

namespace Go.Vm
section
variable {P : Program} {E : Env} {R : Type} {r : R} {s : St} {a : Act} {w : World} {n : Nat} {c0 : Cf} {ops : Array Oper} {Q : Exit → Act → World → Prop}
variable {Al : Nat → Prop} {be : List Bt}

theorem step_adopt {c : Cf} (hc : c.ok) {g cap : Nat} {x : Blk} (hlv : ¬ c.live g) (hal : ¬ c.Al g) (hx : (⟨c.w, c.Al, c.be ++ [.blk g cap], c.mem ++ [x]⟩ : Cf).blkOK c.mem.length x) :
    (⟨c.w, c.Al, c.be ++ [.blk g cap], c.mem ++ [x]⟩ : Cf).ok ∧ ∀ g', (⟨c.w, c.Al, c.be ++ [.blk g cap], c.mem ++ [x]⟩ : Cf).live g' → c.live g' ∨ g' = g := by
  have hk : ∀ y v, c.r1 y v → (⟨c.w, c.Al, c.be ++ [.blk g cap], c.mem ++ [x]⟩ : Cf).r1 y v :=
    r1_keep (c := c) (c' := ⟨c.w, c.Al, c.be ++ [.blk g cap], c.mem ++ [x]⟩) (fun g hg => ⟨hg, rfl⟩) (fun _ _ e => app_some e) (fun _ _ xs e => .inl ⟨xs, app_some e, rfl⟩) (fun _ y e hy => ⟨y, app_some e, hy⟩)
  have hback : ∀ (i : Nat) (z : Blk) (g' cap' : Nat), (c.mem ++ [x])[i]? = some z → z.isDead = false → (c.be ++ [Bt.blk g cap])[i]? = some (.blk g' cap') →
      (c.mem[i]? = some z ∧ c.be[i]? = some (.blk g' cap')) ∨ (i = c.mem.length ∧ g' = g) := by
    intro i z g' cap' h1 hz h2
    rcases app_one h1 with h1 | ⟨hi, _⟩
    · rcases app_one h2 with h2 | ⟨hi, _⟩
      · exact .inl ⟨h1, h2⟩
      · have := (List.getElem?_eq_some_iff.1 h1).1; rw [hi, hc.len] at this; omega
    · rcases app_one h2 with h2 | ⟨_, h2⟩
      · have := (List.getElem?_eq_some_iff.1 h2).1; rw [hi, hc.len] at this; omega
      · cases h2; exact .inr ⟨hi, rfl⟩
  have hlive : ∀ g', (⟨c.w, c.Al, c.be ++ [.blk g cap], c.mem ++ [x]⟩ : Cf).live g' → c.live g' ∨ g' = g := by
    rintro g' ⟨i, z, cap', h1, hz, h2⟩
    rcases hback i z g' cap' h1 hz h2 with ⟨h1, h2⟩ | ⟨_, h2⟩
    · exact .inl ⟨i, z, cap', h1, hz, h2⟩
    · exact .inr h2
  refine ⟨⟨by simp [hc.len], ?_, ?_, ?_, hc.lt⟩, hlive⟩
  · intro i z h1
    rcases app_one h1 with h1 | ⟨hi, rfl⟩
    · exact blkOK_keep (hc.blk i z h1) hk (fun g hg => ⟨hg, rfl⟩) (fun _ h => app_some h) (fun _ _ _ _ => rfl)
    · rw [hi]; exact hx
  · intro i i' z z' g' cap1 cap2 h1 hz h2 h1' hz' h2'
    rcases hback i z g' cap1 h1 hz h2 with ⟨g1, g2⟩ | ⟨g1, g2⟩ <;> rcases hback i' z' g' cap2 h1' hz' h2' with ⟨g1', g2'⟩ | ⟨g1', g2'⟩
    · exact hc.inj i i' z z' g' cap1 cap2 g1 hz g2 g1' hz' g2'
    · exact absurd ⟨i, z, cap1, g1, hz, g2' ▸ g2⟩ hlv
    · exact absurd ⟨i', z', cap2, g1', hz', g2 ▸ g2'⟩ hlv
    · omega
  · intro g' hl hg
    rcases hlive g' hl with h1 | rfl
    · exact hc.av g' h1 hg
    · exact hal hg

/-- A block that was made early is met. -/
theorem GX.adopt {a0 : Act} {X : List (Nat × Nat)} (hA : Ask0 P E c0) (h : GX P ops n c0 a0 X s a w Al be) (_hn : n = E.n) {k g : Nat} (hp : (k, g) ∈ X) {K : St → Option R} (hv : vops E ops.toList [k] s K = some r) :
    ∃ s', GoodX P ops n c0 a0 (X.erase (k, g)) s' a w ∧ K s' = some r := by
  obtain ⟨e0, _⟩ := h.ex _ hp
  obtain ⟨o, d, cells, T, mk, we, ho, hgd, hd, hnew, hrun, hwe, hslot, hheap⟩ := e0
  simp only [vops] at hv
  rw [Array.getElem?_toList, ho] at hv
  simp only at hv
  split at hv
  · rename_i hdk
    have hwt : wantedV ops.toList o s = some true := by unfold wantedV; rw [hgd]
    rw [hwt] at hv
    simp only [if_true] at hv
    have hg2 : Good n ⟨w, Al, be, s.mem⟩ (s.fzOs E (frozenOps E o.op)) a w := Good.fzOs E _ h.root
    obtain ⟨Al2, be2, h2⟩ := h.same hg2
    have hat : At P E n c0 (s.fzOs E (frozenOps E o.op)) a w Al2 be2 := ⟨hA.hE, h2.ok, h2.to, h2.n, h2.d, h2.r, hA.glob⟩
    obtain ⟨cells', T', mk', cap, x, y, hK, hbool, hrun', hsem⟩ := nsem hat hnew hv
    -- the two runs are one
    have hone := (hrun we).symm.trans (hrun' we)
    injection hone with h3 h4
    injection h3 with h3
    rw [hwe] at h3
    have hc1 : (we.alloc (.cells cells T)).heap[we.heap.size]? = some (.cells cells T (0, 0)) := new_cells we cells T
    rw [h4, new_cells we cells' T'] at hc1
    injection hc1 with hc1
    injection hc1 with hc1 hc2
    subst hc1; subst hc2
    obtain ⟨_, hlv, hal, hge, hlt⟩ := h2.ex _ hp
    let s1 := s.fzOs E (frozenOps E o.op)
    let c2 : Cf := ⟨w, Al2, be2 ++ [.blk g cap], s1.mem ++ [x]⟩
    have hk : ∀ y v, (⟨w, Al2, be2, s1.mem⟩ : Cf).r1 y v → c2.r1 y v :=
      r1_keep (c := ⟨w, Al2, be2, s1.mem⟩) (c' := c2) (fun g hg => ⟨hg, rfl⟩) (fun _ _ e => app_some e) (fun _ _ xs e => .inl ⟨xs, app_some e, rfl⟩) (fun _ y e hy => ⟨y, app_some e, hy⟩)
    have hlen : c2.be[s1.mem.length]? = some (.blk g cap) := by
      have := h2.ok.len
      have hl : be2.length = s1.mem.length := this
      show (be2 ++ [Bt.blk g cap])[s1.mem.length]? = _
      rw [← hl]; simp
    obtain ⟨hblk, hy⟩ := hsem c2 g rfl hlen hheap hk (fun _ _ h => h)
    obtain ⟨hok, hlive⟩ := step_adopt (c := ⟨w, Al2, be2, s1.mem⟩) h2.ok hlv hal hblk
    let s2 : St := (({ s1 with mem := s1.mem ++ [x] } : St)).put? o.dst (.v (.one y))
    have hK2 : K s2 = some r := by
      have hK : land (guardHere ops.toList k) o.dst s1 (fun s' => vops E ops.toList [] s' K) (.v (.one y)) (s1.mem ++ [x]) = some r := hK
      unfold land at hK
      rw [hbool] at hK
      simp only [ite_self] at hK
      exact hK
    refine ⟨s2, ⟨Al2, be2 ++ [.blk g cap], ?_, ?_, h2.n, h2.d, fun t => ?_, fun p hpe => ?_, ?_, ?_, h2.st⟩, hK2⟩
    · have : s2.mem = s1.mem ++ [x] := by show ((({ s1 with mem := s1.mem ++ [x] } : St)).put? o.dst (.v (.one y))).mem = _; rw [hd]; rfl
      rw [this]; exact hok
    · have : s2.mem = s1.mem ++ [x] := by show ((({ s1 with mem := s1.mem ++ [x] } : St)).put? o.dst (.v (.one y))).mem = _; rw [hd]; rfl
      rw [this]
      refine ⟨fun y v hy => hk y v (h2.to.keeps y v hy), h2.to.os, h2.to.tape, h2.to.output, h2.to.size, h2.to.block, h2.to.al, h2.to.alnew, fun g' hg' => ?_, fun b cs hb => (h2.to.boxes b cs hb).imp (fun ⟨cs', h⟩ => ⟨cs', app_some h⟩) id⟩
      rcases hlive g' hg' with h1 | rfl
      · exact h2.to.livenew g' h1
      · exact .inr hge
    · have hm : s2.mem = s1.mem ++ [x] := by show ((({ s1 with mem := s1.mem ++ [x] } : St)).put? o.dst (.v (.one y))).mem = _; rw [hd]; rfl
      have hgt : s2.get t = if d = t then .v (.one y) else s1.get t := by show ((({ s1 with mem := s1.mem ++ [x] } : St)).put? o.dst (.v (.one y))).get t = _; rw [hd]; rfl
      rw [hm, hgt]
      split
      · rename_i ht; subst ht
        rw [hslot, h3]; exact hy
      · exact ra_keep hk (h2.r t)
    · have hm : s2.mem = s1.mem ++ [x] := by show ((({ s1 with mem := s1.mem ++ [x] } : St)).put? o.dst (.v (.one y))).mem = _; rw [hd]; rfl
      have hpX : p ∈ X := List.mem_of_mem_erase hpe
      obtain ⟨e1, e2, e3, e4, e5⟩ := h2.ex p hpX
      have hne : p.2 ≠ g := by
        have hperm := (List.perm_cons_erase hp).map (·.2)
        have := hperm.nodup_iff.1 h.nd2
        simp only [List.map_cons, List.nodup_cons] at this
        exact fun he => this.1 (List.mem_map.2 ⟨p, hpe, he⟩)
      rw [hm]
      refine ⟨e1, fun hl => ?_, e3, e4, e5⟩
      rcases hlive _ hl with h1 | h1
      · exact e2 h1
      · exact hne h1
    · exact ((List.erase_sublist).map _).nodup h.nd1
    · exact ((List.erase_sublist).map _).nodup h.nd2
  · cases hv

end
end Go.Vm

namespace Go.Vm

theorem set_un {l : Array Bool} {i j : Nat} : (l.setIfInBounds i true).getD j true = false ↔ l.getD j true = false ∧ j ≠ i := by
  by_cases h : i = j
  · subst h
    constructor
    · intro hh
      exfalso
      by_cases hi : i < l.size
      · simp [hi] at hh
      · simp [hi] at hh
    · exact fun hh => absurd rfl hh.2
  · rw [getD_set_ne true h]
    exact ⟨fun hh => ⟨hh, Ne.symm h⟩, fun hh => hh.1⟩

theorem set_li {l : Array Bool} {i j : Nat} (hi : i < l.size) : (l.setIfInBounds i true).getD j false = true ↔ l.getD j false = true ∨ j = i := by
  by_cases h : i = j
  · subst h; simp [hi]
  · rw [getD_set_ne false h]
    exact ⟨fun hh => .inl hh, fun hh => hh.resolve_right (Ne.symm h)⟩

theorem un_lt {l : Array Bool} {j : Nat} (h : l.getD j true = false) : j < l.size := by
  apply Classical.byContradiction
  intro hj
  simp [hj] at h

/-- 'listed'' is 'listed' and 'X'. -/
structure LX (listed : Array Bool) (X : List Nat) (listed' : Array Bool) : Prop where
  u : ∀ j, listed'.getD j true = false ↔ (listed.getD j true = false ∧ j ∉ X)
  t : ∀ j, listed'.getD j false = true ↔ (listed.getD j false = true ∨ j ∈ X)

theorem LX.early {listed listed' : Array Bool} {X : List Nat} (h : LX listed X listed') {k : Nat} (hk : listed'.getD k true = false) : LX listed (k :: X) (listed'.setIfInBounds k true) := by
  refine ⟨fun j => ?_, fun j => ?_⟩
  · rw [set_un, h.u]; simp only [List.mem_cons, not_or]; constructor
    · rintro ⟨⟨h1, h2⟩, h3⟩; exact ⟨h1, h3, h2⟩
    · rintro ⟨h1, h3, h2⟩; exact ⟨⟨h1, h2⟩, h3⟩
  · rw [set_li (un_lt hk), h.t]; simp only [List.mem_cons]; constructor
    · rintro ((h1 | h1) | h1) <;> simp [h1]
    · rintro (h1 | h1 | h1) <;> simp [h1]

theorem LX.head {listed listed' : Array Bool} {X : List Nat} (h : LX listed X listed') {i : Nat} (hi' : listed'.getD i true = false) (hi : listed.getD i true = false) :
    LX (listed.setIfInBounds i true) X (listed'.setIfInBounds i true) := by
  refine ⟨fun j => ?_, fun j => ?_⟩
  · rw [set_un, set_un, h.u]; constructor
    · rintro ⟨⟨h1, h2⟩, h3⟩; exact ⟨⟨h1, h3⟩, h2⟩
    · rintro ⟨⟨h1, h3⟩, h2⟩; exact ⟨⟨h1, h2⟩, h3⟩
  · rw [set_li (un_lt hi'), set_li (un_lt hi), h.t]; constructor
    · rintro ((h1 | h1) | h1) <;> simp [h1]
    · rintro ((h1 | h1) | h1) <;> simp [h1]

theorem LX.adopt {listed listed' : Array Bool} {X X' : List Nat} (h : LX listed X listed') {i : Nat} (hi : listed.getD i true = false) (hX : i ∈ X) (hX' : ∀ j, j ∈ X' ↔ (j ∈ X ∧ j ≠ i)) :
    LX (listed.setIfInBounds i true) X' listed' := by
  refine ⟨fun j => ?_, fun j => ?_⟩
  · rw [set_un, h.u, hX']; constructor
    · rintro ⟨h1, h2⟩; exact ⟨⟨h1, fun e => h2 (e ▸ hX)⟩, fun h3 => h2 h3.1⟩
    · rintro ⟨⟨h1, h2⟩, h3⟩; exact ⟨h1, fun h4 => h3 ⟨h4, h2⟩⟩
  · rw [set_li (un_lt hi), h.t, hX']
    by_cases hj : j = i
    · subst hj; simp [hX]
    · simp [hj]

def cnt (n : Nat) (l : Array Bool) : Nat := ((List.range n).filter fun j => !l.getD j true).length

theorem cnt_set {n k : Nat} {l : Array Bool} (hk : k < n) (hu : l.getD k true = false) : cnt n (l.setIfInBounds k true) < cnt n l := by
  have h1 : ((List.range n).filter fun j => !(l.setIfInBounds k true).getD j true) = ((List.range n).filter fun j => !l.getD j true).filter fun j => j != k := by
    rw [List.filter_filter]
    apply List.filter_congr
    intro j _
    have := set_un (l := l) (i := k) (j := j)
    cases h2 : (l.setIfInBounds k true).getD j true <;> cases h3 : l.getD j true <;> by_cases h4 : j = k <;> simp_all
  unfold cnt
  rw [h1]
  exact List.length_filter_lt_length_iff_exists.2 ⟨k, List.mem_filter.2 ⟨List.mem_range.2 hk, by rw [hu]; rfl⟩, by simp⟩

theorem listAll_un : ∀ {pn : List Nat} {listed : Array Bool} {j : Nat}, (listAll pn listed).getD j true = false ↔ (listed.getD j true = false ∧ j ∉ pn)
  | [], listed, j => by simp [listAll]
  | k :: pn, listed, j => by
    show (listAll pn (listed.setIfInBounds k true)).getD j true = false ↔ _
    rw [listAll_un, set_un]
    simp only [List.mem_cons, not_or]
    constructor
    · rintro ⟨⟨h1, h2⟩, h3⟩; exact ⟨h1, h2, h3⟩
    · rintro ⟨h1, h2, h3⟩; exact ⟨⟨h1, h2⟩, h3⟩

theorem listAll_li : ∀ {pn : List Nat} {listed : Array Bool} {j : Nat}, (listed.getD j false = true ∨ (j ∈ pn ∧ j < listed.size)) → (listAll pn listed).getD j false = true
  | [], listed, j, h => by
    rcases h with h | ⟨h, _⟩
    · exact h
    · simp at h
  | k :: pn, listed, j, h => by
    show (listAll pn (listed.setIfInBounds k true)).getD j false = true
    apply listAll_li
    by_cases hk : k < listed.size
    · rw [set_li hk]
      rcases h with h | ⟨h, hs⟩
      · exact .inl (.inl h)
      · rcases List.mem_cons.1 h with rfl | h
        · exact .inl (.inr rfl)
        · exact .inr ⟨h, by simpa using hs⟩
    · have : listed.setIfInBounds k true = listed := by simp [Array.setIfInBounds, hk]
      rw [this]
      rcases h with h | ⟨h, hs⟩
      · exact .inl h
      · rcases List.mem_cons.1 h with rfl | h
        · exact absurd hs hk
        · exact .inr ⟨h, hs⟩

theorem Alone.mono {ops : Array Oper} {listed : Array Bool} {k i : Nat} (h : Alone ops listed k) : Alone ops (listed.setIfInBounds i true) k := by
  obtain ⟨ok, h1, h2, h3⟩ := h
  exact ⟨ok, h1, h2, fun j oj d hj hne hun hd => h3 j oj d hj hne (set_un.1 hun).1 hd⟩

section
variable {P : Program} {E : Env} {R : Type} {r : R} {s : St} {a : Act} {w : World} {n : Nat} {c1 : Cf} {ops : Array Oper} {Q : Exit → Act → World → Prop} {K : St → Option R}

/-- The evaluator stands ahead of the rest of a region. -/
def RF (E : Env) (ops : Array Oper) (s0 : St) (pb : List Nat) (K : St → Option R) (r : R) : Sched → St → Prop
  | [], s => K s = some r
  | (i, box, ns) :: l, s => (box ≠ 0 → boxOK E s0 ops.toList s i box = true) ∧ (∀ k ∈ ns, newOK E ops.toList s k = true) ∧ (∀ k ∈ ns, ∀ o d, ops[k]? = some o → o.dst = some d → s.get d = A.junk) ∧ leaves E pb ops.toList s i = true ∧
    vops E ops.toList [i] s (fun s' => vdraw E ops.toList s0 pb l s' K) = some r

theorem rf_of {a0 : Act} {X : List (Nat × Nat)} {s0 : St} {pb : List Nat} {l : Sched} (hv : vdraw E ops.toList s0 pb l s K = some r) (hg : GoodX P ops n c1 a0 X s a w) : ∃ s1, RF E ops s0 pb K r l s1 ∧ GoodX P ops n c1 a0 X s1 a w := by
  match l, hv with
  | [], hv => exact ⟨s, hv, hg⟩
  | (i, box, ns) :: l, hv =>
    simp only [vdraw] at hv
    split at hv
    · rename_i hc
      simp only [Bool.and_eq_true, Bool.or_eq_true, beq_iff_eq, List.all_eq_true] at hc
      obtain ⟨Al, be, hx⟩ := hg
      refine ⟨junkAll ops.toList ns s, ⟨fun hb => hc.1.1.resolve_left hb, hc.1.2, fun k hk o d ho hd => junkAll_junk ns s k d o hk (by rw [Array.getElem?_toList]; exact ho) hd, hc.2, hv⟩, hx.same (good_junkAll ns hx.root)⟩
    · cases hv

theorem notLate {ops : Array Oper} {listed : Array Bool} {k : Nat} {o : Oper} (ho : ops[k]? = some o) (h : ∀ e ∈ o.after, Region.binds .any e = true → listed.getD e.on false = true ∨ newAt ops e.on = true) : late ops listed k = false := by
  cases hl : late ops listed k with
  | false => rfl
  | true =>
    exfalso
    unfold late at hl
    rw [ho] at hl
    obtain ⟨e, he, hb⟩ := Array.any_eq_true'.1 hl
    simp only [Bool.and_eq_true, Bool.not_eq_true'] at hb
    rcases h e he hb.1.1 with h1 | h1
    · rw [hb.1.2] at h1; cases h1
    · rw [hb.2] at h1; cases h1

def GuR (E : Env) (ops : Array Oper) (c1 : Cf) (pb : List Nat) (j : Nat) (w w' : World) : Prop :=
  (calmAt E.calm ops j = true → Ext w w') ∧ (calmAt E.calm ops j = true ∨ boxyAt ops j = true → HeapG c1 w w') ∧ HeapA c1 w w' ∧ (opAt callOp ops j = true → HeapP c1 pb w w')

theorem put_getD {a : Act} {dst : Option Nat} {v : Value} {d : Nat} (h : dst ≠ some d) : (a.put dst v).tmps.getD d undef = a.tmps.getD d undef := by
  cases dst with
  | none => rfl
  | some d' =>
    show (a.tmps.setIfInBounds d' v).getD d undef = _
    have : d' ≠ d := fun e => h (by rw [e])
    simp [Array.getD_eq_getD_getElem?, Array.getElem?_setIfInBounds_ne this]

theorem draw_any {s0 : St} {a0 : Act} {pb : List Nat} (hs0 : s0.mem = c1.mem) (hr0 : ∀ t, c1.ra (s0.get t) (a0.tmps.getD t undef)) (hA : Ask0 P E c1) (hQ : ∀ s' a' w', Good E.n c1 s' a' w' → K s' = some r → Q .normal a' w') (hQp : ∀ c a w, ¬ Q (.panic c) a w) (hns : Region.noSelect ops = true) :
    ∀ (m : Nat) (l : Sched) (listed listed' : Array Bool) (X : List (Nat × Nat)) (s : St) (a : Act) (w : World) (fuel : Nat), l.length + fuel ≤ m → listed.size = ops.size → cnt ops.size listed' ≤ fuel → LX listed (X.map (·.1)) listed' →
      (∀ p ∈ X, p.1 ∈ l.map (·.1) ∧ newAt ops p.1 = true ∧ Alone ops listed p.1 ∧ ∀ o, ops[p.1]? = some o → ∀ e ∈ o.after, Region.binds .any e = true → listed'.getD e.on false = true) → (∀ j, j < ops.size → listed.getD j true = false → j ∈ l.map (·.1)) →
      schedOK E.calm ops l listed = true → GoodX P ops E.n c1 a0 X s a w → RF E ops s0 pb K r l s → (∀ x ∈ l, ∀ b off, 3 ≤ x.2.1 → s0.get (x.2.1 - 3) = .v (.one (.ptr b off)) → b ∈ pb) → wpAnyC P .any ops Q (GuR E ops c1 pb) fuel listed' a w := by
  intro m
  induction m with
  | zero =>
    intro l listed listed' X s a w fuel hm hsz hcnt hlx hX hcov hs hg hv hpb
    have hl : l = [] := List.eq_nil_of_length_eq_zero (by omega)
    have hf : fuel = 0 := by omega
    subst hl; subst hf
    have hX0 : X = [] := by
      cases X with
      | nil => rfl
      | cons p X => exact absurd (hX p List.mem_cons_self).1 (by simp)
    subst hX0
    simp only [schedOK, List.isEmpty_iff] at hs
    obtain ⟨Al, be, hx⟩ := hg
    refine ⟨?_, hQ s a w ⟨Al, be, hx.ok, hx.to, hx.n, hx.d, hx.r⟩ hv⟩
    rw [List.eq_nil_iff_forall_not_mem] at hs ⊢
    intro j hj
    refine hs j ?_
    rw [mem_ready] at hj ⊢
    obtain ⟨h1, o, h2, h3⟩ := hj
    exact ⟨((hlx.u j).1 h1).1, o, h2, fun e he hb => ((hlx.t _).1 (h3 e he hb)).resolve_right (by simp)⟩
  | succ m ih =>
    intro l listed listed' X s a w fuel hm hsz hcnt hlx hX hcov hs hg hv hpb
    match l, hm, hX, hcov, hs, hv, hpb with
    | [], hm, hX, hcov, hs, hv, hpb =>
      have hX0 : X = [] := by
        cases X with
        | nil => rfl
        | cons p X => exact absurd (hX p List.mem_cons_self).1 (by simp)
      subst hX0
      simp only [schedOK, List.isEmpty_iff] at hs
      obtain ⟨Al, be, hx⟩ := hg
      have hq := hQ s a w ⟨Al, be, hx.ok, hx.to, hx.n, hx.d, hx.r⟩ hv
      have hr : Region.ready .any ops listed' = [] := by
        rw [List.eq_nil_iff_forall_not_mem] at hs ⊢
        intro j hj
        refine hs j ?_
        rw [mem_ready] at hj ⊢
        obtain ⟨h1, o, h2, h3⟩ := hj
        exact ⟨((hlx.u j).1 h1).1, o, h2, fun e he hb => ((hlx.t _).1 (h3 e he hb)).resolve_right (by simp)⟩
      cases fuel with
      | zero => exact ⟨hr, hq⟩
      | succ f => exact ⟨fun _ => hq, fun i hi => by rw [hr] at hi; simp at hi⟩
    | (i, box, ns) :: l, hm, hX, hcov, hs, hv, hpb =>
      have hpb' : ∀ x ∈ l, ∀ b off, 3 ≤ x.2.1 → s0.get (x.2.1 - 3) = .v (.one (.ptr b off)) → b ∈ pb := fun x hx => hpb x (List.mem_cons_of_mem _ hx)
      simp only [schedOK, Bool.and_eq_true, Bool.or_eq_true, List.contains_iff_mem] at hs
      obtain ⟨⟨hr, hor⟩, hs⟩ := hs
      obtain ⟨hiu, oi, hoi, hdeps⟩ := mem_ready.1 hr
      have hil : i < ops.size := by rw [← hsz]; exact un_lt hiu
      have hcov' : ∀ j, j < ops.size → (listed.setIfInBounds i true).getD j true = false → j ∈ l.map (·.1) := by
        intro j hj hun
        obtain ⟨h1, h2⟩ := set_un.1 hun
        have := hcov j hj h1
        simp only [List.map_cons, List.mem_cons] at this
        exact this.resolve_left h2
      have hsz' : (listed.setIfInBounds i true).size = ops.size := by simp [hsz]
      obtain ⟨hbox, hnok, hjunk, hlv, hvo⟩ := hv
      by_cases hiX : i ∈ X.map (·.1)
      · -- it was made early
        obtain ⟨p, hp, hpi⟩ := List.mem_map.1 hiX
        obtain ⟨k, g⟩ := p
        have hpi : k = i := hpi
        subst hpi
        obtain ⟨Al, be, hx⟩ := hg
        obtain ⟨s', hg', hK'⟩ := hx.adopt hA rfl hp hvo
        obtain ⟨s1, hrf, hg1⟩ := rf_of hK' hg'
        have hperm := (List.perm_cons_erase hp).map (·.1)
        have hnd := hperm.nodup_iff.1 hx.nd1
        simp only [List.map_cons, List.nodup_cons] at hnd
        have hmem : ∀ j, j ∈ (X.erase (k, g)).map (·.1) ↔ (j ∈ X.map (·.1) ∧ j ≠ k) := by
          intro j
          have h1 := hperm.mem_iff (a := j)
          simp only [List.map_cons, List.mem_cons] at h1
          constructor
          · intro h2; exact ⟨h1.2 (.inr h2), fun e => hnd.1 (e ▸ h2)⟩
          · rintro ⟨h2, h3⟩; exact (h1.1 h2).resolve_left h3
        refine ih l (listed.setIfInBounds k true) listed' (X.erase (k, g)) s1 a w fuel (by simp at hm; omega) hsz' hcnt (hlx.adopt hiu hiX hmem) (fun p hpe => ?_) hcov' hs hg1 hrf hpb'
        obtain ⟨h1, h2, h3, h4⟩ := hX p (List.mem_of_mem_erase hpe)
        have hne : p.1 ≠ k := ((hmem p.1).1 (List.mem_map.2 ⟨p, hpe, rfl⟩)).2
        simp only [List.map_cons, List.mem_cons] at h1
        exact ⟨h1.resolve_left hne, h2, h3.mono, h4⟩
      · have hiu' : listed'.getD i true = false := (hlx.u i).2 ⟨hiu, hiX⟩
        have hr' : i ∈ Region.ready .any ops listed' := mem_ready.2 ⟨hiu', oi, hoi, fun e he hb => (hlx.t _).2 (.inl (hdeps e he hb))⟩
        have hmono : ∀ (q j : Nat), listed'.getD j false = true → (listed'.setIfInBounds q true).getD j false = true := by
          intro q j h
          by_cases hq : q < listed'.size
          · exact (set_li hq).2 (.inl h)
          · have : listed'.setIfInBounds q true = listed' := by simp [Array.setIfInBounds, hq]
            rw [this]; exact h
        have hX' : ∀ p ∈ X, p.1 ∈ l.map (·.1) ∧ newAt ops p.1 = true ∧ Alone ops (listed.setIfInBounds i true) p.1 ∧ ∀ o, ops[p.1]? = some o → ∀ e ∈ o.after, Region.binds .any e = true → (listed'.setIfInBounds i true).getD e.on false = true := by
          intro p hp
          obtain ⟨h1, h2, h3, h4⟩ := hX p hp
          simp only [List.map_cons, List.mem_cons] at h1
          exact ⟨h1.resolve_left (fun e => hiX (List.mem_map.2 ⟨p, hp, e⟩)), h2, h3.mono, fun o ho e he hb => hmono i _ (h4 o ho e he hb)⟩
        have hcl := cnt_set hil hiu'
        obtain ⟨f, rfl⟩ : ∃ f, fuel = f + 1 := ⟨fuel - 1, by omega⟩
        obtain ⟨Al, be, hx⟩ := hg
        let cn : Cf := ⟨w, Al, be, s.mem⟩
        have hAn : Ask0 P E cn := ⟨hA.hE, hx.ok, fun g => hx.to.keeps _ _ (hA.glob g)⟩
        -- what is apart from 'i'
        have hkeep : ∀ (v : Value) (a' : Act), a'.tmps = (a.put oi.dst v).tmps → ∀ p ∈ X, (∀ o, ops[p.1]? = some o → execOp a'.eval o = execOp a.eval o) ∧ ∀ o d, ops[p.1]? = some o → o.dst = some d → a'.tmps.getD d undef = a.tmps.getD d undef := by
          intro v a' ha' p hp
          obtain ⟨_, _, ⟨ok, hok, _, hfree⟩, _⟩ := hX p hp
          have hne : i ≠ p.1 := fun e => hiX (List.mem_map.2 ⟨p, hp, e.symm⟩)
          refine ⟨fun o ho => ?_, fun o d ho hd => ?_⟩
          · rw [hok] at ho; cases ho
            rw [eval_tmps ha']
            exact execOp_put ok (fun cs b => Region.noSelect_spec hns p.1 ok cs b hok) a oi.dst v (fun d hd => (hfree i oi d hoi hne hiu hd).1)
          · rw [hok] at ho; cases ho
            rw [ha']
            exact put_getD (fun e => (hfree i oi d hoi hne hiu e).2 hd)
        have hkst : ∀ (v : Value) (a' : Act), a'.tmps = (a.put oi.dst v).tmps → ∀ t, (∀ o ∈ ops.toList, o.dst ≠ some t) → a'.tmps.getD t undef = a.tmps.getD t undef := by
          intro v a' ha' t ht
          rw [ha']
          exact put_getD (ht oi (List.mem_of_getElem? (by rw [Array.getElem?_toList]; exact hoi)))
        rcases hor with hf | hfo
        · -- taken first
          obtain ⟨hp, hlb, hfree⟩ := mayFirst_spec hoi hf
          let W : World → World → Prop := fun w w' => memOp oi.op = true → (box ≠ 0 → (box = 1 → HeapG c1 w w') ∧ (box = 2 → HeapA c1 w w') ∧ (box ≠ 1 → box ≠ 2 → HeapP c1 pb w w')) ∧ (box = 0 → Ext w w')
          have hW : (memOp oi.op = false) ∨ (∀ w w', W w w' → Ext w w') ∨ ((∀ w w', W w w' → (box = 1 → HeapG c1 w w') ∧ (box = 2 → HeapA c1 w w') ∧ (box ≠ 1 → box ≠ 2 → HeapP c1 pb w w')) ∧ isLoad oi.op = true ∧ boxOK E s0 ops.toList s i box = true) := by
            cases hmo : memOp oi.op with
            | false => exact .inl rfl
            | true =>
              by_cases hb : box = 0
              · exact .inr (.inl fun w w' h => (h hmo).2 hb)
              · exact .inr (.inr ⟨fun w w' h => (h hmo).1 hb, hlb hb, hbox hb⟩)
          obtain ⟨v, hy, s', hg', hv'⟩ := step_pure (W := W) (pb := pb) (m := box) (fun b off h3 he => hpb _ List.mem_cons_self b off h3 he) hoi hp hA.ok hx.to hAn hx.root hs0 hr0 hx.st hW hvo
          have hgx := hx.step hg' (hkeep v _ rfl) (hkst v _ rfl)
          obtain ⟨s1, hrf, hg1⟩ := rf_of (l := l) hv' hgx
          refine wpAnyC_first (W := W) (fun w _ => ⟨fun _ => ⟨fun _ _ _ => rfl, fun _ _ _ => rfl, fun _ _ _ _ _ _ _ _ _ => rfl⟩, fun _ => Ext.refl w⟩) (fun w1 w2 w3 h1 h2 hm => ⟨fun hb => ⟨fun hb1 g hg => (((h2 hm).1 hb).1 hb1 g hg).trans (((h1 hm).1 hb).1 hb1 g hg), fun hb1 g hg => (((h2 hm).1 hb).2.1 hb1 g hg).trans (((h1 hm).1 hb).2.1 hb1 g hg), fun hb1 hb2 b cs g cap p1 p2 p3 => (((h2 hm).1 hb).2.2 hb1 hb2 b cs g cap p1 p2 p3).trans (((h1 hm).1 hb).2.2 hb1 hb2 b cs g cap p1 p2 p3)⟩, fun hb => ((h1 hm).2 hb).trans ((h2 hm).2 hb)⟩)
            (fun j w => ⟨fun _ => Ext.refl w, fun _ _ _ => rfl, fun _ _ => rfl, fun _ _ _ _ _ _ _ _ => rfl⟩) hoi (Region.noSelect_spec hns) (fun c a w hq => absurd hq (hQp c _ w)) f listed' a w (fun j oj hj hne hun hno => ?_) hr' hy ?_
          · obtain ⟨h1, h2⟩ := hfree j oj hj hne ((hlx.u j).1 hun).1 hno
            refine ⟨h1, fun w1 w2 hgu hm => ⟨fun hb => ⟨fun hb1 => ?_, fun _ => hgu.2.2.1, fun hb1 hb2 => ?_⟩, fun hb => ?_⟩⟩
            · rcases h2 with h2 | h2 | h2 | h2 | h2
              · rw [hm] at h2; cases h2
              · exact hgu.2.1 (.inl h2)
              · exact hgu.2.1 (.inr h2.2)
              · omega
              · omega
            · rcases h2 with h2 | h2 | h2 | h2 | ⟨_, h2 | h2⟩
              · rw [hm] at h2; cases h2
              · exact HeapP.of_g (hgu.2.1 (.inl h2))
              · exact HeapP.of_g (hgu.2.1 (.inr h2.2))
              · omega
              · exact HeapP.of_g (hgu.2.1 (.inr h2))
              · exact hgu.2.2.2 h2
            · rcases h2 with h2 | h2 | h2 | h2 | h2
              · rw [hm] at h2; cases h2
              · exact hgu.1 h2
              · rw [hb] at h2; cases h2.1
              · omega
              · omega
          · exact ih l (listed.setIfInBounds i true) (listed'.setIfInBounds i true) X s1 _ w f (by simp at hm; omega) hsz' (by omega) (hlx.head hiu' hiu) hX' hcov' hs hg1 hrf hpb'
        · -- next, but for new blocks
          obtain ⟨_, hfo⟩ := hfo
          simp only [forced, Bool.and_eq_true, List.all_eq_true, Bool.or_eq_true, Bool.not_eq_true', beq_iff_eq] at hfo
          obtain ⟨⟨hpn, hrd⟩, hdep⟩ := hfo
          refine ⟨fun h0 => by rw [h0] at hr'; simp at hr', fun k hk => ?_⟩
          obtain ⟨hku', ok, hok, hkd⟩ := mem_ready.1 hk
          obtain ⟨hku, hkX⟩ := (hlx.u k).1 hku'
          have hkl : k < ops.size := by rw [← hsz]; exact un_lt hku
          have hkc : k ∈ i :: l.map (·.1) := by simpa using hcov k hkl hku
          have hckl := cnt_set hkl hku'
          by_cases hnew : newAt ops k = true
          · have hkp : k ∈ (i :: l.map (·.1)).filter (fun k => newAt ops k && !depOn ops k i && !late ops listed k) := List.mem_filter.2 ⟨hkc, by
              simp only [Bool.and_eq_true, Bool.not_eq_true']
              refine ⟨⟨hnew, ?_⟩, ?_⟩
              rotate_left
              · exact notLate hok fun e he hb => ((hlx.t _).1 (hkd e he hb)).imp id fun h1 => by
                  obtain ⟨p, hp, hpe⟩ := List.mem_map.1 h1
                  have := (hX p hp).2.1
                  have hpe : p.1 = e.on := hpe
                  rw [← hpe]; exact this
              cases hde : depOn ops k i with
              | false => rfl
              | true =>
                exfalso
                unfold depOn at hde
                rw [hok] at hde
                obtain ⟨e, he, hb⟩ := Array.any_eq_true'.1 hde
                simp only [Bool.and_eq_true, beq_iff_eq] at hb
                have h1 := hkd e he hb.1
                rw [hb.2] at h1
                have hlt := un_lt hiu'
                simp [hlt] at h1 hiu'
                rw [hiu'] at h1; cases h1⟩
            have hpk := hpn k hkp
            have hkns : k ∈ ns := by simpa using hpk.1
            have hal := aloneIn_spec hpk.2
            obtain ⟨ok', hok', hself, hfree'⟩ := hal
            rw [hok] at hok'; cases hok'
            refine hx.early hA rfl hok (by simpa [newAt, opAt, hok] using hnew) (hnok k hkns) hkX (fun d hd => hjunk k hkns ok d hok hd) (fun p hp => ?_) hself (Region.noSelect_spec hns) (fun a' w' g hext hgx => ⟨⟨fun _ => hext, fun _ => HeapG.of_ext hA.ok hx.to.size hext, fun g hg => hext.block g (Nat.lt_of_lt_of_le (hA.ok.lt g hg) hx.to.size), fun _ => HeapP.of_g (HeapG.of_ext hA.ok hx.to.size hext)⟩, ?_⟩)
            · obtain ⟨_, _, ⟨op, hop, _, hfr⟩, _⟩ := hX p hp
              exact ⟨op, hop, fun d hd => hfr k ok d hok (fun e => hkX (List.mem_map.2 ⟨p, hp, e.symm⟩)) hku hd⟩
            · refine ih ((i, box, ns) :: l) listed (listed'.setIfInBounds k true) ((k, g) :: X) s a' w' f (by simp at hm ⊢; omega) hsz (by omega) (hlx.early hku') (fun p hp => ?_) hcov ?_ hgx ⟨hbox, hnok, hjunk, hlv, hvo⟩ hpb
              · rcases List.mem_cons.1 hp with rfl | hp
                · exact ⟨by simpa using hkc, hnew, ⟨ok, hok, hself, hfree'⟩, fun o ho e he hb => by rw [hok] at ho; cases ho; exact hmono _ _ (hkd e he hb)⟩
                · obtain ⟨h1, h2, h3, h4⟩ := hX p hp
                  exact ⟨h1, h2, h3, fun o ho e he hb => hmono _ _ (h4 o ho e he hb)⟩
              · simp only [schedOK, Bool.and_eq_true, Bool.or_eq_true, List.contains_iff_mem]
                refine ⟨⟨hr, .inr ⟨by assumption, ?_⟩⟩, hs⟩
                simp only [forced, Bool.and_eq_true, List.all_eq_true, Bool.or_eq_true, Bool.not_eq_true', beq_iff_eq]
                exact ⟨⟨hpn, hrd⟩, hdep⟩
          · have hnew' : newAt ops k = false := by simpa using hnew
            have hkN : k ∈ Region.ready .any ops (listAll ((i :: l.map (·.1)).filter fun k => newAt ops k && !depOn ops k i && !late ops listed k) listed) := by
              refine mem_ready.2 ⟨listAll_un.2 ⟨hku, fun h => by have := (List.mem_filter.1 h).2; rw [hnew'] at this; cases this⟩, ok, hok, fun e he hb => listAll_li ?_⟩
              rcases (hlx.t _).1 (hkd e he hb) with h1 | h1
              · exact .inl h1
              · obtain ⟨p, hp, hpe⟩ := List.mem_map.1 h1
                obtain ⟨h2, h3, _, h4⟩ := hX p hp
                have hpe : p.1 = e.on := hpe
                have hnd : depOn ops p.1 i = false := by
                  cases hde : depOn ops p.1 i with
                  | false => rfl
                  | true =>
                    exfalso
                    unfold depOn at hde
                    split at hde
                    · rename_i o' ho'
                      obtain ⟨e', he', hb'⟩ := Array.any_eq_true'.1 hde
                      simp only [Bool.and_eq_true, beq_iff_eq] at hb'
                      have h1 := h4 o' ho' e' he' hb'.1
                      rw [hb'.2] at h1
                      have hlt := un_lt hiu'
                      simp [hlt] at h1 hiu'
                      rw [hiu'] at h1; cases h1
                    · cases hde
                have hnl : late ops listed p.1 = false := by
                  cases hop : ops[p.1]? with
                  | none => unfold late; rw [hop]
                  | some o' =>
                    refine notLate hop fun e' he' hb' => ((hlx.t _).1 (h4 o' hop e' he' hb')).imp id fun h1 => ?_
                    obtain ⟨p', hp', hpe'⟩ := List.mem_map.1 h1
                    have := (hX p' hp').2.1
                    have hpe' : p'.1 = e'.on := hpe'
                    rw [← hpe']; exact this
                refine .inr ⟨List.mem_filter.2 ⟨by rw [← hpe]; simpa using h2, by rw [← hpe]; simp only [Bool.and_eq_true, Bool.not_eq_true']; exact ⟨⟨h3, hnd⟩, hnl⟩⟩, ?_⟩
                rw [hsz, ← hpe]
                have h3' : opAt newOp ops p.1 = true := h3
                unfold opAt at h3'
                split at h3'
                · rename_i o' ho'; exact (Array.getElem?_eq_some_iff.1 ho').1
                · cases h3'
            have hj2 := hrd k hkN
            have hki : k = i := by
              cases hin : newAt ops i with
              | false =>
                rw [List.filter_cons_of_pos (by simp [hin])] at hj2
                simpa using hj2
              | true =>
                exfalso
                rw [hin] at hdep
                have hdep := hdep.resolve_left (by simp)
                rw [← hj2] at hdep
                simp only [hok] at hdep
                obtain ⟨e, he, hb⟩ := Array.any_eq_true'.1 hdep
                simp only [Bool.and_eq_true, beq_iff_eq] at hb
                have h1 := hkd e he hb.1
                rw [hb.2] at h1
                rcases (hlx.t _).1 h1 with h2 | h2
                · have h3 : listed.getD i true = true := by
                    have hlt := un_lt hiu
                    simp [hlt] at h2 ⊢; exact h2
                  rw [hiu] at h3; cases h3
                · exact hiX h2
            subst hki
            rw [hoi] at hok; cases hok
            have h1 := wpOp_put hoi (step_op (Q := Q) hx.to hAn hx.root hvo)
            refine wpOp_mono (fun a' w' h' => ?_) h1
            obtain ⟨⟨⟨hc1, hc2, hc3, hc4⟩, s', hg', hv'⟩, v, hput⟩ := h'
            have hgx := hx.step hg' (hkeep v a' hput) (hkst v a' hput)
            obtain ⟨s1, hrf, hg1⟩ := rf_of (l := l) hv' hgx
            refine ⟨⟨hc1, fun h => ?_, hc3, fun h => hc4 pb h hlv⟩, ?_⟩
            · rcases h with h | h
              · exact HeapG.of_ext hA.ok hx.to.size (hc1 h)
              · exact hc2 h
            · exact ih l (listed.setIfInBounds k true) (listed'.setIfInBounds k true) X s1 a' w' f (by simp at hm; omega) hsz' (by omega) (hlx.head hiu' hiu) hX' hcov' hs hg1 hrf hpb'

end
end Go.Vm

namespace Go.Vm

def Ex.out : Ex → Exit
  | .normal => .normal
  | .exit id => .exit id
  | .ret => .ret

/-- Every region that draws has an order that is held against its edges. -/
def codeOK (E : Env) : Code → Bool
  | .region id ops draw => !draw || match E.sched id with
    | some l => orderOK E.calm ops l
    | none => true
  | .seq a b => codeOK E a && codeOK E b
  | .cond _ a b => codeOK E a && codeOK E b
  | .block _ b => codeOK E b
  | .loop b => codeOK E b
  | _ => true

/-- What stands behind a piece of code. -/
def QK (E : Env) (c0 : Cf) {R : Type} (K : Kt R) (r : R) (e : Exit) (a : Act) (w : World) : Prop :=
  ∃ ex s', e = ex.out ∧ Good E.n c0 s' a w ∧ K ex s' = some r

section
variable {P : Program} {E : Env} {R : Type} {r : R} {c0 : Cf}

theorem region_sound (h : Ask P E c0) (hm : P.follows .mixedOrders = true) (k : Nat) (id : Nat) (ops : Array Oper) (draw : Bool) (K : Kt R) (s : St) (a : Act) (w : World) (hc : codeOK E (.region id ops draw) = true)
    (hg : Good E.n c0 s a w) (hv : vm E k (.region id ops draw) s K = some r) : (Code.region id ops draw).wp P (QK E c0 K r) a w := by
  simp only [vm] at hv
  have hQ : ∀ s' a' w', Good E.n c0 s' a' w' → K .normal s' = some r → QK E c0 K r .normal a' w' := fun s' a' w' h1 h2 => ⟨.normal, s', rfl, h1, h2⟩
  cases draw with
  | false =>
    simp only [Bool.false_eq_true, if_false] at hv
    exact wp_region (vops_text h.toAsk0 hQ _ s a w hg hv)
  | true =>
    simp only [if_true] at hv
    simp only [codeOK, Bool.not_true, Bool.false_or] at hc
    split at hv
    · rename_i l hl
      rw [hl] at hc
      simp only [orderOK, Bool.and_eq_true, List.all_eq_true, List.mem_range, List.contains_iff_mem] at hc
      obtain ⟨⟨h1, h2⟩, h3⟩ := hc
      replace hg : Good E.n c0 (frz E ops.toList l s) a w := Good.frz E ops.toList l hg
      revert hv hg
      generalize frz E ops.toList l s = s
      intro hv hg
      have hpb : ∀ (l : Sched), ∀ x ∈ l, ∀ b off, 3 ≤ x.2.1 → s.get (x.2.1 - 3) = .v (.one (.ptr b off)) → b ∈ protOf s l := by
        intro l
        induction l with
        | nil => intro x hx; simp at hx
        | cons y l ih =>
          obtain ⟨i, m, ns⟩ := y
          intro x hx b off h3 he
          unfold protOf
          rcases List.mem_cons.1 hx with rfl | hx
          · rw [if_pos (by simpa using h3)]
            simp only at he
            rw [he]
            exact List.mem_cons_self
          · have := ih x hx b off h3 he
            split
            · split
              · exact List.mem_cons_of_mem _ this
              · exact this
            · exact this
      refine wp_region_any hm (wpAny_of_calm _ _ _ _ (Gu := GuR E ops ⟨{ w with drawn := w.drawn + 1 }, hg.choose, hg.choose_spec.choose, s.mem⟩ (protOf s l)) ?_)
      obtain ⟨q1, q2, q3, q4, q5⟩ := hg.choose_spec.choose_spec
      obtain ⟨g1, g2⟩ := step_ext q1 (Ext.drew w)
      let c1 : Cf := ⟨{ w with drawn := w.drawn + 1 }, hg.choose, hg.choose_spec.choose, s.mem⟩
      have hto : c0.To c1 := q2.trans g2
      have hA : Ask0 P E c1 := ⟨h.hE, g1, fun g => hto.keeps _ _ (h.glob g)⟩
      have hgx : GoodX P ops E.n c1 a [] s a { w with drawn := w.drawn + 1 } :=
        ⟨_, _, g1, Cf.To.refl _, q3, q4, fun t => ra_keep g2.keeps (q5 t), fun p hp => by simp at hp, List.nodup_nil, List.nodup_nil, fun _ _ => rfl⟩
      obtain ⟨s1, hrf, hg1⟩ := rf_of (c1 := c1) hv hgx
      refine draw_any (s0 := s) (a0 := a) (c1 := c1) rfl (fun t => ra_keep g2.keeps (q5 t)) hA (Q := QK E c0 K r) (fun s' a' w' hg' hk => ?_) (by rintro c a w ⟨ex, s', he, _⟩; cases ex <;> cases he) h1 _ l _ _ [] s1 a _ ops.size (Nat.le_refl _) (by simp) ?_ ⟨fun j => by simp, fun j => by simp⟩ (fun p hp => by simp at hp) (fun j hj _ => h2 j hj) h3 hg1 hrf (hpb l)
      · obtain ⟨Al, be, r1, r2, r3, r4, r5⟩ := hg'
        exact hQ s' a' w' ⟨Al, be, r1, hto.trans r2, r3, r4, r5⟩ hk
      · exact Nat.le_trans (List.length_filter_le _ _) (by simp)
    · cases hv

theorem loop_sound (h : Ask P E c0) {c : Code} {body : St → Kt R → Option R} {live : List Nat}
    (hb : ∀ (K : Kt R) (s : St) (a : Act) (w : World), Good E.n c0 s a w → body s K = some r → c.wp P (QK E c0 K r) a w) (K : Kt R) :
    ∀ (n : Nat) (s : St) (a : Act) (w : World), Good E.n c0 s a w → loopN body (St.norm E.keep live) n s K = some r →
      ∀ (b : Frame) (k : List Item) (cs : List Frame), ∃ e a' w', QK E c0 K r e a' w' ∧ Arrives P (lone (b.at a (.code c :: .inLoop c :: k)) cs w) b k cs e a' w'
  | 0, _, _, _, _, hv, _, _, _ => by simp [loopN] at hv
  | n + 1, s, a, w, hg, hv, b, k, cs => by
    simp only [loopN] at hv
    obtain ⟨e, a₁, w₁, ⟨ex, s', he, hg', hk⟩, harr⟩ := hb _ s a w hg hv b (.inLoop c :: k) cs
    subst he
    cases ex with
    | normal =>
      have hg2 : Good E.n c0 (s'.norm E.keep live) a₁ w₁ := by rw [h.keep]; exact hg'.norm h.ok live
      obtain ⟨e₂, a₂, w₂, hq₂, harr₂⟩ := loop_sound h hb K n _ a₁ w₁ hg2 hk b k cs
      exact ⟨e₂, a₂, w₂, hq₂, .of_steps (Steps.trans harr (.one step_inLoop)) harr₂⟩
    | exit id => exact ⟨_, a₁, w₁, ⟨.exit id, s', rfl, hg', hk⟩, .pass (x := .inLoop c) rfl (fun _ _ => .inl (by simp [Ex.out])) harr⟩
    | ret => exact ⟨_, a₁, w₁, ⟨.ret, s', rfl, hg', hk⟩, .pass (x := .inLoop c) rfl (fun _ _ => .inl (by simp [Ex.out])) harr⟩

theorem vm_sound (h : Ask P E c0) (hm : P.follows .mixedOrders = true) (k : Nat) : ∀ (code : Code) (K : Kt R) (s : St) (a : Act) (w : World), codeOK E code = true →
    Good E.n c0 s a w → vm E k code s K = some r → code.wp P (QK E c0 K r) a w := by
  intro code
  induction code with
  | skip =>
    intro K s a w _ hg hv
    simp only [vm] at hv
    exact wp_skip ⟨.normal, s, rfl, hg, hv⟩
  | region id ops draw =>
    intro K s a w hc hg hv
    exact region_sound h hm k id ops draw K s a w hc hg hv
  | seq x y ihx ihy =>
    intro K s a w hc hg hv
    simp only [codeOK, Bool.and_eq_true] at hc
    simp only [vm] at hv
    refine wp_seq (wp_mono (ihx _ s a w hc.1 hg hv) ?_)
    rintro e a' w' ⟨ex, s', rfl, hg', hk⟩
    cases ex with
    | normal => exact ihy K s' a' w' hc.2 hg' hk
    | exit id => exact ⟨.exit id, s', rfl, hg', hk⟩
    | ret => exact ⟨.ret, s', rfl, hg', hk⟩
  | cond c x y ihx ihy =>
    intro K s a w hc hg hv
    simp only [codeOK, Bool.and_eq_true] at hc
    simp only [vm] at hv
    split at hv
    · rename_i b hb
      obtain ⟨Al, be, hat⟩ := h.at hg
      have e1 := boolOf_some hb
      have h1 := hat.evs.2 c
      rw [e1] at h1
      have h2 : a.eval c = .bool b := by simpa [litB, Cf.ra, Cf.ra0, Cf.r1, enc, Rd] using h1
      refine wp_cond h2 ?_
      split at hv
      · rename_i hb'; subst hb'; exact ihx K s a w hc.1 hg hv
      · rename_i hb'
        have : b = false := by simpa using hb'
        subst this
        exact ihy K s a w hc.2 hg hv
    · cases hv
  | block id b ih =>
    intro K s a w hc hg hv
    simp only [vm] at hv
    refine wp_block (wp_mono (ih _ s a w hc hg hv) ?_)
    rintro e a' w' ⟨ex, s', rfl, hg', hk⟩
    cases ex with
    | normal => exact ⟨.normal, s', rfl, hg', hk⟩
    | exit i =>
      simp only [Ex.out, Exit.inBlock]
      simp only at hk
      split at hk
      · rename_i hi
        rw [if_pos hi]
        exact ⟨.normal, s', rfl, hg', hk⟩
      · rename_i hi
        rw [if_neg hi]
        exact ⟨.exit i, s', rfl, hg', hk⟩
    | ret => exact ⟨.ret, s', rfl, hg', hk⟩
  | loop b ih =>
    intro K s a w hc hg hv
    simp only [vm] at hv
    have hg2 : Good E.n c0 (s.norm E.keep (E.live (headId b))) a w := by rw [h.keep]; exact hg.norm h.ok _
    intro fr ks cs
    obtain ⟨e, a', w', hq, harr⟩ := loop_sound h (c := b) (fun K s a w hg hv => ih K s a w hc hg hv) K k _ a w hg2 hv fr ks cs
    exact ⟨e, a', w', hq, .of_steps (.one step_loop) harr⟩
  | exit id =>
    intro K s a w _ hg hv
    simp only [vm] at hv
    exact wp_exit ⟨.exit id, s, rfl, hg, hv⟩
  | ret =>
    intro K s a w _ hg hv
    simp only [vm] at hv
    exact wp_ret ⟨.ret, s, rfl, hg, hv⟩
  | _ => intro K s a w _ hg hv; simp [vm] at hv

/-! ### A function -/

/-- A result's value. -/
def resV (E : Env) (s : St) : ResultVar → Option A0
  | .tmp t => match s.get t with
    | .v a => some a
    | _ => none
  | .cell p t => match E.ti t, s.get p with
    | some i, .v (.one v) => if i.size == 0 then none else match cellsAt s.mem v i.size with
      | some cs => if i.agg then some (.agg cs) else match cs with
        | [x] => some (.one x)
        | _ => none
      | none => none
    | _, _ => none

def resVs (E : Env) (s : St) : List ResultVar → Option (List A0)
  | [] => some []
  | x :: r => match resV E s x, resVs E s r with
    | some a, some l => some (a :: l)
    | _, _ => none

def outOf : List A0 → A
  | [a] => .v a
  | l => .tup l

/-- The end of a call. -/
def atEnd (E : Env) (rs : List ResultVar) (K : Cont R) : Kt R := fun e s => match e with
  | .exit _ => none
  | _ => match resVs E s rs with
    | some l => K (outOf l) s.mem
    | none => none

def argRegs : List A0 → Nat → List (Nat × A)
  | [], _ => []
  | a :: r, i => (i, .v a) :: argRegs r (i + 1)

/-- A function run on its arguments. -/
def runFn (E : Env) (fn : Func) (k : Nat) {R : Type} (args : List A0) (mem : List Blk) (K : Cont R) : Option R :=
  vm E k (fn.body.getD .skip) ⟨argRegs args 0, mem⟩ (atEnd E fn.results.toList K)

theorem argRegs_get : ∀ (args : List A0) (i t : Nat), St.getL (argRegs args i) t = if i ≤ t then (match args[t - i]? with | some a => .v a | none => A.junk) else A.junk
  | [], i, t => by simp [argRegs, St.getL]
  | a :: r, i, t => by
    simp only [argRegs, St.getL]
    split
    · rename_i h; subst h; simp
    · rename_i h
      rw [argRegs_get r (i + 1) t]
      by_cases h1 : i ≤ t
      · rw [if_pos (by omega), if_pos h1]
        have : t - i = (t - (i + 1)) + 1 := by omega
        rw [this, List.getElem?_cons_succ]
      · rw [if_neg (by omega), if_neg h1]

theorem resV_ok {s : St} {a : Act} {w : World} {Al : Nat → Prop} {be : List Bt} {n : Nat} (h : At P E n c0 s a w Al be) {x : ResultVar} {y : A0} (hx : resV E s x = some y) :
    ∃ v, (match x with | .tmp t => pure (a.tmps.getD t undef) | .cell p t => do loadVar t (← asAddr (a.tmps.getD p undef)) : Sem Value).run P w = .ok v w ∧ (⟨w, Al, be, s.mem⟩ : Cf).ra0 y v := by
  cases x with
  | tmp t =>
    simp only [resV] at hx
    split at hx
    · rename_i y' e
      cases hx
      have h1 := h.r t
      rw [e] at h1
      exact ⟨_, rfl, h1⟩
    · cases hx
  | cell p t =>
    simp only [resV] at hx
    split at hx
    · rename_i i v hi e
      have hp := h.r p
      rw [e] at hp
      split at hx
      · cases hx
      rename_i hn
      have hn : i.size ≠ 0 := by simpa using hn
      split at hx
      · rename_i cs hcs
        obtain ⟨g, off, vs, hv, hlen, hg, hcell, hlc, hrel⟩ := cellsAt_ok (c := ⟨w, Al, be, s.mem⟩) h.ok hcs hp hn
        have hload : (loadCells ⟨g, off, none⟩ i.size).run P w = .ok vs.toArray w := by
          rw [← hlen]
          exact run_loadCells_list w _ vs fun j u hu => by rw [add_lit]; exact hcell j u hu
        split at hx
        · rename_i hagg
          cases hx
          refine ⟨.agg vs.toArray, ?_, ⟨vs.toArray, rfl, by simp [hlen, hlc], fun j y hy => ?_⟩⟩
          · simp only [hv]
            simp [asAddr, loadVar, info_agg h.hE hi, hagg, info_size h.hE hi, hload]
          · obtain ⟨u, hu, hr⟩ := hrel j y hy
            exact ⟨u, by simpa using hu, hr⟩
        · rename_i hagg
          split at hx
          · rename_i y'
            cases hx
            obtain ⟨u, hu, hr⟩ := hrel 0 y' rfl
            refine ⟨u, ?_, hr⟩
            have h1 : w.cell? ⟨g, off, none⟩ = some u := by simpa using hcell 0 u hu
            simp only [hv]
            simp [asAddr, loadVar, info_agg h.hE hi, hagg, h1]
          · cases hx
      · cases hx
    · cases hx


theorem resVs_ok {s : St} {a : Act} {w : World} {Al : Nat → Prop} {be : List Bt} {n : Nat} (h : At P E n c0 s a w Al be) : ∀ (xs : List ResultVar) (ys : List A0), resVs E s xs = some ys →
    ∃ vs, (xs.mapM fun x => (match x with | .tmp t => pure (a.tmps.getD t undef) | .cell p t => do loadVar t (← asAddr (a.tmps.getD p undef)) : Sem Value)).run P w = .ok vs w ∧ vs.length = ys.length ∧
      ∀ (i : Nat) (y : A0), ys[i]? = some y → ∃ v, vs[i]? = some v ∧ (⟨w, Al, be, s.mem⟩ : Cf).ra0 y v
  | [], ys, hx => by simp only [resVs] at hx; cases hx; exact ⟨[], by simp, rfl, fun i y h => by simp at h⟩
  | x :: xs, ys, hx => by
    simp only [resVs] at hx
    split at hx
    · rename_i y l hy hl
      cases hx
      obtain ⟨v, hv, hr⟩ := resV_ok h hy
      obtain ⟨vs, h1, h2, h3⟩ := resVs_ok h xs l hl
      refine ⟨v :: vs, ?_, by simp [h2], fun i z hz => ?_⟩
      · rw [List.mapM_cons]
        simp only [Sem.run_bind, hv, Result.andThen_ok, h1, Sem.run_pure]
      · cases i with
        | zero => simp at hz; subst hz; exact ⟨v, rfl, hr⟩
        | succ i => simpa using h3 i z (by simpa using hz)
    · cases hx

theorem results_ok {s : St} {a : Act} {w : World} {Al : Nat → Prop} {be : List Bt} {n : Nat} (h : At P E n c0 s a w Al be) {fn : Func} {ys : List A0} (hx : resVs E s fn.results.toList = some ys) :
    ∃ v, (results fn a.tmps).run P w = .ok v w ∧ (⟨w, Al, be, s.mem⟩ : Cf).ra (outOf ys) v := by
  obtain ⟨vs, h1, h2, h3⟩ := resVs_ok h _ ys hx
  have hm : (fn.results.mapM fun x => (match x with | .tmp t => pure (a.tmps.getD t undef) | .cell p t => do loadVar t (← asAddr (a.tmps.getD p undef)) : Sem Value)).run P w = .ok vs.toArray w := by
    rw [Array.mapM_eq_mapM_toList]
    simp only [Sem.run_map, h1, Result.andThen_ok]
  have hr : (results fn a.tmps).run P w = .ok (if h : vs.toArray.size = 1 then vs.toArray[0] else .tuple vs.toArray) w := by
    have e : results fn a.tmps = (do
      let vs ← fn.results.mapM fun x => (match x with | .tmp t => pure (a.tmps.getD t undef) | .cell p t => do loadVar t (← asAddr (a.tmps.getD p undef)) : Sem Value)
      pure (if h : vs.size = 1 then vs[0] else .tuple vs)) := rfl
    rw [e]
    simp only [Sem.run_bind, hm, Result.andThen_ok]
    rfl
  refine ⟨_, hr, ?_⟩
  match ys, h2, h3 with
  | [], h2, h3 =>
    have : vs = [] := List.eq_nil_of_length_eq_zero h2
    subst this
    exact ⟨#[], rfl, fun i y h => by simp at h⟩
  | [y], h2, h3 =>
    obtain ⟨v, rfl⟩ : ∃ v, vs = [v] := by
      match vs, h2 with
      | [v], _ => exact ⟨v, rfl⟩
    obtain ⟨u, hu, hr⟩ := h3 0 y rfl
    simp at hu; subst hu
    exact hr
  | y :: y' :: l, h2, h3 =>
    rw [dif_neg (by simp [h2])]
    exact ⟨vs.toArray, rfl, fun i z hz => by simpa using h3 i z hz⟩

/-- **A function is what the evaluator makes of it**: over the blocks 'c.mem' that it may write. -/
theorem fn_sound {f : Nat} {fn : Func} (hf : P.funcs[f]? = some fn) (hbody : fn.body.isSome = true) (hm : P.follows .mixedOrders = true) (hE : EnvOK P E) (hn : E.n = fn.ntmps) (hcode : codeOK E (fn.body.getD .skip) = true)
    (k : Nat) (args : List A0) (vs : List Value) (c : Cf) (K : Cont R) (hc : c.ok) (hkeep : E.keep = c.mem.length) (hglob : ∀ g, c.r1 (E.glob g) (.pointer (some ⟨g, 0, none⟩)))
    (hlen : vs.length = args.length) (hle : vs.length ≤ fn.ntmps) (hargs : ∀ (i : Nat) (a : A0), args[i]? = some a → ∃ v, vs[i]? = some v ∧ c.ra0 a v) (hv : runFn E fn k args c.mem K = some r) :
    Calls P f vs.toArray c.w fun e w' => ∃ v av Al be mem', e = .returned v ∧ K av mem' = some r ∧ (⟨w', Al, be, mem'⟩ : Cf).ok ∧ c.To ⟨w', Al, be, mem'⟩ ∧ (⟨w', Al, be, mem'⟩ : Cf).ra av v := by
  obtain ⟨code, hcd⟩ := Option.isSome_iff_exists.1 hbody
  unfold runFn at hv
  rw [hcd, Option.getD_some] at hv hcode
  refine calls_of_wp hf hcd ?_
  have hask : Ask P E c := ⟨⟨hE, hc, hglob⟩, hkeep⟩
  have hg : Good E.n c ⟨argRegs args 0, c.mem⟩ { tmps := vs.toArray ++ Array.replicate (fn.ntmps - vs.toArray.size) undef, defers := [] } c.w := by
    refine ⟨c.Al, c.be, hc, Cf.To.refl c, ?_, rfl, fun t => ?_⟩
    · simp; omega
    · show c.ra (St.getL (argRegs args 0) t) _
      rw [argRegs_get, if_pos (Nat.zero_le _), Nat.sub_zero]
      cases ha : args[t]? with
      | none => exact trivial
      | some x =>
        obtain ⟨v, hv, hr⟩ := hargs t x ha
        have : (vs.toArray ++ Array.replicate (fn.ntmps - vs.toArray.size) undef).getD t undef = v := by
          have ht : t < vs.length := (List.getElem?_eq_some_iff.1 hv).1
          rw [Array.getD_eq_getD_getElem?, Array.getElem?_append_left (by simpa using ht)]
          simp [hv]
        rw [this]
        exact hr
  refine wp_mono (vm_sound hask hm k code _ _ _ _ hcode hg hv) ?_
  rintro e a w ⟨ex, s', rfl, hg', hk⟩
  obtain ⟨Al, be, hat⟩ := hask.at hg'
  have fin : ∀ l, resVs E s' fn.results.toList = some l → K (outOf l) s'.mem = some r → a.defers = [] ∧ ∃ v, (results fn a.tmps).run P w = .ok v w ∧
      ∃ v' av Al be mem', Ending.returned v = .returned v' ∧ K av mem' = some r ∧ (⟨w, Al, be, mem'⟩ : Cf).ok ∧ c.To ⟨w, Al, be, mem'⟩ ∧ (⟨w, Al, be, mem'⟩ : Cf).ra av v' := by
    intro l h1 h2
    obtain ⟨v, hr, hra⟩ := results_ok hat h1
    exact ⟨hat.d, v, hr, v, _, Al, be, _, rfl, h2, hat.ok, hat.to, hra⟩
  cases ex with
  | normal =>
    simp only [atEnd] at hk
    split at hk
    · rename_i l hl; exact fin l hl hk
    · cases hk
  | exit id => simp [atEnd] at hk
  | ret =>
    simp only [atEnd] at hk
    split at hk
    · rename_i l hl; exact fin l hl hk
    · cases hk

end
end Go.Vm

namespace Go.Vm

/-! ### Typed functions -/

/-- A parameter: one cell, or a struct. -/
inductive PT where
  | one (c : C)
  | agg (row : List C)
  | fn (f : Nat)

def PT.I : PT → Type
  | .one c => c.I
  | .agg row => C.Is row
  | .fn _ => Unit

def Args : List PT → Type
  | [] => Unit
  | p :: r => p.I × Args r

/-- A result: one cell, or a struct; a cell that is marked is a slice of the callee's own. -/
inductive RT where
  | one (own : Bool) (c : C)
  | agg (cells : List (Bool × C))

def codes : List (Bool × C) → List C
  | [] => []
  | x :: r => x.2 :: codes r

def RT.I : RT → Type
  | .one _ c => c.I
  | .agg cells => C.Is (codes cells)

def Res : List RT → Type
  | [] => Unit
  | p :: r => p.I × Res r

/-- A cell as data; slices of the caller's own may be lent. -/
def lendC (lend : Bool) (mem : List Blk) (c : C) : V → Option c.I
  | .ref b => if lend then match mem[b]? with
    | some (.arr c' xs) => cast? c' c xs
    | _ => none
    else none
  | v => asC c v

def lendRow (lend : Bool) (mem : List Blk) : (r : List C) → List V → Option (C.Is r)
  | [], [] => some ()
  | c :: r, v :: vs => match lendC lend mem c v with
    | some x => match lendRow lend mem r vs with
      | some y => some (x, y)
      | none => none
    | none => none
  | _, _ => none

def decP (lend : Bool) (mem : List Blk) : (p : PT) → A0 → Option p.I
  | .one c, .one v => lendC lend mem c v
  | .agg row, .agg vs => lendRow lend mem row vs
  | .fn f, .one (.clo f' []) => if f' = f then some () else none
  | _, _ => none

def decArgs (lend : Bool) (mem : List Blk) : (ps : List PT) → List A0 → Option (Args ps)
  | [], [] => some ()
  | p :: r, a :: l => match decP lend mem p a with
    | some x => match decArgs lend mem r l with
      | some y => some (x, y)
      | none => none
    | none => none
  | _, _ => none

def V.ofD (d : D) : V := .d d.c d.x

def encP : (p : PT) → p.I → A0
  | .one c, x => .one (.d c x)
  | .agg row, x => .agg ((dsOf row x).map V.ofD)
  | .fn f, _ => .one (.clo f [])

def encArgs : (ps : List PT) → Args ps → List A0
  | [], _ => []
  | p :: r, x => encP p x.1 :: encArgs r x.2

/-- Result cells, and the blocks that come with them; the first has number 'n'. -/
def encCells : (cells : List (Bool × C)) → C.Is (codes cells) → Nat → List V
  | [], _, _ => []
  | (true, _) :: r, x, n => .ref n :: encCells r x.2 (n + 1)
  | (false, c) :: r, x, n => .d c x.1 :: encCells r x.2 n

def blkCells : (cells : List (Bool × C)) → C.Is (codes cells) → List Blk
  | [], _ => []
  | (true, c) :: r, x => .arr c x.1 :: blkCells r x.2
  | (false, _) :: r, x => blkCells r x.2

def owns : List (Bool × C) → Nat
  | [] => 0
  | (true, _) :: r => owns r + 1
  | (false, _) :: r => owns r

def encR : (t : RT) → t.I → Nat → A0
  | .one true _, _, n => .one (.ref n)
  | .one false c, x, _ => .one (.d c x)
  | .agg cells, x, n => .agg (encCells cells x n)

def blkR : (t : RT) → t.I → List Blk
  | .one true c, x => [.arr c x]
  | .one false _, _ => []
  | .agg cells, x => blkCells cells x

def RT.owns : RT → Nat
  | .one true _ => 1
  | .one false _ => 0
  | .agg cells => Vm.owns cells

def encRes : (rs : List RT) → Res rs → Nat → List A0
  | [], _, _ => []
  | t :: r, x, n => encR t x.1 n :: encRes r x.2 (n + t.owns)

def blkRes : (rs : List RT) → Res rs → List Blk
  | [], _ => []
  | t :: r, x => blkR t x.1 ++ blkRes r x.2

/-- Decoding results; 'used': the blocks that are spoken for. -/
def ownC (mem : List Blk) (used : List Nat) (c : C) : V → Option (c.I × List Nat)
  | .ref b => if used.contains b then none else match mem[b]? with
    | some (.arr c' xs) => match cast? c' c xs with
      | some x => some (x, b :: used)
      | none => none
    | _ => none
  | .nils => if isSl c then some (dflt c, used) else none
  | _ => none

def decCells (mem : List Blk) : (cells : List (Bool × C)) → List V → List Nat → Option (C.Is (codes cells) × List Nat)
  | [], [], used => some ((), used)
  | (true, c) :: r, v :: vs, used => match ownC mem used c v with
    | some (x, used') => match decCells mem r vs used' with
      | some (y, u) => some ((x, y), u)
      | none => none
    | none => none
  | (false, c) :: r, v :: vs, used => match asC c v with
    | some x => match decCells mem r vs used with
      | some (y, u) => some ((x, y), u)
      | none => none
    | none => none
  | _, _, _ => none

def decR (mem : List Blk) : (t : RT) → A0 → List Nat → Option (t.I × List Nat)
  | .one true c, .one v, used => ownC mem used c v
  | .one false c, .one v, used => match asC c v with
    | some x => some (x, used)
    | none => none
  | .agg cells, .agg vs, used => decCells mem cells vs used
  | _, _, _ => none

def decRes (mem : List Blk) : (rs : List RT) → List A0 → List Nat → Option (Res rs)
  | [], [], _ => some ()
  | t :: r, a :: l, used => match decR mem t a used with
    | some (x, used') => match decRes mem r l used' with
      | some y => some (x, y)
      | none => none
    | none => none
  | _, _, _ => none

def retK (rs : List RT) : Cont (Res rs) := fun a mem => match a with
  | .v a => decRes mem rs [a] []
  | .tup l => if l.length == 1 then none else decRes mem rs l []

def isScalar : C → Bool
  | .int _ | .bool | .str => true
  | _ => false

def flatC : C → Bool
  | .sl1 c => isScalar c
  | .sl r => r.all isScalar
  | _ => false

/-- Of these results none can share memory with an argument. -/
def safeC : List (Bool × C) → Bool
  | [] => true
  | (true, c) :: r => flatC c && safeC r
  | (false, c) :: r => isScalar c && safeC r

def safeR : RT → Bool
  | .one true c => flatC c
  | .one false c => isScalar c
  | .agg cells => safeC cells

def safe (rs : List RT) : Bool := rs.all safeR

/-- The handler of a function that writes nothing of its caller's. -/
def hP (ps : List PT) (rs : List RT) (F : Args ps → Option (Res rs)) : Hnd := fun _ args mem K =>
  match decArgs (safe rs) mem ps args with
  | none => none
  | some x => (F x).bind fun r => K (outOf (encRes rs r mem.length)) (mem ++ blkRes rs r)

end Go.Vm

namespace Go.Vm

def scalarU : U → Prop
  | .l _ _ => False
  | _ => True

theorem scalar_enc {c : C} (h : isScalar c = true) (x : c.I) : scalarU (enc c x) := by
  cases c <;> simp [isScalar] at h <;> trivial

theorem scalar_encs : ∀ (r : List C) (x : C.Is r), r.all isScalar = true → ∀ u ∈ encs r x, scalarU u
  | [], _, _, u, hu => by simp [encs] at hu
  | c :: r, x, h, u, hu => by
    simp only [List.all_cons, Bool.and_eq_true] at h
    simp only [encs, List.mem_cons] at hu
    rcases hu with rfl | hu
    · exact scalar_enc h.1 x.1
    · exact scalar_encs r x.2 h.2 u hu

theorem flat_cells : ∀ {c : C} (_ : flatC c = true) (x : c.I), ∀ u ∈ cellsU c x, scalarU u
  | .int _, h, _, _, _ => by simp [flatC] at h
  | .bool, h, _, _, _ => by simp [flatC] at h
  | .str, h, _, _, _ => by simp [flatC] at h
  | .kids _, h, _, _, _ => by simp [flatC] at h
  | .sl1 c, h, (xs : List c.I), u, hu => by
    rw [cellsU_sl1] at hu
    obtain ⟨y, _, rfl⟩ := List.mem_map.1 hu
    exact scalar_enc h y
  | .sl r, h, (xs : List (C.Is r)), u, hu => by
    rw [cellsU_sl] at hu
    obtain ⟨y, _, hy⟩ := List.mem_flatMap.1 hu
    exact scalar_encs r y h u hy

theorem rd_scalar {w : World} {Al Al' : Nat → Prop} {u : U} {v : Value} (h : scalarU u) (hr : Rd w Al u v) : Rd w Al' u v := by
  cases u with
  | l n cs => exact h.elim
  | _ => exact hr

/-- The caller's configuration, the callee's results being taken over: 'used' are the callee's blocks that have come over. -/
structure Em (c c1 : Cf) (Al' : Nat → Prop) (mv used : List Nat) (c2 : Cf) : Prop where
  ok : c2.ok
  to : c.To c2
  w : c2.w = c1.w
  al : c2.Al = Al'
  live : ∀ g, c2.live g → c.live g ∨ ∃ b ∈ used, ∃ cap, c1.be[b]? = some (.blk g cap) ∧ ∃ (k : C) (ys : k.I), c1.mem[b]? = some (.arr k ys)
  sub : ∀ b ∈ mv, b ∈ used

/-- What is taken for granted of both; 'mv': blocks that the callee has had of its caller. -/
structure Two (c c1 : Cf) (Al' : Nat → Prop) (sf : Bool) (mv : List Nat) : Prop where
  ok0 : c.ok
  ok : c1.ok
  fresh : ∀ (b : Nat) (z : Blk) (g cap : Nat), b ∉ mv → c1.mem[b]? = some z → z.isDead = false → c1.be[b]? = some (.blk g cap) → c.w.heap.size ≤ g
  apart : ∀ g, c1.live g → ¬ Al' g
  tr : ∀ u v, (sf = true → scalarU u) → Rd c1.w c1.Al u v → Rd c1.w Al' u v

/-- The same where nothing was moved. -/
structure TwoP (c c1 : Cf) (Al' : Nat → Prop) (sf : Bool) : Prop where
  ok0 : c.ok
  ok : c1.ok
  ext : Ext c.w c1.w
  fresh : ∀ g, c1.live g → c.w.heap.size ≤ g
  al0 : ∀ g, c.Al g → Al' g
  alnew : ∀ g, Al' g → c.Al g ∨ c.w.heap.size ≤ g
  allt : ∀ g, Al' g → g < c1.w.heap.size
  apart : ∀ g, c1.live g → ¬ Al' g
  tr : ∀ u v, (sf = true → scalarU u) → Rd c1.w c1.Al u v → Rd c1.w Al' u v

theorem TwoP.two {c c1 : Cf} {Al' : Nat → Prop} {sf : Bool} (h : TwoP c c1 Al' sf) : Two c c1 Al' sf [] :=
  ⟨h.ok0, h.ok, fun b z g cap _ h1 h2 h3 => h.fresh g ⟨b, z, cap, h1, h2, h3⟩, h.apart, h.tr⟩

theorem em_start {c c1 : Cf} {Al' : Nat → Prop} {sf : Bool} (h : TwoP c c1 Al' sf) : Em c c1 Al' [] [] ⟨c1.w, Al', c.be, c.mem⟩ := by
  have hal : ∀ g, c.Al g → Al' g ∧ c1.w.heap[g]? = c.w.heap[g]? := fun g hg => ⟨h.al0 g hg, h.ext.block g (h.ok0.lt g hg)⟩
  have hk : ∀ x v, c.r1 x v → (⟨c1.w, Al', c.be, c.mem⟩ : Cf).r1 x v :=
    r1_keep (c' := ⟨c1.w, Al', c.be, c.mem⟩) hal (fun _ _ e => e) (fun _ _ xs e => .inl ⟨xs, e, rfl⟩) (fun _ y e hy => ⟨y, e, hy⟩)
  refine ⟨⟨h.ok0.len, ?_, h.ok0.inj, ?_, h.allt⟩, ⟨hk, h.ext.os, h.ext.tape, h.ext.output, h.ext.size, fun g hg _ => h.ext.block g hg, h.al0, fun g hg => (h.alnew g hg).imp id .inr, fun g hg => .inl hg, fun _ cs h => .inl ⟨cs, h⟩⟩, rfl, rfl, fun g hg => .inl hg, fun b hb => by cases hb⟩
  · intro b x hm
    exact blkOK_keep (h.ok0.blk b x hm) hk hal (fun _ e => e) (fun g cap e hd => h.ext.block g (live_lt h.ok0 ⟨b, x, cap, hm, hd, e⟩))
  · intro g hg hal'
    rcases h.alnew g hal' with h1 | h1
    · exact h.ok0.av g hg h1
    · have := live_lt h.ok0 hg; omega

theorem em_add {c c1 c2 : Cf} {Al' : Nat → Prop} {sf : Bool} {mv : List Nat} {used : List Nat} (h : Two c c1 Al' sf mv) (e : Em c c1 Al' mv used c2) {b : Nat} {k k' : C} {xs : k'.I} {x : k.I} (hb : b ∉ used)
    (hm : c1.mem[b]? = some (.arr k' xs)) (hcast : cast? k' k xs = some x) (hfl : sf = true → flatC k = true) :
    ∃ t, Em c c1 Al' mv (b :: used) ⟨c2.w, c2.Al, c2.be ++ [t], c2.mem ++ [.arr k x]⟩ ∧ (∀ y v, c2.r1 y v → (⟨c2.w, c2.Al, c2.be ++ [t], c2.mem ++ [.arr k x]⟩ : Cf).r1 y v) ∧
      ∀ v, c1.r1 (.ref b) v → (⟨c2.w, c2.Al, c2.be ++ [t], c2.mem ++ [.arr k x]⟩ : Cf).r1 (.ref c2.mem.length) v := by
  obtain ⟨henc, hkk⟩ := cast?_enc hcast
  subst hkk
  obtain ⟨hs, hblk⟩ := h.ok.blk b _ hm
  have hlu : lenC k' x = lenC k' xs ∧ cellsU k' x = cellsU k' xs := by
    rw [enc_sl hs, enc_sl hs] at henc
    injection henc with h1 h2
    exact ⟨h1, h2⟩
  have hbl : b < c1.be.length := by rw [h.ok.len]; exact (List.getElem?_eq_some_iff.1 hm).1
  obtain ⟨t, ht⟩ : ∃ t, c1.be[b]? = some t := ⟨c1.be[b], List.getElem?_eq_getElem hbl⟩
  have hfresh : ∀ g cap, t = .blk g cap → c.w.heap.size ≤ g ∧ ¬ Al' g ∧ ¬ c2.live g := by
    intro g cap htb
    have hl1 : c1.live g := ⟨b, _, cap, hm, rfl, by rw [ht, htb]⟩
    have hfr := h.fresh b _ g cap (fun hmv => hb (e.sub b hmv)) hm rfl (by rw [ht, htb])
    refine ⟨hfr, h.apart g hl1, fun hl2 => ?_⟩
    rcases e.live g hl2 with h1 | ⟨b', hb', cap', e', k2, ys, hm'⟩
    · have := live_lt h.ok0 h1; omega
    · have := h.ok.inj b b' _ _ g cap cap' hm rfl (by rw [ht, htb]) hm' rfl e'
      subst this
      exact hb hb'
  have hlen : (c2.be ++ [t])[c2.mem.length]? = some t := by rw [← e.ok.len]; simp
  have hlm : (c2.mem ++ [Blk.arr k' x])[c2.mem.length]? = some (Blk.arr k' x) := by simp
  have hk : ∀ y v, c2.r1 y v → (⟨c2.w, c2.Al, c2.be ++ [t], c2.mem ++ [.arr k' x]⟩ : Cf).r1 y v :=
    r1_keep (c := c2) (c' := ⟨c2.w, c2.Al, c2.be ++ [t], c2.mem ++ [.arr k' x]⟩) (fun g hg => ⟨hg, rfl⟩) (fun _ _ e => app_some e) (fun _ _ xs e => .inl ⟨xs, app_some e, rfl⟩) (fun _ y e hy => ⟨y, app_some e, hy⟩)
  have hback : ∀ (i : Nat) (z : Blk) (g cap : Nat), (c2.mem ++ [Blk.arr k' x])[i]? = some z → z.isDead = false → (c2.be ++ [t])[i]? = some (.blk g cap) →
      (c2.mem[i]? = some z ∧ c2.be[i]? = some (.blk g cap)) ∨ (i = c2.mem.length ∧ t = .blk g cap) := by
    intro i z g cap h1 hz h2
    rcases app_one h1 with h1 | ⟨hi, _⟩
    · rcases app_one h2 with h2 | ⟨hi, _⟩
      · exact .inl ⟨h1, h2⟩
      · have := (List.getElem?_eq_some_iff.1 h1).1; rw [hi, e.ok.len] at this; omega
    · rcases app_one h2 with h2 | ⟨_, h2⟩
      · have := (List.getElem?_eq_some_iff.1 h2).1; rw [hi, e.ok.len] at this; omega
      · exact .inr ⟨hi, h2.symm⟩
  have hlive : ∀ g, (⟨c2.w, c2.Al, c2.be ++ [t], c2.mem ++ [.arr k' x]⟩ : Cf).live g → c2.live g ∨ ∃ cap, t = .blk g cap := by
    rintro g ⟨i, z, cap, h1, hz, h2⟩
    rcases hback i z g cap h1 hz h2 with ⟨h1, h2⟩ | ⟨_, h2⟩
    · exact .inl ⟨i, z, cap, h1, hz, h2⟩
    · exact .inr ⟨cap, h2⟩
  have hok : (⟨c2.w, c2.Al, c2.be ++ [t], c2.mem ++ [.arr k' x]⟩ : Cf).ok := by
    refine ⟨by simp [e.ok.len], ?_, ?_, ?_, e.ok.lt⟩
    · intro i z h1
      rcases app_one h1 with h1 | ⟨hi, rfl⟩
      · exact blkOK_keep (e.ok.blk i z h1) hk (fun g hg => ⟨hg, rfl⟩) (fun _ h => app_some h) (fun _ _ _ _ => rfl)
      · refine ⟨hs, ?_⟩
        rcases hblk with ⟨g, cap, cells, T, eb, hh, hsz, hlc, hrel⟩ | ⟨eb, hl⟩
        · rw [ht] at eb; cases eb
          refine .inl ⟨g, cap, cells, T, by rw [hi]; exact hlen, by show c2.w.heap[g]? = _; rw [e.w]; exact hh, hsz, by rw [hlu.1]; exact hlc, fun j u hu => ?_⟩
          rw [hlu.2] at hu
          obtain ⟨v, hv, hr⟩ := hrel j u hu
          refine ⟨v, hv, ?_⟩
          show Rd c2.w c2.Al u v
          rw [e.w, e.al]
          exact h.tr u v (fun hsf => flat_cells (hfl hsf) xs u (List.mem_of_getElem? hu)) hr
        · rw [ht] at eb; cases eb
          exact .inr ⟨by rw [hi]; exact hlen, by rw [hlu.1]; exact hl⟩
    · intro i i' z z' g cap cap' h1 hz h2 h1' hz' h2'
      rcases hback i z g cap h1 hz h2 with ⟨g1, g2⟩ | ⟨g1, g2⟩ <;> rcases hback i' z' g cap' h1' hz' h2' with ⟨g1', g2'⟩ | ⟨g1', g2'⟩
      · exact e.ok.inj i i' z z' g cap cap' g1 hz g2 g1' hz' g2'
      · exact absurd ⟨i, z, cap, g1, hz, g2⟩ (hfresh g cap' g2').2.2
      · exact absurd ⟨i', z', cap', g1', hz', g2'⟩ (hfresh g cap g2).2.2
      · omega
    · intro g hl hg
      rcases hlive g hl with h1 | ⟨cap, h1⟩
      · exact e.ok.av g h1 hg
      · exact (hfresh g cap h1).2.1 (e.al ▸ hg)
  refine ⟨t, ⟨hok, ?_, e.w, e.al, ?_, fun b' hb' => List.mem_cons_of_mem _ (e.sub b' hb')⟩, hk, ?_⟩
  · refine ⟨fun y v hy => hk y v (e.to.keeps y v hy), e.to.os, e.to.tape, e.to.output, e.to.size, e.to.block, e.to.al, e.to.alnew, fun g hg => ?_, fun b cs hb => (e.to.boxes b cs hb).imp (fun ⟨cs', h⟩ => ⟨cs', app_some h⟩) id⟩
    rcases hlive g hg with h1 | ⟨cap, h1⟩
    · exact e.to.livenew g h1
    · exact .inr (hfresh g cap h1).1
  · intro g hg
    rcases hlive g hg with h1 | ⟨cap, h1⟩
    · rcases e.live g h1 with h2 | ⟨b', hb', rest⟩
      · exact .inl h2
      · exact .inr ⟨b', List.mem_cons_of_mem _ hb', rest⟩
    · exact .inr ⟨b, List.mem_cons_self, cap, by rw [ht, h1], k', xs, hm⟩
  · intro v hv
    simp only [Cf.r1, hm] at hv
    simp only [Cf.r1, hlm, hlu.1]
    rcases hv with ⟨g, cap, e1, hv⟩ | ⟨e1, hv⟩
    · rw [ht] at e1; cases e1
      exact .inl ⟨g, cap, hlen, hv⟩
    · rw [ht] at e1; cases e1
      exact .inr ⟨hlen, hv⟩

theorem em_nil {c c1 c2 : Cf} {Al' : Nat → Prop} {mv : List Nat} {used : List Nat} (e : Em c c1 Al' mv used c2) {k : C} (hs : isSl k = true) :
    Em c c1 Al' mv used ⟨c2.w, c2.Al, c2.be ++ [.nil], c2.mem ++ [.arr k (dflt k)]⟩ ∧ (∀ y v, c2.r1 y v → (⟨c2.w, c2.Al, c2.be ++ [.nil], c2.mem ++ [.arr k (dflt k)]⟩ : Cf).r1 y v) ∧
      ∀ v, c1.r1 .nils v → (⟨c2.w, c2.Al, c2.be ++ [.nil], c2.mem ++ [.arr k (dflt k)]⟩ : Cf).r1 (.ref c2.mem.length) v := by
  have hlen : (c2.be ++ [Bt.nil])[c2.mem.length]? = some .nil := by rw [← e.ok.len]; simp
  have hlm : (c2.mem ++ [Blk.arr k (dflt k)])[c2.mem.length]? = some (Blk.arr k (dflt k)) := by simp
  have hk : ∀ y v, c2.r1 y v → (⟨c2.w, c2.Al, c2.be ++ [.nil], c2.mem ++ [.arr k (dflt k)]⟩ : Cf).r1 y v :=
    r1_keep (c := c2) (c' := ⟨c2.w, c2.Al, c2.be ++ [.nil], c2.mem ++ [.arr k (dflt k)]⟩) (fun g hg => ⟨hg, rfl⟩) (fun _ _ e => app_some e) (fun _ _ xs e => .inl ⟨xs, app_some e, rfl⟩) (fun _ y e hy => ⟨y, app_some e, hy⟩)
  have hback : ∀ (i : Nat) (z : Blk) (g cap : Nat), (c2.mem ++ [Blk.arr k (dflt k)])[i]? = some z → z.isDead = false → (c2.be ++ [Bt.nil])[i]? = some (.blk g cap) →
      c2.mem[i]? = some z ∧ c2.be[i]? = some (.blk g cap) := by
    intro i z g cap h1 hz h2
    rcases app_one h2 with h2 | ⟨_, h2⟩
    · rcases app_one h1 with h1 | ⟨hi, _⟩
      · exact ⟨h1, h2⟩
      · have := (List.getElem?_eq_some_iff.1 h2).1; rw [hi, e.ok.len] at this; omega
    · cases h2
  have hlive : ∀ g, (⟨c2.w, c2.Al, c2.be ++ [.nil], c2.mem ++ [.arr k (dflt k)]⟩ : Cf).live g → c2.live g := by
    rintro g ⟨i, z, cap, h1, hz, h2⟩
    obtain ⟨h1, h2⟩ := hback i z g cap h1 hz h2
    exact ⟨i, z, cap, h1, hz, h2⟩
  have hok : (⟨c2.w, c2.Al, c2.be ++ [.nil], c2.mem ++ [.arr k (dflt k)]⟩ : Cf).ok := by
    refine ⟨by simp [e.ok.len], ?_, ?_, fun g hl hg => e.ok.av g (hlive g hl) hg, e.ok.lt⟩
    · intro i z h1
      rcases app_one h1 with h1 | ⟨hi, rfl⟩
      · exact blkOK_keep (e.ok.blk i z h1) hk (fun g hg => ⟨hg, rfl⟩) (fun _ h => app_some h) (fun _ _ _ _ => rfl)
      · exact ⟨hs, .inr ⟨by rw [hi]; exact hlen, (dflt_sl hs).1⟩⟩
    · intro i i' z z' g cap cap' h1 hz h2 h1' hz' h2'
      obtain ⟨g1, g2⟩ := hback i z g cap h1 hz h2
      obtain ⟨g1', g2'⟩ := hback i' z' g cap' h1' hz' h2'
      exact e.ok.inj i i' z z' g cap cap' g1 hz g2 g1' hz' g2'
  refine ⟨⟨hok, ?_, e.w, e.al, fun g hg => e.live g (hlive g hg), e.sub⟩, hk, ?_⟩
  · exact ⟨fun y v hy => hk y v (e.to.keeps y v hy), e.to.os, e.to.tape, e.to.output, e.to.size, e.to.block, e.to.al, e.to.alnew, fun g hg => e.to.livenew g (hlive g hg), fun b cs hb => (e.to.boxes b cs hb).imp (fun ⟨cs', h⟩ => ⟨cs', app_some h⟩) id⟩
  · intro v hv
    have hv : v = .slice none 0 0 := hv
    simp only [Cf.r1, hlm, (dflt_sl hs).1]
    exact .inr ⟨hlen, hv⟩

/-- Result cells. -/
theorem decCells_ok {c c1 : Cf} {Al' : Nat → Prop} {sf : Bool} {mv : List Nat} (h : Two c c1 Al' sf mv) : ∀ (cells : List (Bool × C)) (vs : List V) (used used' : List Nat) (x : C.Is (codes cells)) (c2 : Cf),
    (sf = true → safeC cells = true) → Em c c1 Al' mv used c2 → decCells c1.mem cells vs used = some (x, used') →
    ∃ be', Em c c1 Al' mv used' ⟨c2.w, c2.Al, be', c2.mem ++ blkCells cells x⟩ ∧ (∀ y v, c2.r1 y v → (⟨c2.w, c2.Al, be', c2.mem ++ blkCells cells x⟩ : Cf).r1 y v) ∧
      (blkCells cells x).length = owns cells ∧ vs.length = (encCells cells x c2.mem.length).length ∧
      ∀ (i : Nat) (y y' : V) (v : Value), vs[i]? = some y → (encCells cells x c2.mem.length)[i]? = some y' → c1.r1 y v → (⟨c2.w, c2.Al, be', c2.mem ++ blkCells cells x⟩ : Cf).r1 y' v
  | [], [], used, used', x, c2, _, e, hd => by
    simp only [decCells] at hd; cases hd
    exact ⟨c2.be, by simpa [blkCells] using e, by simp [blkCells], rfl, rfl, fun i y y' v hy => by simp at hy⟩
  | [], _ :: _, _, _, _, _, _, _, hd => by simp [decCells] at hd
  | (true, _) :: _, [], _, _, _, _, _, _, hd => by simp [decCells] at hd
  | (false, _) :: _, [], _, _, _, _, _, _, hd => by simp [decCells] at hd
  | (true, k) :: r, y0 :: vs, used, used', x, c2, hsf, e, hd => by
    simp only [decCells] at hd
    split at hd
    · rename_i x0 u0 ho
      split at hd
      · rename_i x1 u1 hd1
        cases hd
        unfold ownC at ho
        split at ho
        · rename_i b
          split at ho
          · cases ho
          · rename_i hb
            split at ho
            · rename_i k' xs hm
              split at ho
              · rename_i z hz
                cases ho
                have hsf' : sf = true → flatC k = true ∧ safeC r = true := fun hs => by
                  have := hsf hs
                  simpa [safeC] using this
                obtain ⟨t, e1, hk1, hr1⟩ := em_add h e (by simpa using hb) hm hz (fun hs => (hsf' hs).1)
                obtain ⟨be', e2, hk2, hl2, hlen2, hr2⟩ := decCells_ok h r vs _ _ x1 _ (fun hs => (hsf' hs).2) e1 hd1
                have hmem : c2.mem ++ blkCells ((true, k) :: r) (x0, x1) = (c2.mem ++ [Blk.arr k x0]) ++ blkCells r x1 := by simp [blkCells]
                have henc : encCells ((true, k) :: r) (x0, x1) c2.mem.length = .ref c2.mem.length :: encCells r x1 (c2.mem ++ [Blk.arr k x0]).length := by simp [encCells]
                refine ⟨be', by rw [hmem]; exact e2, fun y v hy => by rw [hmem]; exact hk2 y v (hk1 y v hy), by simp [blkCells, owns, hl2], by rw [henc]; simp [hlen2], fun i y y' v hy hy' hv => ?_⟩
                rw [henc] at hy'
                rw [hmem]
                cases i with
                | zero => simp at hy hy'; subst hy; subst hy'; exact hk2 _ _ (hr1 v hv)
                | succ i => exact hr2 i y y' v (by simpa using hy) (by simpa using hy') hv
              · cases ho
            · cases ho
        · split at ho
          · rename_i hsl
            cases ho
            have hsf' : sf = true → safeC r = true := fun hs => by
              have := hsf hs
              simp only [safeC, Bool.and_eq_true] at this
              exact this.2
            obtain ⟨e1, hk1, hr1⟩ := em_nil e hsl
            obtain ⟨be', e2, hk2, hl2, hlen2, hr2⟩ := decCells_ok h r vs _ _ x1 _ hsf' e1 hd1
            have hmem : c2.mem ++ blkCells ((true, k) :: r) (dflt k, x1) = (c2.mem ++ [Blk.arr k (dflt k)]) ++ blkCells r x1 := by simp [blkCells]
            have henc : encCells ((true, k) :: r) (dflt k, x1) c2.mem.length = .ref c2.mem.length :: encCells r x1 (c2.mem ++ [Blk.arr k (dflt k)]).length := by simp [encCells]
            refine ⟨be', by rw [hmem]; exact e2, fun y v hy => by rw [hmem]; exact hk2 y v (hk1 y v hy), by simp [blkCells, owns, hl2], by rw [henc]; simp [hlen2], fun i y y' v hy hy' hv => ?_⟩
            rw [henc] at hy'
            rw [hmem]
            cases i with
            | zero => simp at hy hy'; subst hy; subst hy'; exact hk2 _ _ (hr1 v hv)
            | succ i => exact hr2 i y y' v (by simpa using hy) (by simpa using hy') hv
          · cases ho
        · cases ho
      · cases hd
    · cases hd
  | (false, k) :: r, y0 :: vs, used, used', x, c2, hsf, e, hd => by
    simp only [decCells] at hd
    split at hd
    · rename_i x0 hx0
      split at hd
      · rename_i x1 u1 hd1
        cases hd
        have hsf' : sf = true → isScalar k = true ∧ safeC r = true := fun hs => by
          have := hsf hs
          simpa [safeC] using this
        obtain ⟨be', e2, hk2, hl2, hlen2, hr2⟩ := decCells_ok h r vs _ _ x1 _ (fun hs => (hsf' hs).2) e hd1
        refine ⟨be', e2, hk2, by simpa [blkCells, owns] using hl2, by simp [encCells, hlen2], fun i y y' v hy hy' hv => ?_⟩
        cases i with
        | zero =>
          simp [encCells] at hy hy'; subst hy; subst hy'
          have h1 := asC_ok (c := c1) hx0 v hv
          have h2 := h.tr _ v (fun hs => scalar_enc (hsf' hs).1 x0) h1
          have e3 := e2.w; have e4 := e2.al
          show Rd c2.w c2.Al (enc k x0) v
          rw [show c2.w = c1.w from e3, show c2.Al = Al' from e4]
          exact h2
        | succ i => exact hr2 i y y' v (by simpa using hy) (by simpa [encCells] using hy') hv
      · cases hd
    · cases hd

theorem decR_ok {c c1 : Cf} {Al' : Nat → Prop} {sf : Bool} {mv : List Nat} (h : Two c c1 Al' sf mv) (t : RT) (a : A0) (used used' : List Nat) (x : t.I) (c2 : Cf) (hsf : sf = true → safeR t = true) (e : Em c c1 Al' mv used c2)
    (hd : decR c1.mem t a used = some (x, used')) :
    ∃ be', Em c c1 Al' mv used' ⟨c2.w, c2.Al, be', c2.mem ++ blkR t x⟩ ∧ (∀ y v, c2.r1 y v → (⟨c2.w, c2.Al, be', c2.mem ++ blkR t x⟩ : Cf).r1 y v) ∧ (blkR t x).length = t.owns ∧
      ∀ (v : Value), c1.ra0 a v → (⟨c2.w, c2.Al, be', c2.mem ++ blkR t x⟩ : Cf).ra0 (encR t x c2.mem.length) v := by
  cases t with
  | one own k =>
    cases a with
    | agg vs => cases own <;> exact nomatch hd
    | one y =>
      have hcells : ∃ x' : k.I × Unit, x'.1 = x ∧ decCells c1.mem [(own, k)] [y] used = some (x', used') := by
        cases own with
        | true =>
          have hd : ownC c1.mem used k y = some (x, used') := hd
          refine ⟨(x, ()), rfl, ?_⟩
          show (match ownC c1.mem used k y with
            | some (x, used') => match decCells c1.mem [] [] used' with
              | some (y, u) => some ((x, y), u)
              | none => none
            | none => none) = _
          rw [hd]
          rfl
        | false =>
          have hd : (match asC k y with | some x => some (x, used) | none => none) = some (x, used') := hd
          refine ⟨(x, ()), rfl, ?_⟩
          show (match asC k y with
            | some x => match decCells c1.mem [] [] used with
              | some (y, u) => some ((x, y), u)
              | none => none
            | none => none) = _
          cases hz : asC k y with
          | none => rw [hz] at hd; cases hd
          | some z => rw [hz] at hd; cases hd; rfl
      obtain ⟨x', hx', hd'⟩ := hcells
      have hsf' : sf = true → safeC [(own, k)] = true := fun hs => by
        have := hsf hs
        cases own <;> simpa [safeC, safeR] using this
      obtain ⟨be', e2, hk2, hl2, hlen2, hr2⟩ := decCells_ok h [(own, k)] [y] used used' x' c2 hsf' e hd'
      subst hx'
      cases own with
      | true =>
        refine ⟨be', e2, hk2, hl2, fun v hv => ?_⟩
        exact hr2 0 y _ v rfl rfl hv
      | false =>
        refine ⟨be', e2, hk2, hl2, fun v hv => ?_⟩
        exact hr2 0 y _ v rfl rfl hv
  | agg cells =>
    cases a with
    | one y => exact nomatch hd
    | agg vs =>
      obtain ⟨be', e2, hk2, hl2, hlen2, hr2⟩ := decCells_ok h cells vs _ _ x _ hsf e hd
      refine ⟨be', e2, hk2, hl2, fun v hv => ?_⟩
      obtain ⟨ws, rfl, hs, hx⟩ := hv
      refine ⟨ws, rfl, by rw [hs, hlen2], fun i y' hy' => ?_⟩
      have hi : i < vs.length := by rw [hlen2]; exact (List.getElem?_eq_some_iff.1 hy').1
      obtain ⟨u, hu, hr⟩ := hx i _ (List.getElem?_eq_getElem hi)
      exact ⟨u, hu, hr2 i _ y' u (List.getElem?_eq_getElem hi) hy' hr⟩

theorem decRes_ok {c c1 : Cf} {Al' : Nat → Prop} {sf : Bool} {mv : List Nat} (h : Two c c1 Al' sf mv) : ∀ (rs : List RT) (l : List A0) (used : List Nat) (x : Res rs) (c2 : Cf),
    (sf = true → safe rs = true) → Em c c1 Al' mv used c2 → decRes c1.mem rs l used = some x →
    ∃ be' used', Em c c1 Al' mv used' ⟨c2.w, c2.Al, be', c2.mem ++ blkRes rs x⟩ ∧ (∀ y v, c2.r1 y v → (⟨c2.w, c2.Al, be', c2.mem ++ blkRes rs x⟩ : Cf).r1 y v) ∧ l.length = rs.length ∧
      l.length = (encRes rs x c2.mem.length).length ∧ ∀ (i : Nat) (a a' : A0) (v : Value), l[i]? = some a → (encRes rs x c2.mem.length)[i]? = some a' → c1.ra0 a v → (⟨c2.w, c2.Al, be', c2.mem ++ blkRes rs x⟩ : Cf).ra0 a' v
  | [], [], used, x, c2, _, e, hd => by
    exact ⟨c2.be, used, by simpa [blkRes] using e, by simp [blkRes], rfl, rfl, fun i a a' v ha => by simp at ha⟩
  | [], _ :: _, _, _, _, _, _, hd => by simp [decRes] at hd
  | _ :: _, [], _, _, _, _, _, hd => by simp [decRes] at hd
  | t :: rs, a :: l, used, x, c2, hsf, e, hd => by
    simp only [decRes] at hd
    split at hd
    · rename_i x0 u0 hd0
      split at hd
      · rename_i x1 hd1
        cases hd
        have hsf' : sf = true → safeR t = true ∧ safe rs = true := fun hs => by
          have := hsf hs
          simpa [safe] using this
        obtain ⟨be1, e1, hk1, hl1, hr1⟩ := decR_ok h t a _ _ x0 c2 (fun hs => (hsf' hs).1) e hd0
        obtain ⟨be2, u2, e2, hk2, hlr, hl2, hr2⟩ := decRes_ok h rs l _ x1 _ (fun hs => (hsf' hs).2) e1 hd1
        have hmem : c2.mem ++ blkRes (t :: rs) (x0, x1) = (c2.mem ++ blkR t x0) ++ blkRes rs x1 := by simp [blkRes]
        have henc : encRes (t :: rs) (x0, x1) c2.mem.length = encR t x0 c2.mem.length :: encRes rs x1 (c2.mem ++ blkR t x0).length := by simp [encRes, hl1]
        refine ⟨be2, u2, by rw [hmem]; exact e2, fun y v hy => by rw [hmem]; exact hk2 y v (hk1 y v hy), by simp [hlr], by rw [henc]; simp [hl2], fun i b b' v hb hb' hv => ?_⟩
        rw [henc] at hb'
        rw [hmem]
        cases i with
        | zero => simp at hb hb'; subst hb; subst hb'; exact ra0_keep hk2 (hr1 v hv)
        | succ i => exact hr2 i b b' v (by simpa using hb) (by simpa using hb') hv
      · cases hd
    · cases hd

end Go.Vm

namespace Go.Vm

def noBlk : V → Bool
  | .d _ _ | .nils | .dp _ | .da _ _ | .undef | .junk => true
  | _ => false

theorem r1_noBlk {c c' : Cf} {x : V} {v : Value} (hx : noBlk x = true) (hw : c'.w = c.w) (hal : ∀ g, c.Al g → c'.Al g) (h : c.r1 x v) : c'.r1 x v := by
  have hm : ∀ g, c.Al g → c'.Al g ∧ c'.w.heap[g]? = c.w.heap[g]? := fun g hg => ⟨hal g hg, by rw [hw]⟩
  cases x with
  | d k x => exact Rd_mono hm _ _ h
  | nils => exact h
  | dp cs =>
    rcases h with h | ⟨g, off, hv, hg, hr⟩
    · exact .inl h
    · exact .inr ⟨g, off, hv, hal g hg, RdC_mono hm _ g off (hm g hg).2 hr⟩
  | da k x =>
    obtain ⟨g, off, hv, hg, hr, cells, T, fr, h1, h2⟩ := h
    exact ⟨g, off, hv, hal g hg, RdC_mono hm _ g off (hm g hg).2 hr, cells, T, fr, by rw [(hm g hg).2]; exact h1, h2⟩
  | undef => exact h
  | junk => trivial
  | _ => simp [noBlk] at hx

/-- A function that the evaluator can run. -/
structure FnOK (P : Program) (E : Env) (f : Nat) (fn : Func) (np : Nat) : Prop where
  get : P.funcs[f]? = some fn
  body : fn.body.isSome = true
  name : (fn.name == "runtime.NumGoroutine") = false
  mixed : P.follows .mixedOrders = true
  env : EnvOK P E
  n : E.n = fn.ntmps
  code : codeOK E (fn.body.getD .skip) = true
  np : np ≤ fn.ntmps
  glob : ∀ g, noBlk (E.glob g) = true

theorem FnOK.enter {P : Program} {E : Env} {f : Nat} {fn : Func} {np : Nat} (h : FnOK P E f fn np) : HEnter P f := by
  intro args w
  have hb : fn.body.isNone = false := by
    have := h.body
    cases hc : fn.body with
    | none => rw [hc] at this; cases this
    | some c => rfl
  have hnm := h.name
  unfold callFunc
  simp only [Sem.run_bind, run_program, Result.andThen_ok, h.get]
  rw [if_neg (by rw [hnm]; simp), if_neg (by rw [hb]; simp)]
  rfl

theorem lendC_ok {c c0 : Cf} (hc : c.ok) (hw : c0.w = c.w) {lend : Bool} (hal : ∀ g, c.Al g → c0.Al g) (hl : lend = true → ∀ g, c.live g → c0.Al g) {k : C} {y : V} {x : k.I} (h : lendC lend c.mem k y = some x) {v : Value} (hv : c.r1 y v) :
    c0.r1 (.d k x) v := by
  show Rd c0.w c0.Al (enc k x) v
  rw [hw]
  unfold lendC at h
  split at h
  · rename_i b
    split at h
    · rename_i hle
      split at h
      · rename_i k' xs hm
        obtain ⟨henc, _⟩ := cast?_enc h
        rw [henc]
        simp only [Cf.r1, hm] at hv
        exact ref_data hc hm hal (fun g cap e => hl hle g ⟨b, _, cap, hm, rfl, e⟩) hv
      · cases h
    · cases h
  · exact Rd_mono (fun g hg => ⟨hal g hg, rfl⟩) _ _ (asC_ok h v hv)

theorem lendRow_ok {c c0 : Cf} (hc : c.ok) (hw : c0.w = c.w) {lend : Bool} (hal : ∀ g, c.Al g → c0.Al g) (hl : lend = true → ∀ g, c.live g → c0.Al g) : ∀ (r : List C) (vs : List V) (x : C.Is r), lendRow lend c.mem r vs = some x →
    vs.length = (dsOf r x).length ∧ ∀ (i : Nat) (y : V) (d : D) (v : Value), vs[i]? = some y → (dsOf r x)[i]? = some d → c.r1 y v → c0.r1 (.d d.c d.x) v
  | [], [], x, _ => ⟨rfl, fun i y d v h => by simp at h⟩
  | [], _ :: _, _, h => by simp [lendRow] at h
  | _ :: _, [], _, h => by simp [lendRow] at h
  | k :: r, y :: vs, x, h => by
    simp only [lendRow] at h
    split at h
    · rename_i x0 h0
      split at h
      · rename_i x1 h1
        cases h
        obtain ⟨h2, h3⟩ := lendRow_ok hc hw hal hl r vs x1 h1
        refine ⟨by simp [dsOf, h2], fun i z d v hz hd hv => ?_⟩
        cases i with
        | zero => simp [dsOf] at hz hd; subst hz; subst hd; exact lendC_ok hc hw hal hl h0 hv
        | succ i => exact h3 i z d v (by simpa using hz) (by simpa [dsOf] using hd) hv
      · cases h
    · cases h

theorem decP_ok {c c0 : Cf} (hc : c.ok) (hw : c0.w = c.w) {lend : Bool} (hal : ∀ g, c.Al g → c0.Al g) (hl : lend = true → ∀ g, c.live g → c0.Al g) (p : PT) (a : A0) (x : p.I) (h : decP lend c.mem p a = some x) {v : Value}
    (hv : c.ra0 a v) : c0.ra0 (encP p x) v := by
  cases p with
  | one k =>
    cases a with
    | one y => exact lendC_ok hc hw hal hl (show lendC lend c.mem k y = some x from h) hv
    | agg vs => exact nomatch h
  | agg row =>
    cases a with
    | one y => exact nomatch h
    | agg vs =>
      obtain ⟨h1, h2⟩ := lendRow_ok hc hw hal hl row vs x h
      obtain ⟨ws, rfl, hs, hx⟩ := hv
      refine ⟨ws, rfl, ?_, fun i y' hy' => ?_⟩
      · rw [hs, h1]; exact (List.length_map _).symm
      · have hy'' : ((dsOf row x).map V.ofD)[i]? = some y' := hy'
        rw [List.getElem?_map] at hy''
        cases hd : (dsOf row x)[i]? with
        | none => rw [hd] at hy''; cases hy''
        | some d =>
          rw [hd] at hy''; cases hy''
          have hi : i < vs.length := by rw [h1]; exact (List.getElem?_eq_some_iff.1 hd).1
          obtain ⟨u, hu, hr⟩ := hx i _ (List.getElem?_eq_getElem hi)
          exact ⟨u, hu, h2 i _ d u (List.getElem?_eq_getElem hi) hd hr⟩
  | fn f =>
    cases a with
    | agg vs => exact nomatch h
    | one y =>
      cases y with
      | clo f' caps =>
        cases caps with
        | nil =>
          have h : (if f' = f then some () else none) = some x := h
          split at h
          · rename_i hf
            subst hf
            exact hv
          · cases h
        | cons d r => exact nomatch h
      | _ => exact nomatch h

theorem decArgs_ok {c c0 : Cf} (hc : c.ok) (hw : c0.w = c.w) {lend : Bool} (hal : ∀ g, c.Al g → c0.Al g) (hl : lend = true → ∀ g, c.live g → c0.Al g) : ∀ (ps : List PT) (args : List A0) (x : Args ps), decArgs lend c.mem ps args = some x →
    args.length = ps.length ∧ (encArgs ps x).length = ps.length ∧ ∀ (i : Nat) (a a' : A0) (v : Value), args[i]? = some a → (encArgs ps x)[i]? = some a' → c.ra0 a v → c0.ra0 a' v
  | [], [], x, _ => ⟨rfl, rfl, fun i a a' v h => by simp at h⟩
  | [], _ :: _, _, h => by simp [decArgs] at h
  | _ :: _, [], _, h => by simp [decArgs] at h
  | p :: ps, a :: args, x, h => by
    simp only [decArgs] at h
    split at h
    · rename_i x0 h0
      split at h
      · rename_i x1 h1
        cases h
        obtain ⟨h2, h3, h4⟩ := decArgs_ok hc hw hal hl ps args x1 h1
        refine ⟨by simp [h2], by simp [encArgs, h3], fun i b b' v hb hb' hv => ?_⟩
        cases i with
        | zero => simp [encArgs] at hb hb'; subst hb; subst hb'; exact decP_ok hc hw hal hl p _ x0 h0 hv
        | succ i => exact h4 i b b' v (by simpa using hb) (by simpa [encArgs] using hb') hv
      · cases h
    · cases h

/-- **A typed function's handler is sound** if its function is what the evaluator makes of the code. -/
theorem hP_sound {P : Program} {E : Env} {f : Nat} {fn : Func} {ps : List PT} {rs : List RT} {F : Args ps → Option (Res rs)} (h : FnOK P E f fn ps.length) (hkeep : E.keep = 0)
    (hF : ∀ x r, F x = some r → ∃ k, runFn E fn k (encArgs ps x) [] (retK rs) = some r) : HSound P E.glob f true (hP ps rs F) := by
  refine ⟨h.enter, ?_⟩
  intro R args vs c K r hc hgl hlen hargs hv
  unfold hP at hv
  split at hv
  · cases hv
  · rename_i x hx
    cases hFx : F x with
    | none => rw [hFx] at hv; cases hv
    | some y =>
      rw [hFx] at hv
      simp only [Option.bind_some] at hv
      obtain ⟨k, hrun⟩ := hF x y hFx
      let c0 : Cf := ⟨c.w, fun g => c.Al g ∨ (safe rs = true ∧ c.live g), [], []⟩
      have hc0 : c0.ok := by
        refine ⟨rfl, fun b x h => by simp [c0] at h, fun b b' x y g cap cap' h => by simp [c0] at h, ?_, ?_⟩
        · rintro g ⟨b, x, cap, hm, _⟩; simp [c0] at hm
        · rintro g (hg | ⟨_, hg⟩)
          · exact hc.lt g hg
          · exact live_lt hc hg
      have hnl : ∀ g, ¬ c0.live g := by rintro g ⟨b, x, cap, hm, _⟩; simp [c0] at hm
      have hal : ∀ g, c.Al g → c0.Al g := fun g hg => .inl hg
      obtain ⟨ha1, ha2, ha3⟩ := decArgs_ok (c0 := c0) hc rfl hal (fun hl g hg => .inr ⟨hl, hg⟩) ps args x hx
      have hcall := fn_sound h.get h.body h.mixed h.env h.n h.code k (encArgs ps x) vs c0 (retK rs) hc0 (by rw [hkeep]; rfl)
        (fun g => r1_noBlk (c := c) (c' := c0) (h.glob g) rfl hal (hgl g)) (by rw [hlen, ha1, ha2]) (by rw [hlen, ha1]; exact h.np) (fun i a' ha' => by
          have hi : i < args.length := by rw [ha1, ← ha2]; exact (List.getElem?_eq_some_iff.1 ha').1
          obtain ⟨v, hv, hr⟩ := hargs i _ (List.getElem?_eq_getElem hi)
          exact ⟨v, hv, ha3 i _ a' v (List.getElem?_eq_getElem hi) ha' hr⟩) hrun
      refine Calls.mono hcall fun e w' he => ?_
      obtain ⟨v, av, Al, be, mem', rfl, hK, hok, hto, hra⟩ := he
      have hext : Ext c.w w' := ⟨hto.os, hto.tape, hto.output, hto.size, fun g hg => hto.block g hg (hnl g)⟩
      let c1 : Cf := ⟨w', Al, be, mem'⟩
      -- the list of the results
      obtain ⟨l, hl, hll⟩ : ∃ l, decRes mem' rs l [] = some y ∧ ((∃ a, av = .v a ∧ l = [a]) ∨ (av = .tup l ∧ l.length ≠ 1)) := by
        unfold retK at hK
        split at hK
        · rename_i a; exact ⟨[a], hK, .inl ⟨a, rfl, rfl⟩⟩
        · rename_i l
          split at hK
          · cases hK
          · rename_i hne; exact ⟨l, hK, .inr ⟨rfl, by simpa using hne⟩⟩
      have hfresh : ∀ g, c1.live g → c.w.heap.size ≤ g := fun g hg => (hto.livenew g hg).resolve_left (hnl g)
      have two : ∃ Al', TwoP c c1 Al' (safe rs) := by
        by_cases hs : safe rs = true
        · refine ⟨c.Al, hc, hok, hext, hfresh, fun _ h => h, fun _ h => .inl h, fun g hg => Nat.lt_of_lt_of_le (hc.lt g hg) hext.size, fun g hg hg' => ?_, fun u v hu hr => rd_scalar (hu hs) hr⟩
          have := hfresh g hg; have := hc.lt g hg'; omega
        · have hs' : safe rs = false := by simpa using hs
          refine ⟨Al, hc, hok, hext, hfresh, fun g hg => hto.al g (hal g hg), fun g hg => ?_, fun g hg => hok.lt g hg, fun g hg => hok.av g hg, fun u v _ hr => hr⟩
          rcases hto.alnew g hg with h1 | h1 | h1
          · rcases h1 with h1 | ⟨h1, _⟩
            · exact .inl h1
            · rw [hs'] at h1; cases h1
          · exact absurd h1 (hnl g)
          · exact .inr h1
      obtain ⟨Al', htwo⟩ := two
      obtain ⟨be', used', hem, hk2, hlr, hl2, hr2⟩ := decRes_ok htwo.two rs l [] y _ (fun hs => hs) (em_start htwo) hl
      refine ⟨v, outOf (encRes rs y c.mem.length), Al', be', c.mem ++ blkRes rs y, rfl, hv, hem.ok, hem.to, ?_, fun _ => hext, FrB.of_ext hc hext⟩
      have hlen2 : (encRes rs y c.mem.length).length = l.length := hl2.symm
      rcases hll with ⟨a, rfl, rfl⟩ | ⟨rfl, hne⟩
      · match he : encRes rs y c.mem.length, hlen2 with
        | [a'], _ => exact hr2 0 a a' v rfl (by rw [he]; rfl) hra
      · obtain ⟨ws, hws, hx⟩ := hra
        have : outOf (encRes rs y c.mem.length) = .tup (encRes rs y c.mem.length) := by
          match he : encRes rs y c.mem.length, hlen2 with
          | [], _ => rfl
          | [a], h1 => exact absurd h1.symm hne
          | _ :: _ :: _, _ => rfl
        rw [this]
        refine ⟨ws, hws, fun i a' ha' => ?_⟩
        have hi : i < l.length := by rw [← hlen2]; exact (List.getElem?_eq_some_iff.1 ha').1
        obtain ⟨u, hu, hr⟩ := hx i _ (List.getElem?_eq_getElem hi)
        exact ⟨u, hu, hr2 i _ a' u (List.getElem?_eq_getElem hi) ha' hr⟩

end Go.Vm

namespace Go.Vm

/-! ### Functions that write into slices which their caller owns -/

theorem castI_self {c : C} (h : C.beq c c = true) (x : c.I) : castI h x = x := rfl

theorem cast?_eq {c c' : C} {x : c.I} {y : c'.I} (h : cast? c c' x = some y) : Blk.arr c x = Blk.arr c' y := by
  obtain ⟨_, rfl⟩ := cast?_enc h
  unfold cast? at h
  split at h
  · cases h; rfl
  · cases h

/-- A parameter: a marked cell is a slice that is moved in and out. -/
def movC (mem : List Blk) : Bool → (c : C) → V → List Nat → Option (c.I × List Nat)
  | true, c, .ref b, ids => if ids.contains b then none else match mem[b]? with
    | some (.arr c' xs) => match cast? c' c xs with
      | some x => some (x, ids ++ [b])
      | none => none
    | _ => none
  | true, _, _, _ => none
  | false, c, v, ids => match asC c v with
    | some x => some (x, ids)
    | none => none

def movCells (mem : List Blk) : (cells : List (Bool × C)) → List V → List Nat → Option (C.Is (codes cells) × List Nat)
  | [], [], ids => some ((), ids)
  | (o, c) :: r, v :: vs, ids => match movC mem o c v ids with
    | some (x, ids') => match movCells mem r vs ids' with
      | some (y, u) => some ((x, y), u)
      | none => none
    | none => none
  | _, _, _ => none

def movR (mem : List Blk) : (t : RT) → A0 → List Nat → Option (t.I × List Nat)
  | .one o c, .one v, ids => movC mem o c v ids
  | .agg cells, .agg vs, ids => movCells mem cells vs ids
  | _, _, _ => none

def movArgs (mem : List Blk) : (ps : List RT) → List A0 → List Nat → Option (Res ps × List Nat)
  | [], [], ids => some ((), ids)
  | t :: r, a :: l, ids => match movR mem t a ids with
    | some (x, ids') => match movArgs mem r l ids' with
      | some (y, u) => some ((x, y), u)
      | none => none
    | none => none
  | _, _, _ => none

def ownCells : List (Bool × C) → List C
  | [] => []
  | (true, c) :: r => c :: ownCells r
  | (false, _) :: r => ownCells r

def ownCs : List RT → List C
  | [] => []
  | .one true c :: r => c :: ownCs r
  | .one false _ :: r => ownCs r
  | .agg cells :: r => ownCells cells ++ ownCs r

/-- What the slices hold at the end. -/
abbrev Owns (ps : List RT) : Type := C.Is (ownCs ps)

def takeOuts : (cs : List C) → List Blk → Option (C.Is cs)
  | [], _ => some ()
  | c :: cs, .arr c' xs :: m => match cast? c' c xs with
    | some x => match takeOuts cs m with
      | some y => some (x, y)
      | none => none
    | none => none
  | _ :: _, _ => none

def setOuts : (cs : List C) → C.Is cs → List Nat → List Blk → List Blk
  | [], _, _, m => m
  | _ :: _, _, [], m => m
  | c :: cs, x, b :: ids, m => setOuts cs x.2 ids (m.set b (.arr c x.1))

def scalarRs (rs : List RT) : Bool := rs.all fun t => match t with
  | .one false c => isScalar c
  | _ => false

def retM (rs ps : List RT) : Cont (Res rs × Owns ps) := fun a mem => match takeOuts (ownCs ps) mem with
  | some o => match retK rs a mem with
    | some x => some (x, o)
    | none => none
  | none => none

/-- The handler of a function that writes into slices of its caller's own. -/
def hM (ps rs : List RT) (F : Res ps → Option (Res rs × Owns ps)) : Hnd := fun _ args mem K =>
  match movArgs mem ps args [] with
  | none => none
  | some (x, ids) => if scalarRs rs then (F x).bind fun r => K (outOf (encRes rs r.1 mem.length)) (setOuts (ownCs ps) r.2 ids mem) else none

/-- The blocks 'new' hold 'blks'. -/
def Fits (mem : List Blk) (new : List Nat) (blks : List Blk) (cs : List C) : Prop :=
  new.length = blks.length ∧ cs.length = blks.length ∧ ∀ (j b : Nat), new[j]? = some b → ∃ k xs, cs[j]? = some k ∧ blks[j]? = some (.arr k xs) ∧ mem[b]? = some (.arr k xs)

theorem Fits.nil {mem : List Blk} : Fits mem [] [] [] := ⟨rfl, rfl, fun j b h => by simp at h⟩

theorem Fits.append {mem : List Blk} {n1 n2 : List Nat} {b1 b2 : List Blk} {c1 c2 : List C} (h1 : Fits mem n1 b1 c1) (h2 : Fits mem n2 b2 c2) : Fits mem (n1 ++ n2) (b1 ++ b2) (c1 ++ c2) := by
  obtain ⟨p1, p2, p3⟩ := h1
  obtain ⟨q1, q2, q3⟩ := h2
  refine ⟨by simp [p1, q1], by simp [p2, q2], fun j b h => ?_⟩
  by_cases hj : j < n1.length
  · rw [List.getElem?_append_left hj] at h
    obtain ⟨k, xs, e1, e2, e3⟩ := p3 j b h
    exact ⟨k, xs, by rw [List.getElem?_append_left (by omega)]; exact e1, by rw [List.getElem?_append_left (by omega)]; exact e2, e3⟩
  · rw [List.getElem?_append_right (by omega)] at h
    obtain ⟨k, xs, e1, e2, e3⟩ := q3 _ b h
    refine ⟨k, xs, ?_, ?_, e3⟩
    · rw [List.getElem?_append_right (by omega)]; rw [show j - c1.length = j - n1.length by omega]; exact e1
    · rw [List.getElem?_append_right (by omega)]; rw [show j - b1.length = j - n1.length by omega]; exact e2

/-- 'c0' has the blocks 'ids' of 'c'. -/
structure Sub (c c0 : Cf) (ids : List Nat) : Prop where
  w : c0.w = c.w
  al : c0.Al = c.Al
  mem : ∀ (j b : Nat), ids[j]? = some b → c0.mem[j]? = c.mem[b]?
  be : ∀ (j b : Nat), ids[j]? = some b → c0.be[j]? = c.be[b]?

theorem Sub.pre {c c0 : Cf} {ids more : List Nat} (h : Sub c c0 (ids ++ more)) : Sub c c0 ids :=
  ⟨h.w, h.al, fun j b hb => h.mem j b (by rw [List.getElem?_append_left (List.getElem?_eq_some_iff.1 hb).1]; exact hb), fun j b hb => h.be j b (by rw [List.getElem?_append_left (List.getElem?_eq_some_iff.1 hb).1]; exact hb)⟩

/-- What moving says of one cell. -/
theorem movC_ok {c : Cf} {o : Bool} {k : C} {y : V} {ids ids' : List Nat} {x : k.I} (h : movC c.mem o k y ids = some (x, ids')) :
    ∃ new, ids' = ids ++ new ∧ Fits c.mem new (blkCells [(o, k)] (x, ())) (ownCells [(o, k)]) ∧ (∀ b ∈ new, b ∉ ids) ∧ new.Nodup ∧
      ∀ (c0 : Cf) (v : Value), Sub c c0 ids' → c.r1 y v → ∃ y', encCells [(o, k)] (x, ()) ids.length = [y'] ∧ c0.r1 y' v := by
  cases o with
  | true =>
    cases y with
    | ref b =>
      simp only [movC] at h
      split at h
      · cases h
      · rename_i hb
        split at h
        · rename_i c' xs hm
          split at h
          · rename_i z hz
            cases h
            have he := cast?_eq hz
            rw [he] at hm
            refine ⟨[b], rfl, ⟨rfl, rfl, fun j b' hj => ?_⟩, by simpa using hb, by simp, fun c0 v hs hv => ⟨.ref ids.length, rfl, ?_⟩⟩
            · match j with
              | 0 => simp at hj; subst hj; exact ⟨k, x, rfl, rfl, hm⟩
              | j + 1 => simp at hj
            · have e1 : (ids ++ [b])[ids.length]? = some b := by simp
              simp only [Cf.r1, hm] at hv
              simp only [Cf.r1, hs.mem _ _ e1, hm]
              unfold RefAt at hv ⊢
              rw [hs.be _ _ e1]
              exact hv
          · cases h
        · cases h
    | _ => simp [movC] at h
  | false =>
    have h : (match asC k y with | some x => some (x, ids) | none => none) = some (x, ids') := by
      cases y <;> exact h
    split at h
    · rename_i z hz
      cases h
      refine ⟨[], by simp, Fits.nil, by simp, by simp, fun c0 v hs hv => ⟨.d k x, rfl, ?_⟩⟩
      have := asC_ok (c := c) hz v hv
      show Rd c0.w c0.Al (enc k x) v
      rw [hs.w, hs.al]; exact this
    · cases h

theorem movCells_ok {c : Cf} : ∀ {cells : List (Bool × C)} {vs : List V} {ids ids' : List Nat} {x : C.Is (codes cells)}, movCells c.mem cells vs ids = some (x, ids') →
    ∃ new, ids' = ids ++ new ∧ new.length = owns cells ∧ Fits c.mem new (blkCells cells x) (ownCells cells) ∧ (∀ b ∈ new, b ∉ ids) ∧ new.Nodup ∧ vs.length = (encCells cells x ids.length).length ∧
      ∀ (c0 : Cf), Sub c c0 ids' → ∀ (i : Nat) (y y' : V) (v : Value), vs[i]? = some y → (encCells cells x ids.length)[i]? = some y' → c.r1 y v → c0.r1 y' v
  | [], [], ids, ids', x, h => by
    simp only [movCells] at h; cases h
    exact ⟨[], by simp, rfl, Fits.nil, by simp, by simp, rfl, fun c0 _ i y y' v hy => by simp at hy⟩
  | [], _ :: _, _, _, _, h => by simp [movCells] at h
  | _ :: _, [], _, _, _, h => by simp [movCells] at h
  | (o, k) :: r, y0 :: vs, ids, ids', x, h => by
    simp only [movCells] at h
    split at h
    · rename_i x0 u0 h0
      split at h
      · rename_i x1 u1 h1
        cases h
        obtain ⟨n0, rfl, f0, d0, nd0, r0⟩ := movC_ok h0
        obtain ⟨n1, rfl, l1, f1, d1, nd1, len1, r1⟩ := movCells_ok h1
        have hlen0 : n0.length = owns [(o, k)] := by rw [f0.1]; cases o <;> rfl
        have hsplit : ∀ n, encCells ((o, k) :: r) (x0, x1) n = encCells [(o, k)] (x0, ()) n ++ encCells r x1 (n + owns [(o, k)]) := by
          intro n; cases o <;> rfl
        have hbl : blkCells ((o, k) :: r) (x0, x1) = blkCells [(o, k)] (x0, ()) ++ blkCells r x1 := by cases o <;> rfl
        have hoc : ownCells ((o, k) :: r) = ownCells [(o, k)] ++ ownCells r := by cases o <;> rfl
        have hon : owns ((o, k) :: r) = owns [(o, k)] + owns r := by cases o <;> simp [owns] <;> omega
        have h1len : (encCells [(o, k)] (x0, ()) ids.length).length = 1 := by cases o <;> rfl
        have hil : (ids ++ n0).length = ids.length + owns [(o, k)] := by rw [List.length_append, hlen0]
        refine ⟨n0 ++ n1, by simp, by rw [List.length_append, hlen0, l1, hon], by rw [hbl, hoc]; exact f0.append f1, ?_, ?_, ?_, ?_⟩
        · intro b hb
          rcases List.mem_append.1 hb with hb | hb
          · exact d0 b hb
          · exact fun hbi => d1 b hb (List.mem_append_left _ hbi)
        · rw [List.nodup_append]
          exact ⟨nd0, nd1, fun b hb b' hb' e => d1 b' hb' (List.mem_append_right _ (e ▸ hb))⟩
        · rw [hsplit, List.length_append, h1len, ← hil, ← len1, List.length_cons]; omega
        · intro c0 hs i y y' v hy hy' hv
          rw [hsplit] at hy'
          cases i with
          | zero =>
            simp at hy; subst hy
            obtain ⟨y2, e2, hr⟩ := r0 c0 v hs.pre hv
            rw [e2] at hy'
            simp at hy'; subst hy'; exact hr
          | succ i =>
            rw [List.getElem?_append_right (by omega), h1len, ← hil] at hy'
            exact r1 c0 hs i y y' v (by simpa using hy) (by simpa using hy') hv
      · cases h
    · cases h

theorem movR_ok {c : Cf} {t : RT} {a : A0} {ids ids' : List Nat} {x : t.I} (h : movR c.mem t a ids = some (x, ids')) :
    ∃ new, ids' = ids ++ new ∧ new.length = t.owns ∧ Fits c.mem new (blkR t x) (ownCs [t]) ∧ (∀ b ∈ new, b ∉ ids) ∧ new.Nodup ∧
      ∀ (c0 : Cf), Sub c c0 ids' → ∀ (v : Value), c.ra0 a v → c0.ra0 (encR t x ids.length) v := by
  cases t with
  | one o k =>
    cases a with
    | agg vs => exact nomatch h
    | one y =>
      obtain ⟨n0, rfl, f0, d0, nd0, r0⟩ := movC_ok (show movC c.mem o k y ids = some (x, ids') from h)
      refine ⟨n0, rfl, by rw [f0.1]; cases o <;> rfl, by cases o <;> exact f0, d0, nd0, fun c0 hs v hv => ?_⟩
      obtain ⟨y2, e2, hr⟩ := r0 c0 v hs hv
      cases o <;> (cases e2; exact hr)
  | agg cells =>
    cases a with
    | one y => exact nomatch h
    | agg vs =>
      obtain ⟨n1, rfl, l1, f1, d1, nd1, len1, r1⟩ := movCells_ok (show movCells c.mem cells vs ids = some (x, ids') from h)
      refine ⟨n1, rfl, l1, by rw [show ownCs [RT.agg cells] = ownCells cells by simp [ownCs]]; exact f1, d1, nd1, fun c0 hs v hv => ?_⟩
      obtain ⟨ws, rfl, hsz, hx⟩ := hv
      refine ⟨ws, rfl, by rw [hsz, len1], fun i y' hy' => ?_⟩
      have hi : i < vs.length := by rw [len1]; exact (List.getElem?_eq_some_iff.1 hy').1
      obtain ⟨u, hu, hr⟩ := hx i _ (List.getElem?_eq_getElem hi)
      exact ⟨u, hu, r1 c0 hs i _ y' u (List.getElem?_eq_getElem hi) hy' hr⟩

theorem movArgs_ok {c : Cf} : ∀ {ps : List RT} {args : List A0} {ids ids' : List Nat} {x : Res ps}, movArgs c.mem ps args ids = some (x, ids') →
    ∃ new, ids' = ids ++ new ∧ Fits c.mem new (blkRes ps x) (ownCs ps) ∧ (∀ b ∈ new, b ∉ ids) ∧ new.Nodup ∧ args.length = ps.length ∧ (encRes ps x ids.length).length = ps.length ∧
      ∀ (c0 : Cf), Sub c c0 ids' → ∀ (i : Nat) (a a' : A0) (v : Value), args[i]? = some a → (encRes ps x ids.length)[i]? = some a' → c.ra0 a v → c0.ra0 a' v
  | [], [], ids, ids', x, h => by
    simp only [movArgs] at h; cases h
    exact ⟨[], by simp, Fits.nil, by simp, by simp, rfl, rfl, fun c0 _ i a a' v ha => by simp at ha⟩
  | [], _ :: _, _, _, _, h => by simp [movArgs] at h
  | _ :: _, [], _, _, _, h => by simp [movArgs] at h
  | t :: ps, a0 :: args, ids, ids', x, h => by
    simp only [movArgs] at h
    split at h
    · rename_i x0 u0 h0
      split at h
      · rename_i x1 u1 h1
        cases h
        obtain ⟨n0, rfl, l0, f0, d0, nd0, r0⟩ := movR_ok h0
        obtain ⟨n1, rfl, f1, d1, nd1, la, le, r1⟩ := movArgs_ok h1
        have hil : (ids ++ n0).length = ids.length + t.owns := by rw [List.length_append, l0]
        have hoc : ownCs (t :: ps) = ownCs [t] ++ ownCs ps := by
          cases t with
          | one o k => cases o <;> rfl
          | agg cells => simp [ownCs]
        have henc : encRes (t :: ps) (x0, x1) ids.length = encR t x0 ids.length :: encRes ps x1 (ids ++ n0).length := by rw [hil]; rfl
        refine ⟨n0 ++ n1, by simp, by rw [hoc]; exact f0.append f1, ?_, ?_, by simp [la], by rw [henc, List.length_cons, le]; rfl, ?_⟩
        · intro b hb
          rcases List.mem_append.1 hb with hb | hb
          · exact d0 b hb
          · exact fun hbi => d1 b hb (List.mem_append_left _ hbi)
        · rw [List.nodup_append]
          exact ⟨nd0, nd1, fun b hb b' hb' e => d1 b' hb' (List.mem_append_right _ (e ▸ hb))⟩
        · intro c0 hs i a a' v ha ha' hv
          rw [henc] at ha'
          cases i with
          | zero => simp at ha ha'; subst ha; subst ha'; exact r0 c0 hs.pre v hv
          | succ i => exact r1 c0 hs i a a' v (by simpa using ha) (by simpa using ha') hv
      · cases h
    · cases h

theorem takeOuts_ok : ∀ {cs : List C} {m : List Blk} {o : C.Is cs}, takeOuts cs m = some o → ∀ (j : Nat) (k : C), cs[j]? = some k → ∃ xs, m[j]? = some (.arr k xs)
  | [], _, _, _, j, k, hj => by simp at hj
  | _ :: _, [], _, h, _, _, _ => by simp [takeOuts] at h
  | c :: cs, b :: m, o, h, j, k, hj => by
    cases b with
    | arr c' xs =>
      simp only [takeOuts] at h
      split at h
      · rename_i x hx
        split at h
        · rename_i y hy
          cases h
          cases j with
          | zero => simp at hj; subst hj; exact ⟨x, by rw [← cast?_eq hx]; rfl⟩
          | succ j => simpa using takeOuts_ok hy j k (by simpa using hj)
        · cases h
      · cases h
    | _ => simp [takeOuts] at h

theorem setOuts_len : ∀ (cs : List C) (o : C.Is cs) (ids : List Nat) (m : List Blk), (setOuts cs o ids m).length = m.length
  | [], _, _, _ => rfl
  | _ :: _, _, [], _ => rfl
  | c :: cs, x, b :: ids, m => by simp only [setOuts]; rw [setOuts_len]; simp

theorem setOuts_out : ∀ (cs : List C) (o : C.Is cs) (ids : List Nat) (m : List Blk) (b : Nat), b ∉ ids → (setOuts cs o ids m)[b]? = m[b]?
  | [], _, _, _, _, _ => rfl
  | _ :: _, _, [], _, _, _ => rfl
  | c :: cs, x, b' :: ids, m, b, h => by
    simp only [List.mem_cons, not_or] at h
    simp only [setOuts]
    rw [setOuts_out cs x.2 ids _ b h.2, List.getElem?_set_ne (Ne.symm h.1)]

theorem setOuts_in : ∀ (cs : List C) (o : C.Is cs) (ids : List Nat) (m m1 : List Blk), takeOuts cs m1 = some o → ids.Nodup → ids.length = cs.length → (∀ b ∈ ids, b < m.length) →
    ∀ (j b : Nat), ids[j]? = some b → (setOuts cs o ids m)[b]? = m1[j]?
  | [], _, [], _, _, _, _, _, _, j, b, h => by simp at h
  | [], _, _ :: _, _, _, _, _, hl, _, _, _, _ => by simp at hl
  | _ :: _, _, [], _, _, _, _, hl, _, _, _, _ => by simp at hl
  | _ :: _, _, _ :: _, _, [], ht, _, _, _, _, _, _ => by simp [takeOuts] at ht
  | c :: cs, x, b' :: ids, m, b1 :: m1, ht, hn, hl, hlt, j, b, h => by
    cases b1 with
    | arr c' xs =>
      simp only [takeOuts] at ht
      split at ht
      · rename_i x0 hx
        split at ht
        · rename_i y hy
          cases ht
          rw [List.nodup_cons] at hn
          simp only [setOuts]
          cases j with
          | zero =>
            simp at h; subst h
            rw [setOuts_out _ _ _ _ _ hn.1, List.getElem?_set_self (hlt _ List.mem_cons_self)]
            simp only [List.getElem?_cons_zero]
            rw [cast?_eq hx]
          | succ j =>
            simp only [List.getElem?_cons_succ] at h ⊢
            exact setOuts_in cs y ids _ m1 hy hn.2 (by simpa using hl) (fun z hz => by rw [List.length_set]; exact hlt z (List.mem_cons_of_mem _ hz)) j b h
        · cases ht
      · cases ht
    | _ => simp [takeOuts] at ht

theorem rd_scalar2 {w w' : World} {Al Al' : Nat → Prop} {u : U} {v : Value} (h : scalarU u) (hr : Rd w Al u v) : Rd w' Al' u v := by
  cases u with
  | l n cs => exact h.elim
  | _ => exact hr

theorem scalarRs_ok {c1 c2 : Cf} : ∀ {rs : List RT} {l : List A0} {used : List Nat} {x : Res rs}, scalarRs rs = true → decRes c1.mem rs l used = some x → l.length = rs.length ∧ ∀ n, (encRes rs x n).length = rs.length ∧
    ∀ (i : Nat) (a a' : A0) (v : Value), l[i]? = some a → (encRes rs x n)[i]? = some a' → c1.ra0 a v → c2.ra0 a' v
  | [], [], _, x, _, _ => ⟨rfl, fun n => ⟨rfl, fun i a a' v ha => by simp at ha⟩⟩
  | [], _ :: _, _, _, _, h => by simp [decRes] at h
  | _ :: _, [], _, _, _, h => by simp [decRes] at h
  | t :: rs, a0 :: l, used, x, hs, h => by
    simp only [decRes] at h
    split at h
    · rename_i x0 u0 h0
      split at h
      · rename_i x1 h1
        cases h
        simp only [scalarRs, List.all_cons, Bool.and_eq_true] at hs
        obtain ⟨q1, q2⟩ := scalarRs_ok (c1 := c1) (c2 := c2) (rs := rs) hs.2 h1
        refine ⟨by simp [q1], fun n => ⟨by simp [encRes, (q2 _).1], fun i a a' v ha ha' hv => ?_⟩⟩
        cases i with
        | zero =>
          simp [encRes] at ha ha'; subst ha; subst ha'
          cases t with
          | agg cells => simp at hs
          | one o k =>
            cases o with
            | true => simp at hs
            | false =>
              cases a0 with
              | agg vs => exact nomatch h0
              | one y =>
                have h0 : (match asC k y with | some x => some (x, used) | none => none) = some (x0, u0) := h0
                split at h0
                · rename_i z hz
                  cases h0
                  exact rd_scalar2 (scalar_enc hs.1 x0) (asC_ok (c := c1) hz v hv)
                · cases h0
        | succ i => exact (q2 _).2 i a a' v (by simpa using ha) (by simpa [encRes] using ha') hv
      · cases h
    · cases h

/-- **A moving function's handler is sound** if its function is what the evaluator makes of the code. -/
theorem hM_sound {P : Program} {E : Env} {f : Nat} {fn : Func} {ps rs : List RT} {F : Res ps → Option (Res rs × Owns ps)} (h : FnOK P E f fn ps.length) (hkeep : E.keep = (ownCs ps).length)
    (hF : ∀ x r, F x = some r → ∃ k, runFn E fn k (encRes ps x 0) (blkRes ps x) (retM rs ps) = some r) : HSound P E.glob f false (hM ps rs F) := by
  refine ⟨h.enter, ?_⟩
  intro R args vs c K r hc hgl hlen hargs hv
  unfold hM at hv
  split at hv
  · cases hv
  · rename_i x ids hx
    split at hv
    · rename_i hscal
      cases hFx : F x with
      | none => rw [hFx] at hv; cases hv
      | some y =>
        rw [hFx] at hv
        simp only [Option.bind_some] at hv
        obtain ⟨k, hrun⟩ := hF x y hFx
        obtain ⟨new, hids, hfit, _, hnd, hla, hle, hrel⟩ := movArgs_ok hx
        have hids : ids = new := by simpa using hids
        subst hids
        obtain ⟨fl1, fl2, fit⟩ := hfit
        have hin : ∀ b ∈ ids, b < c.mem.length := by
          intro b hb
          obtain ⟨j, hj⟩ := List.getElem?_of_mem hb
          obtain ⟨k, xs, _, _, hm⟩ := fit j b hj
          exact (List.getElem?_eq_some_iff.1 hm).1
        let c0 : Cf := ⟨c.w, c.Al, ids.map fun b => c.be.getD b .nil, blkRes ps x⟩
        have hbe0 : ∀ (j b : Nat), ids[j]? = some b → c0.be[j]? = c.be[b]? := by
          intro j b hj
          have hb : b < c.be.length := by rw [hc.len]; exact hin b (List.mem_of_getElem? hj)
          show (ids.map fun b => c.be.getD b .nil)[j]? = _
          rw [List.getElem?_map, hj]
          simp [List.getElem?_eq_getElem hb]
        have hsub : Sub c c0 ids := by
          refine ⟨rfl, rfl, fun j b hj => ?_, hbe0⟩
          obtain ⟨k, xs, _, h2, h3⟩ := fit j b hj
          exact h2.trans h3.symm
        have hidx : ∀ (j : Nat) (B : Blk), c0.mem[j]? = some B → ∃ b, ids[j]? = some b ∧ c.mem[b]? = some B ∧ ∃ k xs, B = .arr k xs := by
          intro j B hB
          have hj : j < ids.length := by rw [fl1]; exact (List.getElem?_eq_some_iff.1 hB).1
          obtain ⟨k, xs, _, h2, h3⟩ := fit j _ (List.getElem?_eq_getElem hj)
          have : c0.mem[j]? = some (Blk.arr k xs) := h2
          rw [hB] at this; cases this
          exact ⟨_, List.getElem?_eq_getElem hj, h3, k, xs, rfl⟩
        have hlive0 : ∀ g, c0.live g → ∃ (j b cap : Nat), ids[j]? = some b ∧ c.be[b]? = some (.blk g cap) ∧ ∃ k xs, c.mem[b]? = some (.arr k xs) := by
          rintro g ⟨j, B, cap, hB, _, e⟩
          obtain ⟨b, hj, hm, k, xs, rfl⟩ := hidx j B hB
          exact ⟨j, b, cap, hj, by rw [← hbe0 j b hj]; exact e, k, xs, hm⟩
        have hlive : ∀ g, c0.live g → c.live g := by
          intro g hg
          obtain ⟨j, b, cap, hj, e, k, xs, hm⟩ := hlive0 g hg
          exact ⟨b, _, cap, hm, rfl, e⟩
        have hc0 : c0.ok := by
          refine ⟨by show (ids.map _).length = (blkRes ps x).length; rw [List.length_map, fl1], ?_, ?_, fun g hg => hc.av g (hlive g hg), hc.lt⟩
          · intro j B hB
            obtain ⟨b, hj, hm, k, xs, rfl⟩ := hidx j B hB
            obtain ⟨hs, hb⟩ := hc.blk b _ hm
            refine ⟨hs, ?_⟩
            rw [hbe0 j b hj]
            exact hb
          · intro j j' B B' g cap cap' hB _ e hB' _ e'
            obtain ⟨b, hj, hm, k, xs, rfl⟩ := hidx j B hB
            obtain ⟨b', hj', hm', k', xs', rfl⟩ := hidx j' B' hB'
            have := hc.inj b b' _ _ g cap cap' hm rfl (by rw [← hbe0 j b hj]; exact e) hm' rfl (by rw [← hbe0 j' b' hj']; exact e')
            subst this
            have hjl := (List.getElem?_eq_some_iff.1 hj).1
            exact (List.getElem?_inj hjl hnd).1 (hj.trans hj'.symm)
        have hcall := fn_sound h.get h.body h.mixed h.env h.n h.code k (encRes ps x 0) vs c0 (retM rs ps) hc0 (by rw [hkeep, fl2]) (fun g => r1_noBlk (c := c) (c' := c0) (h.glob g) rfl (fun _ h => h) (hgl g))
          (by rw [hlen, hla]; exact hle.symm) (by rw [hlen, hla]; exact h.np) (fun i a' ha' => by
            have hi : i < args.length := by rw [hla, ← hle]; exact (List.getElem?_eq_some_iff.1 ha').1
            obtain ⟨v, hv, hr⟩ := hargs i _ (List.getElem?_eq_getElem hi)
            exact ⟨v, hv, hrel c0 hsub i _ a' v (List.getElem?_eq_getElem hi) ha' hr⟩) hrun
        refine Calls.mono hcall fun e w' he => ?_
        obtain ⟨v, av, Al, be, mem', rfl, hK, hok, hto, hra⟩ := he
        let c1 : Cf := ⟨w', Al, be, mem'⟩
        unfold retM at hK
        split at hK
        · rename_i o ho
          split at hK
          · rename_i y0 hy0
            cases hK
            let c2 : Cf := ⟨w', Al, c.be, setOuts (ownCs ps) o ids c.mem⟩
            have hset : ∀ (j b : Nat), ids[j]? = some b → c2.mem[b]? = mem'[j]? := fun j b hj => setOuts_in (ownCs ps) o ids c.mem mem' ho hnd (by rw [fl1, fl2]) hin j b hj
            have hout : ∀ b, b ∉ ids → c2.mem[b]? = c.mem[b]? := fun b hb => setOuts_out _ _ _ _ _ hb
            -- a block that has been moved
            have hmoved : ∀ (j b : Nat), ids[j]? = some b → ∃ k xs ys, c.mem[b]? = some (.arr k xs) ∧ mem'[j]? = some (.arr k ys) ∧ lenC k ys = lenC k xs ∧ be[j]? = c.be[b]? := by
              intro j b hj
              obtain ⟨k, xs, e1, e2, e3⟩ := fit j b hj
              obtain ⟨ys, hys⟩ := takeOuts_ok ho j k e1
              have hblk := (hc.blk b _ e3).2
              have hm0 : c0.mem[j]? = some (.arr k xs) := e2
              have hbl : b < c.be.length := by rw [hc.len]; exact hin b (List.mem_of_getElem? hj)
              rcases hblk with ⟨g, cap, cells, T, eb, _⟩ | ⟨eb, hz⟩
              · have h1 : c0.r1 (.ref j) (.slice (some ⟨g, 0, none⟩) (lenC k xs) cap) := by
                  simp only [Cf.r1, hm0]
                  exact .inl ⟨g, cap, by rw [hbe0 j b hj]; exact eb, rfl⟩
                have h2 := hto.keeps _ _ h1
                have hys' : (⟨w', Al, be, mem'⟩ : Cf).mem[j]? = some (.arr k ys) := hys
                simp only [Cf.r1, hys'] at h2
                rcases h2 with ⟨g', cap', e', hv'⟩ | ⟨_, hv'⟩
                · injection hv' with h3 h4 h5
                  injection h3 with h3
                  injection h3 with h3
                  subst h3; subst h5
                  exact ⟨k, xs, ys, e3, hys, h4.symm, by rw [eb]; exact e'⟩
                · cases hv'
              · have h1 : c0.r1 (.ref j) (.slice none 0 0) := by
                  simp only [Cf.r1, hm0]
                  exact .inr ⟨by rw [hbe0 j b hj]; exact eb, rfl⟩
                have h2 := hto.keeps _ _ h1
                have hys' : (⟨w', Al, be, mem'⟩ : Cf).mem[j]? = some (.arr k ys) := hys
                simp only [Cf.r1, hys'] at h2
                rcases h2 with ⟨g', cap', e', hv'⟩ | ⟨e', _⟩
                · cases hv'
                · have hz1 := (hok.blk j _ hys).2
                  rcases hz1 with ⟨g, cap, cells, T, e4, _⟩ | ⟨_, hz1⟩
                  · have : be[j]? = some (.blk g cap) := e4
                    have e' : be[j]? = some .nil := e'
                    rw [e'] at this; cases this
                  · exact ⟨k, xs, ys, e3, hys, by rw [hz1, hz], by rw [eb]; exact e'⟩
            have hnl : ∀ g, c.Al g → ¬ c0.live g := fun g hg hl => hc.av g (hlive g hl) hg
            have hal : ∀ g, c.Al g → Al g ∧ w'.heap[g]? = c.w.heap[g]? := fun g hg => ⟨hto.al g hg, hto.block g (hc.lt g hg) (hnl g hg)⟩
            have hk : ∀ x v, c.r1 x v → c2.r1 x v := by
              refine r1_keep (c := c) (c' := c2) hal (fun _ _ e => e) ?_ ?_
              · intro b k xs hm
                by_cases hb : b ∈ ids
                · obtain ⟨j, hj⟩ := List.getElem?_of_mem hb
                  obtain ⟨k', xs', ys, e1, e2, e3, _⟩ := hmoved j b hj
                  rw [hm] at e1; cases e1
                  exact .inl ⟨ys, by rw [hset j b hj]; exact e2, e3⟩
                · exact .inl ⟨xs, by rw [hout b hb]; exact hm, rfl⟩
              · intro b B hm hne
                refine ⟨B, ?_, hne⟩
                rw [hout b ?_]
                · exact hm
                · intro hb
                  obtain ⟨j, hj⟩ := List.getElem?_of_mem hb
                  obtain ⟨k', xs', ys, e1, _⟩ := hmoved j b hj
                  rw [hm] at e1; cases e1
                  exact hne _ _ rfl
            -- blocks that live
            have hback : ∀ (b : Nat) (B : Blk), c2.mem[b]? = some B → B.isDead = false → ∃ B', c.mem[b]? = some B' ∧ B'.isDead = false := by
              intro b B hB hd
              by_cases hb : b ∈ ids
              · obtain ⟨j, hj⟩ := List.getElem?_of_mem hb
                obtain ⟨k', xs', ys, e1, _⟩ := hmoved j b hj
                exact ⟨_, e1, rfl⟩
              · rw [hout b hb] at hB; exact ⟨B, hB, hd⟩
            have hlive2 : ∀ g, c2.live g → c.live g := by
              rintro g ⟨b, B, cap, hB, hd, e⟩
              obtain ⟨B', h1, h2⟩ := hback b B hB hd
              exact ⟨b, B', cap, h1, h2, e⟩
            have hok2 : c2.ok := by
              refine ⟨by show c.be.length = (setOuts _ _ _ _).length; rw [setOuts_len, hc.len], ?_, ?_, ?_, hok.lt⟩
              · intro b B hB
                by_cases hb : b ∈ ids
                · obtain ⟨j, hj⟩ := List.getElem?_of_mem hb
                  obtain ⟨k', xs', ys, e1, e2, e3, e4⟩ := hmoved j b hj
                  rw [hset j b hj, e2] at hB; cases hB
                  obtain ⟨hs, hb2⟩ := hok.blk j _ e2
                  refine ⟨hs, ?_⟩
                  have e4' : (⟨w', Al, be, mem'⟩ : Cf).be[j]? = c2.be[b]? := e4
                  rw [e4'] at hb2
                  exact hb2
                · rw [hout b hb] at hB
                  refine blkOK_keep (hc.blk b B hB) hk hal (fun _ h => h) (fun g cap e hd => ?_)
                  refine hto.block g (live_lt hc ⟨b, B, cap, hB, hd, e⟩) fun hl => ?_
                  obtain ⟨j, b', cap', hj, e', k, xs, hm⟩ := hlive0 g hl
                  have := hc.inj b b' _ _ g cap cap' hB hd e hm rfl e'
                  subst this
                  exact hb (List.mem_of_getElem? hj)
              · intro b b' B B' g cap cap' hB hd e hB' hd' e'
                obtain ⟨B1, h1, h2⟩ := hback b B hB hd
                obtain ⟨B2, h3, h4⟩ := hback b' B' hB' hd'
                exact hc.inj b b' B1 B2 g cap cap' h1 h2 e h3 h4 e'
              · intro g hg hal'
                rcases hto.alnew g hal' with h1 | h1 | h1
                · exact hc.av g (hlive2 g hg) h1
                · obtain ⟨j, b, cap, hj, e, k, xs, hm⟩ := hlive0 g h1
                  obtain ⟨k', xs', ys, e1, e2, e3, e4⟩ := hmoved j b hj
                  exact hok.av g ⟨j, _, cap, e2, rfl, by rw [e4]; exact e⟩ hal'
                · have := live_lt hc (hlive2 g hg)
                  have h1 : c.w.heap.size ≤ g := h1
                  omega
            have hto2 : c.To c2 := by
              refine ⟨hk, hto.os, hto.tape, hto.output, hto.size, fun g hg hl => hto.block g hg (fun h => hl (hlive g h)), hto.al, fun g hg => ?_, fun g hg => .inl (hlive2 g hg), fun b cs hb => .inl ⟨cs, ?_⟩⟩
              rcases hto.alnew g hg with h1 | h1 | h1
              · exact .inl h1
              · exact .inr (.inl (hlive g h1))
              · exact .inr (.inr h1)
              rw [hout b (fun hbi => by
                obtain ⟨j, hj⟩ := List.getElem?_of_mem hbi
                obtain ⟨k', xs', ys, e1, _⟩ := hmoved j b hj
                rw [hb] at e1; cases e1)]
              exact hb
            refine ⟨v, outOf (encRes rs y0 c.mem.length), Al, c.be, setOuts (ownCs ps) o ids c.mem, rfl, hv, hok2, hto2, ?_, (fun h => by cases h), fun b cs g cap hm e _ => hto.block g (live_lt hc ⟨b, _, cap, hm, rfl, e⟩) fun hl => ?_⟩
            rotate_left
            · obtain ⟨j, b', cap', hj, e', k, xs, hm'⟩ := hlive0 g hl
              have := hc.inj b b' _ _ g cap cap' hm rfl e hm' rfl e'
              subst this
              rw [hm] at hm'; cases hm'
            obtain ⟨l, hl, hll⟩ : ∃ l, decRes mem' rs l [] = some y0 ∧ ((∃ a, av = .v a ∧ l = [a]) ∨ (av = .tup l ∧ l.length ≠ 1)) := by
              unfold retK at hy0
              split at hy0
              · rename_i a; exact ⟨[a], hy0, .inl ⟨a, rfl, rfl⟩⟩
              · rename_i l
                split at hy0
                · cases hy0
                · rename_i hne; exact ⟨l, hy0, .inr ⟨rfl, by simpa using hne⟩⟩
            obtain ⟨q1, q2⟩ := scalarRs_ok (c1 := c1) (c2 := c2) hscal hl
            obtain ⟨q3, q4⟩ := q2 c.mem.length
            rcases hll with ⟨a, rfl, rfl⟩ | ⟨rfl, hne⟩
            · match he : encRes rs y0 c.mem.length, (q3.trans q1.symm) with
              | [a'], _ => exact q4 0 a a' v rfl (by rw [he]; rfl) hra
            · obtain ⟨ws, hws, hx⟩ := hra
              have : outOf (encRes rs y0 c.mem.length) = .tup (encRes rs y0 c.mem.length) := by
                match he : encRes rs y0 c.mem.length, (q3.trans q1.symm) with
                | [], _ => rfl
                | [a], h1 => exact absurd h1.symm hne
                | _ :: _ :: _, _ => rfl
              rw [this]
              refine ⟨ws, hws, fun i a' ha' => ?_⟩
              have hi : i < l.length := by rw [q1, ← q3]; exact (List.getElem?_eq_some_iff.1 ha').1
              obtain ⟨u, hu, hr⟩ := hx i _ (List.getElem?_eq_getElem hi)
              exact ⟨u, hu, q4 i _ a' u (List.getElem?_eq_getElem hi) ha' hr⟩
          · cases hK
        · cases hK
    · cases hv

end Go.Vm

namespace Go.Vm

def kindB (P : Program) (d : TypeDesc) (cells : List C) : TK → Bool
  | .other => true
  | .strct fs => match d with
    | .struct fields => fields.size == fs.length && (List.range fs.length).all fun j => match fs[j]?, fields[j]? with
      | some (off, ft), some f => f.offset == off && f.type == ft && (match P.info? ft with | some fi => fi.size != 0 | none => false)
      | _, _ => false
    | _ => false
  | .arr n e => match d with
    | .array m e' => m == n && e' == e
    | _ => false
  | .slc e => match d with
    | .slice e' => e' == e && (match cells with
      | [k] => isSl k && (match P.info? e with | some ei => ei.size == (rowOf k).length | none => false)
      | _ => true)
    | _ => false
  | .str => match d with
    | .string => true
    | _ => false
  | .bool => match d with
    | .bool => true
    | _ => false
  | .int k => match d with
    | .int k' => k' == k
    | _ => false

def zeroB : List C → List Value → Bool
  | [], [] => true
  | c :: r, v :: vs => (match c, v with
    | .int k, .int k' n => k == k' && n == 0
    | .bool, .bool b => !b
    | .str, .string s => s.data.size == 0
    | .sl1 _, .slice none 0 0 => true
    | .sl _, .slice none 0 0 => true
    | .kids _, .slice none 0 0 => true
    | _, _ => false) && zeroB r vs
  | _, _ => false

def tokB (P : Program) (t : Nat) (i : TI) : Bool :=
  match P.info? t, P.underlying t with
  | some info, some d => info.size == i.size && info.bytes == i.bytes && i.agg == aggD d && kindB P d i.cells i.kind && (match info.zero with
    | some z => z.cells.size == i.size && (i.cells.isEmpty || zeroB i.cells z.cells.toList)
    | none => false)
  | _, _ => false

def tableB (P : Program) (T : List (Option TI)) : Bool := (List.range T.length).all fun t => match T[t]? with
  | some (some i) => tokB P t i
  | _ => true

theorem zeroB_ok : ∀ (cs : List C) (vs : List Value), zeroB cs vs = true → vs = cs.map zeroVal
  | [], [], _ => rfl
  | [], _ :: _, h => by simp [zeroB] at h
  | _ :: _, [], h => by simp [zeroB] at h
  | c :: r, v :: vs, h => by
    simp only [zeroB, Bool.and_eq_true] at h
    obtain ⟨h1, h2⟩ := h
    rw [zeroB_ok r vs h2, List.map_cons]
    congr 1
    split at h1
    · simp only [Bool.and_eq_true, beq_iff_eq] at h1
      rw [h1.1, h1.2]; rfl
    · rename_i b; simp at h1; rw [h1]; rfl
    · rename_i s
      have : s.data = #[] := Array.eq_empty_of_size_eq_zero (by simpa using h1)
      have e : s = ⟨#[]⟩ := by cases s; simp at this; rw [this]
      rw [e]; rfl
    · rfl
    · rfl
    · rfl
    · cases h1

theorem kindB_ok {P : Program} {d : TypeDesc} {cells : List C} {k : TK} (h : kindB P d cells k = true) : KOk P d cells k := by
  cases k with
  | other => trivial
  | strct fs =>
    simp only [kindB] at h
    split at h
    · rename_i fields
      simp only [Bool.and_eq_true, beq_iff_eq, List.all_eq_true, List.mem_range] at h
      refine ⟨fields, rfl, h.1, fun j off ft hj => ?_⟩
      have hl : j < fs.length := (List.getElem?_eq_some_iff.1 hj).1
      have h1 := h.2 j hl
      rw [hj] at h1
      split at h1
      · rename_i off' ft' f e hf
        cases e
        simp only [Bool.and_eq_true, beq_iff_eq] at h1
        refine ⟨f, hf, h1.1.1, h1.1.2, ?_⟩
        have h2 := h1.2
        split at h2
        · rename_i fi hfi
          exact ⟨fi, hfi, by simpa using h2⟩
        · cases h2
      · cases h1
    · cases h
  | arr n e =>
    simp only [kindB] at h
    split at h
    · simp only [Bool.and_eq_true, beq_iff_eq] at h
      rw [← h.1, ← h.2]; exact rfl
    · cases h
  | slc e =>
    simp only [kindB] at h
    split at h
    · simp only [Bool.and_eq_true, beq_iff_eq] at h
      refine ⟨by rw [h.1], fun k hk => ?_⟩
      have h2 := h.2
      rw [hk] at h2
      simp only [Bool.and_eq_true] at h2
      refine ⟨h2.1, ?_⟩
      have h3 := h2.2
      split at h3
      · rename_i ei hei
        exact ⟨ei, hei, by simpa using h3⟩
      · cases h3
    · cases h
  | str =>
    simp only [kindB] at h
    split at h
    · rfl
    · cases h
  | bool =>
    simp only [kindB] at h
    split at h
    · rfl
    · cases h
  | int k =>
    simp only [kindB] at h
    split at h
    · simp only [beq_iff_eq] at h
      rw [← h]; exact rfl
    · cases h

theorem tokB_ok {P : Program} {t : Nat} {i : TI} (h : tokB P t i = true) : TOk P t i := by
  unfold tokB at h
  split at h
  · rename_i info d h1 h2
    simp only [Bool.and_eq_true, beq_iff_eq] at h
    obtain ⟨⟨⟨⟨g1, g2⟩, g3⟩, g4⟩, g5⟩ := h
    split at g5
    · rename_i z hz
      simp only [Bool.and_eq_true, beq_iff_eq, Bool.or_eq_true, List.isEmpty_iff] at g5
      exact ⟨info, d, z, h1, g1, g2, h2, g3, kindB_ok g4, hz, g5.1, g5.2.imp id (zeroB_ok _ _)⟩
    · cases g5
  · cases h

/-- A callee: its number; does it leave all old memory as it is; may its results share memory with its arguments; its handler. -/
structure Cl where
  f : Nat
  calm : Bool
  alias : Bool
  h : Hnd

def findCl (f : Nat) : List Cl → Option Cl
  | [] => none
  | x :: r => if x.f = f then some x else findCl f r

def look {α : Type} (d : α) (f : Nat) : List (Nat × α) → α
  | [] => d
  | (g, x) :: r => if g = f then x else look d f r

/-- The surroundings of a function. -/
def mkEnv (T : List (Option TI)) (gl : Nat → V) (n : Nat) (calls : List Cl) (live : List (Nat × List Nat)) (sched : List (Nat × Sched)) (keep : Nat) : Env where
  T := T
  call f := (findCl f calls).map (·.h)
  alias f := match findCl f calls with | some x => x.alias | none => false
  glob := gl
  sched id := look none id (sched.map fun x => (x.1, some x.2))
  live id := look [] id live
  keep := keep
  n := n
  calm f := match findCl f calls with | some x => x.calm | none => false

theorem mkEnv_ok {P : Program} {T : List (Option TI)} {gl : Nat → V} {n : Nat} {calls : List Cl} {live : List (Nat × List Nat)} {sched : List (Nat × Sched)} {keep : Nat} (hT : tableB P T = true)
    (hc : ∀ x ∈ calls, HSound P gl x.f x.calm x.h) : EnvOK P (mkEnv T gl n calls live sched keep) := by
  constructor
  · intro t i h
    unfold Env.ti at h
    split at h
    · rename_i i' hi
      cases h
      have ht : t < T.length := (List.getElem?_eq_some_iff.1 hi).1
      have h1 := List.all_eq_true.1 hT t (List.mem_range.2 ht)
      have hi' : T[t]? = some (some i) := hi
      rw [hi'] at h1
      exact tokB_ok h1
    · cases h
  · intro f h hf
    have hf' : (findCl f calls).map (·.h) = some h := hf
    cases hx : findCl f calls with
    | none => rw [hx] at hf'; cases hf'
    | some x =>
      rw [hx] at hf'
      simp only [Option.map_some, Option.some.injEq] at hf'
      have key : ∀ (l : List Cl), findCl f l = some x → x ∈ l ∧ x.f = f := by
        intro l
        induction l with
        | nil => intro h; cases h
        | cons y r ih =>
          intro h
          simp only [findCl] at h
          split at h
          · rename_i he; cases h; exact ⟨List.mem_cons_self, he⟩
          · exact ⟨List.mem_cons_of_mem _ (ih h).1, (ih h).2⟩
      obtain ⟨hm, he⟩ := key calls hx
      have h1 := hc x hm
      rw [he, hf'] at h1
      show HSound P gl f (match findCl f calls with | some x => x.calm | none => false) h
      rw [hx]
      exact h1

end Go.Vm

namespace Go.Vm

/-! ### Handlers out of contracts -/

theorem hEnter_of {P : Program} {f : Nat} {fn : Func} (hf : P.funcs[f]? = some fn) (hbody : fn.body.isSome = true) (hnm : (fn.name == "runtime.NumGoroutine") = false) : HEnter P f := by
  intro args w
  have hb : fn.body.isNone = false := by
    cases hc : fn.body with
    | none => rw [hc] at hbody; cases hbody
    | some c => rfl
  unfold callFunc
  simp only [Sem.run_bind, run_program, Result.andThen_ok, hf]
  rw [if_neg (by rw [hnm]; simp), if_neg (by rw [hb]; simp)]
  rfl

def valC : (c : C) → c.I → Value
  | .int k, (n : Int) => .int k n
  | .bool, (b : Bool) => .bool b
  | .str, (s : ByteArray) => .string s
  | _, _ => .slice none 0 0

def scalarPs : List PT → Bool
  | [] => true
  | .one c :: r => isScalar c && scalarPs r
  | _ => false

def valArgs : (ps : List PT) → Args ps → List Value
  | [], _ => []
  | .one c :: r, x => valC c x.1 :: valArgs r x.2
  | .agg _ :: r, x => .slice none 0 0 :: valArgs r x.2
  | .fn _ :: r, x => .slice none 0 0 :: valArgs r x.2

theorem rd_val {w : World} {Al : Nat → Prop} {c : C} (h : isScalar c = true) {x : c.I} {v : Value} (hr : Rd w Al (enc c x) v) : v = valC c x := by
  cases c <;> simp [isScalar] at h <;> simpa [enc, Rd, valC] using hr

theorem val_rd {w : World} {Al : Nat → Prop} {c : C} (h : isScalar c = true) (x : c.I) : Rd w Al (enc c x) (valC c x) := by
  cases c <;> simp [isScalar] at h <;> simp [enc, Rd, valC]

theorem valArgs_of {c0 : Cf} : ∀ (ps : List PT) (x : Args ps) (vs : List Value), scalarPs ps = true → vs.length = (encArgs ps x).length →
    (∀ (i : Nat) (a' : A0), (encArgs ps x)[i]? = some a' → ∃ v, vs[i]? = some v ∧ c0.ra0 a' v) → vs = valArgs ps x
  | [], x, vs, _, hl, _ => by
    have : vs = [] := List.eq_nil_of_length_eq_zero hl
    rw [this]; rfl
  | .one c :: ps, x, vs, hs, hl, h => by
    simp only [scalarPs, Bool.and_eq_true] at hs
    match vs, hl with
    | v :: vs, hl =>
      obtain ⟨v', hv', hr⟩ := h 0 _ rfl
      simp at hv'; subst hv'
      have h1 : v = valC c x.1 := rd_val hs.1 hr
      have h2 := valArgs_of (c0 := c0) ps x.2 vs hs.2 (by simpa [encArgs] using hl) (fun i a' ha' => by
        obtain ⟨v, hv, hr⟩ := h (i + 1) a' (by simpa [encArgs] using ha')
        exact ⟨v, by simpa using hv, hr⟩)
      rw [h1, h2]; rfl
  | .agg _ :: _, _, _, hs, _, _ => by cases hs
  | .fn _ :: _, _, _, hs, _, _ => by cases hs

/-- A contract between values of one cell is a handler. -/
theorem hP_of_contract {P : Program} {gl : Nat → V} {f : Nat} {ps : List PT} {c : C} {F : Args ps → Option (Res [.one false c])} (hen : HEnter P f) (hps : scalarPs ps = true) (hc : isScalar c = true)
    (hF : ∀ x r w, F x = some r → Calls P f (valArgs ps x).toArray w fun e w' => e = .returned (valC c r.1) ∧ w' = w) : HSound P gl f true (hP ps [.one false c] F) := by
  refine ⟨hen, ?_⟩
  intro R args vs cf K r hok _ hlen hargs hv
  unfold hP at hv
  split at hv
  · cases hv
  · rename_i x hx
    cases hFx : F x with
    | none => rw [hFx] at hv; cases hv
    | some y =>
      rw [hFx] at hv
      simp only [Option.bind_some] at hv
      let c0 : Cf := ⟨cf.w, fun g => cf.Al g ∨ cf.live g, [], []⟩
      obtain ⟨ha1, ha2, ha3⟩ := decArgs_ok (c0 := c0) hok rfl (fun g hg => .inl hg) (fun _ g hg => .inr hg) ps args x hx
      have hvs : vs = valArgs ps x := valArgs_of (c0 := c0) ps x vs hps (by rw [hlen, ha1, ha2]) (fun i a' ha' => by
        have hi : i < args.length := by rw [ha1, ← ha2]; exact (List.getElem?_eq_some_iff.1 ha').1
        obtain ⟨v, hv, hr⟩ := hargs i _ (List.getElem?_eq_getElem hi)
        exact ⟨v, hv, ha3 i _ a' v (List.getElem?_eq_getElem hi) ha' hr⟩)
      rw [hvs]
      refine Calls.mono (hF x y cf.w hFx) fun e w' he => ?_
      obtain ⟨rfl, rfl⟩ := he
      refine ⟨valC c y.1, outOf (encRes [.one false c] y cf.mem.length), cf.Al, cf.be, cf.mem ++ blkRes [.one false c] y, rfl, hv, ?_, ?_, ?_, fun _ => Ext.refl _, fun _ _ _ _ _ _ _ => rfl⟩
      · show (⟨cf.w, cf.Al, cf.be, cf.mem ++ []⟩ : Cf).ok
        rw [List.append_nil]; exact hok
      · show cf.To ⟨cf.w, cf.Al, cf.be, cf.mem ++ []⟩
        rw [List.append_nil]; exact Cf.To.refl _
      · show Rd _ _ (enc c y.1) (valC c y.1)
        exact val_rd hc y.1

theorem calls_nil {P : Program} {gl : Nat → V} : ∀ x ∈ ([] : List Cl), HSound P gl x.f x.calm x.h := fun _ h => by cases h

theorem calls_cons {P : Program} {gl : Nat → V} {f : Nat} {cm al : Bool} {h : Hnd} {r : List Cl} (h1 : HSound P gl f cm h) (h2 : ∀ x ∈ r, HSound P gl x.f x.calm x.h) :
    ∀ x ∈ (⟨f, cm, al, h⟩ : Cl) :: r, HSound P gl x.f x.calm x.h := fun x hx => by
  rcases List.mem_cons.1 hx with rfl | hx
  · exact h1
  · exact h2 x hx

end Go.Vm

namespace Go.Vm
section
variable {P : Program}

/-- 'copy' into a row, whatever the width of its elements. -/
theorem copy_row {t ty e : TypeId} {wd : Nat} (ht : P.underlying t = some (.slice e)) (hs : ∀ w', (sizeOf e).run P w' = .ok wd w') {w : World} {g o dLen dCap : Nat} {v : Value} {sLen : Nat} {ad : Option Addr} {sCap : Nat}
    (hv : v = .slice ad sLen sCap) {news : List Value} (hf : (Builtin.firstCells wd (Nat.min sLen dLen) v).run P w = .ok news.toArray w) {cells : Array Value} {T : TypeId} (hg : w.heap[g]? = some (.cells cells T (0, 0)))
    (hfit : o + news.length ≤ cells.size) (h1 : ∀ x ∈ news, x.oneCell' = true) :
    (Builtin.copy_ #[t, t] ty #[.slice (some ⟨g, o, none⟩) dLen dCap, v]).run P w = .ok (goInt (Nat.min sLen dLen)) (w.setRow g (over cells.toList o news).toArray) := by
  have hst := run_storeCells_at P g o T news 0 cells w hg (by omega) h1
  simp only [Nat.add_zero] at hst
  have hov : cells.toList.take o ++ news ++ cells.toList.drop (o + news.length) = over cells.toList o news := by simp [over]
  rw [hov] at hst
  subst hv
  simp [Builtin.copy_, under_run ht, hs, Builtin.lenOf, hf, hst]

end
end Go.Vm

namespace Go.Vm
/-! ### Words of the equations -/
def sEq (a b : ByteArray) : Bool := a.toList == b.toList
def sLt (a b : ByteArray) : Bool := Op.bytesLess a.toList b.toList
def sLe (a b : ByteArray) : Bool := Op.bytesLess a.toList b.toList || a.toList == b.toList
def body (f : Func) : Code := f.body.getD .skip
end Go.Vm

namespace Go.Vm

/-! ### Arguments of a row, read as data -/

abbrev Bnd : Nat := 140737488351232

mutual
/-- The data is as large as a row's reach allows. -/
def okU : U → Prop
  | .i k n => (Lit.int k n).wf = true
  | .b _ => True
  | .s s => s.size ≤ Bnd
  | .l n cs => n ≤ Bnd ∧ okUs cs
def okUs : List U → Prop
  | [] => True
  | u :: r => okU u ∧ okUs r
end

theorem okUs_append : ∀ (a b : List U), okUs (a ++ b) ↔ okUs a ∧ okUs b
  | [], b => by simp [okUs]
  | u :: a, b => by simp only [List.cons_append, okUs, okUs_append a b, and_assoc]

theorem okUs_flatMap {α : Type} (f : α → List U) : ∀ (xs : List α), (∀ x ∈ xs, okUs (f x)) → okUs (xs.flatMap f)
  | [], _ => by simp [okUs]
  | x :: r, h => by
    rw [List.flatMap_cons, okUs_append]
    exact ⟨h x (by simp), okUs_flatMap f r fun y hy => h y (by simp [hy])⟩

def unsnoc : (r : List C) → (c : C) → C.Is (r ++ [c]) → C.Is r × c.I
  | [], _, x => ((), x.1)
  | _ :: r, c, x => ((x.1, (unsnoc r c x.2).1), (unsnoc r c x.2).2)

theorem encs_unsnoc : ∀ (r : List C) (c : C) (x : C.Is (r ++ [c])), encs (r ++ [c]) x = encs r (unsnoc r c x).1 ++ [enc c (unsnoc r c x).2]
  | [], c, x => rfl
  | d :: r, c, x => by
    show enc d x.1 :: encs (r ++ [c]) x.2 = _
    rw [encs_unsnoc r c x.2]
    rfl

/-- A slice's content out of its elements' rows. -/
def ofElems : (c : C) → List (C.Is (rowOf c)) → c.I
  | .int _, _ => (0 : Int)
  | .bool, _ => false
  | .str, _ => ByteArray.empty
  | .sl1 c, xs => (xs.map fun (x : c.I × Unit) => x.1 : List c.I)
  | .sl r, xs => (xs : List (C.Is r))
  | .kids r, xs => (xs.map fun x => Rose.mk (unsnoc r (.kids r) x).1 (unsnoc r (.kids r) x).2 : List (Rose (C.Is r)))

theorem ofElems_aux1 {α : Type} (f : α → U) : ∀ (xs : List (α × Unit)), U.l (xs.map fun x => x.1).length ((xs.map fun x => x.1).map f) = .l xs.length (xs.flatMap fun x => [f x.1])
  | [] => rfl
  | x :: r => by
    have h := ofElems_aux1 f r
    simp only [U.l.injEq, List.map_cons, List.length_cons, List.flatMap_cons] at h ⊢
    exact ⟨by simp, by rw [h.2]; rfl⟩

theorem ofElems_aux2 {α β : Type} (f : α → List U) (g : β → α × List (Rose α)) (e : β → List U) (h : ∀ x, e x = f (g x).1 ++ [.l (g x).2.length (rosesU f (g x).2)]) : ∀ (xs : List β),
    U.l (xs.map fun x => Rose.mk (g x).1 (g x).2).length (rosesU f (xs.map fun x => Rose.mk (g x).1 (g x).2)) = .l xs.length (xs.flatMap e)
  | [] => rfl
  | x :: r => by
    have k := ofElems_aux2 f g e h r
    simp only [U.l.injEq, List.map_cons, List.length_cons, List.flatMap_cons, rosesU, roseU] at k ⊢
    exact ⟨by simp, by rw [k.2, h x]⟩

theorem enc_ofElems (c : C) (h : isSl c = true) (xs : List (C.Is (rowOf c))) : enc c (ofElems c xs) = .l xs.length (xs.flatMap (encs (rowOf c))) := by
  cases c with
  | sl1 c => exact ofElems_aux1 (enc c) xs
  | sl r => rfl
  | kids r => exact ofElems_aux2 (encs r) (unsnoc r (.kids r)) (encs (r ++ [.kids r])) (fun x => encs_unsnoc r (.kids r) x) xs
  | int k => cases h
  | bool => cases h
  | str => cases h

def hasB (tab : List (TypeId × List C)) (t : TypeId) (cs : List C) : Bool := tab.any fun x => x.1 == t && C.beqs x.2 cs

theorem hasB_mem {tab : List (TypeId × List C)} {t : TypeId} {cs : List C} (h : hasB tab t cs = true) : (t, cs) ∈ tab := by
  unfold hasB at h
  obtain ⟨x, hx, h⟩ := List.any_eq_true.1 h
  simp only [Bool.and_eq_true, beq_iff_eq] at h
  have h2 := C.beqs_eq h.2
  rcases x with ⟨a, b⟩
  simp only at h h2
  rw [← h.1, ← h2]; exact hx

def fieldsB (P : Program) (tab : List (TypeId × List C)) : List Field → Nat → List C → Bool
  | [], _, cs => cs.isEmpty
  | f :: r, off, cs => f.offset == off && hasB tab f.type (cs.take (P.cellsOf f.type)) && decide (P.cellsOf f.type ≤ cs.length) && fieldsB P tab r (off + P.cellsOf f.type) (cs.drop (P.cellsOf f.type))

/-- What the table of types to be read says is so. -/
def rdTab (P : Program) (tab : List (TypeId × List C)) : Bool := tab.all fun x => match P.underlying x.1 with
  | some .bool => C.beqs x.2 [.bool]
  | some (.int k) => C.beqs x.2 [.int k]
  | some .string => C.beqs x.2 [.str]
  | some (.slice e) => match x.2 with
    | [c] => isSl c && hasB tab e (rowOf c) && P.cellsOf e == (rowOf c).length && decide (1 ≤ P.bytesOf e) && decide (1 ≤ (rowOf c).length)
    | _ => false
  | some (.struct fs) => P.cellsOf x.1 == x.2.length && fieldsB P tab fs.toList 0 x.2
  | _ => false

/-- Cells that hold data. -/
def RowRd (w : World) (Al : Nat → Prop) (us : List U) (vs : List Value) : Prop :=
  vs.length = us.length ∧ ∀ (i : Nat) (u : U), us[i]? = some u → ∃ v, vs[i]? = some v ∧ Rd w Al u v

theorem RowRd.nil {w : World} {Al : Nat → Prop} : RowRd w Al [] [] := ⟨rfl, fun i u h => by simp at h⟩

theorem RowRd.append {w : World} {Al : Nat → Prop} {a b : List U} {x y : List Value} (h : RowRd w Al a x) (k : RowRd w Al b y) : RowRd w Al (a ++ b) (x ++ y) := by
  refine ⟨by simp [h.1, k.1], fun i u hu => ?_⟩
  by_cases hi : i < a.length
  · rw [List.getElem?_append_left hi] at hu
    obtain ⟨v, h1, h2⟩ := h.2 i u hu
    exact ⟨v, by rw [List.getElem?_append_left (by rw [h.1]; exact hi)]; exact h1, h2⟩
  · rw [List.getElem?_append_right (by omega)] at hu
    obtain ⟨v, h1, h2⟩ := k.2 _ u hu
    exact ⟨v, by rw [List.getElem?_append_right (by rw [h.1]; omega), h.1]; exact h1, h2⟩

theorem RowRd.one {w : World} {Al : Nat → Prop} {u : U} {v : Value} (h : Rd w Al u v) : RowRd w Al [u] [v] :=
  ⟨rfl, fun i x hx => by
    cases i with
    | zero => simp at hx; subst hx; exact ⟨v, rfl, h⟩
    | succ i => simp at hx⟩

def splitIs : (r s : List C) → C.Is r → C.Is s → C.Is (r ++ s)
  | [], _, _, y => y
  | _ :: r, s, x, y => (x.1, splitIs r s x.2 y)

theorem encs_splitIs : ∀ (r s : List C) (x : C.Is r) (y : C.Is s), encs (r ++ s) (splitIs r s x y) = encs r x ++ encs s y
  | [], _, _, _ => rfl
  | c :: r, s, x, y => by
    show enc c x.1 :: encs (r ++ s) (splitIs r s x.2 y) = _
    rw [encs_splitIs r s x.2 y]; rfl

section
variable {H : Type} {enc' : TypeId × Value → H} {P : Program} {w : World} {spare : Nat → Bool} {held : Bool}

def Reads (w : World) (cells : List C) (vs : List Value) : Prop := ∃ xs : C.Is cells, RowRd w (fun g => g < w.heap.size) (encs cells xs) vs ∧ okUs (encs cells xs)

theorem Reads.append {w : World} {r s : List C} {x y : List Value} (h : Reads w r x) (k : Reads w s y) : Reads w (r ++ s) (x ++ y) := by
  obtain ⟨a, h1, h2⟩ := h
  obtain ⟨b, k1, k2⟩ := k
  exact ⟨splitIs r s a b, by rw [encs_splitIs]; exact h1.append k1, by rw [encs_splitIs, okUs_append]; exact ⟨h2, k2⟩⟩

theorem cells?_row {a : Addr} {n : Nat} {cs : List Value} (h : w.cells? 0 a n = some cs) : cs.length = n ∧ ∀ i, i < n → w.cell? (a.add i) = cs[i]? := by
  unfold World.cells? at h
  rw [if_pos (Nat.zero_le _)] at h
  refine ⟨by simpa using mapM_some_length h, fun i hi => mapM_some_get h i i (by simp [hi])⟩

theorem fields_read {tab : List (TypeId × List C)} {n : Nat}
    (ih : ∀ (t : TypeId) (cells : List C) (cs : List Value) (x : DataW H × List MemPlace), (t, cells) ∈ tab → DataW.trod enc' P w 0 spare held n t cs = some x → (∀ m ∈ x.1.weights P t, m ≤ reachBytes) → Reads w cells cs) :
    ∀ (fs : List Field) (off : Nat) (cells : List C) (cs : List Value) (xs : List (DataW H × List MemPlace)), fieldsB P tab fs off cells = true → xs.length = fs.length → cs.length = off + cells.length →
      (∀ (i : Nat) (f : Field), fs[i]? = some f → DataW.trod enc' P w 0 spare held n f.type ((cs.drop f.offset).take (P.cellsOf f.type)) = xs[i]?) →
      (∀ m ∈ DataW.weightsEach P (fs.map (·.type)) (xs.map (·.1)), m ≤ reachBytes) → Reads w cells (cs.drop off)
  | [], off, cells, cs, xs, hf, hl, hc, hr, hw => by
    simp only [fieldsB, List.isEmpty_iff] at hf
    subst hf
    have : cs.drop off = [] := by apply List.drop_eq_nil_of_le; simp at hc; omega
    rw [this]
    exact ⟨(), RowRd.nil, trivial⟩
  | f :: r, off, cells, cs, xs, hf, hl, hc, hr, hw => by
    simp only [fieldsB, Bool.and_eq_true, beq_iff_eq, decide_eq_true_eq] at hf
    obtain ⟨⟨⟨h1, h2⟩, h3⟩, h4⟩ := hf
    cases xs with
    | nil => simp at hl
    | cons x xs =>
      have h5 := hr 0 f rfl
      rw [h1] at h5
      simp only [List.map_cons, DataW.weightsEach, List.mem_append] at hw
      have h6 := ih f.type _ _ x (hasB_mem h2) h5 fun m hm => hw m (.inl hm)
      have h7 := fields_read ih r (off + P.cellsOf f.type) (cells.drop (P.cellsOf f.type)) cs xs h4 (by simpa using hl) (by rw [List.length_drop]; omega) (fun i g hg => by simpa using hr (i + 1) g (by simpa using hg)) fun m hm => hw m (.inr hm)
      have h8 := h6.append h7
      rw [List.take_append_drop] at h8
      rw [← List.drop_drop, List.take_append_drop] at h8
      exact h8

theorem reads_ok {tab : List (TypeId × List C)} (ht : rdTab P tab = true) : ∀ (n : Nat) (t : TypeId) (cells : List C) (cs : List Value) (x : DataW H × List MemPlace), (t, cells) ∈ tab →
    DataW.trod enc' P w 0 spare held n t cs = some x → (∀ m ∈ x.1.weights P t, m ≤ reachBytes) → Reads w cells cs := by
  intro n
  induction n with
  | zero => intro t cells cs x _ h; simp [DataW.trod] at h
  | succ n ih =>
    intro t cells cs x hm h hw
    have h0 := List.all_eq_true.1 ht _ hm
    simp only at h0
    split at h0
    · rename_i hu
      obtain ⟨b, rfl, rfl⟩ := DataW.trod_bool hu h
      rw [C.beqs_eq h0]
      exact ⟨(b, ()), RowRd.one rfl, trivial, trivial⟩
    · rename_i k hu
      obtain ⟨b, rfl, rfl, hwf⟩ := DataW.trod_int hu h
      rw [C.beqs_eq h0]
      exact ⟨(b, ()), RowRd.one rfl, hwf, trivial⟩
    · rename_i hu
      obtain ⟨s, rfl, rfl, hs⟩ := DataW.trod_string hu h
      rw [C.beqs_eq h0]
      refine ⟨(s, ()), RowRd.one rfl, ?_, trivial⟩
      have := hw s.data.toList.length (by simp [DataW.weights])
      rw [Array.length_toList] at this
      exact this
    · rename_i e hu
      match cells, h0, hm with
      | [c], h0, hm =>
        clear hm
        simp only [Bool.and_eq_true, beq_iff_eq, decide_eq_true_eq] at h0
        obtain ⟨⟨⟨⟨h1, h2⟩, h3⟩, h4⟩, h5⟩ := h0
        rcases DataW.trod_slice hu h with ⟨rfl, rfl⟩ | ⟨a, len, cap, elems, rest, m, hn, rfl, rfl, hb, hl, hm, hlen, hel, _, _⟩
        · refine ⟨(ofElems c [], ()), RowRd.one ?_, ?_, trivial⟩
          · show Rd _ _ (enc c (ofElems c [])) _
            rw [enc_ofElems c h1]
            exact ⟨none, 0, rfl, Nat.le_refl _, .inl rfl⟩
          · rw [enc_ofElems c h1]
            exact ⟨by simp, trivial⟩
        · obtain rfl : n = m := by omega
          simp only [DataW.weights, hu] at hw
          have hw1 := hw _ (List.mem_cons_self ..)
          have hlb : len ≤ Bnd := by
            have : len * 1 ≤ (elems.length + rest.length) * P.bytesOf e := Nat.mul_le_mul (by omega) h4
            simp only [List.length_map] at hw1
            have h9 : reachBytes = Bnd := rfl
            omega
          have hw2 : ∀ (i : Nat) (y : DataW H × List MemPlace), elems[i]? = some y → ∀ m ∈ y.1.weights P e, m ≤ reachBytes := by
            intro i y hy m hm
            refine hw m (List.mem_cons_of_mem _ (List.mem_append_left _ ?_))
            have : ∀ (l : List (DataW H)) (d : DataW H), d ∈ l → m ∈ d.weights P e → m ∈ DataW.weightsAll P e l := by
              intro l
              induction l with
              | nil => intro d hd; simp at hd
              | cons z l ihl =>
                intro d hd hmd
                simp only [DataW.weightsAll, List.mem_append]
                rcases List.mem_cons.1 hd with rfl | hd
                · exact .inl hmd
                · exact .inr (ihl d hd hmd)
            exact this _ y.1 (List.mem_map.2 ⟨y, List.mem_of_getElem? hy, rfl⟩) hm
          have hone : ∀ i, i < len → ∃ xs : C.Is (rowOf c), okUs (encs (rowOf c) xs) ∧ ∀ (j : Nat) (u : U), (encs (rowOf c) xs)[j]? = some u → ∃ v, w.cell? ⟨a.block, a.off + (i * (rowOf c).length + j), none⟩ = some v ∧ a.spot = none ∧ a.block < w.heap.size ∧ Rd w (fun g => g < w.heap.size) u v := by
            intro i hi
            have hi2 := hel i hi
            rw [List.getElem?_eq_getElem (by omega)] at hi2
            obtain ⟨cs', hc1, hc2⟩ := Option.bind_eq_some_iff.1 hi2
            obtain ⟨xs, hx1, hx2⟩ := ih e (rowOf c) cs' _ (hasB_mem h2) hc2 (hw2 i _ (List.getElem?_eq_getElem (by omega)))
            obtain ⟨hlc, hcell⟩ := cells?_row hc1
            refine ⟨xs, hx2, fun j u hu => ?_⟩
            obtain ⟨v, hv1, hv2⟩ := hx1.2 j u hu
            have hj : j < P.cellsOf e := by
              rw [← hlc]
              exact (List.getElem?_eq_some_iff.1 hv1).1
            have hcj := hcell j hj
            rw [hv1] at hcj
            have hsp : ∀ (b : Addr), w.cell? b = some v → b.spot = none ∧ b.block < w.heap.size := by
              intro b hb
              unfold World.cell? at hb
              split at hb
              · rename_i hh
                split at hb
                · cases hb
                · rename_i hs
                  exact ⟨by simpa using hs, (Array.getElem?_eq_some_iff.1 hh).1⟩
              · cases hb
            obtain ⟨hs1, hs2⟩ := hsp _ hcj
            -- the first element's first cell tells of the spot
            have h00 : a.spot = none := by
              have h01 := hel 0 (by omega)
              rw [List.getElem?_eq_getElem (by omega)] at h01
              obtain ⟨cs0, hd1, hd2⟩ := Option.bind_eq_some_iff.1 h01
              obtain ⟨hl0, hcell0⟩ := cells?_row hd1
              have := hcell0 0 (by omega)
              rw [List.getElem?_eq_getElem (by omega)] at this
              have h02 : ((a.add (0 * P.cellsOf e)).add 0) = a := by simp [Addr.add]
              rw [h02] at this
              unfold World.cell? at this
              split at this
              · split at this
                · cases this
                · rename_i hs; simpa using hs
              · cases this
            have hadd : (a.add (i * P.cellsOf e)).add j = ⟨a.block, a.off + (i * (rowOf c).length + j), none⟩ := by
              rw [h3]
              rcases a with ⟨ab, ao, asp⟩
              simp only at h00
              subst h00
              unfold Addr.add
              by_cases e1 : i * (rowOf c).length = 0 <;> by_cases e2 : j = 0 <;> simp [e1, e2, Nat.add_assoc]
            rw [hadd] at hcj hs2
            exact ⟨v, hcj, h00, hs2, hv2⟩
          have hcho : ∃ f : Nat → C.Is (rowOf c), ∀ i, i < len → (okUs (encs (rowOf c) (f i)) ∧ ∀ (j : Nat) (u : U), (encs (rowOf c) (f i))[j]? = some u → ∃ v, w.cell? ⟨a.block, a.off + (i * (rowOf c).length + j), none⟩ = some v ∧ a.spot = none ∧ a.block < w.heap.size ∧ Rd w (fun g => g < w.heap.size) u v) := by
            refine ⟨fun i => if hi : i < len then Classical.choose (hone i hi) else dflts _, fun i hi => ?_⟩
            simp only [dif_pos hi]
            exact Classical.choose_spec (hone i hi)
          obtain ⟨f, hf⟩ := hcho
          have hlf : ((List.range len).map f).length = len := by simp
          refine ⟨(ofElems c ((List.range len).map f), ()), RowRd.one ?_, ?_, trivial⟩
          · show Rd _ _ (enc c (ofElems c ((List.range len).map f))) _
            rw [enc_ofElems c h1, hlf]
            refine ⟨some a, cap, rfl, hl, ?_⟩
            by_cases hz : len = 0
            · exact .inl hz
            · right
              have hfirst := hf 0 (by omega)
              obtain ⟨u0, hu0⟩ : ∃ u0, (encs (rowOf c) (f 0))[0]? = some u0 := ⟨_, List.getElem?_eq_getElem (by rw [encs_len]; omega)⟩
              obtain ⟨_, _, hsp, hblk, _⟩ := hfirst.2 0 u0 hu0
              refine ⟨a.block, a.off, ?_, hblk, ?_⟩
              · rcases a with ⟨ab, ao, asp⟩
                simp only at hsp
                subst hsp
                rfl
              · rw [RdC_iff]
                intro i u hu
                have hil : i < len * (rowOf c).length := by
                  have := (List.getElem?_eq_some_iff.1 hu).1
                  rw [flatMap_len (encs (rowOf c)) (rowOf c).length (encs_len _), hlf] at this
                  exact this
                have hq : i / (rowOf c).length < len := Nat.div_lt_of_lt_mul (by rw [Nat.mul_comm]; exact hil)
                have hat := flatMap_at (encs (rowOf c)) (rowOf c).length (encs_len _) ((List.range len).map f) (i / (rowOf c).length) (f 0) (by rw [hlf]; exact hq)
                have hgd : ((List.range len).map f).getD (i / (rowOf c).length) (f 0) = f (i / (rowOf c).length) := by simp [hq]
                rw [hgd] at hat
                have hu' : (encs (rowOf c) (f (i / (rowOf c).length)))[i % (rowOf c).length]? = some u := by
                  rw [← hat, List.getElem?_take, if_pos (Nat.mod_lt _ h5), List.getElem?_drop]
                  rw [show i / (rowOf c).length * (rowOf c).length + i % (rowOf c).length = i by rw [Nat.mul_comm]; exact Nat.div_add_mod _ _]
                  exact hu
                obtain ⟨v, hv1, _, _, hv2⟩ := (hf _ hq).2 _ u hu'
                rw [show i / (rowOf c).length * (rowOf c).length + i % (rowOf c).length = i by rw [Nat.mul_comm]; exact Nat.div_add_mod _ _] at hv1
                exact ⟨v, hv1, hv2⟩
          · rw [enc_ofElems c h1, hlf]
            refine ⟨hlb, okUs_flatMap _ _ fun y hy => ?_⟩
            obtain ⟨i, hi, rfl⟩ := List.mem_map.1 hy
            exact (hf i (List.mem_range.1 hi)).1
    · rename_i fs hu
      simp only [Bool.and_eq_true, beq_iff_eq] at h0
      obtain ⟨xs, m, hn, rfl, hlen, hxl, hr⟩ := DataW.trod_struct hu h
      obtain rfl : n = m := by omega
      simp only [DataW.weights, hu] at hw
      have := fields_read (fun t cells cs x hm h hw => ih t cells cs x hm h hw) fs.toList 0 cells cs xs h0.2 (by simpa using hxl) (by rw [hlen, h0.1]; omega) (fun i f hf => hr i f (by simpa using hf)) hw
      simpa using this
    · cases h0

end
end Go.Vm

namespace Go.Vm
open Go.RowKit

/-! ### The row of a law -/

theorem C.beq_self : (∀ c : C, C.beq c c = true) := by
  intro c
  exact C.rec (motive_1 := fun c => C.beq c c = true) (motive_2 := fun r => C.beqs r r = true)
    (fun k => by simp [C.beq]) rfl rfl (fun c h => by simpa [C.beq] using h) (fun r h => by simpa [C.beq] using h) (fun r h => by simpa [C.beq] using h) rfl (fun c r h1 h2 => by simp [C.beqs, h1, h2]) c

theorem cast?_self (c : C) (x : c.I) : cast? c c x = some x := by
  unfold cast?
  rw [dif_pos (C.beq_self c)]
  unfold castI
  rfl

def argB (P : Program) (tab : List (TypeId × List C)) (t : TypeId) : PT → Bool
  | .one c => hasB tab t [c] && (match P.underlying t with | some .bool | some (.int _) | some .string | some (.slice _) => true | _ => false)
  | .agg row => hasB tab t row && (match P.underlying t with | some (.struct _) => true | _ => false)
  | .fn _ => false

def argsB (P : Program) (tab : List (TypeId × List C)) : List TypeId → List PT → Bool
  | [], [] => true
  | t :: ts, p :: ps => argB P tab t p && argsB P tab ts ps
  | _, _ => false

/-- An argument is as large as a row's reach allows. -/
def okP : (p : PT) → p.I → Prop
  | .one c, x => okU (enc c x)
  | .agg row, x => okUs (encs row x)
  | .fn _, _ => True

def okArgs : (ps : List PT) → Args ps → Prop
  | [], _ => True
  | p :: r, x => okP p x.1 ∧ okArgs r x.2

def cf0 (w : World) : Cf := ⟨w, fun g => g < w.heap.size, [], []⟩

theorem cf0_ok (w : World) : (cf0 w).ok where
  len := rfl
  blk b blk h := by simp [cf0] at h
  inj b b' x y g cap cap' h := by simp [cf0] at h
  av g h := by obtain ⟨b, x, cap, h, _⟩ := h; simp [cf0] at h
  lt g h := h

section
variable {H : Type} {enc' : TypeId × Value → H} {P : Program} {w : World} {spare : Nat → Bool} {held : Bool}

theorem row_agg {w : World} : ∀ (row : List C) (x : C.Is row) (vs : List Value), RowRd w (fun g => g < w.heap.size) (encs row x) vs →
    ((dsOf row x).map V.ofD).length = vs.length ∧ ∀ (i : Nat) (a : V), ((dsOf row x).map V.ofD)[i]? = some a → ∃ u, vs[i]? = some u ∧ (cf0 w).r1 a u := by
  intro row x vs h
  have hl : (dsOf row x).length = (encs row x).length := by rw [← encs_ds, List.length_map]
  refine ⟨by rw [List.length_map, hl, h.1], fun i a ha => ?_⟩
  rw [List.getElem?_map, Option.map_eq_some_iff] at ha
  obtain ⟨d, hd, rfl⟩ := ha
  have : (encs row x)[i]? = some (D.U d) := by rw [← encs_ds, List.getElem?_map, hd]; rfl
  obtain ⟨v, h1, h2⟩ := h.2 i _ this
  exact ⟨v, h1, h2⟩

theorem arg_ok {tab : List (TypeId × List C)} (ht : rdTab P tab = true) {t : TypeId} {p : PT} (hp : argB P tab t p = true) {v : Value} {d : DataW H} {pl : List MemPlace} {base : Nat}
    (hval : Value.okWide P w .any base t v) (hd : DataW.Trod enc' P w 0 spare held t v d pl) (hw : ∀ m ∈ d.weights P t, m ≤ reachBytes) :
    ∃ x : p.I, (cf0 w).ra0 (encP p x) v ∧ okP p x := by
  obtain ⟨fuel, hf⟩ := hd
  cases p with
  | one c =>
    simp only [argB, Bool.and_eq_true] at hp
    obtain ⟨xs, h1, h2⟩ := reads_ok ht fuel t [c] _ _ (hasB_mem hp.1) hf hw
    have hv : v.cells.toList = [v] := by
      have h3 := hp.2
      split at h3
      · rename_i hu; obtain ⟨b, rfl⟩ := WideShapes.okWide_bool hu hval; rfl
      · rename_i k hu; obtain ⟨b, rfl⟩ := WideShapes.okWide_int hu hval; rfl
      · rename_i hu; obtain ⟨b, rfl⟩ := WideShapes.okWide_string hu hval; rfl
      · rename_i e hu; obtain ⟨a, l, cp, rfl⟩ := WideShapes.okWide_slice hu hval; rfl
      · cases h3
    rw [hv] at h1
    obtain ⟨v', h4, h5⟩ := h1.2 0 _ rfl
    simp at h4; subst h4
    exact ⟨xs.1, h5, h2.1⟩
  | agg row =>
    simp only [argB, Bool.and_eq_true] at hp
    obtain ⟨xs, h1, h2⟩ := reads_ok ht fuel t row _ _ (hasB_mem hp.1) hf hw
    have h3 := hp.2
    split at h3
    · rename_i fs hu
      obtain ⟨cs, rfl, _⟩ := WideShapes.okWide_struct hu hval
      obtain ⟨h4, h5⟩ := row_agg row xs _ h1
      refine ⟨xs, ⟨cs, rfl, ?_, fun i x hx => ?_⟩, h2⟩
      · rw [h4]; simp [Value.cells]
      · obtain ⟨u, h6, h7⟩ := h5 i x hx
        exact ⟨u, by simpa [Value.cells] using h6, h7⟩
    · cases h3
  | fn f => cases hp

theorem args_ok {tab : List (TypeId × List C)} (ht : rdTab P tab = true) {base : Nat} : ∀ (ts : List TypeId) (ps : List PT) (vs : List Value) (ds : List (DataW H)) (pl : List MemPlace), argsB P tab ts ps = true →
    (∀ (j : Nat) t v, ts[j]? = some t → vs[j]? = some v → Value.okWide P w .any base t v) → DataW.TrodAll enc' P w 0 spare held ts vs ds pl → (∀ m ∈ DataW.weightsEach P ts ds, m ≤ reachBytes) →
    ∃ x : Args ps, vs.length = (encArgs ps x).length ∧ (∀ (i : Nat) (a : A0), (encArgs ps x)[i]? = some a → ∃ v, vs[i]? = some v ∧ (cf0 w).ra0 a v) ∧ okArgs ps x
  | [], [], [], [], pl, _, _, h, _ => ⟨(), rfl, fun i a h => by simp [encArgs] at h, trivial⟩
  | t :: ts, p :: ps, v :: vs, d :: ds, pl, hb, hval, h, hw => by
    simp only [argsB, Bool.and_eq_true] at hb
    obtain ⟨p1, q1, h1, h2, _⟩ := h
    simp only [DataW.weightsEach, List.mem_append] at hw
    obtain ⟨x, hx1, hx2⟩ := arg_ok ht hb.1 (hval 0 t v rfl rfl) h1 fun m hm => hw m (.inl hm)
    obtain ⟨y, hy1, hy2, hy3⟩ := args_ok ht ts ps vs ds q1 hb.2 (fun j t v h1 h2 => hval (j + 1) t v (by simpa using h1) (by simpa using h2)) h2 fun m hm => hw m (.inr hm)
    refine ⟨(x, y), by simp [encArgs, hy1], fun i a ha => ?_, hx2, hy3⟩
    cases i with
    | zero => simp [encArgs] at ha; subst ha; exact ⟨v, rfl, hx1⟩
    | succ i =>
      obtain ⟨u, h3, h4⟩ := hy2 i a (by simpa [encArgs] using ha)
      exact ⟨u, by simpa using h3, h4⟩
  | [], p :: ps, _, _, _, hb, _, _, _ => by cases hb
  | t :: ts, [], _, _, _, hb, _, _, _ => by cases hb
  | [], [], _ :: _, _, _, _, _, h, _ => by simp [DataW.TrodAll] at h
  | [], [], [], _ :: _, _, _, _, h, _ => by simp [DataW.TrodAll] at h
  | _ :: _, _ :: _, [], _, _, _, _, h, _ => by simp [DataW.TrodAll] at h
  | _ :: _, _ :: _, _ :: _, [], _, _, _, h, _ => by simp [DataW.TrodAll] at h

end

theorem lendRow_enc (lend : Bool) (mem : List Blk) : ∀ (r : List C) (x : C.Is r), lendRow lend mem r ((dsOf r x).map V.ofD) = some x
  | [], _ => rfl
  | c :: r, x => by
    simp only [dsOf, List.map_cons, lendRow]
    have : lendC lend mem c (V.ofD ⟨c, x.1⟩) = some x.1 := cast?_self c x.1
    rw [this, lendRow_enc lend mem r x.2]
    rfl

theorem decArgs_enc (lend : Bool) (mem : List Blk) : ∀ (ps : List PT) (x : Args ps), decArgs lend mem ps (encArgs ps x) = some x
  | [], _ => rfl
  | p :: r, x => by
    have : decP lend mem p (encP p x.1) = some x.1 := by
      cases p with
      | one c => exact cast?_self c x.1
      | agg row => exact lendRow_enc lend mem row x.1
      | fn f => exact if_pos rfl
    have h2 := decArgs_enc lend mem r x.2
    unfold encArgs decArgs
    rw [this]
    show (match decArgs lend mem r (encArgs r x.2) with | some y => some (x.1, y) | none => none) = some x
    rw [h2]
    rfl

theorem law_runs {P : Program} {gl : Nat → V} {f : Nat} {ps : List PT} {F : Args ps → Option (Res [.one false .bool])} (hS : HSound P gl f true (hP ps [.one false .bool] F)) {w : World} (hgl : GlobOK gl (cf0 w))
    {args : Array Value} {x : Args ps} (hlen : args.toList.length = (encArgs ps x).length) (hx : ∀ (i : Nat) (a : A0), (encArgs ps x)[i]? = some a → ∃ v, args.toList[i]? = some v ∧ (cf0 w).ra0 a v) (hF : F x = some (true, ())) :
    Calls P f args w fun e w' => e = .returned (.bool true) ∧ Below w.heap.size w w' := by
  have h := hS.2 Bool (encArgs ps x) args.toList (cf0 w) (fun a _ => match a with | .v (.one (.d .bool b)) => some b | _ => none) true (cf0_ok w) hgl hlen hx (by
    unfold hP
    have e : decArgs (safe [.one false .bool]) (cf0 w).mem ps (encArgs ps x) = some x := decArgs_enc _ _ ps x
    rw [e]
    show (F x).bind _ = _
    rw [hF]
    rfl)
  have h' : Calls P f args w _ := h
  refine h'.mono ?_
  rintro e w' ⟨v, av, Al, be, mem', he0, hK, _, _, hra, hext, _⟩
  subst he0
  have he := hext rfl
  refine ⟨?_, ⟨he.os, he.tape, he.output, he.size, he.block⟩⟩
  split at hK
  · rename_i b
    cases hK
    have : v = .bool true := hra
    rw [this]
  · cases hK

end Go.Vm

namespace Go.Vm

/-! ### Functions that write into what their caller owns: slices, boxes, what a closure has captured -/

inductive OK where
  | arr (c : C)
  | box (row : List C)

def OK.I : OK → Type
  | .arr c => c.I
  | .box row => C.Is row

def Os : List OK → Type
  | [] => Unit
  | o :: r => o.I × Os r

def OK.blk : (o : OK) → o.I → Blk
  | .arr c, x => .arr c x
  | .box row, x => .box ((dsOf row x).map V.ofD)

def OK.take : (o : OK) → Blk → Option o.I
  | .arr c, .arr c' xs => cast? c' c xs
  | .box row, .box cs => asRow row cs
  | _, _ => none

def Rows : List (List C) → Type
  | [] => Unit
  | r :: l => C.Is r × Rows l

/-- A parameter: as a result's form has it (a marked cell is a slice that is moved in and out); a pointer to a box of the caller's own; a closure over such boxes. -/
inductive MT where
  | rt (t : RT)
  | box (row : List C)
  | clo (f : Nat) (caps : List (List C))

def MT.I : MT → Type
  | .rt t => t.I
  | .box row => C.Is row
  | .clo _ caps => Rows caps

def MArgs : List MT → Type
  | [] => Unit
  | t :: r => t.I × MArgs r

def MT.oks : MT → List OK
  | .rt t => (ownCs [t]).map .arr
  | .box row => [.box row]
  | .clo _ caps => caps.map .box

def oksOf : List MT → List OK
  | [] => []
  | t :: r => t.oks ++ oksOf r

def blkCaps : (caps : List (List C)) → Rows caps → List Blk
  | [], _ => []
  | row :: r, x => .box ((dsOf row x.1).map V.ofD) :: blkCaps r x.2

def blkM : (t : MT) → t.I → List Blk
  | .rt t, x => blkR t x
  | .box row, x => [.box ((dsOf row x).map V.ofD)]
  | .clo _ caps, x => blkCaps caps x

def blkMs : (ps : List MT) → MArgs ps → List Blk
  | [], _ => []
  | t :: r, x => blkM t x.1 ++ blkMs r x.2

def ptrs : Nat → Nat → List CV
  | 0, _ => []
  | k + 1, n => .ptr n 0 :: ptrs k (n + 1)

def encM : (t : MT) → t.I → Nat → A0
  | .rt t, x, n => encR t x n
  | .box _, _, n => .one (.ptr n 0)
  | .clo f caps, _, n => .one (.clo f (ptrs caps.length n))

def encMs : (ps : List MT) → MArgs ps → Nat → List A0
  | [], _, _ => []
  | t :: r, x, n => encM t x.1 n :: encMs r x.2 (n + t.oks.length)

def movBox (mem : List Blk) (row : List C) (b : Nat) (ids : List Nat) : Option (C.Is row × List Nat) :=
  if ids.contains b then none else match mem[b]? with
    | some (.box cs) => match asRow row cs with
      | some x => some (x, ids ++ [b])
      | none => none
    | _ => none

def movCaps (mem : List Blk) : (caps : List (List C)) → List CV → List Nat → Option (Rows caps × List Nat)
  | [], [], ids => some ((), ids)
  | row :: r, .ptr b 0 :: l, ids => match movBox mem row b ids with
    | some (x, ids') => match movCaps mem r l ids' with
      | some (y, u) => some ((x, y), u)
      | none => none
    | none => none
  | _, _, _ => none

def movM (mem : List Blk) : (t : MT) → A0 → List Nat → Option (t.I × List Nat)
  | .rt t, a, ids => movR mem t a ids
  | .box row, .one (.ptr b 0), ids => movBox mem row b ids
  | .clo f caps, .one (.clo f' cvs), ids => if f' = f then movCaps mem caps cvs ids else none
  | _, _, _ => none

def movMs (mem : List Blk) : (ps : List MT) → List A0 → List Nat → Option (MArgs ps × List Nat)
  | [], [], ids => some ((), ids)
  | t :: r, a :: l, ids => match movM mem t a ids with
    | some (x, ids') => match movMs mem r l ids' with
      | some (y, u) => some ((x, y), u)
      | none => none
    | none => none
  | _, _, _ => none

def takeOs : (os : List OK) → List Blk → Option (Os os)
  | [], _ => some ()
  | o :: r, B :: m => match o.take B with
    | some x => match takeOs r m with
      | some y => some (x, y)
      | none => none
    | none => none
  | _ :: _, _ => none

def setOs : (os : List OK) → Os os → List Nat → List Blk → List Blk
  | [], _, _, m => m
  | _ :: _, _, [], m => m
  | o :: r, x, b :: ids, m => setOs r x.2 ids (m.set b (o.blk x.1))

/-- The answer: results, and what the moved blocks hold; a result of the callee's own is none of those. -/
def retX (rs : List RT) (ps : List MT) : Cont (Res rs × Os (oksOf ps)) := fun a mem => match takeOs (oksOf ps) mem with
  | some o => match a with
    | .v a => match decRes mem rs [a] (List.range (oksOf ps).length) with
      | some x => some (x, o)
      | none => none
    | .tup l => if l.length == 1 then none else match decRes mem rs l (List.range (oksOf ps).length) with
      | some x => some (x, o)
      | none => none
  | none => none

/-- The handler of a function that writes into what its caller owns. -/
def hX (ps : List MT) (rs : List RT) (F : MArgs ps → Option (Res rs × Os (oksOf ps))) : Hnd := fun _ args mem K =>
  match movMs mem ps args [] with
  | none => none
  | some (x, ids) => (F x).bind fun r => K (outOf (encRes rs r.1 mem.length)) (setOs (oksOf ps) r.2 ids mem ++ blkRes rs r.1)

/-- The blocks 'new' hold what is moved; the callee sees them as 'blks'. -/
def FitX (mem : List Blk) (new : List Nat) (os : List OK) (blks : List Blk) : Prop :=
  new.length = os.length ∧ blks.length = os.length ∧ ∀ (j b : Nat), new[j]? = some b → ∃ (o : OK) (x : o.I) (B : Blk), os[j]? = some o ∧ mem[b]? = some B ∧ o.take B = some x ∧ blks[j]? = some (o.blk x)

theorem FitX.nil {mem : List Blk} : FitX mem [] [] [] := ⟨rfl, rfl, fun j b h => by simp at h⟩

theorem FitX.append {mem : List Blk} {n1 n2 : List Nat} {o1 o2 : List OK} {b1 b2 : List Blk} (h1 : FitX mem n1 o1 b1) (h2 : FitX mem n2 o2 b2) : FitX mem (n1 ++ n2) (o1 ++ o2) (b1 ++ b2) := by
  obtain ⟨p1, p2, p3⟩ := h1
  obtain ⟨q1, q2, q3⟩ := h2
  refine ⟨by simp [p1, q1], by simp [p2, q2], fun j b h => ?_⟩
  by_cases hj : j < n1.length
  · rw [List.getElem?_append_left hj] at h
    obtain ⟨o, x, B, e1, e2, e3, e4⟩ := p3 j b h
    exact ⟨o, x, B, by rw [List.getElem?_append_left (by omega)]; exact e1, e2, e3, by rw [List.getElem?_append_left (by omega)]; exact e4⟩
  · rw [List.getElem?_append_right (by omega)] at h
    obtain ⟨o, x, B, e1, e2, e3, e4⟩ := q3 _ b h
    refine ⟨o, x, B, ?_, e2, e3, ?_⟩
    · rw [List.getElem?_append_right (by omega)]; rw [show j - o1.length = j - n1.length by omega]; exact e1
    · rw [List.getElem?_append_right (by omega)]; rw [show j - b1.length = j - n1.length by omega]; exact e4

/-- 'c0' has the blocks 'ids' of 'c'. -/
structure SubX (c c0 : Cf) (ids : List Nat) : Prop where
  w : c0.w = c.w
  al : c0.Al = c.Al
  arr : ∀ (j b : Nat) (k : C) (xs : k.I), ids[j]? = some b → c.mem[b]? = some (.arr k xs) → c0.mem[j]? = some (.arr k xs)
  be : ∀ (j b : Nat), ids[j]? = some b → c0.be[j]? = c.be[b]?

theorem SubX.pre {c c0 : Cf} {ids more : List Nat} (h : SubX c c0 (ids ++ more)) : SubX c c0 ids :=
  ⟨h.w, h.al, fun j b k xs hb => h.arr j b k xs (by rw [List.getElem?_append_left (List.getElem?_eq_some_iff.1 hb).1]; exact hb), fun j b hb => h.be j b (by rw [List.getElem?_append_left (List.getElem?_eq_some_iff.1 hb).1]; exact hb)⟩

/-- What moving says of one cell. -/
theorem movC_okX {c : Cf} {o : Bool} {k : C} {y : V} {ids ids' : List Nat} {x : k.I} (h : movC c.mem o k y ids = some (x, ids')) :
    ∃ new, ids' = ids ++ new ∧ FitX c.mem new ((ownCells [(o, k)]).map .arr) (blkCells [(o, k)] (x, ())) ∧ (∀ b ∈ new, b ∉ ids) ∧ new.Nodup ∧
      ∀ (c0 : Cf) (v : Value), SubX c c0 ids' → c.r1 y v → ∃ y', encCells [(o, k)] (x, ()) ids.length = [y'] ∧ c0.r1 y' v := by
  cases o with
  | true =>
    cases y with
    | ref b =>
      simp only [movC] at h
      split at h
      · cases h
      · rename_i hb
        split at h
        · rename_i c' xs hm
          split at h
          · rename_i z hz
            cases h
            have he := cast?_eq hz
            rw [he] at hm
            refine ⟨[b], rfl, ⟨rfl, rfl, fun j b' hj => ?_⟩, by simpa using hb, by simp, fun c0 v hs hv => ⟨.ref ids.length, rfl, ?_⟩⟩
            · match j with
              | 0 => simp at hj; subst hj; exact ⟨.arr k, x, _, rfl, hm, cast?_self k x, rfl⟩
              | j + 1 => simp at hj
            · have e1 : (ids ++ [b])[ids.length]? = some b := by simp
              simp only [Cf.r1, hm] at hv
              simp only [Cf.r1, hs.arr _ _ _ _ e1 hm]
              unfold RefAt at hv ⊢
              rw [hs.be _ _ e1]
              exact hv
          · cases h
        · cases h
    | _ => simp [movC] at h
  | false =>
    have h : (match asC k y with | some x => some (x, ids) | none => none) = some (x, ids') := by
      cases y <;> exact h
    split at h
    · rename_i z hz
      cases h
      refine ⟨[], by simp, FitX.nil, by simp, by simp, fun c0 v hs hv => ⟨.d k x, rfl, ?_⟩⟩
      have := asC_ok (c := c) hz v hv
      show Rd c0.w c0.Al (enc k x) v
      rw [hs.w, hs.al]; exact this
    · cases h

theorem movCells_okX {c : Cf} : ∀ {cells : List (Bool × C)} {vs : List V} {ids ids' : List Nat} {x : C.Is (codes cells)}, movCells c.mem cells vs ids = some (x, ids') →
    ∃ new, ids' = ids ++ new ∧ new.length = owns cells ∧ FitX c.mem new ((ownCells cells).map .arr) (blkCells cells x) ∧ (∀ b ∈ new, b ∉ ids) ∧ new.Nodup ∧ vs.length = (encCells cells x ids.length).length ∧
      ∀ (c0 : Cf), SubX c c0 ids' → ∀ (i : Nat) (y y' : V) (v : Value), vs[i]? = some y → (encCells cells x ids.length)[i]? = some y' → c.r1 y v → c0.r1 y' v
  | [], [], ids, ids', x, h => by
    simp only [movCells] at h; cases h
    exact ⟨[], by simp, rfl, FitX.nil, by simp, by simp, rfl, fun c0 _ i y y' v hy => by simp at hy⟩
  | [], _ :: _, _, _, _, h => by simp [movCells] at h
  | _ :: _, [], _, _, _, h => by simp [movCells] at h
  | (o, k) :: r, y0 :: vs, ids, ids', x, h => by
    simp only [movCells] at h
    split at h
    · rename_i x0 u0 h0
      split at h
      · rename_i x1 u1 h1
        cases h
        obtain ⟨n0, rfl, f0, d0, nd0, r0⟩ := movC_okX h0
        obtain ⟨n1, rfl, l1, f1, d1, nd1, len1, r1⟩ := movCells_okX h1
        have hlen0 : n0.length = owns [(o, k)] := by rw [f0.1]; cases o <;> rfl
        have hsplit : ∀ n, encCells ((o, k) :: r) (x0, x1) n = encCells [(o, k)] (x0, ()) n ++ encCells r x1 (n + owns [(o, k)]) := by
          intro n; cases o <;> rfl
        have hbl : blkCells ((o, k) :: r) (x0, x1) = blkCells [(o, k)] (x0, ()) ++ blkCells r x1 := by cases o <;> rfl
        have hoc : ownCells ((o, k) :: r) = ownCells [(o, k)] ++ ownCells r := by cases o <;> rfl
        have hon : owns ((o, k) :: r) = owns [(o, k)] + owns r := by cases o <;> simp [owns] <;> omega
        have h1len : (encCells [(o, k)] (x0, ()) ids.length).length = 1 := by cases o <;> rfl
        have hil : (ids ++ n0).length = ids.length + owns [(o, k)] := by rw [List.length_append, hlen0]
        refine ⟨n0 ++ n1, by simp, by rw [List.length_append, hlen0, l1, hon], by rw [hbl, hoc, List.map_append]; exact f0.append f1, ?_, ?_, ?_, ?_⟩
        · intro b hb
          rcases List.mem_append.1 hb with hb | hb
          · exact d0 b hb
          · exact fun hbi => d1 b hb (List.mem_append_left _ hbi)
        · rw [List.nodup_append]
          exact ⟨nd0, nd1, fun b hb b' hb' e => d1 b' hb' (List.mem_append_right _ (e ▸ hb))⟩
        · rw [hsplit, List.length_append, h1len, ← hil, ← len1, List.length_cons]; omega
        · intro c0 hs i y y' v hy hy' hv
          rw [hsplit] at hy'
          cases i with
          | zero =>
            simp at hy; subst hy
            obtain ⟨y2, e2, hr⟩ := r0 c0 v hs.pre hv
            rw [e2] at hy'
            simp at hy'; subst hy'; exact hr
          | succ i =>
            rw [List.getElem?_append_right (by omega), h1len, ← hil] at hy'
            exact r1 c0 hs i y y' v (by simpa using hy) (by simpa using hy') hv
      · cases h
    · cases h

theorem movR_okX {c : Cf} {t : RT} {a : A0} {ids ids' : List Nat} {x : t.I} (h : movR c.mem t a ids = some (x, ids')) :
    ∃ new, ids' = ids ++ new ∧ new.length = t.owns ∧ FitX c.mem new ((ownCs [t]).map .arr) (blkR t x) ∧ (∀ b ∈ new, b ∉ ids) ∧ new.Nodup ∧
      ∀ (c0 : Cf), SubX c c0 ids' → ∀ (v : Value), c.ra0 a v → c0.ra0 (encR t x ids.length) v := by
  cases t with
  | one o k =>
    cases a with
    | agg vs => exact nomatch h
    | one y =>
      obtain ⟨n0, rfl, f0, d0, nd0, r0⟩ := movC_okX (show movC c.mem o k y ids = some (x, ids') from h)
      refine ⟨n0, rfl, by rw [f0.1]; cases o <;> rfl, by cases o <;> exact f0, d0, nd0, fun c0 hs v hv => ?_⟩
      obtain ⟨y2, e2, hr⟩ := r0 c0 v hs hv
      cases o <;> (cases e2; exact hr)
  | agg cells =>
    cases a with
    | one y => exact nomatch h
    | agg vs =>
      obtain ⟨n1, rfl, l1, f1, d1, nd1, len1, r1⟩ := movCells_okX (show movCells c.mem cells vs ids = some (x, ids') from h)
      refine ⟨n1, rfl, l1, by rw [show ownCs [RT.agg cells] = ownCells cells by simp [ownCs]]; exact f1, d1, nd1, fun c0 hs v hv => ?_⟩
      obtain ⟨ws, rfl, hsz, hx⟩ := hv
      refine ⟨ws, rfl, by rw [hsz, len1], fun i y' hy' => ?_⟩
      have hi : i < vs.length := by rw [len1]; exact (List.getElem?_eq_some_iff.1 hy').1
      obtain ⟨u, hu, hr⟩ := hx i _ (List.getElem?_eq_getElem hi)
      exact ⟨u, hu, r1 c0 hs i _ y' u (List.getElem?_eq_getElem hi) hy' hr⟩


theorem movBox_okX {c : Cf} {row : List C} {b : Nat} {ids ids' : List Nat} {x : C.Is row} (h : movBox c.mem row b ids = some (x, ids')) :
    ids' = ids ++ [b] ∧ FitX c.mem [b] [.box row] [.box ((dsOf row x).map V.ofD)] ∧ b ∉ ids ∧ ∀ (c0 : Cf) (v : Value), SubX c c0 ids' → c.r1 (.ptr b 0) v → c0.r1 (.ptr ids.length 0) v := by
  unfold movBox at h
  split at h
  · cases h
  · rename_i hb
    split at h
    · rename_i cs hm
      split at h
      · rename_i z hz
        cases h
        refine ⟨rfl, ⟨rfl, rfl, fun j b' hj => ?_⟩, by simpa using hb, fun c0 v hs hv => ?_⟩
        · match j with
          | 0 => simp at hj; subst hj; exact ⟨.box row, x, _, rfl, hm, hz, rfl⟩
          | j + 1 => simp at hj
        · obtain ⟨g, cap, e, rfl⟩ := hv
          exact ⟨g, cap, by rw [hs.be ids.length b (by simp)]; exact e, rfl⟩
      · cases h
    · cases h

theorem movCaps_okX {c : Cf} : ∀ {caps : List (List C)} {cvs : List CV} {ids ids' : List Nat} {x : Rows caps}, movCaps c.mem caps cvs ids = some (x, ids') →
    ∃ new, ids' = ids ++ new ∧ new.length = caps.length ∧ FitX c.mem new (caps.map .box) (blkCaps caps x) ∧ (∀ b ∈ new, b ∉ ids) ∧ new.Nodup ∧
      ∀ (c0 : Cf), SubX c c0 ids' → ∀ vs, CapsOK c.w c.Al c.be cvs vs → CapsOK c0.w c0.Al c0.be (ptrs caps.length ids.length) vs
  | [], [], ids, ids', x, h => by
    simp only [movCaps] at h; cases h
    exact ⟨[], by simp, rfl, FitX.nil, by simp, by simp, fun c0 _ vs h => h⟩
  | [], _ :: _, _, _, _, h => by simp [movCaps] at h
  | _ :: _, [], _, _, _, h => by simp [movCaps] at h
  | _ :: _, .d _ _ :: _, _, _, _, h => by simp [movCaps] at h
  | _ :: _, .ptr _ (_ + 1) :: _, _, _, _, h => by simp [movCaps] at h
  | row :: r, .ptr b 0 :: l, ids, ids', x, h => by
    simp only [movCaps] at h
    split at h
    · rename_i x0 u0 h0
      split at h
      · rename_i x1 u1 h1
        cases h
        obtain ⟨rfl, f0, d0, r0⟩ := movBox_okX h0
        obtain ⟨n1, rfl, l1, f1, d1, nd1, r1⟩ := movCaps_okX h1
        refine ⟨b :: n1, by simp, by simp [l1], f0.append f1, ?_, ?_, fun c0 hs vs hv => ?_⟩
        · intro b' hb'
          rcases List.mem_cons.1 hb' with rfl | hb'
          · exact d0
          · exact fun hbi => d1 b' hb' (List.mem_append_left _ hbi)
        · rw [List.nodup_cons]
          exact ⟨fun hb' => d1 b hb' (by simp), nd1⟩
        · obtain ⟨g, cap, vs', e1, rfl, h2⟩ := hv
          have := r0 c0 (.pointer (some ⟨g, 0, none⟩)) hs.pre ⟨g, cap, e1, rfl⟩
          obtain ⟨g', cap', e2, e3⟩ := this
          injection e3 with e3
          injection e3 with e3
          injection e3 with e3
          subst e3
          refine ⟨g, cap', vs', e2, rfl, ?_⟩
          have := r1 c0 hs vs' h2
          simpa using this
      · cases h
    · cases h

theorem blkR_len (t : RT) (x : t.I) : (blkR t x).length = (ownCs [t]).length := by
  cases t with
  | one o c => cases o <;> rfl
  | agg cells =>
    show (blkCells cells x).length = (ownCells cells ++ []).length
    rw [List.append_nil]
    induction cells with
    | nil => rfl
    | cons a r ih =>
      obtain ⟨o, c⟩ := a
      cases o
      · exact ih x.2
      · show (blkCells r x.2).length + 1 = (ownCells r).length + 1
        rw [ih x.2]

theorem movM_okX {c : Cf} {t : MT} {a : A0} {ids ids' : List Nat} {x : t.I} (h : movM c.mem t a ids = some (x, ids')) :
    ∃ new, ids' = ids ++ new ∧ new.length = t.oks.length ∧ FitX c.mem new t.oks (blkM t x) ∧ (∀ b ∈ new, b ∉ ids) ∧ new.Nodup ∧
      ∀ (c0 : Cf), SubX c c0 ids' → ∀ (v : Value), c.ra0 a v → c0.ra0 (encM t x ids.length) v := by
  cases t with
  | rt t =>
    obtain ⟨n, e1, e2, e3, e4, e5, e6⟩ := movR_okX (show movR c.mem t a ids = some (x, ids') from h)
    exact ⟨n, e1, e3.1, e3, e4, e5, e6⟩
  | box row =>
    cases a with
    | agg vs => exact nomatch h
    | one y =>
      cases y with
      | ptr b off =>
        cases off with
        | zero =>
          obtain ⟨e1, e2, e3, e4⟩ := movBox_okX (show movBox c.mem row b ids = some (x, ids') from h)
          exact ⟨[b], e1, rfl, e2, by simpa using e3, by simp, fun c0 hs v hv => e4 c0 v hs hv⟩
        | succ off => exact nomatch h
      | _ => exact nomatch h
  | clo f caps =>
    cases a with
    | agg vs => exact nomatch h
    | one y =>
      cases y with
      | clo f' cvs =>
        have h : (if f' = f then movCaps c.mem caps cvs ids else none) = some (x, ids') := h
        split at h
        · rename_i hf
          subst hf
          obtain ⟨n, e1, e2, e3, e4, e5, e6⟩ := movCaps_okX h
          refine ⟨n, e1, by rw [e2]; simp [MT.oks], e3, e4, e5, fun c0 hs v hv => ?_⟩
          obtain ⟨vs, rfl, hc⟩ := hv
          exact ⟨vs, rfl, e6 c0 hs vs hc⟩
        · cases h
      | _ => exact nomatch h

theorem movMs_okX {c : Cf} : ∀ {ps : List MT} {args : List A0} {ids ids' : List Nat} {x : MArgs ps}, movMs c.mem ps args ids = some (x, ids') →
    ∃ new, ids' = ids ++ new ∧ FitX c.mem new (oksOf ps) (blkMs ps x) ∧ (∀ b ∈ new, b ∉ ids) ∧ new.Nodup ∧ args.length = ps.length ∧ (encMs ps x ids.length).length = ps.length ∧
      ∀ (c0 : Cf), SubX c c0 ids' → ∀ (i : Nat) (a a' : A0) (v : Value), args[i]? = some a → (encMs ps x ids.length)[i]? = some a' → c.ra0 a v → c0.ra0 a' v
  | [], [], ids, ids', x, h => by
    simp only [movMs] at h; cases h
    exact ⟨[], by simp, FitX.nil, by simp, by simp, rfl, rfl, fun c0 _ i a a' v ha => by simp at ha⟩
  | [], _ :: _, _, _, _, h => by simp [movMs] at h
  | _ :: _, [], _, _, _, h => by simp [movMs] at h
  | t :: ps, a0 :: args, ids, ids', x, h => by
    simp only [movMs] at h
    split at h
    · rename_i x0 u0 h0
      split at h
      · rename_i x1 u1 h1
        cases h
        obtain ⟨n0, rfl, l0, f0, d0, nd0, r0⟩ := movM_okX h0
        obtain ⟨n1, rfl, f1, d1, nd1, la, le, r1⟩ := movMs_okX h1
        have hil : (ids ++ n0).length = ids.length + t.oks.length := by rw [List.length_append, l0]
        have henc : encMs (t :: ps) (x0, x1) ids.length = encM t x0 ids.length :: encMs ps x1 (ids ++ n0).length := by rw [hil]; rfl
        refine ⟨n0 ++ n1, by simp, f0.append f1, ?_, ?_, by simp [la], by rw [henc, List.length_cons, le]; rfl, ?_⟩
        · intro b hb
          rcases List.mem_append.1 hb with hb | hb
          · exact d0 b hb
          · exact fun hbi => d1 b hb (List.mem_append_left _ hbi)
        · rw [List.nodup_append]
          exact ⟨nd0, nd1, fun b hb b' hb' e => d1 b' hb' (List.mem_append_right _ (e ▸ hb))⟩
        · intro c0 hs i a a' v ha ha' hv
          rw [henc] at ha'
          cases i with
          | zero => simp at ha ha'; subst ha; subst ha'; exact r0 c0 hs.pre v hv
          | succ i => exact r1 c0 hs i a a' v (by simpa using ha) (by simpa using ha') hv
      · cases h
    · cases h

theorem takeOs_ok : ∀ {os : List OK} {m : List Blk} {o : Os os}, takeOs os m = some o → ∀ (j : Nat) (k : OK), os[j]? = some k → ∃ B x, m[j]? = some B ∧ k.take B = some x
  | [], _, _, _, j, k, hj => by simp at hj
  | _ :: _, [], _, h, _, _, _ => by simp [takeOs] at h
  | c :: cs, b :: m, o, h, j, k, hj => by
    simp only [takeOs] at h
    split at h
    · rename_i x hx
      split at h
      · rename_i y hy
        cases h
        cases j with
        | zero => simp at hj; subst hj; exact ⟨b, x, rfl, hx⟩
        | succ j => simpa using takeOs_ok hy j k (by simpa using hj)
      · cases h
    · cases h

theorem setOs_len : ∀ (cs : List OK) (o : Os cs) (ids : List Nat) (m : List Blk), (setOs cs o ids m).length = m.length
  | [], _, _, _ => rfl
  | _ :: _, _, [], _ => rfl
  | c :: cs, x, b :: ids, m => by simp only [setOs]; rw [setOs_len]; simp

theorem setOs_out : ∀ (cs : List OK) (o : Os cs) (ids : List Nat) (m : List Blk) (b : Nat), b ∉ ids → (setOs cs o ids m)[b]? = m[b]?
  | [], _, _, _, _, _ => rfl
  | _ :: _, _, [], _, _, _ => rfl
  | c :: cs, x, b' :: ids, m, b, h => by
    simp only [List.mem_cons, not_or] at h
    simp only [setOs]
    rw [setOs_out cs x.2 ids _ b h.2, List.getElem?_set_ne (Ne.symm h.1)]

theorem setOs_in : ∀ (cs : List OK) (o : Os cs) (ids : List Nat) (m m1 : List Blk), takeOs cs m1 = some o → ids.Nodup → ids.length = cs.length → (∀ b ∈ ids, b < m.length) →
    ∀ (j b : Nat), ids[j]? = some b → ∃ k B x, cs[j]? = some k ∧ m1[j]? = some B ∧ k.take B = some x ∧ (setOs cs o ids m)[b]? = some (k.blk x)
  | [], _, [], _, _, _, _, _, _, j, b, h => by simp at h
  | [], _, _ :: _, _, _, _, _, hl, _, _, _, _ => by simp at hl
  | _ :: _, _, [], _, _, _, _, hl, _, _, _, _ => by simp at hl
  | _ :: _, _, _ :: _, _, [], ht, _, _, _, _, _, _ => by simp [takeOs] at ht
  | c :: cs, x, b' :: ids, m, b1 :: m1, ht, hn, hl, hlt, j, b, h => by
    simp only [takeOs] at ht
    split at ht
    · rename_i x0 hx
      split at ht
      · rename_i y hy
        cases ht
        rw [List.nodup_cons] at hn
        simp only [setOs]
        cases j with
        | zero =>
          simp at h; subst h
          refine ⟨c, b1, x0, rfl, rfl, hx, ?_⟩
          rw [setOs_out _ _ _ _ _ hn.1, List.getElem?_set_self (hlt _ List.mem_cons_self)]
        | succ j =>
          simp only [List.getElem?_cons_succ] at h ⊢
          exact setOs_in cs y ids _ m1 hy hn.2 (by simpa using hl) (fun z hz => by rw [List.length_set]; exact hlt z (List.mem_cons_of_mem _ hz)) j b h
      · cases ht
    · cases ht


/-- What is moved stands among the arguments. -/
theorem blksOf_append : ∀ (a b : List V), blksOf (a ++ b) = blksOf a ++ blksOf b
  | [], _ => rfl
  | .clo f caps :: r, b => by simp [blksOf, blksOf_append r b]
  | .ptr x y :: r, b => by simp [blksOf, blksOf_append r b]
  | .ref x :: r, b => by simp [blksOf, blksOf_append r b]
  | .ep x y z :: r, b => by simp [blksOf, blksOf_append r b]
  | .d _ _ :: r, b => by simp [blksOf, blksOf_append r b]
  | .nils :: r, b => by simp [blksOf, blksOf_append r b]
  | .dp _ :: r, b => by simp [blksOf, blksOf_append r b]
  | .da _ _ :: r, b => by simp [blksOf, blksOf_append r b]
  | .undef :: r, b => by simp [blksOf, blksOf_append r b]
  | .junk :: r, b => by simp [blksOf, blksOf_append r b]

theorem movC_args {mem : List Blk} {o : Bool} {k : C} {y : V} {ids ids' : List Nat} {x : k.I} (h : movC mem o k y ids = some (x, ids')) : ∀ b ∈ ids', b ∈ ids ∨ b ∈ blksOf [y] := by
  cases o with
  | true =>
    cases y with
    | ref b =>
      simp only [movC] at h
      split at h
      · cases h
      · split at h
        · split at h
          · cases h
            intro b' hb'
            rcases List.mem_append.1 hb' with hb' | hb'
            · exact .inl hb'
            · simp at hb'; subst hb'; exact .inr (by simp [blksOf])
          · cases h
        · cases h
    | _ => simp [movC] at h
  | false =>
    have h : (match asC k y with | some x => some (x, ids) | none => none) = some (x, ids') := by
      cases y <;> exact h
    split at h
    · cases h; exact fun b hb => .inl hb
    · cases h

theorem movCells_args {mem : List Blk} : ∀ {cells : List (Bool × C)} {vs : List V} {ids ids' : List Nat} {x : C.Is (codes cells)}, movCells mem cells vs ids = some (x, ids') → ∀ b ∈ ids', b ∈ ids ∨ b ∈ blksOf vs
  | [], [], ids, ids', x, h => by simp only [movCells] at h; cases h; exact fun b hb => .inl hb
  | [], _ :: _, _, _, _, h => by simp [movCells] at h
  | _ :: _, [], _, _, _, h => by simp [movCells] at h
  | (o, k) :: r, y0 :: vs, ids, ids', x, h => by
    simp only [movCells] at h
    split at h
    · rename_i x0 u0 h0
      split at h
      · rename_i x1 u1 h1
        cases h
        intro b hb
        have e : blksOf (y0 :: vs) = blksOf [y0] ++ blksOf vs := blksOf_append [y0] vs
        rw [e, List.mem_append]
        rcases movCells_args h1 b hb with h2 | h2
        · rcases movC_args h0 b h2 with h3 | h3
          · exact .inl h3
          · exact .inr (.inl h3)
        · exact .inr (.inr h2)
      · cases h
    · cases h

theorem movBox_args {mem : List Blk} {row : List C} {b : Nat} {ids ids' : List Nat} {x : C.Is row} (h : movBox mem row b ids = some (x, ids')) : ∀ b' ∈ ids', b' ∈ ids ∨ b' = b := by
  unfold movBox at h
  split at h
  · cases h
  · split at h
    · split at h
      · cases h
        intro b' hb'
        simpa using hb'
      · cases h
    · cases h

theorem movCaps_args {mem : List Blk} : ∀ {caps : List (List C)} {cvs : List CV} {ids ids' : List Nat} {x : Rows caps}, movCaps mem caps cvs ids = some (x, ids') → ∀ b ∈ ids', b ∈ ids ∨ b ∈ capBlks cvs
  | [], [], ids, ids', x, h => by simp only [movCaps] at h; cases h; exact fun b hb => .inl hb
  | [], _ :: _, _, _, _, h => by simp [movCaps] at h
  | _ :: _, [], _, _, _, h => by simp [movCaps] at h
  | _ :: _, .d _ _ :: _, _, _, _, h => by simp [movCaps] at h
  | _ :: _, .ptr _ (_ + 1) :: _, _, _, _, h => by simp [movCaps] at h
  | row :: r, .ptr b 0 :: l, ids, ids', x, h => by
    simp only [movCaps] at h
    split at h
    · rename_i x0 u0 h0
      split at h
      · rename_i x1 u1 h1
        cases h
        intro b' hb'
        show _ ∨ b' ∈ b :: capBlks l
        rw [List.mem_cons]
        rcases movCaps_args h1 b' hb' with h2 | h2
        · rcases movBox_args h0 b' h2 with h3 | h3
          · exact .inl h3
          · exact .inr (.inl h3)
        · exact .inr (.inr h2)
      · cases h
    · cases h

theorem movM_args {mem : List Blk} {t : MT} {a : A0} {ids ids' : List Nat} {x : t.I} (h : movM mem t a ids = some (x, ids')) : ∀ b ∈ ids', b ∈ ids ∨ b ∈ blksOf a.cells := by
  cases t with
  | rt t =>
    have h : movR mem t a ids = some (x, ids') := h
    cases t with
    | one o c =>
      cases a with
      | one y => exact movC_args (show movC mem o c y ids = some (x, ids') from h)
      | agg vs => exact nomatch h
    | agg cells =>
      cases a with
      | one y => exact nomatch h
      | agg vs => exact movCells_args (show movCells mem cells vs ids = some (x, ids') from h)
  | box row =>
    cases a with
    | agg vs => exact nomatch h
    | one y =>
      cases y with
      | ptr b off =>
        cases off with
        | zero =>
          intro b' hb'
          rcases movBox_args (show movBox mem row b ids = some (x, ids') from h) b' hb' with h1 | h1
          · exact .inl h1
          · exact .inr (by simp [A0.cells, blksOf, h1])
        | succ off => exact nomatch h
      | _ => exact nomatch h
  | clo f caps =>
    cases a with
    | agg vs => exact nomatch h
    | one y =>
      cases y with
      | clo f' cvs =>
        have h : (if f' = f then movCaps mem caps cvs ids else none) = some (x, ids') := h
        split at h
        · intro b' hb'
          rcases movCaps_args h b' hb' with h1 | h1
          · exact .inl h1
          · exact .inr (by simp [A0.cells, blksOf, h1])
        · cases h
      | _ => exact nomatch h

theorem movMs_args' {mem : List Blk} : ∀ {ps : List MT} {args : List A0} {ids ids' : List Nat} {x : MArgs ps}, movMs mem ps args ids = some (x, ids') → ∀ b ∈ ids', b ∈ ids ∨ b ∈ argBlks args
  | [], [], ids, ids', x, h => by simp only [movMs] at h; cases h; exact fun b hb => .inl hb
  | [], _ :: _, _, _, _, h => by simp [movMs] at h
  | _ :: _, [], _, _, _, h => by simp [movMs] at h
  | t :: ps, a0 :: args, ids, ids', x, h => by
    simp only [movMs] at h
    split at h
    · rename_i x0 u0 h0
      split at h
      · rename_i x1 u1 h1
        cases h
        intro b hb
        unfold argBlks
        rw [List.flatMap_cons, blksOf_append, List.mem_append]
        rcases movMs_args' h1 b hb with h2 | h2
        · rcases movM_args h0 b h2 with h3 | h3
          · exact .inl h3
          · exact .inr (.inl h3)
        · exact .inr (.inr h2)
      · cases h
    · cases h

theorem movMs_args {mem : List Blk} {ps : List MT} {args : List A0} {ids : List Nat} {x : MArgs ps} (h : movMs mem ps args [] = some (x, ids)) : ∀ b ∈ ids, b ∈ argBlks args :=
  fun b hb => (movMs_args' h b hb).resolve_left (by simp)

end Go.Vm

namespace Go.Vm


theorem dsOf_len : ∀ (r : List C) (x : C.Is r), (dsOf r x).length = r.length
  | [], _ => rfl
  | _ :: r, x => by simp [dsOf, dsOf_len r x.2]

theorem asRow_r1 {c : Cf} : ∀ (r : List C) (vs : List V) (x : C.Is r), asRow r vs = some x → ∀ (i : Nat) (y y' : V) (v : Value), vs[i]? = some y → ((dsOf r x).map V.ofD)[i]? = some y' → c.r1 y v → c.r1 y' v
  | [], [], _, _, i, y, y', v, h, _, _ => by simp at h
  | [], _ :: _, _, h, _, _, _, _, _, _, _ => by simp [asRow] at h
  | _ :: _, [], _, h, _, _, _, _, _, _, _ => by simp [asRow] at h
  | k :: r, v0 :: vs, x, h, i, y, y', v, hy, hy', hv => by
    simp only [asRow] at h
    split at h
    · rename_i z0 hz0
      split at h
      · rename_i z hz
        cases h
        cases i with
        | zero =>
          simp [dsOf] at hy hy'
          subst hy; subst hy'
          exact asC_ok hz0 v hv
        | succ i => exact asRow_r1 r vs z hz i y y' v (by simpa using hy) (by simpa [dsOf] using hy') hv
      · cases h
    · cases h

/-- A block taken over keeps what holds of it. -/
theorem take_blkOK {c : Cf} {b : Nat} {o : OK} {x : o.I} {B : Blk} (ht : o.take B = some x) (h : c.blkOK b B) : c.blkOK b (o.blk x) := by
  cases o with
  | arr k =>
    cases B with
    | arr k' xs => rw [show OK.blk (.arr k) x = .arr k' xs from (cast?_eq (show cast? k' k xs = some x from ht)).symm]; exact h
    | _ => exact nomatch ht
  | box row =>
    cases B with
    | box cs =>
      have ht : asRow row cs = some x := ht
      obtain ⟨g, cap, cells, T, e, hh, hs, hx⟩ := h
      refine ⟨g, cap, cells, T, e, hh, ?_, fun i y' hy' => ?_⟩
      · rw [hs, asRow_len row cs x ht, List.length_map]; exact (dsOf_len row x).symm
      · have hi : i < cs.length := by
          rw [asRow_len row cs x ht]
          have := (List.getElem?_eq_some_iff.1 hy').1
          rw [List.length_map] at this
          exact Nat.lt_of_lt_of_eq this (dsOf_len row x)
        obtain ⟨v, hv, hr⟩ := hx i _ (List.getElem?_eq_getElem hi)
        exact ⟨v, hv, asRow_r1 row cs x ht i _ y' v (List.getElem?_eq_getElem hi) hy' hr⟩
    | _ => exact nomatch ht

theorem blk_dead (o : OK) (x : o.I) : (o.blk x).isDead = false := by cases o <;> rfl
theorem take_dead {o : OK} {x : o.I} {B : Blk} (h : o.take B = some x) : B.isDead = false := by
  cases o <;> cases B <;> first | rfl | exact nomatch h

/-- A block's place goes only by its place in the list of places. -/
theorem blkOK_at {c c' : Cf} {b b' : Nat} {B : Blk} (hw : c'.w = c.w) (hal : c'.Al = c.Al) (hr : ∀ x v, c.r1 x v → c'.r1 x v) (hbe : c'.be[b']? = c.be[b]?) (h : c.blkOK b B) : c'.blkOK b' B := by
  cases B with
  | box cs =>
    obtain ⟨g, cap, cells, T, e, hh, hs, hx⟩ := h
    exact ⟨g, cap, cells, T, by rw [hbe]; exact e, by rw [hw]; exact hh, hs, fun i x hi => let ⟨v, hv, hr'⟩ := hx i x hi; ⟨v, hv, hr x v hr'⟩⟩
  | arr k xs =>
    refine ⟨h.1, ?_⟩
    rcases h.2 with ⟨g, cap, cells, T, e, hh, hs, hl, hx⟩ | ⟨e, hl⟩
    · exact .inl ⟨g, cap, cells, T, by rw [hbe]; exact e, by rw [hw]; exact hh, hs, hl, by rw [hw, hal]; exact hx⟩
    · exact .inr ⟨by rw [hbe]; exact e, hl⟩
  | dead => trivial

/-- A moved block's content, as data, may be told anywhere. -/
theorem blkOK_data {c c' : Cf} {b b' : Nat} {o : OK} {x : o.I} (hw : c'.w = c.w) (hal : c'.Al = c.Al) (hbe : c'.be[b']? = c.be[b]?) (h : c.blkOK b (o.blk x)) : c'.blkOK b' (o.blk x) := by
  cases o with
  | arr k =>
    refine ⟨h.1, ?_⟩
    rcases h.2 with ⟨g, cap, cells, T, e, hh, hs, hl, hx⟩ | ⟨e, hl⟩
    · exact .inl ⟨g, cap, cells, T, by rw [hbe]; exact e, by rw [hw]; exact hh, hs, hl, by rw [hw, hal]; exact hx⟩
    · exact .inr ⟨by rw [hbe]; exact e, hl⟩
  | box row =>
    obtain ⟨g, cap, cells, T, e, hh, hs, hx⟩ := h
    refine ⟨g, cap, cells, T, by rw [hbe]; exact e, by rw [hw]; exact hh, hs, fun i y hi => ?_⟩
    obtain ⟨v, hv, hr'⟩ := hx i y hi
    refine ⟨v, hv, ?_⟩
    rw [List.getElem?_map] at hi
    cases hd : (dsOf row x)[i]? with
    | none => rw [hd] at hi; cases hi
    | some d =>
      rw [hd] at hi; cases hi
      show Rd c'.w c'.Al _ v
      rw [hw, hal]; exact hr'

theorem blkOK_box {c c' : Cf} {b b' g cap cap' : Nat} {row : List C} {x : C.Is row} (hw : c'.w = c.w) (hal : c'.Al = c.Al) (h1 : c.be[b]? = some (.blk g cap)) (h2 : c'.be[b']? = some (.blk g cap')) (h : c.blkOK b (OK.blk (.box row) x)) : c'.blkOK b' (OK.blk (.box row) x) := by
  obtain ⟨g', cap2, cells, T, e, hh, hs, hx⟩ := h
  rw [h1] at e; cases e
  refine ⟨g, cap', cells, T, h2, by rw [hw]; exact hh, hs, fun i y hi => ?_⟩
  obtain ⟨v, hv, hr'⟩ := hx i y hi
  refine ⟨v, hv, ?_⟩
  rw [List.getElem?_map] at hi
  cases hd : (dsOf row x)[i]? with
  | none => rw [hd] at hi; cases hi
  | some d =>
    rw [hd] at hi; cases hi
    show Rd c'.w c'.Al _ v
    rw [hw, hal]; exact hr'

/-- **The handler of a function that writes into what its caller owns is sound** if its function is what the evaluator makes of the code. -/
theorem hX_sound {P : Program} {E : Env} {f : Nat} {fn : Func} {ps : List MT} {rs : List RT} {F : MArgs ps → Option (Res rs × Os (oksOf ps))} (h : FnOK P E f fn ps.length) (hkeep : E.keep = (oksOf ps).length)
    (hF : ∀ x r, F x = some r → ∃ k, runFn E fn k (encMs ps x 0) (blkMs ps x) (retX rs ps) = some r) : HSound P E.glob f false (hX ps rs F) := by
  refine ⟨h.enter, ?_⟩
  intro R args vs c K r hc hgl hlen hargs hv
  unfold hX at hv
  split at hv
  · cases hv
  · rename_i x ids hx
    cases hFx : F x with
    | none => rw [hFx] at hv; cases hv
    | some y =>
      rw [hFx] at hv
      simp only [Option.bind_some] at hv
      obtain ⟨k, hrun⟩ := hF x y hFx
      obtain ⟨new, hids, hfit, _, hnd, hla, hle, hrel⟩ := movMs_okX hx
      have hids : ids = new := by simpa using hids
      subst hids
      obtain ⟨fl1, fl2, fit⟩ := hfit
      have hin : ∀ b ∈ ids, b < c.mem.length := by
        intro b hb
        obtain ⟨j, hj⟩ := List.getElem?_of_mem hb
        obtain ⟨o, x0, B, _, hm, _⟩ := fit j b hj
        exact (List.getElem?_eq_some_iff.1 hm).1
      let c0 : Cf := ⟨c.w, c.Al, ids.map fun b => c.be.getD b .nil, blkMs ps x⟩
      have hbe0 : ∀ (j b : Nat), ids[j]? = some b → c0.be[j]? = c.be[b]? := by
        intro j b hj
        have hb : b < c.be.length := by rw [hc.len]; exact hin b (List.mem_of_getElem? hj)
        show (ids.map fun b => c.be.getD b .nil)[j]? = _
        rw [List.getElem?_map, hj]
        simp [List.getElem?_eq_getElem hb]
      have hsub : SubX c c0 ids := by
        refine ⟨rfl, rfl, fun j b k xs hj hm => ?_, hbe0⟩
        obtain ⟨o, x0, B, h1, h2, h3, h4⟩ := fit j b hj
        rw [hm] at h2; cases h2
        cases o with
        | arr k' => rw [show Blk.arr k xs = OK.blk (.arr k') x0 from cast?_eq (show cast? k k' xs = some x0 from h3)]; exact h4
        | box row => exact nomatch h3
      have hidx : ∀ (j : Nat) (B : Blk), c0.mem[j]? = some B → ∃ b B0 o x0, ids[j]? = some b ∧ c.mem[b]? = some B0 ∧ (oksOf ps)[j]? = some o ∧ o.take B0 = some x0 ∧ B = o.blk x0 := by
        intro j B hB
        have hj : j < ids.length := by rw [fl1, ← fl2]; exact (List.getElem?_eq_some_iff.1 hB).1
        obtain ⟨o, x0, B0, h1, h2, h3, h4⟩ := fit j _ (List.getElem?_eq_getElem hj)
        have : c0.mem[j]? = some (o.blk x0) := h4
        rw [hB] at this; cases this
        exact ⟨_, B0, o, x0, List.getElem?_eq_getElem hj, h2, h1, h3, rfl⟩
      have hlive0 : ∀ g, c0.live g → ∃ (j b cap : Nat), ids[j]? = some b ∧ c.be[b]? = some (.blk g cap) ∧ ∃ B, c.mem[b]? = some B ∧ B.isDead = false := by
        rintro g ⟨j, B, cap, hB, _, e⟩
        obtain ⟨b, B0, o, x0, hj, hm, _, ht, rfl⟩ := hidx j B hB
        exact ⟨j, b, cap, hj, by rw [← hbe0 j b hj]; exact e, B0, hm, take_dead ht⟩
      have hlive : ∀ g, c0.live g → c.live g := by
        intro g hg
        obtain ⟨j, b, cap, hj, e, B, hm, hd⟩ := hlive0 g hg
        exact ⟨b, B, cap, hm, hd, e⟩
      have hc0 : c0.ok := by
        refine ⟨by show (ids.map _).length = (blkMs ps x).length; rw [List.length_map, fl1, fl2], ?_, ?_, fun g hg => hc.av g (hlive g hg), hc.lt⟩
        · intro j B hB
          obtain ⟨b, B0, o, x0, hj, hm, _, ht, rfl⟩ := hidx j B hB
          exact blkOK_data (c := c) (c' := c0) rfl rfl (hbe0 j b hj) (take_blkOK ht (hc.blk b _ hm))
        · intro j j' B B' g cap cap' hB _ e hB' _ e'
          obtain ⟨b, B0, o, x0, hj, hm, _, ht, rfl⟩ := hidx j B hB
          obtain ⟨b', B0', o', x0', hj', hm', _, ht', rfl⟩ := hidx j' B' hB'
          have := hc.inj b b' _ _ g cap cap' hm (take_dead ht) (by rw [← hbe0 j b hj]; exact e) hm' (take_dead ht') (by rw [← hbe0 j' b' hj']; exact e')
          subst this
          have hjl := (List.getElem?_eq_some_iff.1 hj).1
          exact (List.getElem?_inj hjl hnd).1 (hj.trans hj'.symm)
      have hcall := fn_sound h.get h.body h.mixed h.env h.n h.code k (encMs ps x 0) vs c0 (retX rs ps) hc0 (by rw [hkeep]; exact fl2.symm) (fun g => r1_noBlk (c := c) (c' := c0) (h.glob g) rfl (fun _ h => h) (hgl g))
        (by rw [hlen, hla]; exact hle.symm) (by rw [hlen, hla]; exact h.np) (fun i a' ha' => by
          have hi : i < args.length := by rw [hla, ← hle]; exact (List.getElem?_eq_some_iff.1 ha').1
          obtain ⟨v, hv, hr⟩ := hargs i _ (List.getElem?_eq_getElem hi)
          exact ⟨v, hv, hrel c0 hsub i _ a' v (List.getElem?_eq_getElem hi) ha' hr⟩) hrun
      refine Calls.mono hcall fun e w' he => ?_
      obtain ⟨v, av, Al, be, mem', rfl, hK, hok, hto, hra⟩ := he
      let c1 : Cf := ⟨w', Al, be, mem'⟩
      obtain ⟨y1, y2⟩ := y
      obtain ⟨l, ho, hl, hll⟩ : ∃ l, takeOs (oksOf ps) mem' = some y2 ∧ decRes mem' rs l (List.range (oksOf ps).length) = some y1 ∧ ((∃ a, av = .v a ∧ l = [a]) ∨ (av = .tup l ∧ l.length ≠ 1)) := by
        unfold retX at hK
        split at hK
        · rename_i o ho
          split at hK
          · rename_i a
            split at hK
            · rename_i x1 h1
              cases hK
              exact ⟨[a], ho, h1, .inl ⟨a, rfl, rfl⟩⟩
            · cases hK
          · rename_i l
            split at hK
            · cases hK
            · rename_i hne
              split at hK
              · rename_i x1 h1
                cases hK
                exact ⟨l, ho, h1, .inr ⟨rfl, by simpa using hne⟩⟩
              · cases hK
        · cases hK
      simp only at hv
      let c2 : Cf := ⟨w', Al, c.be, setOs (oksOf ps) y2 ids c.mem⟩
      have hset := setOs_in (oksOf ps) y2 ids c.mem mem' ho hnd fl1 hin
      have hout : ∀ b, b ∉ ids → c2.mem[b]? = c.mem[b]? := fun b hb => setOs_out _ _ _ _ _ hb
      -- a block that has been moved
      have hmoved : ∀ (j b : Nat), ids[j]? = some b → ∃ (k : OK) (x0 x1 : k.I) (B0 B1 : Blk), c.mem[b]? = some B0 ∧ k.take B0 = some x0 ∧ mem'[j]? = some B1 ∧ k.take B1 = some x1 ∧ c2.mem[b]? = some (k.blk x1) ∧
          (∀ g cap, c.be[b]? = some (.blk g cap) → ∃ cap', be[j]? = some (.blk g cap')) ∧
          (∀ g cap, be[j]? = some (.blk g cap) → ∃ cap', c.be[b]? = some (.blk g cap')) ∧
          (∀ c0, k = .arr c0 → be[j]? = c.be[b]?) ∧ (∀ (q : C) (xs : q.I), B0 = .arr q xs → ∃ ys : q.I, k.blk x1 = .arr q ys ∧ lenC q ys = lenC q xs) := by
        intro j b hj
        obtain ⟨k, x0, B0, e1, e2, e3, e4⟩ := fit j b hj
        obtain ⟨k', B1, x1, h1, h2, h3, h4⟩ := hset j b hj
        rw [e1] at h1; cases h1
        have hm0 : c0.mem[j]? = some (k.blk x0) := e4
        have hb0 := hc.blk b _ e2
        cases k with
        | box row =>
          cases B0 with
          | box cs =>
            obtain ⟨g, cap, cells, T, eb, _⟩ := hb0
            have h1 : c0.r1 (.ptr j 0) (.pointer (some ⟨g, 0, none⟩)) := ⟨g, cap, by rw [hbe0 j b hj]; exact eb, rfl⟩
            obtain ⟨g', cap', e', hv'⟩ := hto.keeps _ _ h1
            injection hv' with h5
            injection h5 with h5
            injection h5 with h5
            subst h5
            have e' : be[j]? = some (.blk g cap') := e'
            refine ⟨.box row, x0, x1, _, B1, e2, e3, h2, h3, h4, fun g2 c2 h => ?_, fun g2 c2 h => ?_, fun c0 h => (nomatch h), fun q xs h => (nomatch h)⟩
            · rw [eb] at h; cases h; exact ⟨cap', e'⟩
            · rw [e'] at h; cases h; exact ⟨cap, eb⟩
          | arr k2 xs => exact nomatch e3
          | dead => exact nomatch e3
        | arr k =>
          cases B0 with
          | box cs => exact nomatch e3
          | dead => exact nomatch e3
          | arr k2 xs =>
            have hq := cast?_eq (show cast? k2 k xs = some x0 from e3)
            have hm0' : c0.mem[j]? = some (.arr k x0) := hm0
            have hq1 : ∃ ys, B1 = .arr k ys ∧ x1 = ys := by
              cases B1 with
              | arr k3 zs =>
                have := cast?_eq (show cast? k3 k zs = some x1 from h3)
                exact ⟨x1, this, rfl⟩
              | box cs => exact nomatch h3
              | dead => exact nomatch h3
            obtain ⟨ys, rfl, rfl⟩ := hq1
            have hb1 := (show c.blkOK b (.arr k x0) from hq ▸ hb0).2
            have hfin : lenC k x1 = lenC k x0 ∧ be[j]? = c.be[b]? := by
              rcases hb1 with ⟨g, cap, cells, T, eb, _⟩ | ⟨eb, hz⟩
              · have h1 : c0.r1 (.ref j) (.slice (some ⟨g, 0, none⟩) (lenC k x0) cap) := by
                  simp only [Cf.r1, hm0']
                  exact .inl ⟨g, cap, by rw [hbe0 j b hj]; exact eb, rfl⟩
                have h5 := hto.keeps _ _ h1
                have hys' : (⟨w', Al, be, mem'⟩ : Cf).mem[j]? = some (.arr k x1) := h2
                simp only [Cf.r1, hys'] at h5
                rcases h5 with ⟨g', cap', e', hv'⟩ | ⟨_, hv'⟩
                · injection hv' with h6 h7 h8
                  injection h6 with h6
                  injection h6 with h6
                  subst h6; subst h8
                  exact ⟨h7.symm, by rw [eb]; exact e'⟩
                · cases hv'
              · have h1 : c0.r1 (.ref j) (.slice none 0 0) := by
                  simp only [Cf.r1, hm0']
                  exact .inr ⟨by rw [hbe0 j b hj]; exact eb, rfl⟩
                have h5 := hto.keeps _ _ h1
                have hys' : (⟨w', Al, be, mem'⟩ : Cf).mem[j]? = some (.arr k x1) := h2
                simp only [Cf.r1, hys'] at h5
                rcases h5 with ⟨g', cap', e', hv'⟩ | ⟨e', _⟩
                · cases hv'
                · have hz1 := (hok.blk j _ h2).2
                  rcases hz1 with ⟨g, cap, cells, T, e4, _⟩ | ⟨_, hz1⟩
                  · have : be[j]? = some (.blk g cap) := e4
                    have e' : be[j]? = some .nil := e'
                    rw [e'] at this; cases this
                  · exact ⟨by rw [hz1, hz], by rw [eb]; exact e'⟩
            refine ⟨.arr k, x0, x1, _, _, e2, e3, h2, h3, h4, fun g2 c2 h => ⟨c2, by rw [hfin.2]; exact h⟩, fun g2 c2 h => ⟨c2, by rw [← hfin.2]; exact h⟩, fun c0 h => hfin.2, fun q xs' h => ?_⟩
            rw [hq] at h
            cases h
            exact ⟨x1, rfl, hfin.1⟩
      have hnl : ∀ g, c.Al g → ¬ c0.live g := fun g hg hl => hc.av g (hlive g hl) hg
      have hal : ∀ g, c.Al g → Al g ∧ w'.heap[g]? = c.w.heap[g]? := fun g hg => ⟨hto.al g hg, hto.block g (hc.lt g hg) (hnl g hg)⟩
      have hk : ∀ x v, c.r1 x v → c2.r1 x v := by
        refine r1_keep (c := c) (c' := c2) hal (fun _ _ e => e) ?_ ?_
        · intro b k xs hm
          by_cases hb : b ∈ ids
          · obtain ⟨j, hj⟩ := List.getElem?_of_mem hb
            obtain ⟨k', x0, x1, B0, B1, e1, _, _, _, e5, _, _, _, e9⟩ := hmoved j b hj
            rw [hm] at e1; cases e1
            obtain ⟨ys, h1, h2⟩ := e9 k xs rfl
            exact .inl ⟨ys, by rw [e5, h1], h2⟩
          · exact .inl ⟨xs, by rw [hout b hb]; exact hm, rfl⟩
        · intro b B hm hne
          by_cases hb : b ∈ ids
          · obtain ⟨j, hj⟩ := List.getElem?_of_mem hb
            obtain ⟨k', x0, x1, B0, B1, e1, e2, _, _, e5, _⟩ := hmoved j b hj
            rw [hm] at e1; cases e1
            refine ⟨_, e5, ?_⟩
            cases k' with
            | box row => intro k ys h; exact nomatch h
            | arr k'' =>
              cases B with
              | arr q xs => exact absurd rfl (hne q xs)
              | box cs => exact nomatch e2
              | dead => exact nomatch e2
          · exact ⟨B, by rw [hout b hb]; exact hm, hne⟩
      -- blocks that live
      have hback : ∀ (b : Nat) (B : Blk), c2.mem[b]? = some B → B.isDead = false → ∃ B', c.mem[b]? = some B' ∧ B'.isDead = false := by
        intro b B hB hd
        by_cases hb : b ∈ ids
        · obtain ⟨j, hj⟩ := List.getElem?_of_mem hb
          obtain ⟨k', x0, x1, B0, B1, e1, e2, _⟩ := hmoved j b hj
          exact ⟨_, e1, take_dead e2⟩
        · rw [hout b hb] at hB; exact ⟨B, hB, hd⟩
      have hlive2 : ∀ g, c2.live g → c.live g := by
        rintro g ⟨b, B, cap, hB, hd, e⟩
        obtain ⟨B', h1, h2⟩ := hback b B hB hd
        exact ⟨b, B', cap, h1, h2, e⟩
      have hok2 : c2.ok := by
        refine ⟨by show c.be.length = (setOs _ _ _ _).length; rw [setOs_len, hc.len], ?_, ?_, ?_, hok.lt⟩
        · intro b B hB
          by_cases hb : b ∈ ids
          · obtain ⟨j, hj⟩ := List.getElem?_of_mem hb
            obtain ⟨k', x0, x1, B0, B1, e1, e2, e3, e4, e5, e6, e7, e8, _⟩ := hmoved j b hj
            rw [e5] at hB; cases hB
            have hb1 := take_blkOK e4 (hok.blk j _ e3)
            cases k' with
            | arr q => exact blkOK_data (c := c1) (c' := c2) rfl rfl (e8 q rfl).symm hb1
            | box row =>
              obtain ⟨g, cap, cells, T, eb, hh⟩ := hb1
              obtain ⟨cap', h5⟩ := e7 g cap eb
              exact blkOK_box (c := c1) (c' := c2) rfl rfl eb h5 ⟨g, cap, cells, T, eb, hh⟩
          · rw [hout b hb] at hB
            refine blkOK_keep (hc.blk b B hB) hk hal (fun _ h => h) (fun g cap e hd => ?_)
            refine hto.block g (live_lt hc ⟨b, B, cap, hB, hd, e⟩) fun hl => ?_
            obtain ⟨j, b', cap', hj, e', B', hm, hd'⟩ := hlive0 g hl
            have := hc.inj b b' _ _ g cap cap' hB hd e hm hd' e'
            subst this
            exact hb (List.mem_of_getElem? hj)
        · intro b b' B B' g cap cap' hB hd e hB' hd' e'
          obtain ⟨B1, h1, h2⟩ := hback b B hB hd
          obtain ⟨B2, h3, h4⟩ := hback b' B' hB' hd'
          exact hc.inj b b' B1 B2 g cap cap' h1 h2 e h3 h4 e'
        · intro g hg hal'
          rcases hto.alnew g hal' with h1 | h1 | h1
          · exact hc.av g (hlive2 g hg) h1
          · obtain ⟨j, b, cap, hj, e, B, hm, hd⟩ := hlive0 g h1
            obtain ⟨k', x0, x1, B0, B1, e1, e2, e3, e4, e5, e6, _⟩ := hmoved j b hj
            obtain ⟨cap', h5⟩ := e6 g cap e
            exact hok.av g ⟨j, _, cap', e3, take_dead e4, h5⟩ hal'
          · have := live_lt hc (hlive2 g hg)
            have h1 : c.w.heap.size ≤ g := h1
            omega
      have hto2 : c.To c2 := by
        refine ⟨hk, hto.os, hto.tape, hto.output, hto.size, fun g hg hl => hto.block g hg (fun h => hl (hlive g h)), hto.al, fun g hg => ?_, fun g hg => .inl (hlive2 g hg), fun b cs hb => ?_⟩
        · rcases hto.alnew g hg with h1 | h1 | h1
          · exact .inl h1
          · exact .inr (.inl (hlive g h1))
          · exact .inr (.inr h1)
        · by_cases hbi : b ∈ ids
          · obtain ⟨j, hj⟩ := List.getElem?_of_mem hbi
            obtain ⟨k', x0, x1, B0, B1, e1, e2, _, _, e5, _⟩ := hmoved j b hj
            rw [hb] at e1; cases e1
            cases k' with
            | arr q => exact nomatch e2
            | box row => exact .inl ⟨_, e5⟩
          · exact .inl ⟨cs, by rw [hout b hbi]; exact hb⟩
      -- results
      have hrange : ∀ b, b ∈ List.range (oksOf ps).length ↔ b < ids.length := by intro b; rw [List.mem_range, fl1]
      have htwo : Two c c1 Al false (List.range (oksOf ps).length) := by
        refine ⟨hc, hok, fun b z g cap hb hz hd e => ?_, hok.av, fun u v _ hr => hr⟩
        rcases hto.livenew g ⟨b, z, cap, hz, hd, e⟩ with h1 | h1
        · exfalso
          obtain ⟨j, b', cap', hj, e', B, hm, hd'⟩ := hlive0 g h1
          obtain ⟨k', x0, x1, B0, B1, e1, e2, e3, e4, e5, e6, _⟩ := hmoved j b' hj
          obtain ⟨cap2, h5⟩ := e6 g cap' e'
          have := hok.inj b j z B1 g cap cap2 hz hd e e3 (take_dead e4) h5
          subst this
          exact hb ((hrange b).2 (List.getElem?_eq_some_iff.1 hj).1)
        · exact h1
      have hem : Em c c1 Al (List.range (oksOf ps).length) (List.range (oksOf ps).length) c2 := ⟨hok2, hto2, rfl, rfl, fun g hg => .inl (hlive2 g hg), fun _ h => h⟩
      obtain ⟨be', used', hem', hk2, hlr, hl2, hr2⟩ := decRes_ok htwo rs l (List.range (oksOf ps).length) y1 c2 (fun hs => by cases hs) hem hl
      have hml : c2.mem.length = c.mem.length := setOs_len _ _ _ _
      rw [hml] at hl2 hr2
      refine ⟨v, outOf (encRes rs y1 c.mem.length), Al, be', setOs (oksOf ps) y2 ids c.mem ++ blkRes rs y1, rfl, hv, hem'.ok, hem'.to, ?_, (fun h => by cases h), fun b cs g cap hm e hna => hto.block g (live_lt hc ⟨b, _, cap, hm, rfl, e⟩) fun hl => ?_⟩
      rotate_left
      · obtain ⟨j, b', cap', hj, e', B', hm', hd'⟩ := hlive0 g hl
        have := hc.inj b b' _ _ g cap cap' hm rfl e hm' hd' e'
        subst this
        exact hna (movMs_args hx b (List.mem_of_getElem? hj))
      have hlen2 : (encRes rs y1 c.mem.length).length = l.length := hl2.symm
      rcases hll with ⟨a, rfl, rfl⟩ | ⟨rfl, hne⟩
      · match he : encRes rs y1 c.mem.length, hlen2 with
        | [a'], _ => exact hr2 0 a a' v rfl (by rw [he]; rfl) hra
      · obtain ⟨ws, hws, hx⟩ := hra
        have : outOf (encRes rs y1 c.mem.length) = .tup (encRes rs y1 c.mem.length) := by
          match he : encRes rs y1 c.mem.length, hlen2 with
          | [], _ => rfl
          | [a], h1 => exact absurd h1.symm hne
          | _ :: _ :: _, _ => rfl
        rw [this]
        refine ⟨ws, hws, fun i a' ha' => ?_⟩
        have hi : i < l.length := by rw [← hlen2]; exact (List.getElem?_eq_some_iff.1 ha').1
        obtain ⟨u, hu, hr⟩ := hx i _ (List.getElem?_eq_getElem hi)
        exact ⟨u, hu, hr2 i _ a' u (List.getElem?_eq_getElem hi) ha' hr⟩

end Go.Vm

namespace Go.Vm
open Go.Proofs
abbrev Term := ByteArray × ByteArray × ByteArray × Unit
abbrev Rule := Int × Int × ByteArray × Unit
abbrev Locale := ByteArray × List Term × List Rule × ByteArray × ByteArray × Unit
abbrev Cur := List Int × Int × Int × Unit
abbrev dTerm : Term := (ByteArray.empty, ByteArray.empty, ByteArray.empty, ())
abbrev dRule : Rule := (0, 0, ByteArray.empty, ())
abbrev dLocale : Locale := (ByteArray.empty, [], [], ByteArray.empty, ByteArray.empty, ())
def gl : Nat → V
  | 1 => .da (.sl1 (.int .u64)) Lib.pow10Tab
  | _ => .junk
theorem glNB : ∀ g, noBlk (gl g) = true := by
  intro g
  unfold gl
  split <;> rfl
def tis : List (Option TI) := [
  none,
  none,
  some ⟨1, 8, false, [.int .i64], .int .i64⟩,
  some ⟨1, 8, false, [.int .i64], .int .i64⟩,
  some ⟨1, 1, false, [.bool], .bool⟩,
  some ⟨1, 1, false, [.int .u8], .int .u8⟩,
  some ⟨1, 1, false, [.int .u8], .int .u8⟩,
  some ⟨4, 24, true, [.int .i64, .int .i64, .bool, .int .u8], .strct [(0, 2), (1, 3), (2, 4), (3, 6)]⟩,
  some ⟨4, 24, true, [.int .i64, .int .i64, .bool, .int .u8], .strct [(0, 2), (1, 3), (2, 4), (3, 6)]⟩,
  some ⟨1, 16, false, [.str], .str⟩,
  some ⟨1, 16, false, [.str], .str⟩,
  some ⟨1, 16, false, [.str], .str⟩,
  some ⟨1, 8, false, [.int .u64], .int .u64⟩,
  some ⟨2, 24, true, [.str, .int .u64], .strct [(0, 9), (1, 12)]⟩,
  some ⟨2, 24, true, [.str, .int .u64], .strct [(0, 9), (1, 12)]⟩,
  some ⟨1, 8, false, [], .other⟩,
  some ⟨1, 8, false, [], .other⟩,
  some ⟨1, 8, false, [], .other⟩,
  some ⟨1, 8, true, [], .strct [(0, 17)]⟩,
  some ⟨1, 8, true, [], .strct [(0, 17)]⟩,
  none,
  some ⟨1, 4, false, [.int .i32], .int .i32⟩,
  some ⟨1, 24, false, [.sl1 (.int .u8)], .slc 5⟩,
  none,
  some ⟨1, 24, false, [.sl [.str, .str, .str]], .slc 29⟩,
  some ⟨1, 24, false, [.sl [.int .i64, .int .i64, .str]], .slc 66⟩,
  some ⟨5, 96, true, [.str, .sl [.str, .str, .str], .sl [.int .i64, .int .i64, .str], .str, .str], .strct [(0, 9), (1, 24), (2, 25), (3, 9), (4, 9)]⟩,
  some ⟨5, 96, true, [.str, .sl [.str, .str, .str], .sl [.int .i64, .int .i64, .str], .str, .str], .strct [(0, 9), (1, 24), (2, 25), (3, 9), (4, 9)]⟩,
  some ⟨3, 48, true, [.str, .str, .str], .strct [(0, 9), (1, 9), (2, 9)]⟩,
  some ⟨3, 48, true, [.str, .str, .str], .strct [(0, 9), (1, 9), (2, 9)]⟩,
  none,
  none,
  none,
  none,
  none,
  none,
  none,
  none,
  some ⟨1, 24, false, [.sl [.str, .sl [.str, .str, .str], .sl [.int .i64, .int .i64, .str], .str, .str]], .slc 27⟩,
  none,
  none,
  none,
  none,
  none,
  some ⟨1, 24, false, [.sl1 (.str)], .slc 9⟩,
  none,
  none,
  none,
  none,
  none,
  some ⟨1, 8, false, [], .other⟩,
  some ⟨1, 8, false, [.int .u64], .int .u64⟩,
  some ⟨3, 40, true, [.sl1 (.int .u8), .int .i64, .int .u64], .strct [(0, 22), (1, 3), (2, 51)]⟩,
  some ⟨3, 40, true, [.sl1 (.int .u8), .int .i64, .int .u64], .strct [(0, 22), (1, 3), (2, 51)]⟩,
  none,
  none,
  none,
  none,
  none,
  none,
  none,
  none,
  none,
  none,
  none,
  some ⟨3, 32, true, [.int .i64, .int .i64, .str], .strct [(0, 3), (1, 3), (2, 9)]⟩,
  some ⟨3, 32, true, [.int .i64, .int .i64, .str], .strct [(0, 3), (1, 3), (2, 9)]⟩,
  none,
  none,
  none,
  none,
  none,
  none,
  none,
  some ⟨1, 24, false, [.sl1 (.int .i64)], .slc 3⟩,
  none,
  none,
  none,
  none,
  none,
  none,
  none,
  none,
  none,
  none,
  none,
  none,
  some ⟨1, 8, false, [.int .u64], .int .u64⟩,
  none,
  none,
  some ⟨24, 24, true, [], .arr 24 5⟩,
  none,
  none,
  none,
  none,
  none,
  none,
  some ⟨20, 160, true, [], .arr 20 51⟩,
  some ⟨1, 4, false, [.int .u32], .int .u32⟩,
  some ⟨65, 65, true, [], .arr 65 5⟩,
  none,
  none,
  none,
  none,
  some ⟨32, 32, true, [], .arr 32 5⟩,
  some ⟨64, 64, true, [], .arr 64 5⟩,
  none,
  some ⟨4, 40, true, [], .strct [(0, 17), (1, 17), (2, 17), (3, 9)]⟩,
  some ⟨4, 40, true, [], .strct [(0, 17), (1, 17), (2, 17), (3, 9)]⟩,
  none,
  none,
  none,
  some ⟨1, 1, false, [.int .u8], .int .u8⟩,
  some ⟨1, 1, false, [.int .u8], .int .u8⟩,
  none,
  some ⟨1, 8, false, [], .other⟩,
  some ⟨1, 4, false, [.int .i32], .int .i32⟩,
  some ⟨1, 4, false, [.int .i32], .int .i32⟩,
  some ⟨11, 48, true, [], .strct [(0, 12), (1, 12), (2, 98), (3, 112), (4, 5), (5, 5), (6, 113), (7, 114), (8, 115), (9, 116), (10, 117)]⟩,
  some ⟨11, 48, true, [], .strct [(0, 12), (1, 12), (2, 98), (3, 112), (4, 5), (5, 5), (6, 113), (7, 114), (8, 115), (9, 116), (10, 117)]⟩,
  some ⟨1, 8, false, [], .other⟩]
theorem tis_ok : tableB Tryd.prog tis = true := by kernel_rfl
theorem mixed : Tryd.prog.follows .mixedOrders = true := by kernel_rfl
end Go.Vm

namespace Go.Vm
open Go.Proofs
set_option maxHeartbeats 4000000 in
set_option maxRecDepth 100000 in
theorem ins_end (base : Option Addr) (n c vb m vc : Nat) (w w2 : World) (v : Value) (hm : 0 < m) (hnil : base = none → n = 0)
    (hrun : ∀ ty, (Builtin.append_ #[24, 24] ty #[.slice base n c, .slice (some ⟨vb, 0, none⟩) m vc]).run Tryd.prog w = .ok v w2) (hnc : n ≤ c) :
    Calls Tryd.prog 23 #[.slice base n c, .int .i64 n, .slice (some ⟨vb, 0, none⟩) m vc] w fun e w' => e = .returned v ∧ w' = w2 := by
  have hz1 : ¬ ((m : Int) = 0) := by omega
  have hmx := mixed
  cases base with
  | none =>
    have h0 := hnil rfl
    subst h0
    go_enter Tryd.func23, Tryd.ntmps23
    go_wp2_with (at_builtin; refine Lib.wpList_append_run _ rfl _ _ _ _ rfl _ _ rfl rfl _ _ (hrun _) ?_)
    all_goals first | (go_ret; exact ⟨rfl, rfl⟩) | (exfalso; simp_all)
  | some a =>
    obtain ⟨ab, ao, asp⟩ := a
    go_enter Tryd.func23, Tryd.ntmps23
    go_wp2_with (at_builtin; refine Lib.wpList_append_run _ rfl _ _ _ _ rfl _ _ rfl rfl _ _ (hrun _) ?_)
    all_goals first | (go_ret; exact ⟨rfl, rfl⟩) | (exfalso; simp_all)

set_option maxHeartbeats 4000000 in
set_option maxRecDepth 100000 in
theorem ins_shift (g n c i vb m vc : Nat) (w w1 w2 : World) (hi : i < n) (hm : 0 < m) (hroom : n + m ≤ c) (hbig : n + m ≤ 140737488355328)
    (hov : ∀ lb cb, (callFunc 48 #[.slice (some ⟨vb, 0, none⟩) m vc, .slice (some ⟨g, (i + m) * 3, none⟩) lb cb]).run Tryd.prog w = .ok (.value (.bool false)) w)
    (hcp1 : ∀ ty dc sc, (Builtin.copy_ #[24, 24] ty #[.slice (some ⟨g, (i + m) * 3, none⟩) (n + m - (i + m)) dc, .slice (some ⟨g, i * 3, none⟩) (n + m - i) sc]).run Tryd.prog w.drew = .ok (goInt (n - i)) w1)
    (hcp2 : ∀ ty dc, (Builtin.copy_ #[24, 24] ty #[.slice (some ⟨g, i * 3, none⟩) (n + m - i) dc, .slice (some ⟨vb, 0, none⟩) m vc]).run Tryd.prog w1 = .ok (goInt m) w2) :
    Calls Tryd.prog 23 #[.slice (some ⟨g, 0, none⟩) n c, .int .i64 i, .slice (some ⟨vb, 0, none⟩) m vc] w fun e w' => e = .returned (.slice (some ⟨g, 0, none⟩) (n + m) c) ∧ w' = w2 := by
  have hz1 : ¬ ((m : Int) = 0) := by omega
  have hmx := mixed
  have hz2 : ¬ ((i : Int) = (n : Int)) := by omega
  have hw1 : IntKind.i64.wrap ((i : Int) + (m : Int)) = (i : Int) + (m : Int) := by rw [IntKind.wrap_i64]; omega
  have hb1 : (0 : Int) ≤ (i : Int) + (m : Int) := by omega
  have hin : i ≤ n := by omega
  have htn : ((i : Int) + (m : Int)).toNat = i + m := by omega
  have hb2 : ¬ (c = i + m) := by omega
  have hb3 : (i : Int) ≤ (n : Int) + (m : Int) := by omega
  have hb4 : ¬ (c = i) := by omega
  go_enter Tryd.func23, Tryd.ntmps23
  go_wp2_with (simp only [hov])
  go_region_law_o (refine step_copy_runI rfl _ _ 24 24 rfl _ _ (by simp [Act.eval, Act.put]) (by simp [Act.eval, Act.put]) (hcp1 _ _ _) ?_)
  go_wp2_with (at_builtin; refine wpList_copy_runI _ rfl _ _ 24 24 rfl _ _ rfl rfl (hcp2 _ _) ?_)
  go_ret
  exact ⟨rfl, rfl⟩

set_option maxHeartbeats 4000000 in
set_option maxRecDepth 100000 in
theorem ins_grow (g n c i vb m vc G gn : Nat) (w w1 w2 w3 : World) (hi : i < n) (hm : 0 < m) (hnc : n ≤ c) (hroom : c < n + m) (hbig : n + m ≤ 140737488355328) (hG : n + m ≤ G)
    (hrz : ∀ ty, (Builtin.append_ #[24, 3] ty #[.slice (some ⟨g, 0, none⟩) i c, .int .i64 ((n : Int) + (m : Int) - (i : Int))]).run Tryd.prog w = .ok (.slice (some ⟨gn, 0, none⟩) (n + m) G) w1)
    (hcpA : ∀ ty dc, (Builtin.copy_ #[24, 24] ty #[.slice (some ⟨gn, i * 3, none⟩) (n + m - i) dc, .slice (some ⟨vb, 0, none⟩) m vc]).run Tryd.prog w1 = .ok (goInt m) w2)
    (hcpB : ∀ ty dc sc, (Builtin.copy_ #[24, 24] ty #[.slice (some ⟨gn, (i + m) * 3, none⟩) (n + m - (i + m)) dc, .slice (some ⟨g, i * 3, none⟩) (n - i) sc]).run Tryd.prog w2.drew = .ok (goInt (n - i)) w3) :
    Calls Tryd.prog 23 #[.slice (some ⟨g, 0, none⟩) n c, .int .i64 i, .slice (some ⟨vb, 0, none⟩) m vc] w fun e w' => e = .returned (.slice (some ⟨gn, 0, none⟩) (n + m) G) ∧ w' = w3 := by
  have hz1 : ¬ ((m : Int) = 0) := by omega
  have hmx := mixed
  have hz2 : ¬ ((i : Int) = (n : Int)) := by omega
  have hz3 : (c : Int) < (n : Int) + (m : Int) := by omega
  have hw1 : IntKind.i64.wrap ((i : Int) + (m : Int)) = (i : Int) + (m : Int) := by rw [IntKind.wrap_i64]; omega
  have hb1 : (0 : Int) ≤ (i : Int) + (m : Int) := by omega
  have hin : i ≤ n := by omega
  have htn : ((i : Int) + (m : Int)).toNat = i + m := by omega
  have hb3 : (i : Int) ≤ (n : Int) := by omega
  have hGi : ¬ (G = i) := by omega
  have hGim : ¬ (G = i + m) := by omega
  have hci : ¬ (c = i) := by omega
  go_enter Tryd.func23, Tryd.ntmps23
  go_wp2_with (first
    | (at_builtin; refine Lib.wpList_append_run _ rfl _ _ _ _ rfl _ _ rfl rfl _ _ (hrz _) ?_)
    | (at_builtin; refine wpList_copy_runI _ rfl _ _ 24 24 rfl _ _ rfl rfl (hcpA _ _) ?_))
  go_region_law_o (refine step_copy_runI rfl _ _ 24 24 rfl (.slice (some ⟨gn, (i + m) * 3, none⟩) (n + m - (i + m)) (G - (i + m))) (.slice (some ⟨g, i * 3, none⟩) (n - i) (c - i)) (by simp [Act.eval, Act.put]) (by simp [Act.eval, Act.put]) (hcpB 3 (G - (i + m)) (c - i)) ?_)
  go_wp2
  go_ret
  exact ⟨rfl, rfl⟩
end Go.Vm

namespace Go.Vm

/-- Elements put in at a place. -/
def insC : (c : C) → c.I → Nat → c.I → c.I
  | .sl1 _, (xs : List _), i, (ys : List _) => xs.take i ++ ys ++ xs.drop i
  | .sl _, (xs : List _), i, (ys : List _) => xs.take i ++ ys ++ xs.drop i
  | .kids _, (xs : List _), i, (ys : List _) => xs.take i ++ ys ++ xs.drop i
  | _, x, _, _ => x

theorem insC_eq {c : C} (h : isSl c = true) (xs ys : c.I) (i : Nat) : insC c xs i ys = appC c (appC c (subC c xs 0 i) ys) (subC c xs i (lenC c xs)) := by
  have key : ∀ {α : Type} (xs ys : List α), List.take i xs ++ ys ++ List.drop i xs = List.drop 0 (List.take i xs) ++ ys ++ List.drop i (List.take (List.length xs) xs) := by
    intro α xs ys
    rw [List.drop_zero, List.take_length]
  cases c with
  | sl1 c => exact key (α := c.I) xs ys
  | sl r => exact key (α := C.Is r) xs ys
  | kids r => exact key (α := Rose (C.Is r)) xs ys
  | _ => cases h

theorem insC_cells {c : C} (h : isSl c = true) (xs ys : c.I) (i : Nat) (hi : i ≤ lenC c xs) :
    cellsU c (insC c xs i ys) = (cellsU c xs).take (i * (rowOf c).length) ++ cellsU c ys ++ (cellsU c xs).drop (i * (rowOf c).length) ∧ lenC c (insC c xs i ys) = lenC c xs + lenC c ys := by
  obtain ⟨a1, a2⟩ := subC_cells h xs 0 i hi
  obtain ⟨b1, b2⟩ := subC_cells h xs i (lenC c xs) (Nat.le_refl _)
  obtain ⟨c1, c2⟩ := appC_cells h (subC c xs 0 i) ys
  obtain ⟨d1, d2⟩ := appC_cells h (appC c (subC c xs 0 i) ys) (subC c xs i (lenC c xs))
  rw [insC_eq h]
  refine ⟨?_, by omega⟩
  rw [d1, c1, a1, b1]
  have hl := cellsU_len c xs
  simp only [Nat.zero_mul, List.drop_zero]
  have e : List.take (lenC c xs * (rowOf c).length) (cellsU c xs) = cellsU c xs := List.take_of_length_le (by rw [hl]; exact Nat.le_refl _)
  rw [e]

/-- slices.Insert: both slices are the caller's own, and two. -/
def hIns (c : C) (bytes : Nat) : Hnd := fun _ args mem K => match args with
  | [.one (.ref b), .one (.d (.int .i64) (i : Int)), .one (.ref b')] => match mem[b]?, mem[b']? with
    | some (.arr c1 xs1), some (.arr c2 ys1) => match cast? c1 c xs1, cast? c2 c ys1 with
      | some xs, some ys => if b' = b then none else if lenC c ys = 0 then none else
        if 0 ≤ i then (if i ≤ (lenC c xs : Int) then (if (lenC c xs + lenC c ys) * bytes ≤ 2 ^ 47 then
          K (.v (.one (.ref mem.length))) (mem.set b .dead ++ [.arr c (insC c xs i.toNat ys)]) else none) else none) else none
      | _, _ => none
    | _, _ => none
  | _ => none


section
variable {c : Cf} {b i m : Nat} {k : C} {xs ys : k.I} {w' : World}

/-- In place. -/
theorem ins_move (hok : c.ok) (hk : isSl k = true) (hm : c.mem[b]? = some (.arr k xs)) {g cap : Nat} (e : c.be[b]? = some (.blk g cap)) (hi : i ≤ lenC k xs) (hw : Only g c.w w') {cells : Array Value} {T : TypeId}
    (hh : w'.heap[g]? = some (.cells cells T (0, 0))) (hsz : cells.size = cap * (rowOf k).length) (hroom : lenC k xs + lenC k ys ≤ cap)
    (hr : ∀ (j : Nat) (u : U), ((cellsU k xs).take (i * (rowOf k).length) ++ cellsU k ys ++ (cellsU k xs).drop (i * (rowOf k).length))[j]? = some u → ∃ x, cells[j]? = some x ∧ Rd c.w c.Al u x) :
    ∃ be', (⟨w', c.Al, be', c.mem.set b .dead ++ [.arr k (insC k xs i ys)]⟩ : Cf).ok ∧ c.To ⟨w', c.Al, be', c.mem.set b .dead ++ [.arr k (insC k xs i ys)]⟩ ∧
      (⟨w', c.Al, be', c.mem.set b .dead ++ [.arr k (insC k xs i ys)]⟩ : Cf).r1 (.ref c.mem.length) (.slice (some ⟨g, 0, none⟩) (lenC k xs + lenC k ys) cap) ∧
      ∀ (b1 : Nat) (cs : List V) (g1 cap1 : Nat), c.mem[b1]? = some (.box cs) → c.be[b1]? = some (.blk g1 cap1) → w'.heap[g1]? = c.w.heap[g1]? := by
  obtain ⟨i1, i2⟩ := insC_cells hk xs ys i hi
  have hlen : (c.be ++ [Bt.blk g cap])[c.mem.length]? = some (.blk g cap) := by rw [← hok.len]; simp
  have hal : ∀ q, c.Al q → c.Al q ∧ w'.heap[q]? = c.w.heap[q]? := fun q hq => ⟨hq, hw.block q (fun hqg => hok.av g ⟨b, _, cap, hm, rfl, e⟩ (hqg ▸ hq))⟩
  obtain ⟨g1, g2⟩ := step_move hok (ys := insC k xs i ys) hm e hw ⟨hk, .inl ⟨g, cap, cells, T, hlen, hh, hsz, by rw [i2]; exact hroom, fun j u hu => by
    rw [i1] at hu
    obtain ⟨x, hx, hrd⟩ := hr j u hu
    exact ⟨x, hx, Rd_mono hal u x hrd⟩⟩⟩
  refine ⟨_, g1, g2, ?_, fun b1 cs q cap1 hm1 e1 => hw.block q fun hq => by
    subst hq
    have := hok.inj b1 b _ _ q cap1 cap hm1 rfl e1 hm rfl e
    subst this
    rw [hm] at hm1; cases hm1⟩
  have e1 : (c.mem.set b Blk.dead ++ [Blk.arr k (insC k xs i ys)])[c.mem.length]? = some (Blk.arr k (insC k xs i ys)) := by
    rw [List.getElem?_append_right (by simp)]; simp
  simp only [Cf.r1, e1]
  exact .inl ⟨g, cap, hlen, by rw [i2]⟩

/-- Into a new row. -/
theorem ins_new (hok : c.ok) (hk : isSl k = true) (hm : c.mem[b]? = some (.arr k xs)) {gn cap : Nat} (hi : i ≤ lenC k xs) (hw : Ext c.w w') (hgn : c.w.heap.size ≤ gn) {cells : Array Value} {T : TypeId}
    (hh : w'.heap[gn]? = some (.cells cells T (0, 0))) (hsz : cells.size = cap * (rowOf k).length) (hroom : lenC k xs + lenC k ys ≤ cap)
    (hr : ∀ (j : Nat) (u : U), ((cellsU k xs).take (i * (rowOf k).length) ++ cellsU k ys ++ (cellsU k xs).drop (i * (rowOf k).length))[j]? = some u → ∃ x, cells[j]? = some x ∧ Rd c.w c.Al u x) :
    ∃ be', (⟨w', c.Al, be', c.mem.set b .dead ++ [.arr k (insC k xs i ys)]⟩ : Cf).ok ∧ c.To ⟨w', c.Al, be', c.mem.set b .dead ++ [.arr k (insC k xs i ys)]⟩ ∧
      (⟨w', c.Al, be', c.mem.set b .dead ++ [.arr k (insC k xs i ys)]⟩ : Cf).r1 (.ref c.mem.length) (.slice (some ⟨gn, 0, none⟩) (lenC k xs + lenC k ys) cap) ∧
      ∀ (b1 : Nat) (cs : List V) (g1 cap1 : Nat), c.mem[b1]? = some (.box cs) → c.be[b1]? = some (.blk g1 cap1) → w'.heap[g1]? = c.w.heap[g1]? := by
  obtain ⟨i1, i2⟩ := insC_cells hk xs ys i hi
  obtain ⟨hk1, hk2, _⟩ := step_kill hok hm
  have hlen : (c.be ++ [Bt.blk gn cap])[c.mem.length]? = some (.blk gn cap) := by rw [← hok.len]; simp
  obtain ⟨g1, g2⟩ := step_new hk1 hw (.blk gn cap) (.arr k (insC k xs i ys)) (fun g cap e => by cases e; exact hgn) ⟨hk, .inl ⟨gn, cap, cells, T, by rw [List.length_set]; exact hlen, hh, hsz, by rw [i2]; exact hroom, fun j u hu => by
    rw [i1] at hu
    obtain ⟨x, hx, hrd⟩ := hr j u hu
    exact ⟨x, hx, Rd_mono (fun g hg => ⟨hg, hw.block g (hok.lt g hg)⟩) u x hrd⟩⟩⟩
  refine ⟨_, g1, hk2.trans g2, ?_, fun b1 cs q cap1 hm1 e1 => hw.block q (live_lt hok ⟨b1, _, cap1, hm1, rfl, e1⟩)⟩
  have e1 : (c.mem.set b Blk.dead ++ [Blk.arr k (insC k xs i ys)])[c.mem.length]? = some (Blk.arr k (insC k xs i ys)) := by
    rw [List.getElem?_append_right (by simp)]; simp
  simp only [Cf.r1, e1]
  exact .inl ⟨gn, cap, hlen, by rw [i2]⟩

end
end Go.Vm

namespace Go.Vm
open Go.Proofs

def RelU (w : World) (Al : Nat → Prop) (us : List U) (l : List Value) : Prop := ∀ (j : Nat) (u : U), us[j]? = some u → ∃ x, l[j]? = some x ∧ Rd w Al u x

section
variable {P : Program} {w : World} {Al : Nat → Prop} {us vs : List U} {l r : List Value}

theorem RelU.pre (h : RelU w Al us l) (r : List Value) : RelU w Al us (l ++ r) := fun j u hj =>
  let ⟨x, hx, hr⟩ := h j u hj
  ⟨x, app_some hx, hr⟩

theorem RelU.app (h : RelU w Al us l) (hl : us.length = l.length) (h2 : RelU w Al vs r) : RelU w Al (us ++ vs) (l ++ r) := by
  intro j u hj
  by_cases hi : j < us.length
  · rw [List.getElem?_append_left hi] at hj
    obtain ⟨x, hx, hr⟩ := h j u hj
    exact ⟨x, app_some hx, hr⟩
  · rw [List.getElem?_append_right (by omega)] at hj
    obtain ⟨x, hx, hr⟩ := h2 _ u hj
    exact ⟨x, by rw [List.getElem?_append_right (by omega), ← hl]; exact hx, hr⟩

theorem RelU.take (h : RelU w Al us l) (n : Nat) : RelU w Al (us.take n) (l.take n) := by
  intro j u hj
  rw [List.getElem?_take] at hj
  split at hj
  · rename_i hn
    obtain ⟨x, hx, hr⟩ := h j u hj
    exact ⟨x, by rw [List.getElem?_take, if_pos hn]; exact hx, hr⟩
  · cases hj

theorem RelU.drop (h : RelU w Al us l) (n : Nat) : RelU w Al (us.drop n) (l.drop n) := by
  intro j u hj
  rw [List.getElem?_drop] at hj
  obtain ⟨x, hx, hr⟩ := h _ u hj
  exact ⟨x, by rw [List.getElem?_drop]; exact hx, hr⟩

theorem RelU.one (h : RelU w Al us l) (hl : l.length = us.length) : ∀ x ∈ l, x.oneCell' = true := by
  intro x hx
  obtain ⟨j, hj⟩ := List.getElem?_of_mem hx
  have hjl := (List.getElem?_eq_some_iff.1 hj).1
  obtain ⟨y, hy, hr⟩ := h j _ (List.getElem?_eq_getElem (by omega))
  rw [hj] at hy; cases hy
  exact Rd_oneCell hr

theorem row_first {g off n : Nat} {cells : Array Value} {T : TypeId} (hg : w.heap[g]? = some (.cells cells T (0, 0))) (h : off + n ≤ cells.size) :
    (loadCells ⟨g, off, none⟩ n).run P w = .ok ((cells.toList.drop off).take n).toArray w := by
  have hl : ((cells.toList.drop off).take n).length = n := by
    rw [List.length_take, List.length_drop, Array.length_toList]; omega
  have := loadCells_of (P := P) w g off ((cells.toList.drop off).take n) (fun j v hj => by
    rw [List.getElem?_take] at hj
    split at hj
    · rw [List.getElem?_drop] at hj
      simp [World.cell?, hg]
      simpa using hj
    · cases hj)
  rw [hl] at this
  exact this

theorem over_eq {α : Type} (l : List α) (p : Nat) (xs : List α) : over l p xs = l.take p ++ (xs ++ l.drop (p + xs.length)) := rfl

/-- Two copies, the tail first: what stands there then. -/
theorem two_over {α : Type} (l tail news : List α) (p q : Nat) (hp : q = p + news.length) (hl : q ≤ l.length) :
    over (over l q tail) p news = l.take p ++ news ++ tail ++ l.drop (q + tail.length) := by
  rw [over_eq (over l q tail)]
  have hq : (l.take q).length = q := by rw [List.length_take]; omega
  have h1 : (over l q tail).take p = l.take p := by
    rw [over_eq, List.take_append, hq, show p - q = 0 by omega]
    simp only [List.take_zero, List.append_nil]
    rw [List.take_take, Nat.min_eq_left (by omega)]
  have h2 : (over l q tail).drop (p + news.length) = tail ++ l.drop (q + tail.length) := by
    rw [over_eq, ← hp, List.drop_append, hq, Nat.sub_self, List.drop_zero, List.drop_of_length_le (by omega), List.nil_append]
  rw [h1, h2]
  simp only [List.append_assoc]

/-- Two copies, the tail last. -/
theorem over_two {α : Type} (l tail news : List α) (p q : Nat) (hp : q = p + news.length) (hl : q ≤ l.length) :
    over (over l p news) q tail = l.take p ++ news ++ tail ++ l.drop (q + tail.length) := by
  rw [over_eq (over l p news)]
  have hq : (l.take p).length = p := by rw [List.length_take]; omega
  have h1 : (over l p news).take q = l.take p ++ news := by
    rw [over_eq, hp, ← List.append_assoc, List.take_append, List.length_append, hq, Nat.sub_self, List.take_zero, List.append_nil, List.take_of_length_le (by rw [List.length_append, hq]; exact Nat.le_refl _)]
  have h2 : (over l p news).drop (q + tail.length) = l.drop (q + tail.length) := by
    rw [over_eq, ← List.append_assoc, List.drop_append, List.length_append, hq, List.drop_of_length_le (by rw [List.length_append, hq]; omega), List.nil_append, List.drop_drop]
    congr 1; omega
  rw [h1, h2]
  simp only [List.append_assoc]

end
end Go.Vm
