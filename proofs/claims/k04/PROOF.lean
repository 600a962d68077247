import PyProof.Rows.All
import Wide.All
import OpenK.AllK
import Wide.FinOn
import HandS.ForMost
import HandS.IsInst
import HandS.HeadHook1
import PyProof.NoPylong
import HandS.Head0
import HandS.Head1
import HandS.Head2
import HandS.HeadEnd
import HandS.Small
import HandS.List
import HandS.RevRange
import HandS.Iter
import PySem.Challenge.RW_unwind_k04_faults_go_out
set_option Elab.async false
set_option linter.all false
set_option maxRecDepth 100000
set_option maxHeartbeats 8000000
namespace Lw
open PySem PySem.Spec PyProof.Rows L2
/-! ### the text by places -/
def top (i : Nat) : Stmt := PySem.Challenge.pw_unwind_k04_faults_go_out.main.body.getD i (.Pass ⟨0, 0, 0, 0⟩)
abbrev s_goal_of : Stmt := top 4
abbrev s_Frame___init__ : Stmt := inClass (top 5) 0
abbrev s_Frame_lay : Stmt := inClass (top 5) 1
abbrev s_Machine___init__ : Stmt := inClass (top 6) 0
abbrev s_Machine_step : Stmt := inClass (top 6) 1
abbrev s_Machine_taken : Stmt := inClass (top 6) 2
abbrev s_Machine_move : Stmt := inClass (top 6) 3
abbrev s_Machine_meet : Stmt := inClass (top 6) 4
abbrev s_Machine_jump : Stmt := inClass (top 6) 5
abbrev s_Machine_enter : Stmt := inClass (top 6) 6
abbrev s_Machine_back : Stmt := inClass (top 6) 7
abbrev s_Machine_fault : Stmt := inClass (top 6) 8
abbrev s_run : Stmt := top 7
abbrev s_l_whole : Stmt := top 9
abbrev s_l_cell_at : Stmt := top 10
abbrev s_l_number : Stmt := top 11
abbrev s_l_parts : Stmt := top 12
abbrev s_l_due : Stmt := top 13
abbrev s_law : Stmt := top 14
/-! ### what the head tells -/
def d_goal_of : He.FnD := ⟨("goal_of", none), "goal_of", "goal_of", defArgs s_goal_of, defBody s_goal_of, defScope s_goal_of⟩
def d_Frame___init__ : He.FnD := ⟨("Frame", some "__init__"), "__init__", "Frame.__init__", defArgs s_Frame___init__, defBody s_Frame___init__, defScope s_Frame___init__⟩
def d_Frame_lay : He.FnD := ⟨("Frame", some "lay"), "lay", "Frame.lay", defArgs s_Frame_lay, defBody s_Frame_lay, defScope s_Frame_lay⟩
def d_Machine___init__ : He.FnD := ⟨("Machine", some "__init__"), "__init__", "Machine.__init__", defArgs s_Machine___init__, defBody s_Machine___init__, defScope s_Machine___init__⟩
def d_Machine_step : He.FnD := ⟨("Machine", some "step"), "step", "Machine.step", defArgs s_Machine_step, defBody s_Machine_step, defScope s_Machine_step⟩
def d_Machine_taken : He.FnD := ⟨("Machine", some "taken"), "taken", "Machine.taken", defArgs s_Machine_taken, defBody s_Machine_taken, defScope s_Machine_taken⟩
def d_Machine_move : He.FnD := ⟨("Machine", some "move"), "move", "Machine.move", defArgs s_Machine_move, defBody s_Machine_move, defScope s_Machine_move⟩
def d_Machine_meet : He.FnD := ⟨("Machine", some "meet"), "meet", "Machine.meet", defArgs s_Machine_meet, defBody s_Machine_meet, defScope s_Machine_meet⟩
def d_Machine_jump : He.FnD := ⟨("Machine", some "jump"), "jump", "Machine.jump", defArgs s_Machine_jump, defBody s_Machine_jump, defScope s_Machine_jump⟩
def d_Machine_enter : He.FnD := ⟨("Machine", some "enter"), "enter", "Machine.enter", defArgs s_Machine_enter, defBody s_Machine_enter, defScope s_Machine_enter⟩
def d_Machine_back : He.FnD := ⟨("Machine", some "back"), "back", "Machine.back", defArgs s_Machine_back, defBody s_Machine_back, defScope s_Machine_back⟩
def d_Machine_fault : He.FnD := ⟨("Machine", some "fault"), "fault", "Machine.fault", defArgs s_Machine_fault, defBody s_Machine_fault, defScope s_Machine_fault⟩
def d_run : He.FnD := ⟨("run", none), "run", "run", defArgs s_run, defBody s_run, defScope s_run⟩
def d_l_whole : He.FnD := ⟨("_law_whole", none), "_law_whole", "_law_whole", defArgs s_l_whole, defBody s_l_whole, defScope s_l_whole⟩
def d_l_cell_at : He.FnD := ⟨("_law_cell_at", none), "_law_cell_at", "_law_cell_at", defArgs s_l_cell_at, defBody s_l_cell_at, defScope s_l_cell_at⟩
def d_l_number : He.FnD := ⟨("_law_number", none), "_law_number", "_law_number", defArgs s_l_number, defBody s_l_number, defScope s_l_number⟩
def d_l_parts : He.FnD := ⟨("_law_parts", none), "_law_parts", "_law_parts", defArgs s_l_parts, defBody s_l_parts, defScope s_l_parts⟩
def d_l_due : He.FnD := ⟨("_law_due", none), "_law_due", "_law_due", defArgs s_l_due, defBody s_l_due, defScope s_l_due⟩
def d_law : He.FnD := ⟨("law", none), "law", "law", defArgs s_law, defBody s_law, defScope s_law⟩
def fn : List He.FnD := ([d_goal_of, d_Frame___init__, d_Frame_lay, d_Machine___init__, d_Machine_step, d_Machine_taken, d_Machine_move, d_Machine_meet, d_Machine_jump, d_Machine_enter, d_Machine_back, d_Machine_fault, d_run, d_l_whole, d_l_cell_at, d_l_number, d_l_parts, d_l_due, d_law] : List He.FnD)
def fa : List He.Fa := ([.int "DEEPEST" 8, .int "NOUGHT" 101, .int "DEEP" 102, .glo "goal_of", .keep "goal_of", .glo "Frame", .cls "Frame", .noat "Frame" "boxes", .noat "Frame" "pile", .noat "Frame" "place", .mkr "Frame", .meth "Frame" "lay", .glo "Machine", .cls "Machine", .noat "Machine" "boxes", .noat "Machine" "code", .noat "Machine" "ended", .noat "Machine" "frames", .noat "Machine" "said", .noat "Machine" "starts", .noat "Machine" "stretches", .noat "Machine" "turns", .mkr "Machine", .meth "Machine" "step", .meth "Machine" "taken", .meth "Machine" "move", .meth "Machine" "meet", .meth "Machine" "jump", .meth "Machine" "enter", .meth "Machine" "back"] : List He.Fa) ++ ([.meth "Machine" "fault", .glo "run", .keep "run", .glo "_law_whole", .keep "_law_whole", .glo "_law_cell_at", .keep "_law_cell_at", .glo "_law_number", .keep "_law_number", .glo "_law_parts", .keep "_law_parts", .glo "_law_due", .keep "_law_due", .glo "law", .keep "law", .free "bool", .free "int", .free "isinstance", .free "len", .free "list", .free "min", .free "range", .free "reversed", .free "str", .free "sum", .free "tuple"] : List He.Fa)
def loose : List PySem.Str := (["DEEPEST", "NOUGHT", "DEEP", "goal_of", "Frame", "Machine", "run", "_law_whole", "_law_cell_at", "_law_number", "_law_parts", "_law_due"] : List PySem.Str)

abbrev R : PySem.W.OpenRow := PySem.W.OpenLaw.row PySem.Challenge.rw_unwind_k04_faults_go_out
abbrev hk : PySem.W.Hook := He.hookE 5 fa fn
def ob (s : PySem.W.SharedT) : He.Al := He.obsG 5 fa fn (HandSHeadRun.getT s)
theorem ob_eq (s : PySem.W.SharedT) : ob s = hk.obs s.abs := He.obsG_eq (HandSHeadRun.getT_eq s)
theorem run (w : World) : HandSHeadRun.RunEq R (PySem.W.view R.prog [14]) hk ob 30000 loose w := by
  intro os
  kernel_rfl

end Lw

set_option maxHeartbeats 4000000
namespace U
open PySem PySem.Spec PyProof.Rows L2

/-! ### room: one frame a level -/
structure Rm (n : Nat) (A : Around) : Prop where
  noh : A.handled = none
  fr : A.depth + n + 105 < recursionLimit
  cu : A.units + 4 * n + 400 < cLine
theorem Rm.mono {m n : Nat} {A : Around} (r : Rm n A) (h : m ≤ n) : Rm m A :=
  ⟨r.noh, by have q := r.fr; omega, by have q := r.cu; omega⟩
theorem Rm.down {n : Nat} {A : Around} (r : Rm (n + 1) A) (env : Env) : Rm n (A.deeper env) := by
  refine ⟨r.noh, ?_, ?_⟩
  · have q := r.fr
    show A.depth + 1 + n + 105 < _
    omega
  · have q := r.cu
    show A.units + 3 + 4 * n + 400 < _
    omega
theorem Rm.mk_ {n : Nat} {A : Around} (r : Rm (n + 1) A) (C : Addr) (us : List Value) (kw : List (Str × Value)) :
    Rm n (A.under (.builtin "type.__call__" ⟨.ref C :: us, kw⟩)) := by
  refine ⟨r.noh, ?_, ?_⟩
  · have q := r.fr
    rw [make_depth]
    omega
  · have q := r.cu
    rw [make_units]
    omega
theorem Rm.rm {n : Nat} {A : Around} (r : Rm n A) : Room 6 A :=
  ⟨r.noh, by have q := r.fr; omega, by have q := r.cu; omega⟩
theorem Rm.dep {n : Nat} {A : Around} (r : Rm n A) : A.depth < recursionLimit := by
  have q := r.fr
  omega
theorem Rm.hu {n : Nat} {A : Around} (r : Rm n A) : A.units + 64 < cLine := by
  have q := r.cu
  omega

/-! ### the surroundings of a text -/
structure Zt where
  P : Program
  w : World
  K : PySem.W.Frag
  mg : Str → Option Value
  base : Heap

/-- a def that keeps its promise wherever n more frames have room -/
structure FnR (Z : Zt) (CX : CXT) (n : Nat) (f : Addr) (fd : FuncData) (ps : List Str) (sp : Sp) : Prop where
  len : ∀ vs H Q E, sp vs H Q E → vs.length = ps.length
  run : ∀ (A : Around) (outer : List Env) (s : Shared) (H : Hp) (args : Args) (us : List Value) (vs : List V) (Q : VK) (E : XK),
    Rm n A → Env0 Z.P Z.w Z.K Z.mg Z.base A outer s H → BindsTo s fd args (ps.zip us) → Vals vs us → sp vs H Q E →
      codeAny (model Z.P Z.w) A (.call (.ref f) args) (CR CX outer Z.P Z.w H s Q E) s

theorem FnR.up {Z : Zt} {CX : CXT} {m n : Nat} {f : Addr} {fd : FuncData} {ps : List Str} {sp : Sp} (F : FnR Z CX m f fd ps sp) (h : m ≤ n) : FnR Z CX n f fd ps sp :=
  ⟨F.len, fun A outer s H args us vs Q E hr => F.run A outer s H args us vs Q E (hr.mono h)⟩

theorem FnR.toOk {Z : Zt} {CX : CXT} {n : Nat} {f : Addr} {fd : FuncData} {ps : List Str} {sp : Sp} (F : FnR Z CX n f fd ps sp) (h : n ≤ 500) :
    FnOk Z.P Z.w Z.K Z.mg Z.base CX 231 f fd ps sp := by
  refine ⟨F.len, fun A outer s H args us vs Q E hr => F.run A outer s H args us vs Q E ⟨hr.hd, ?_, ?_⟩⟩
  · have q := hr.dp
    omega
  · have q := hr.un
    omega

section
variable {X : Cx} {CX : CXT} {n : Nat} {f C : Addr} {fd : FuncData} {ps : List Str} {sp : Sp} {E : XK}

theorem runR {pins : List (Addr × Obj)} {σ : L2.St} {H : Hp} {s : Shared} {Q : VK} {us : List Value} {vs : List V} (F : FnR ⟨X.prog, X.w, X.K, X.mg, X.base⟩ CX n f fd ps sp) (hr : Rm n X.A)
    (hb : L2.Binds X.K fd ps []) (hx : Passes CX X E) (I : Inv X pins σ H s) (r : Vals vs us) (h : sp vs H Q E) :
    wpAny (model X.prog X.w) X.A (call (.ref f) us) (EP X pins σ Q) X.xe s := by
  have hlen : (us ++ []).length = ps.length := by
    rw [List.append_nil, ← r.length]
    exact F.len _ _ _ _ h
  have hbind := hb s us I.kIn hlen
  rw [List.append_nil] at hbind
  refine wpAny_call (codeAny_mono (F.run X.A X.stack s H ⟨us, []⟩ us vs Q E hr I.env0 hbind r h) fun res s' hq => ?_)
  match res, hq with
  | .error e, hq => exact hx pins σ H s e s' I hq
  | .ok (.ret u), hq => exact I.after hq
  | .ok .next, hq => exact hq.elim
  | .ok .brk, hq => exact hq.elim
  | .ok .cont, hq => exact hq.elim

theorem runMk {pins : List (Addr × Obj)} {σ : L2.St} {H : Hp} {s : Shared} {Q : VK} {us : List Value} {vs : List V} (M : Mk X.K C f) (F : FnR ⟨X.prog, X.w, X.K, X.mg, X.base⟩ CX n f fd ps sp) (hr : Rm (n + 1) X.A)
    (hb : L2.Binds X.K fd ps []) (hx : Passes CX X E) (I : Inv X pins σ H s) (r : Vals vs us)
    (h : ∀ x dx, H x = none → H dx = none → dx ≠ x → sp (.ref x :: (vs ++ [])) (upd (upd H dx (.own x)) x (.ins C dx [])) (fun v H2 => v = .non ∧ Q (.ref x) H2) E) :
    wpAny (model X.prog X.w) X.A (call (.ref C) us) (EP X pins σ Q) X.xe s := by
  have h1 := h (s.heap.objs.size + 1) s.heap.objs.size (I.hok.fresh (Nat.le_succ _)) (I.hok.fresh (Nat.le_refl _)) (Nat.ne_of_lt (Nat.lt_succ_self _))
  rw [List.append_nil] at h1
  have J := Inv.made (C := C) I
  have rr : Vals (V.ref (s.heap.objs.size + 1) :: vs) (Value.ref (s.heap.objs.size + 1) :: us) := .cons rfl r
  have hlen : ((Value.ref (s.heap.objs.size + 1) :: us) ++ []).length = ps.length := by
    rw [List.append_nil, ← rr.length]
    exact F.len _ _ _ _ h1
  have hbind := hb (Shared.mk _ _ _ _ _) (Value.ref (s.heap.objs.size + 1) :: us) J.kIn hlen
  rw [List.append_nil] at hbind
  refine wpAny_call (make_map (f := f) I.kIn M.makes M.init (beq_iff_eq.mp M.fn) (codeAny_mono (F.run _ X.stack _ _ ⟨Value.ref (s.heap.objs.size + 1) :: us, []⟩ _ _ _ E (hr.mk_ C us [])
    (J.env0.make C us []) hbind rr h1) fun res s' hq => ?_))
  match res, hq with
  | .error e, hq => exact hx pins σ _ _ e s' J hq
  | .ok (.ret u), hq =>
    obtain ⟨v, H', I3, rv, ev, q3⟩ := J.after hq
    subst ev
    exact ⟨rv, ⟨V.ref (s.heap.objs.size + 1), H', I3, rfl, q3⟩⟩
  | .ok .next, hq => exact hq.elim
  | .ok .brk, hq => exact hq.elim
  | .ok .cont, hq => exact hq.elim
end
end U

set_option maxHeartbeats 4000000
namespace U
open PySem PySem.Spec PyProof.Rows L2

/-! ### what may be called by name, as a method, as a class -/
structure Cal (Z : Zt) (CX : CXT) (n : Nat) (x : Str) (ps : List Str) (sp : Sp) : Prop where
  ex : ∃ f fd, Z.mg x = some (.ref f) ∧ PySem.W.keepIn Z.K (.ref f) = true ∧ L2.Binds Z.K fd ps [] ∧ FnR Z CX n f fd ps sp
structure CalM (Z : Zt) (CX : CXT) (n : Nat) (C : Addr) (m : Str) (ps : List Str) (sp : Sp) : Prop where
  ex : ∃ f fd, Meth Z.K C m f ∧ L2.Binds Z.K fd ps [] ∧ FnR Z CX n f fd ps sp
structure CalN (Z : Zt) (CX : CXT) (n : Nat) (x : Str) (C : Addr) (ps : List Str) (sp : Sp) : Prop where
  ex : ∃ f fd, Mk Z.K C f ∧ Z.mg x = some (.ref C) ∧ L2.Binds Z.K fd ps [] ∧ FnR Z CX n f fd ps sp

theorem Cal.up {Z : Zt} {CX : CXT} {m n : Nat} {x : Str} {ps : List Str} {sp : Sp} (c : Cal Z CX m x ps sp) (h : m ≤ n) : Cal Z CX n x ps sp := by
  obtain ⟨f, fd, h1, h2, h3, h4⟩ := c.ex
  exact ⟨f, fd, h1, h2, h3, h4.up h⟩
theorem CalM.up {Z : Zt} {CX : CXT} {m n : Nat} {C : Addr} {x : Str} {ps : List Str} {sp : Sp} (c : CalM Z CX m C x ps sp) (h : m ≤ n) : CalM Z CX n C x ps sp := by
  obtain ⟨f, fd, h1, h3, h4⟩ := c.ex
  exact ⟨f, fd, h1, h3, h4.up h⟩
theorem CalN.up {Z : Zt} {CX : CXT} {m n : Nat} {C : Addr} {x : Str} {ps : List Str} {sp : Sp} (c : CalN Z CX m x C ps sp) (h : m ≤ n) : CalN Z CX n x C ps sp := by
  obtain ⟨f, fd, h1, h2, h3, h4⟩ := c.ex
  exact ⟨f, fd, h1, h2, h3, h4.up h⟩

section
variable {X : Cx} {CX : CXT} {n : Nat} {C : Addr} {ps : List Str} {sp : Sp} {E : XK} {x m : Str} {p pos apos : Pos} {e o : Expr} {es : List Expr} {ta : TE} {t : TA}

theorem pcal (c : Cal ⟨X.prog, X.w, X.K, X.mg, X.base⟩ CX n x ps sp) (hr : Rm n X.A) (hg : Gl X x) (hx : Passes CX X E) (ha : PA X (e :: es) t)
    (hdb : (x == ("__debug__" : Str)) = false := by decide) (he : starEach (e :: es) X.env = (false, eval e X.env) :: starEach es X.env := by rfl)
    (hpl : (backTo pos (starEach es X.env)).any (·.1) = false := by rfl) : PE X (.Call (.Name x p) (e :: es) [] pos) (tCall sp [] E t) := by
  obtain ⟨f, fd, hm, hk, hb, F⟩ := c.ex
  constructor
  intro pins s σ H Q I h
  apply wpAny_Call_Name_kw
  apply ld_glob I hg hm _ hdb
  refine PySem.W.callWith_K (h₀ := X.base) I.ok.mod.kin hk ?_ he hpl
  refine thn (ha.run pos pins s σ H _ I h) ?_
  rintro us s1 ⟨vs, H1, I1, r, q⟩
  refine ⟨I1.kIn, ?_⟩
  have q' : sp (vs ++ []) H1 Q E := q
  rw [List.append_nil] at q'
  exact runR F hr hb hx I1 r q'

theorem pcal0 (c : Cal ⟨X.prog, X.w, X.K, X.mg, X.base⟩ CX n x ps sp) (hr : Rm n X.A) (hg : Gl X x) (hx : Passes CX X E)
    (hdb : (x == ("__debug__" : Str)) = false := by decide) : PE X (.Call (.Name x p) [] [] pos) (tCall sp [] E tNil) := by
  obtain ⟨f, fd, hm, hk, hb, F⟩ := c.ex
  constructor
  intro pins s σ H Q I h
  apply wpAny_Call_Name_kw
  apply ld_glob I hg hm _ hdb
  exact PySem.W.callWith_K0 I.kIn hk (runR (us := []) F hr hb hx I .nil h)

theorem pmet {pl : Sem Bool} (he : PE X o ta) (cl : Cls X.K C) (c : CalM ⟨X.prog, X.w, X.K, X.mg, X.base⟩ CX n C m ps sp) (hr : Rm n X.A) (hx : Passes CX X E) (ha : PA X (e :: es) t)
    (hst : starEach (e :: es) X.env = (false, eval e X.env) :: starEach es X.env := by rfl) (hpl : (backTo pos (starEach es X.env)).any (·.1) = false := by rfl)
    (ht : eval (.Call (.Attribute o m apos) (e :: es) [] pos) X.env = (do
      let ov ← eval o X.env; standAt apos.atName
      let (f, first) ← holding [ov] (getMethod ov m pl)
      callWith pos f first (backTo pos (starEach (e :: es) X.env)) (backToKw pos (keywordEach [] X.env))) := by rfl) :
    PE X (.Call (.Attribute o m apos) (e :: es) [] pos) (tMeth C m sp [] E ta t) := by
  obtain ⟨f, fd, hm, hb, F⟩ := c.ex
  constructor
  intro pins s σ H Q I h
  refine PySem.W.methodCall_KW (pl := pl) (thn (he.run pins s σ H _ I h) ?_) ht
  rintro u s1 ⟨y, H1, I1, ry, a, dx, fs, ey, ea, l, q⟩
  subst ey
  obtain rfl : u = Value.ref a := ry
  refine getmeth_ok I1 ea cl hm l ?_
  refine PySem.W.callWith_K (first := [.ref a]) (h₀ := X.base) I.ok.mod.kin hm.kp (thn (ha.run pos pins s1 σ H1 _ I1 q) ?_) hst hpl
  rintro us s2 ⟨vs, H2, I2, r, q2⟩
  refine ⟨I2.kIn, ?_⟩
  have q' : sp (.ref a :: (vs ++ [])) H2 Q E := q2
  rw [List.append_nil] at q'
  exact runR (us := .ref a :: us) (vs := .ref a :: vs) F hr hb hx I2 (.cons rfl r) q'

theorem pmet0 {pl : Sem Bool} (he : PE X o ta) (cl : Cls X.K C) (c : CalM ⟨X.prog, X.w, X.K, X.mg, X.base⟩ CX n C m ps sp) (hr : Rm n X.A) (hx : Passes CX X E)
    (ht : eval (.Call (.Attribute o m apos) [] [] pos) X.env = (do
      let ov ← eval o X.env; standAt apos.atName
      let (f, first) ← holding [ov] (getMethod ov m pl)
      callWith pos f first (backTo pos (starEach [] X.env)) (backToKw pos (keywordEach [] X.env))) := by rfl) :
    PE X (.Call (.Attribute o m apos) [] [] pos) (tMeth C m sp [] E ta tNil) := by
  obtain ⟨f, fd, hm, hb, F⟩ := c.ex
  constructor
  intro pins s σ H Q I h
  refine PySem.W.methodCall_KW (pl := pl) (thn (he.run pins s σ H _ I h) ?_) ht
  rintro u s1 ⟨y, H1, I1, ry, a, dx, fs, ey, ea, l, q⟩
  subst ey
  obtain rfl : u = Value.ref a := ry
  refine getmeth_ok I1 ea cl hm l ?_
  exact PySem.W.callWith_K0 (first := [.ref a]) I1.kIn hm.kp (runR (us := [.ref a]) (vs := [.ref a]) F hr hb hx I1 (.cons rfl .nil) q)

theorem pmak (c : CalN ⟨X.prog, X.w, X.K, X.mg, X.base⟩ CX n x C ps sp) (hr : Rm (n + 1) X.A) (hg : Gl X x) (hx : Passes CX X E) (ha : PA X (e :: es) t)
    (hdb : (x == ("__debug__" : Str)) = false := by decide) (he : starEach (e :: es) X.env = (false, eval e X.env) :: starEach es X.env := by rfl)
    (hpl : (backTo pos (starEach es X.env)).any (·.1) = false := by rfl) : PE X (.Call (.Name x p) (e :: es) [] pos) (tMake C sp [] E t) := by
  obtain ⟨f, fd, M, hm, hb, F⟩ := c.ex
  constructor
  intro pins s σ H Q I h
  apply wpAny_Call_Name_kw
  apply ld_glob I hg hm _ hdb
  refine PySem.W.callWith_K (h₀ := X.base) I.ok.mod.kin M.kp ?_ he hpl
  refine thn (ha.run pos pins s σ H _ I h) ?_
  rintro us s1 ⟨vs, H1, I1, r, q⟩
  exact ⟨I1.kIn, runMk M F hr hb hx I1 r q⟩

theorem pmak0 (c : CalN ⟨X.prog, X.w, X.K, X.mg, X.base⟩ CX n x C ps sp) (hr : Rm (n + 1) X.A) (hg : Gl X x) (hx : Passes CX X E)
    (hdb : (x == ("__debug__" : Str)) = false := by decide) : PE X (.Call (.Name x p) [] [] pos) (tMake C sp [] E tNil) := by
  obtain ⟨f, fd, M, hm, hb, F⟩ := c.ex
  constructor
  intro pins s σ H Q I h
  apply wpAny_Call_Name_kw
  apply ld_glob I hg hm _ hdb
  exact PySem.W.callWith_K0 I.kIn M.kp (runMk (us := []) M F hr hb hx I .nil h)

/-- // by any number but 0, in a def's own frame -/
def rFd : R2 := fun x y H Q => ∃ i j, x = .int i ∧ y = .int j ∧ j ≠ 0 ∧ Q (.int (i.fdiv j)) H
end

/-! ### a def by its body -/
structure FunE (K : PySem.W.Frag) (x qual : Str) (st : Stmt) (f : Addr) (fd : FuncData) : Prop where
  ex : ∃ (oc : Value) (od : Option Addr) (kV doc pm : Value) (an : Option Addr) (cdv ct : Value) (osl : Array (Option Value)),
    fd = PySem.W.fnOf x qual (defArgs st) (defBody st) (defScope st) .none kV doc pm an cdv ct ∧ K.lookup f = some ⟨oc, od, .func fd, osl⟩ ∧ PySem.W.codeIn K cdv qual = true
theorem FunE.binds {K : PySem.W.Frag} {x qual : Str} {st : Stmt} {f : Addr} {fd : FuncData} {ps : List Str} (F : FunE K x qual st f fd)
    (h : ∀ (kV doc pm : Value) (an : Option Addr) (cdv ct : Value) (us : List Value), us.length = ps.length → bindArgs (PySem.W.fnOf x qual (defArgs st) (defBody st) (defScope st) .none kV doc pm an cdv ct) ⟨us, []⟩ = pure (ps.zip us)) : L2.Binds K fd ps [] := by
  obtain ⟨oc, od, kV, doc, pm, an, cdv, ct, osl, rfl, lk, hcd⟩ := F.ex
  exact .all (h kV doc pm an cdv ct)
section
variable {Z : Zt} {x qual : Str} {st : Stmt} {f : Addr} {fd : FuncData} {N ps : List Str} {n : Nat} {sp : Sp}
theorem mkR0 {CX : CXT} (F : FunE Z.K x qual st f fd) (S : FnScope N ps (defScope st)) (len : ∀ vs H Q E, sp vs H Q E → vs.length = ps.length)
    (hbody : ∀ (cdv : Value) (A : Around) (outer : List Env) (s : Shared) (H : Hp) (vs : List V) (Q : VK) (E : XK), Rm n (A.deeper (envOfC qual (defScope st) s.heap.objs.size f cdv)) → sp vs H Q E →
      ∃ t, PSs (cxOf CX Z.P Z.w Z.K Z.mg Z.base N qual (defScope st) f cdv A outer s H E) (defBody st) t ∧ t { nx := fun _ H' => Q .non H', rt := Q } (start N vs) H) :
    FnR Z CX (n + 1) f fd ps sp := by
  obtain ⟨oc, od, kV, doc, pm, an, cdv, ct, osl, rfl, lk, hcd⟩ := F.ex
  refine ⟨len, fun A outer s H args us vs Q E hr e0 hb r hsp => ?_⟩
  have hl := len _ _ _ _ hsp
  have kx : Z.K.In s.heap := e0.mod.kin.keeps fun b o e => (e0.bs b o e).1
  have nl : s.heap.NoLimit := e0.mod.nolimit.keeps fun b o e => (e0.bs b o e).1
  refine codeAny_call_function hr.dep (kx _ _ lk) rfl S.co S.gen rfl (PySem.W.codeRec_of kx hcd) (hb _ _ _ _ ?_)
  refine wpAny_newFunctionEnv_cells S.kind ?_ ?_
  · rintro ⟨y, v⟩ hy
    rcases S.par y (List.of_mem_zip hy).1 with q | q
    · exact .inl q
    · exact .inr ⟨q, PySem.W.cellsFrom_some _ _ _ (.inl q)⟩
  · intro env he s1 hin
    subst he
    refine ⟨nl.keeps hin.toInCall.keep, codeAny_func ?_⟩
    obtain ⟨t, ht, hq⟩ := hbody cdv A outer s H vs Q E (hr.down _) hsp
    have I := inv_start (CX := CX) (E := E) S hr.noh e0 hl r hin
    refine wpAny_mono (ht.run [] s1 (start N vs) H _ I hq) ?_ fun e s' hs => hs
    intro fl s' hs
    match fl, hs with
    | .ret u, hs =>
      obtain ⟨v, σ', H', J, rv, q⟩ := hs
      exact ⟨v, H', J.os, J.bare, J.base, J.hok, rv, q⟩
    | .next, hs =>
      obtain ⟨σ', H', J, q⟩ := hs
      exact ⟨V.non, H', J.os, J.bare, J.base, J.hok, rfl, q⟩
    | .brk, hs =>
      obtain ⟨_, _, _, q⟩ := hs
      exact q.elim
    | .cont, hs =>
      obtain ⟨_, _, _, q⟩ := hs
      exact q.elim

/-- nothing leaves it by an exception -/
theorem mkR {tb : TS} (F : FunE Z.K x qual st f fd) (S : FnScope N ps (defScope st)) (len : ∀ vs H Q E, sp vs H Q E → vs.length = ps.length)
    (hbody : ∀ (cdv : Value) (A : Around) (outer : List Env) (s : Shared) (H : Hp) (E : XK), Rm n (A.deeper (envOfC qual (defScope st) s.heap.objs.size f cdv)) →
      PSs (cxOf CX0 Z.P Z.w Z.K Z.mg Z.base N qual (defScope st) f cdv A outer s H E).nox (defBody st) tb)
    (pure : ∀ (vs : List V) (H : Hp) (Q : VK) (E : XK), sp vs H Q E → tb { nx := fun _ H' => Q .non H', rt := Q } (start N vs) H) :
    FnR Z CX0 (n + 1) f fd ps sp :=
  mkR0 F S len fun cdv A outer s H vs Q E hr h => ⟨tb, (hbody cdv A outer s H E hr).nox, pure vs H Q E h⟩

theorem fun_of (F : ∃ oc od osl kV doc pm an cdv ct, Z.K.lookup f = some ⟨oc, od, .func (PySem.W.fnOf x qual (defArgs st) (defBody st) (defScope st) .none kV doc pm an cdv ct), osl⟩ ∧ PySem.W.codeIn Z.K cdv qual = true) :
    ∃ fd, FunE Z.K x qual st f fd := by
  obtain ⟨oc, od, osl, kV, doc, pm, an, cdv, ct, h1, h2⟩ := F
  exact ⟨_, ⟨oc, od, kV, doc, pm, an, cdv, ct, osl, rfl, h1, h2⟩⟩
end
end U

set_option maxHeartbeats 4000000
namespace U
open PySem PySem.Spec PyProof.Rows L2

/-! ### // by any number but 0 -/
theorem op_fdZ {X : Cx} {m : Nat} (hN : X.base.NoSeer) (ht : X.prog.given.tree = none) (hst : X.stack = X.env :: X.outer) (hgn : X.env.scope.isGenerator = false) (hco : X.env.scope.isCoroutine = false)
    (hr : Rm m X.A) : OpR X (binaryOp .FloorDiv) rFd := by
  intro pins s σ H x y v u Q I rx ry h
  obtain ⟨i, j, rfl, rfl, hj, q⟩ := h
  obtain ⟨t, rfl⟩ := rx
  obtain ⟨t', rfl⟩ := ry
  refine floordiv_int hj ?_ (.inr (PylongRoom.of I.nolimit ?_ ?_))
  · exact ⟨.int (i.fdiv j), H, I.tok _, ⟨_, rfl⟩, q⟩
  · have z := hr.fr
    have e : Builtin.pylongFrames = 100 := rfl
    omega
  · exact SeerAt.of (hN.keeps I.bk) ht (by rw [I.ok.frames, hst]) hgn hco I.ok.blt I.ok.glob

/-! ### the law's call -/
def scriptAt (a : Addr) (vs : List Value) (ns : List Int) : Hp := fun b => if b = a then some (.frz { cls := .type "list", data := .seq vs.toArray } (.lst (ns.map V.int))) else none

theorem callU {P : Program} {w : World} {K : PySem.W.Frag} {mg mb : Str → Option Value} {n : Nat} {fa a : Addr} {fd : FuncData} {x : Str} {sp : Sp} {s : Shared} {vs : List Value} {ns : List Int}
    (kx : K.In s.heap) (hns : s.heap.Ns mainGlobals mg) (hb : s.heap.Ns builtinsNs mb) (hbb : ∀ x : Str, x ≠ "__name__" → mb x = bootBuiltins x) (hlim : s.heap.NoLimit) (hsee : s.heap.NoSeer) (hg : s.gens = #[])
    (ha : s.heap.get? a = some { cls := .type "list", data := .seq vs.toArray }) (hi : IntsAre vs ns) (hl : ns.length ≤ sizeLine) (hr : Rm n callerA)
    (F : ∀ base : Heap, K.In base → base.Ns mainGlobals mg → base.NoSeer → FnR ⟨P, w, K, mg, base⟩ CX0 n fa fd [x] sp) (hbind : ∀ (s : Shared) (u : Value), BindsTo s fd ⟨[u], []⟩ [(x, u)])
    (hsp : ∀ H : Hp, Only H → SqL K H a (ns.map V.int) → sp [.ref a] H (fun v _ => v = .bl true) fun _ _ _ => False) :
    codeAny (model P w) callerA (.call (.ref fa) ⟨[.ref a], []⟩) (fun r s' => r = .ok (.ret (.bool true)) ∧ OldK s.heap s'.heap ∧ s'.os = s.os ∧ AllBare s'.gens) s := by
  have rv := vals_ints hi
  have main : ∀ H : Hp, Only H → SqL K H a (ns.map V.int) → HOk P w H s.heap → (∀ b, H b ≠ none → b = a) → (H a ≠ none → K.lookup a = none) →
      codeAny (model P w) callerA (.call (.ref fa) ⟨[.ref a], []⟩) (fun r s' => r = .ok (.ret (.bool true)) ∧ OldK s.heap s'.heap ∧ s'.os = s.os ∧ AllBare s'.gens) s := by
    intro H hO hS hok only notK
    have free : ∀ {b : Addr} {o : Obj}, s.heap.get? b = some o → (∀ n', o.data ≠ .seq vs.toArray n') → H b = none := by
      intro b o e d
      by_cases z : H b = none
      · exact z
      · have eb := only b z
        subst eb
        rw [ha] at e
        cases e
        exact absurd rfl (d _)
    have freeD : ∀ {b : Addr} {o : Obj} {es : Array DictEntry} {ep : Nat}, s.heap.get? b = some o → o.data = .dict es ep → H b = none := by
      intro b o es ep e d
      refine free e fun n' z => ?_
      rw [d] at z
      cases z
    have ns' : ∀ {b : Addr} {m : Str → Option Value}, s.heap.Ns b m → (hidT s.heap H).Ns b m := by
      rintro b m ⟨o, es, ep, e, d, r⟩
      exact ⟨o, es, ep, hidT_get e (freeD e d), d, r⟩
    have kb : K.In (hidT s.heap H) := by
      intro b o e
      refine hidT_get (kx b o e) ?_
      by_cases z : H b = none
      · exact z
      · have eb := only b z
        subst eb
        rw [notK z] at e
        cases e
    have seer : (hidT s.heap H).NoSeer := by
      obtain ⟨mc, c1, c2⟩ := hsee.statics
      obtain ⟨mm, m1, m2⟩ := hsee.mods
      obtain ⟨m3, m4, m5⟩ := hsee.imp
      obtain ⟨mg', bm, ob, g1, g2, g3, g4, g5⟩ := hsee.main
      refine ⟨⟨mc, ns' c1, c2⟩, ⟨mm, ns' m1, m2⟩, ⟨m3, ns' m4, m5⟩, ⟨mg', bm, ob, ns' g1, g2, hidT_get g3 ?_, g4, g5⟩⟩
      by_cases z : H bm = none
      · exact z
      · have eb := only bm z
        subst eb
        rw [ha] at g3
        injection g3 with g3
        rw [← g3] at g4
        simp at g4
    have md : Mod K mg (hidT s.heap H) := by
      obtain ⟨mc, l1, l2⟩ := hlim
      exact ⟨kb, ns' hns, ⟨mb, ns' hb, hbb⟩, ⟨mc, ns' l1, l2⟩⟩
    have e0 : Env0 P w K mg (hidT s.heap H) callerA [] s H :=
      ⟨rfl, md, fun b o e => of_hidT e, Nat.le_of_eq (hidT_size _ _), trivial, fun b hb => (by cases hb), hok, .of_eq hg⟩
    refine codeAny_mono ((F _ kb (ns' hns) seer).run callerA [] s H ⟨[.ref a], []⟩ [.ref a] [.ref a] _ _ hr e0 (hbind s (.ref a)) (.cons rfl .nil) (hsp H hO hS)) ?_
    intro r s' h
    match r, h with
    | .error e, h => exact h.elim
    | .ok .next, h => exact h.elim
    | .ok .brk, h => exact h.elim
    | .ok .cont, h => exact h.elim
    | .ok (.ret u), h =>
      obtain ⟨v, H', os, bare, un, hok', r', q⟩ := h
      have qv : v = .bl true := q
      subst qv
      obtain rfl : u = Value.bool true := r'
      refine ⟨rfl, OldK.of_keep ?_, os, bare⟩
      intro b o e
      rcases hO b with z | ⟨ob, xs, z⟩
      · exact un.keep b o e z (fun k => by cases k) (fun k => by cases k)
      · obtain ⟨e1, _⟩ := hok b _ z
        obtain ⟨e2, _⟩ := hok' b _ (un.frzs b ob _ z)
        rw [e] at e1
        cases e1
        exact e2
  cases hk : K.lookup a with
  | some o =>
    have e := kx a o hk
    rw [ha] at e
    cases e
    refine main (fun _ => none) (fun _ => .inl rfl) (.inr ⟨_, vs.toArray, _, hk, rfl, rfl, rfl, ?_, ?_⟩) (fun b u z => by cases z) (fun b z => absurd rfl z) fun z => absurd rfl z
    · rw [List.size_toArray, hi.length]
      exact hl
    · simpa using rv
  | none =>
    have at_a : scriptAt a vs ns a = some (.frz { cls := .type "list", data := .seq vs.toArray } (.lst (ns.map V.int))) := if_pos rfl
    have off : ∀ b, b ≠ a → scriptAt a vs ns b = none := fun b hb => if_neg hb
    refine main (scriptAt a vs ns) (fun b => ?_) (.inl (.inr ⟨_, at_a⟩)) (fun b u z => ?_) (fun b z => ?_) fun _ => hk
    · by_cases hb : b = a
      · subst hb
        exact .inr ⟨_, _, at_a⟩
      · exact .inl (off b hb)
    · by_cases hb : b = a
      · subst hb
        rw [at_a] at z
        cases z
        exact ⟨ha, by rw [List.length_map]; exact hl, vs, _, rv, ha⟩
      · rw [off b hb] at z
        cases z
    · by_cases hb : b = a
      · exact hb
      · exact absurd (off b hb) z

/-- the end of a law's row -/
theorem walkU {l : PySem.W.OpenLaw} {n : Nat} {q : Program} {loose : List Str} {XP : (Str → Option Value) → Heap → Prop} {YP : World → Heap → Prop} {d : DefRec} {x : Str}
    (hm : l.most = some 63) (hdf : d.params.defaults = []) (him : importsNone q = true) (hn : n ≤ 500)
    (F : ∀ (w : World) (mg : Str → Option Value) (fa : Addr) (h : Heap), YP w h → h.Ns mainGlobals mg → mg d.name = some (.ref fa) →
      ∃ (K : PySem.W.Frag) (fd : FuncData) (sp : Sp), K.In h ∧ (∀ (s : Shared) (u : Value), BindsTo s fd ⟨[u], []⟩ [(x, u)]) ∧
        (∀ (H : Hp) (a : Addr) (ns : List Int), ns.length ≤ 63 → Only H → SqL K H a (ns.map V.int) → sp [.ref a] H (fun v _ => v = .bl true) fun _ _ _ => False) ∧
        ∀ base : Heap, K.In base → base.Ns mainGlobals mg → base.NoSeer → FnR ⟨l.prog, w, K, mg, base⟩ CX0 n fa fd [x] sp) :
    PySem.W.WalkO q loose XP YP l.row.toRowW d [] (fun f vs => PySem.call f vs) := by
  refine Att.attach_call hm hdf ?_
  intro w s₀ s mg mb fa o pm cd doc a vs ns G Y ho hd hcd hmg hobj hints hlen hg
  obtain ⟨K, fd, sp, kx, hb, hsp, hF⟩ := F w mg fa _ Y G.T.g hmg
  have room : Rm n callerA := by
    refine ⟨rfl, ?_, ?_⟩
    · show 1 + claimMargin + n + 105 < recursionLimit
      have e1 : claimMargin = 300 := rfl
      have e2 : recursionLimit = 1000 := rfl
      omega
    · show 4 + 4 * n + 400 < cLine
      have e1 : cLine = 9900 := rfl
      omega
  exact callU kx G.T.g G.T.b G.T.builtins G.T.nolimit (G.T.seer him) hg hobj hints (Nat.le_trans hlen (by decide)) room hF hb fun H hO hS => hsp H a ns hlen hO hS
end U

set_option maxHeartbeats 4000000
namespace U
open PySem PySem.Spec PyProof.Rows L2

/-! ### operators by name -/
def rAddI : R2 := rI0 fun i j => .int (i + j)
def rSubI : R2 := rI0 fun i j => .int (i - j)
def rMulI : R2 := rI CMul fun i j => .int (i * j)
def rFdC : R2 := rI CDiv fun i j => .int (i / j)
def rModP : R2 := rI (fun _ j => 0 < j) fun i j => .int (i % j)
def rPowI : R2 := rI CPow fun i j => .int (i ^ j.toNat)
def rLtI : R2 := rI0 fun i j => .bl (decide (i < j))
def rLeI : R2 := rI0 fun i j => .bl (decide (i ≤ j))
def rGtI : R2 := rI0 fun i j => .bl (decide (j < i))
def rGeI : R2 := rI0 fun i j => .bl (decide (j ≤ i))
def rIsNo : R2 := fun x y H Q => y = .non ∧ Q (.bl (decide (x = .non))) H
def rIsNotNo : R2 := fun x y H Q => y = .non ∧ Q (.bl (!decide (x = .non))) H
section
variable {X : Cx}
theorem op_addI : OpR X (binaryOp .Add) rAddI := op_add
theorem op_subI : OpR X (binaryOp .Sub) rSubI := op_sub
theorem op_mulI : OpR X (binaryOp .Mult) rMulI := op_mul
theorem op_fdC : OpR X (binaryOp .FloorDiv) rFdC := op_fdiv
theorem op_modP : OpR X (binaryOp .Mod) rModP := op_mod
theorem op_powI : OpR X (binaryOp .Pow) rPowI := op_pow
theorem op_ltI : OpR X (compareOp .Lt) rLtI := op_lt
theorem op_leI : OpR X (compareOp .LtE) rLeI := op_le
theorem op_gtI : OpR X (compareOp .Gt) rGtI := op_gt
theorem op_geI : OpR X (compareOp .GtE) rGeI := op_ge
theorem op_isNo : OpR X (compareOp .Is) rIsNo := op_isN
theorem op_isNotNo : OpR X (compareOp .IsNot) rIsNotNo := op_notN
end
def rLenQ (K : PySem.W.Frag) : List V → Hp → VK → Prop := fun xs H Q => ∃ p ys, xs = [.ref p] ∧ (SqL K H p ys ∨ SqT K H p ys) ∧ Q (.int ys.length) H
theorem call_lenQ {X : Cx} : CallR X (.builtin "len") (rLenQ X.K) := call_len_seq
def rListQ (K : PySem.W.Frag) : List V → Hp → VK → Prop := fun xs H Q => ∃ p ys, xs = [.ref p] ∧ (SqL K H p ys ∨ SqT K H p ys) ∧ ∀ l, H l = none → Q (.ref l) (upd H l (.lst ys))
theorem call_listQ {X : Cx} : CallR X (.type "list") (rListQ X.K) := call_list_of
def rIntB : List V → Hp → VK → Prop := fun xs H Q => ∃ k, xs = [.bl k] ∧ Q (.int (if k then 1 else 0)) H
theorem call_intB {X : Cx} : CallR X (.type "int") rIntB := by
  intro pins s σ H xs us Q I r h
  exact call_int1 pins s σ H xs us Q I r (.inr h)
def rMax2 : List V → Hp → VK → Prop := fun xs H Q => ∃ i j, xs = [.int i, .int j] ∧ Q (.int (if j > i then j else i)) H
theorem call_max2Q {X : Cx} (hc : X.calm = true) : CallR X (.builtin "max") rMax2 := call_max2 hc
def rMin2 : List V → Hp → VK → Prop := fun xs H Q => ∃ i j, xs = [.int i, .int j] ∧ Q (.int (if j < i then j else i)) H
theorem call_min2Q {X : Cx} (hc : X.calm = true) : CallR X (.builtin "min") rMin2 := call_min2 hc

/-! ### attributes of an instance whose class is known -/
def tFd (C : Addr) (f : Str) (ta : TE) : TE := fun σ H Q => ta σ H fun x H1 => ∃ a dx fs v, x = .ref a ∧ H1 a = some (.ins C dx fs) ∧ fs.lookup f = some v ∧ Q v H1
def sFd (C : Addr) (f : Str) (ta tv : TE) : TS := fun D σ H => tv σ H fun y H1 => ta σ H1 fun x H2 => ∃ a dx fs, x = .ref a ∧ H2 a = some (.ins C dx fs) ∧ fs.length < 1000 ∧
  D.nx σ (upd H2 a (.ins C dx (putF f y fs)))
section
variable {X : Cx} {o e value : Expr} {f : Str} {pos pos' : Pos} {ta tv : TE} {C : Addr}
theorem pfd (cl : Cls X.K C) (na : NoAttr X.K C f) (he : PE X e ta) (hb : attributeBase e f X.env (eval e X.env) = eval e X.env := by rfl) : PE X (.Attribute e f pos) (tFd C f ta) := by
  constructor
  intro pins s σ H Q I h
  refine attr_of hb (thn (he.run pins s σ H _ I h) ?_)
  rintro u s1 ⟨x, H1, I1, rx, a, dx, fs, v, ex, ea, l, q⟩
  subst ex
  obtain rfl : u = Value.ref a := rx
  exact getattr_ok I1 ea cl na l fun u' s2 I2 ru => ⟨v, H1, I2, ru, q⟩
theorem psfd (cl : Cls X.K C) (na : NoAttr X.K C f) (ha : PE X o ta) (hv : PE X value tv) (hs : swapsWith value (some (.Attribute o f pos')) pos.line X.env = pure false := by rfl) :
    PS X (.Assign [.Attribute o f pos'] value pos) (sFd C f ta tv) := by
  constructor
  intro pins s σ H D I h
  refine plainObj_wpAny_Assign_Attribute (thn (hv.run pins s σ H _ I h) ?_) hs
  rintro u s1 ⟨y, H1, I1, ry, q⟩
  refine thn (ha.run pins s1 σ H1 _ I1 q) ?_
  rintro ov s2 ⟨x, H2, I2, rx, a, dx, fs, ex, ea, l, q2⟩
  subst ex
  obtain rfl : ov = Value.ref a := rx
  exact setattr_ok I2 ea cl na l ry fun s3 I3 => ⟨σ, _, I3, q2⟩
end

/-! ### reading, one construct at a time -/
section
variable {K : PySem.W.Frag} {σ : L2.St} {H : Hp} {Q : VK} {D : Ends} {ta tb te tv : TE} {t u : TS} {c c' : TT} {v x y : V} {i j : Int} {k : Nat} {a p l C dx : Addr} {xs ys : List V} {fs : List (Str × V)} {f m : Str} {QT : Bool → Hp → Prop} {QA : List V → Hp → Prop} {tr : TA}
theorem w_seq (h : t { D with nx := u D } σ H) : tSeq t u D σ H := h
theorem w_next (h : D.nx σ H) : tNext D σ H := h
theorem w_asg {g : TG} (h : te σ H fun x H1 => g x σ H1 D.nx) : tAsg te g D σ H := h
theorem w_name {QS : L2.St → Hp → Prop} (h : QS (σ.set k (some v)) H) : gName k v σ H QS := h
theorem w_ret (h : te σ H D.rt) : tRet te D σ H := h
theorem w_drop (h : te σ H fun _ H1 => D.nx σ H1) : tDrop te D σ H := h
theorem w_if (h : c σ H fun b H1 => if b = true then t D σ H1 else u D σ H1) : tIfS c t u D σ H := h
theorem w_var (h : σ[k]? = some (some v)) (q : Q v H) : tVar k σ H Q := ⟨v, h, q⟩
theorem w_c (q : Q v H) : tC v σ H Q := q
theorem w_op {r : R2} (h : ta σ H fun x H1 => tb σ H1 fun y H2 => r x y H2 Q) : tOp r ta tb σ H Q := h
theorem w_un {r : V → Hp → VK → Prop} (h : ta σ H fun x H1 => r x H1 Q) : tUn r ta σ H Q := h
theorem w_test (h : te σ H fun x H1 => ∃ k, x = .bl k ∧ QT k H1) : tTest te σ H QT := h
theorem w_B (h : te σ H fun x H1 => ∃ k, x = .bl k ∧ QT k H1) : tB te σ H QT := h
theorem w_bl {b : Bool} {P : Bool → Prop} (h : P b) : ∃ k, V.bl b = .bl k ∧ P k := ⟨b, rfl, h⟩
theorem w_not (h : c σ H fun b H1 => QT (!b) H1) : tNot c σ H QT := h
theorem w_and (h : c σ H fun b H1 => if b = true then c' σ H1 QT else QT false H1) : tAnd c c' σ H QT := h
theorem w_or (h : c σ H fun b H1 => if b = true then QT true H1 else c' σ H1 QT) : tOr c c' σ H QT := h
theorem w_ifx (h : c σ H fun b H1 => if b = true then ta σ H1 Q else tb σ H1 Q) : tIf c ta tb σ H Q := h
theorem w_andV (h : ta σ H fun x H1 => ∃ c, x = .bl c ∧ if c = true then tb σ H1 Q else Q (.bl false) H1) : tAndV ta tb σ H Q := h
theorem w_orV (h : ta σ H fun x H1 => ∃ c, x = .bl c ∧ if c = true then Q (.bl true) H1 else tb σ H1 Q) : tOrV ta tb σ H Q := h
theorem w_notV (h : ta σ H fun x H1 => ∃ c, x = .bl c ∧ Q (.bl (!c)) H1) : tNotV ta σ H Q := h
theorem w_add (q : Q (.int (i + j)) H) : rAddI (.int i) (.int j) H Q := ⟨i, j, rfl, rfl, q⟩
theorem w_sub (q : Q (.int (i - j)) H) : rSubI (.int i) (.int j) H Q := ⟨i, j, rfl, rfl, q⟩
theorem w_mul (h : CMul i j) (q : Q (.int (i * j)) H) : rMulI (.int i) (.int j) H Q := ⟨i, j, rfl, rfl, h, q⟩
theorem w_fdC (h : CDiv i j) (q : Q (.int (i / j)) H) : rFdC (.int i) (.int j) H Q := ⟨i, j, rfl, rfl, h, q⟩
theorem w_fd (h : j ≠ 0) (q : Q (.int (i.fdiv j)) H) : rFd (.int i) (.int j) H Q := ⟨i, j, rfl, rfl, h, q⟩
theorem w_mod (h : 0 < j) (q : Q (.int (i % j)) H) : rModP (.int i) (.int j) H Q := ⟨i, j, rfl, rfl, h, q⟩
theorem w_pow (h : CPow i j) (q : Q (.int (i ^ j.toNat)) H) : rPowI (.int i) (.int j) H Q := ⟨i, j, rfl, rfl, h, q⟩
theorem w_lt (q : Q (.bl (decide (i < j))) H) : rLtI (.int i) (.int j) H Q := ⟨i, j, rfl, rfl, q⟩
theorem w_le (q : Q (.bl (decide (i ≤ j))) H) : rLeI (.int i) (.int j) H Q := ⟨i, j, rfl, rfl, q⟩
theorem w_gt (q : Q (.bl (decide (j < i))) H) : rGtI (.int i) (.int j) H Q := ⟨i, j, rfl, rfl, q⟩
theorem w_ge (q : Q (.bl (decide (j ≤ i))) H) : rGeI (.int i) (.int j) H Q := ⟨i, j, rfl, rfl, q⟩
theorem w_eqI (q : Q (.bl (decide (i = j))) H) : rEq (.int i) (.int j) H Q := ⟨rfl, by
  have e : decide (V.int i = V.int j) = decide (i = j) := by
    by_cases h : i = j
    · rw [decide_eq_true h, decide_eq_true (congrArg V.int h)]
    · rw [decide_eq_false h, decide_eq_false fun z => h (V.int.inj z)]
  rw [e]; exact q⟩
theorem w_neI (q : Q (.bl (!decide (i = j))) H) : rNe (.int i) (.int j) H Q := ⟨rfl, by
  have e : decide (V.int i = V.int j) = decide (i = j) := by
    by_cases h : i = j
    · rw [decide_eq_true h, decide_eq_true (congrArg V.int h)]
    · rw [decide_eq_false h, decide_eq_false fun z => h (V.int.inj z)]
  rw [e]; exact q⟩
theorem w_eqS {s z : Str} (q : Q (.bl (decide (s = z))) H) : rEq (.str s) (.str z) H Q := ⟨rfl, by
  have e : decide (V.str s = V.str z) = decide (s = z) := by
    by_cases h : s = z
    · rw [decide_eq_true h, decide_eq_true (congrArg V.str h)]
    · rw [decide_eq_false h, decide_eq_false fun z => h (V.str.inj z)]
  rw [e]; exact q⟩
theorem w_neS {s z : Str} (q : Q (.bl (!decide (s = z))) H) : rNe (.str s) (.str z) H Q := ⟨rfl, by
  have e : decide (V.str s = V.str z) = decide (s = z) := by
    by_cases h : s = z
    · rw [decide_eq_true h, decide_eq_true (congrArg V.str h)]
    · rw [decide_eq_false h, decide_eq_false fun z => h (V.str.inj z)]
  rw [e]; exact q⟩
theorem w_isN (q : Q (.bl (decide (x = .non))) H) : rIsNo x .non H Q := ⟨rfl, q⟩
theorem w_isnN (q : Q (.bl (!decide (x = .non))) H) : rIsNotNo x .non H Q := ⟨rfl, q⟩
theorem w_ixL (h : SqL K H p xs) (ha : atI xs i = some v) (q : Q v H) : rIxL K (.ref p) (.int i) H Q := ⟨p, xs, i, v, rfl, rfl, h, ha, q⟩
theorem w_ixT (h : SqT K H p xs) (ha : atI xs i = some v) (q : Q v H) : rIxT K (.ref p) (.int i) H Q := ⟨p, xs, i, v, rfl, rfl, h, ha, q⟩
theorem w_tFd (h : ta σ H fun x H1 => ∃ a dx fs v, x = .ref a ∧ H1 a = some (.ins C dx fs) ∧ fs.lookup f = some v ∧ Q v H1) : tFd C f ta σ H Q := h
theorem w_fld {P : V → Prop} (h : H a = some (.ins C dx fs)) (l : fs.lookup f = some v) (q : P v) : ∃ a' dx' fs' v', V.ref a = .ref a' ∧ H a' = some (.ins C dx' fs') ∧ fs'.lookup f = some v' ∧ P v' := ⟨a, dx, fs, v, rfl, h, l, q⟩
theorem w_sFd (h : tv σ H fun y H1 => ta σ H1 fun x H2 => ∃ a dx fs, x = .ref a ∧ H2 a = some (.ins C dx fs) ∧ fs.length < 1000 ∧ D.nx σ (upd H2 a (.ins C dx (putF f y fs)))) : sFd C f ta tv D σ H := h
theorem w_put {P : List (Str × V) → Addr → Addr → Prop} (h : H a = some (.ins C dx fs)) (n : fs.length < 1000) (q : P fs dx a) : ∃ a' dx' fs', V.ref a = .ref a' ∧ H a' = some (.ins C dx' fs') ∧ fs'.length < 1000 ∧ P fs' dx' a' := ⟨a, dx, fs, rfl, h, n, q⟩
theorem w_nil (h : QA [] H) : tNil σ H QA := h
theorem w_cons (h : ta σ H fun x H1 => tr σ H1 fun xs H2 => QA (x :: xs) H2) : tCons ta tr σ H QA := h
theorem w_tup (h : tr σ H fun xs H1 => xs.length ≤ sizeLine ∧ ∀ p, H1 p = none → Q (.ref p) (upd H1 p (.tup xs))) : tTup tr σ H Q := h
theorem w_lst (h : tr σ H fun xs H1 => xs.length ≤ sizeLine ∧ ∀ p, H1 p = none → Q (.ref p) (upd H1 p (.lst xs))) : tLst tr σ H Q := h
theorem w_call {sp : Sp} {E : XK} (h : tr σ H fun vs H1 => sp (vs ++ []) H1 Q E) : tCall sp [] E tr σ H Q := h
theorem w_meth {sp : Sp} {E : XK} (h : ta σ H fun x H1 => ∃ a dx fs, x = .ref a ∧ H1 a = some (.ins C dx fs) ∧ fs.lookup m = none ∧ tr σ H1 fun vs H2 => sp (x :: (vs ++ [])) H2 Q E) : tMeth C m sp [] E ta tr σ H Q := h
theorem w_recv {P : Addr → Prop} (h : H a = some (.ins C dx fs)) (l : fs.lookup m = none) (q : P a) : ∃ a' dx' fs', V.ref a = .ref a' ∧ H a' = some (.ins C dx' fs') ∧ fs'.lookup m = none ∧ P a' := ⟨a, dx, fs, rfl, h, l, q⟩
theorem w_cb {r : List V → Hp → VK → Prop} (h : tr σ H fun vs H1 => r vs H1 Q) : tCB r tr σ H Q := h
theorem w_lenL (h : SqL K H p xs) (q : Q (.int xs.length) H) : rLenQ K [.ref p] H Q := ⟨p, xs, rfl, .inl h, q⟩
theorem w_lenT (h : SqT K H p xs) (q : Q (.int xs.length) H) : rLenQ K [.ref p] H Q := ⟨p, xs, rfl, .inr h, q⟩
theorem w_bm {r : V → List V → Hp → VK → Prop} (h : ta σ H fun x H1 => tyV K "list" x H1 ∧ tr σ H1 fun xs H2 => r x xs H2 Q) : tBM K "list" r ta tr σ H Q := h
theorem w_bm0 {r : V → List V → Hp → VK → Prop} (h : ta σ H fun x H1 => tyV K "list" x H1 ∧ r x [] H1 Q) : tBM0 K "list" r ta σ H Q := h
theorem w_ty {B : Prop} (h : H p = some (.lst xs)) (q : B) : tyV K "list" (.ref p) H ∧ B := ⟨.inl ⟨rfl, xs, SqL.of h⟩, q⟩
theorem w_app (h : H p = some (.lst xs)) (n : xs.length < sizeLine) (q : Q .non (upd H p (.lst (xs ++ [v])))) : rAppend (.ref p) [v] H Q := ⟨p, xs, v, rfl, rfl, h, n, q⟩
theorem w_pop (h : H p = some (.lst xs)) (e : xs[xs.length - 1]? = some v) (q : Q v (upd H p (.lst xs.dropLast))) : rPop (.ref p) [] H Q := ⟨p, xs, v, rfl, rfl, h, e, q⟩
theorem w_popB {P : List V} (h : H p = some (.lst (P ++ [v]))) (q : Q v (upd H p (.lst P))) : rPop (.ref p) [] H Q :=
  w_pop (v := v) h (by simp) (by rw [List.dropLast_concat]; exact q)
theorem w_T {A B : Prop} {b : Bool} (e : b = true) (h : A) : if b = true then A else B := by rw [if_pos e]; exact h
theorem w_F {A B : Prop} {b : Bool} (e : b = false) (h : B) : if b = true then A else B := by rw [e]; exact iteF h
theorem w_2 {A B : Prop} {b : Bool} (h1 : b = true → A) (h2 : b = false → B) : if b = true then A else B := by
  cases b
  · exact iteF (h2 rfl)
  · exact iteT (h1 rfl)
theorem w_D {A B p : Prop} [Decidable p] (h1 : p → A) (h2 : ¬p → B) : if decide p = true then A else B := by
  by_cases h : p
  · rw [decide_eq_true h]; exact iteT (h1 h)
  · rw [decide_eq_false h]; exact iteF (h2 h)
theorem w_ND {A B p : Prop} [Decidable p] (h1 : p → B) (h2 : ¬p → A) : if (!decide p) = true then A else B := by
  by_cases h : p
  · rw [decide_eq_true h]; exact iteF (h1 h)
  · rw [decide_eq_false h]; exact iteT (h2 h)
end
end U

set_option maxHeartbeats 4000000
namespace U
open PySem PySem.Spec PyProof.Rows L2

/-! ### cells that one owns, over a heap that stands -/
abbrev Cell := Addr × HO
def ads (L : List Cell) : List Addr := L.map (·.1)
structure Own (H0 H : Hp) (L : List Cell) : Prop where
  at_ : ∀ p ∈ L, H p.1 = some p.2
  nd : (ads L).Nodup
  new : ∀ a ∈ ads L, H0 a = none
  same : Same H0 H
/-- the heap without the cells L -/
def less (H : Hp) (L : List Cell) : Hp := fun a => if a ∈ ads L then none else H a
theorem less_off {H : Hp} {L : List Cell} {a : Addr} (h : a ∉ ads L) : less H L a = H a := if_neg h
theorem less_on {H : Hp} {L : List Cell} {a : Addr} (h : a ∈ ads L) : less H L a = none := if_pos h
theorem ads_append (L R : List Cell) : ads (L ++ R) = ads L ++ ads R := List.map_append
theorem mem_ads {L : List Cell} {p : Cell} (h : p ∈ L) : p.1 ∈ ads L := List.mem_map_of_mem h
theorem Own.get {H0 H : Hp} {L : List Cell} {a : Addr} {o : HO} (w : Own H0 H L) (h : (a, o) ∈ L) : H a = some o := w.at_ _ h
theorem Own.perm {H0 H : Hp} {L L' : List Cell} (w : Own H0 H L) (p : L.Perm L') : Own H0 H L' := by
  refine ⟨fun x hx => w.at_ x (p.mem_iff.mpr hx), ?_, fun a ha => w.new a ((p.map _).mem_iff.mpr ha), w.same⟩
  exact (List.Perm.nodup_iff (p.map fun x : Cell => x.1)).mp w.nd
theorem Own.sub {H0 H : Hp} {L R : List Cell} (w : Own H0 H (L ++ R)) : Own H0 H L := by
  refine ⟨fun x hx => w.at_ x (List.mem_append_left _ hx), ?_, fun a ha => w.new a ?_, w.same⟩
  · have := w.nd
    rw [ads_append] at this
    exact (List.nodup_append.mp this).1
  · rw [ads_append]
    exact List.mem_append_left _ ha
theorem Own.nil {H0 H : Hp} (s : Same H0 H) : Own H0 H [] := ⟨fun _ h => (by cases h), List.nodup_nil, fun _ h => (by cases h), s⟩
/-- the cell at a is written -/
theorem Own.put {H0 H : Hp} {L R : List Cell} {a : Addr} {o o' : HO} (w : Own H0 H (L ++ (a, o) :: R)) : Own H0 (upd H a o') (L ++ (a, o') :: R) := by
  have e : ads (L ++ (a, o') :: R) = ads (L ++ (a, o) :: R) := by simp [ads]
  have nd : (ads (L ++ (a, o') :: R)).Nodup := by rw [e]; exact w.nd
  refine ⟨fun p hp => ?_, nd, by rw [e]; exact w.new, fun b u hb => ?_⟩
  · by_cases ha : p.1 = a
    · have hp2 : p = (a, o') := by
        rw [ads, List.map_append, List.map_cons] at nd
        rcases List.mem_append.mp hp with h | h
        · exact absurd rfl ((List.nodup_append.mp nd).2.2 p.1 (List.mem_map_of_mem h) a (by simp) |> fun z => by rw [ha] at z; exact z)
        · rcases List.mem_cons.mp h with h | h
          · exact h
          · have q := (List.nodup_cons.mp (List.nodup_append.mp nd).2.1).1
            exact absurd (show a ∈ R.map (·.1) by rw [← ha]; exact List.mem_map_of_mem (f := fun x : Cell => x.1) h) q
      rw [hp2]; exact upd_same
    · rw [upd_ne ha]
      refine w.at_ p ?_
      rcases List.mem_append.mp hp with h | h
      · exact List.mem_append_left _ h
      · rcases List.mem_cons.mp h with h | h
        · rw [h] at ha; exact absurd rfl ha
        · exact List.mem_append_right _ (List.mem_cons_of_mem _ h)
  · have hn : H0 a = none := w.new a (by simp [ads])
    rw [upd_ne (ne_of_none hb hn)]
    exact w.same b u hb
/-- something new is laid and not owned -/
theorem Own.lay {H0 H : Hp} {L : List Cell} {a : Addr} {o : HO} (w : Own H0 H L) (h : H a = none) : Own H0 (upd H a o) L := by
  refine ⟨fun p hp => ?_, w.nd, w.new, fun b u hb => ?_⟩
  · rw [upd_ne (ne_of_none (w.at_ p hp) h)]; exact w.at_ p hp
  · rw [upd_ne (ne_of_none (w.same b u hb) h)]; exact w.same b u hb
/-- something new is laid and owned -/
theorem Own.take {H0 H : Hp} {L : List Cell} {a : Addr} {o : HO} (w : Own H0 H L) (h : H a = none) : Own H0 (upd H a o) ((a, o) :: L) := by
  refine ⟨fun p hp => ?_, ?_, fun b hb => ?_, (w.lay h).same⟩
  · rcases List.mem_cons.mp hp with h1 | h1
    · rw [h1]; exact upd_same
    · exact (w.lay h).at_ p h1
  · refine List.nodup_cons.mpr ⟨fun hm => ?_, w.nd⟩
    obtain ⟨p, hp, e⟩ := List.mem_map.mp hm
    have q := w.at_ p hp
    rw [e, h] at q
    cases q
  · rcases List.mem_cons.mp hb with h1 | h1
    · rw [h1]
      cases e : H0 a with
      | none => rfl
      | some u =>
        have := w.same a u e
        rw [h] at this
        cases this
    · exact w.new b h1
/-- cells are dropped -/
theorem Own.drop {H0 H : Hp} {L R : List Cell} (w : Own H0 H (L ++ R)) : Own H0 H R := by
  have p : (L ++ R).Perm (R ++ L) := List.perm_append_comm
  exact (w.perm p).sub
/-- what stood stands below -/
theorem Own.base {H0 H : Hp} {L : List Cell} (w : Own H0 H L) : Same H0 (less H L) := fun b u hb => by
  have : b ∉ ads L := fun hm => by
    rw [w.new b hm] at hb
    cases hb
  rw [less_off this]
  exact w.same b u hb
/-- a callee's own: the cells L out of L ++ R -/
theorem Own.lend {H0 H : Hp} {L : List Cell} (w : Own H0 H L) : Own (less H L) H L := by
  refine ⟨w.at_, w.nd, fun a ha => less_on ha, fun b u hb => ?_⟩
  by_cases h : b ∈ ads L
  · rw [less_on h] at hb; cases hb
  · rw [less_off h] at hb; exact hb
/-- .. and back -/
theorem Own.back {H0 H H' : Hp} {L R L' : List Cell} (w : Own H0 H (L ++ R)) (w' : Own (less H L) H' L') : Own H0 H' (L' ++ R) := by
  have hs : Same H0 (less H L) := w.sub.base
  have nd := w.nd
  rw [ads_append] at nd
  have dis := (List.nodup_append.mp nd).2.2
  have offL : ∀ p ∈ R, p.1 ∉ ads L := fun p hp hm => dis _ hm _ (mem_ads hp) rfl
  have atR : ∀ p ∈ R, less H L p.1 = some p.2 := fun p hp => by
    rw [less_off (offL p hp)]
    exact w.at_ p (List.mem_append_right _ hp)
  refine ⟨fun p hp => ?_, ?_, fun a ha => ?_, hs.trans w'.same⟩
  · rcases List.mem_append.mp hp with h | h
    · exact w'.at_ p h
    · exact w'.same _ _ (atR p h)
  · rw [ads_append]
    refine List.nodup_append.mpr ⟨w'.nd, (List.nodup_append.mp nd).2.1, fun a ha b hb e => ?_⟩
    obtain ⟨p, hp, e2⟩ := List.mem_map.mp hb
    have q := w'.new a ha
    rw [e, ← e2, atR p hp] at q
    cases q
  · rw [ads_append] at ha
    rcases List.mem_append.mp ha with h | h
    · have q := w'.new a h
      cases e : H0 a with
      | none => rfl
      | some u =>
        rw [hs a u e] at q
        cases q
    · exact w.new a (by rw [ads_append]; exact List.mem_append_right _ h)
/-- a callee that has nothing of its own -/
theorem Own.kept {H0 H H' : Hp} {L : List Cell} (w : Own H0 H L) (s : Same H H') : Own H0 H' L :=
  ⟨fun p hp => s _ _ (w.at_ p hp), w.nd, w.new, w.same.trans s⟩
theorem same_lay {H : Hp} {p : Addr} {o : HO} (h : H p = none) : Same H (upd H p o) := fun b u e => by
  rw [upd_ne (ne_of_none e h)]
  exact e
theorem same_tup {K : PySem.W.Frag} {H H' : Hp} {a : Addr} {xs : List V} (e : Same H H') (h : SqT K H a xs) : SqT K H' a xs := by
  rcases h with (h | ⟨o, h⟩) | h
  · exact .inl (.inl (e _ _ h))
  · exact .inl (.inr ⟨o, e _ _ h⟩)
  · exact .inr h

theorem Own.set {H0 H : Hp} {L : List Cell} {a : Addr} {o : HO} (w : Own H0 H L) (i : Nat) (o' : HO) (h : L[i]? = some (a, o)) : Own H0 (upd H a o') (L.set i (a, o')) := by
  obtain ⟨hi, e⟩ := List.getElem?_eq_some_iff.mp h
  have e1 : L = L.take i ++ (a, o) :: L.drop (i + 1) := by
    rw [← e]
    rw [List.getElem_cons_drop, List.take_append_drop]
  have e2 : L.set i (a, o') = L.take i ++ (a, o') :: L.drop (i + 1) := by rw [List.set_eq_take_append_cons_drop, if_pos hi]
  rw [e2]
  rw [e1] at w
  exact w.put
theorem Own.ix {H0 H : Hp} {L : List Cell} {a : Addr} {o : HO} (w : Own H0 H L) (i : Nat) (h : L[i]? = some (a, o)) : H a = some o := w.get (List.mem_of_getElem? h)
theorem Own.slist {H0 H : Hp} {L L' : List Cell} (w : Own H0 H L) (s : L'.Sublist L) : Own H0 H L' :=
  ⟨fun p hp => w.at_ p (s.subset hp), List.Nodup.sublist (s.map fun x : Cell => x.1) w.nd, fun a ha => w.new a ((s.map fun x : Cell => x.1).subset ha), w.same⟩
/-- the cell at place i is given up -/
theorem Own.del {H0 H : Hp} {L : List Cell} (w : Own H0 H L) (i : Nat) : Own H0 H (L.eraseIdx i) := w.slist (List.eraseIdx_sublist ..)
/-- the first cell takes the i-th one's place -/
theorem Own.repl {H0 H : Hp} {L : List Cell} {c : Cell} (w : Own H0 H (c :: L)) (i : Nat) (hi : i < L.length) : Own H0 H (L.set i c) := by
  have e1 : L = L.take i ++ L[i] :: L.drop (i + 1) := by rw [List.getElem_cons_drop, List.take_append_drop]
  have e2 : L.set i c = L.take i ++ c :: L.drop (i + 1) := by rw [List.set_eq_take_append_cons_drop, if_pos hi]
  have p : (c :: L).Perm (L[i] :: L.set i c) := by
    rw [e2]
    refine List.Perm.trans (l₂ := c :: L[i] :: (L.take i ++ L.drop (i + 1))) (.cons _ ?_) ((List.Perm.swap _ _ _).trans (.cons _ List.perm_middle.symm))
    exact List.Perm.trans (List.Perm.of_eq e1) List.perm_middle
  exact (w.perm p).slist (List.sublist_cons_self ..)
theorem Own.lend1 {H0 H : Hp} {c : Cell} {L : List Cell} (w : Own H0 H (c :: L)) : Own (less H [c]) H [c] := (Own.sub (L := [c]) w).lend
/-- three new ones go behind the three ahead -/
theorem Own.rot3 {H0 H : Hp} {a b c x y z : Cell} {L : List Cell} (w : Own H0 H (a :: b :: c :: x :: y :: z :: L)) : Own H0 H (x :: y :: z :: a :: b :: c :: L) := by
  refine w.perm ?_
  have p : ([a, b, c] ++ [x, y, z] : List Cell).Perm ([x, y, z] ++ [a, b, c]) := List.perm_append_comm
  exact p.append_right L
theorem w_make {σ : L2.St} {H : Hp} {C : Addr} {sp : Sp} {E : XK} {tr : TA} {Q : VK} (h : tr σ H fun vs H1 => ∀ x dx, H1 x = none → H1 dx = none → dx ≠ x →
    sp (.ref x :: (vs ++ [])) (upd (upd H1 dx (.own x)) x (.ins C dx [])) (fun v H2 => v = .non ∧ Q (.ref x) H2) E) : tMake C sp [] E tr σ H Q := h
theorem w_inT {K : PySem.W.Frag} {H : Hp} {Q : VK} {x : V} {p : Addr} {xs : List V} (h : SqT K H p xs) (hx : flatV x = true) (ha : xs.all flatV = true) (q : Q (.bl (inV x xs)) H) : rIn K false x (.ref p) H Q :=
  ⟨p, xs, rfl, .inr h, hx, ha, q⟩
theorem w_gsub {σ : L2.St} {H : Hp} {v : V} {to ti : TE} {r : TSet} {QS : L2.St → Hp → Prop} (h : to σ H fun o H1 => ti σ H1 fun i H2 => r o i v H2 fun H3 => QS σ H3) : gSub to ti r v σ H QS := h
theorem w_setL {H : Hp} {p : Addr} {xs : List V} {k : Int} {v : V} {Q : Hp → Prop} (h : H p = some (.lst xs)) (h0 : 0 ≤ k) (h1 : k < xs.length) (q : Q (upd H p (.lst (xs.set k.toNat v)))) : rSetL (.ref p) (.int k) v H Q := by
  refine ⟨p, xs, k, k.toNat, rfl, rfl, h, ?_, q⟩
  unfold ixN
  rw [if_pos h0, if_pos h1]
theorem len_ok {n : Nat} (h : n ≤ 100) : n ≤ sizeLine := Nat.le_trans h (by rw [sizeLine_eq]; decide)
theorem w_new {xs : List V} {B : Prop} (h : xs.length ≤ 100) (q : B) : xs.length ≤ sizeLine ∧ B := ⟨len_ok h, q⟩
/-- x in a written tuple -/
theorem w_memb {K : PySem.W.Frag} {σ : L2.St} {H : Hp} {k : Nat} {x : V} {xs : List V} {ta : TA} {QT : Bool → Hp → Prop} (hv : σ[k]? = some (some x)) (ht : ∀ (H : Hp) (QA : List V → Hp → Prop), QA xs H → ta σ H QA)
    (hx : flatV x = true) (ha : xs.all flatV = true) (hl : xs.length ≤ sizeLine) (q : ∀ p, H p = none → QT (inV x xs) (upd H p (.tup xs))) : tTest (tOp (rIn K false) (tVar k) (tTup ta)) σ H QT := by
  refine ⟨x, hv, ht _ _ ⟨hl, fun p hp => ⟨p, xs, rfl, .inr (SqT.of upd_same), hx, ha, inV x xs, rfl, q p hp⟩⟩⟩

theorem w_cat {H : Hp} {Q : VK} {l p : Addr} {xs ys : List V} (h : H l = some (.lst xs)) (h' : H p = some (.lst ys)) (n : xs.length + ys.length ≤ sizeLine)
    (q : ∀ r, H r = none → Q (.ref r) (upd H r (.lst (xs ++ ys)))) : rCat (.ref l) (.ref p) H Q := ⟨l, p, xs, ys, rfl, rfl, h, h', n, q⟩
theorem flat_rep (v : V) : ∀ n : Nat, (List.replicate n [v]).flatten = List.replicate n v
  | 0 => rfl
  | n + 1 => by rw [List.replicate_succ, List.flatten_cons, flat_rep v n]; rfl
theorem w_rep1 {H : Hp} {Q : VK} {l : Addr} {v : V} {k : Int} (h : H l = some (.lst [v])) (h0 : -1000 ≤ k) (h1 : k < 16000000)
    (q : ∀ r, H r = none → Q (.ref r) (upd H r (.lst (List.replicate k.toNat v)))) : rRep (.ref l) (.int k) H Q := by
  refine ⟨l, k, [v], rfl, rfl, h, by omega, by omega, ?_, fun p hp => ?_⟩
  · rw [sizeLine_eq]
    show 1 * k.toNat ≤ _
    omega
  · rw [flat_rep]
    exact q p hp

/-! ### places in lists -/
theorem atI_ok {α : Type} {xs : List α} {i : Int} {v : α} (h0 : 0 ≤ i) (h : xs[i.toNat]? = some v) : atI xs i = some v := by
  have e : i = ((i.toNat : Nat) : Int) := by omega
  rw [e]
  exact atI_nat h
theorem atI_end {α : Type} {xs : List α} {v : α} {n : Int} (h : n = ((xs ++ [v]).length : Int) - 1) : atI (xs ++ [v]) n = some v := by
  have e : n = ((xs.length : Nat) : Int) := by
    rw [List.length_append] at h
    simp at h
    omega
  rw [e]
  exact atI_nat (by simp)
end U

set_option maxHeartbeats 4000000
namespace U
open PySem PySem.Spec PyProof.Rows L2
section
variable {K : PySem.W.Frag} {σ : L2.St} {H : Hp} {Q : VK} {D : Ends} {ta tb te tv : TE} {v x y : V} {i j : Int} {k : Nat} {a p l C dx : Addr} {xs ys : List V} {QO : Option Int → Hp → Prop} {tr : TA} {R : It → Hp → Prop} {lo hi : Option Int}
theorem w_lc {wi : TI} {g : TG} {tt : TT} {n : List Nat} (h : wi σ H fun J H1 => ∀ D, H1 D = none → ∃ W : Nat → Nat → Hp → Prop, (∃ m, W 0 m (upd H1 D (.lst []))) ∧ ∀ i m H, W i m H →
    (J.stop i H ∧ Q (.ref D) H) ∨ (J.go i H ∧ ∃ Nx : Hp → Prop, (∀ H', Nx H' → ∃ m', m' < m ∧ W (i + 1) m' H') ∧ ∀ x H', J.yld i H x H' → g x (wipe σ n) H' fun σ2 H2 => wipe σ2 n = wipe σ n ∧ tt σ2 H2 fun b H3 =>
    if b = true then te σ2 H3 fun y H4 => ∃ acc, H4 D = some (.lst acc) ∧ acc.length < sizeLine ∧ Nx (upd H4 D (.lst (acc ++ [y]))) else Nx H3)) : tLc wi g tt te n σ H Q := h
theorem w_for {wi : TI} {g : TG} {tb : TS} (h : wi σ H fun J H1 => ∃ W : Nat → Nat → L2.St → Hp → Prop, (∃ m, W 0 m σ H1) ∧ ∀ i m σ H, W i m σ H →
    (J.stop i H ∧ D.nx σ H) ∨ (J.go i H ∧ ∃ N : L2.St → Hp → Prop, (∀ σ' H', N σ' H' → ∃ m', m' < m ∧ W (i + 1) m' σ' H') ∧ ∀ x H', J.yld i H x H' → g x σ H' fun σ2 H2 => tb { D with nx := N, ct := N, bk := D.nx } σ2 H2)) : tFor wi g tb D σ H := h
theorem w_yes {QT : Bool → Hp → Prop} (h : QT true H) : tYes σ H QT := h
theorem w_iList (h : te σ H fun x H1 => ∃ a, x = .ref a ∧ (∃ xs, SqL K H1 a xs) ∧ R (Itl K a) H1) : iList K te σ H R := h
theorem w_refL {P : Addr → Prop} (h : SqL K H a xs) (q : P a) : ∃ a', V.ref a = .ref a' ∧ (∃ xs, SqL K H a' xs) ∧ P a' := ⟨a, rfl, ⟨xs, h⟩, q⟩
theorem w_tSl {r : V → Option Int → Option Int → Hp → VK → Prop} {tl th : TO} (h : te σ H fun x H1 => tl σ H1 fun l H2 => th σ H2 fun u H3 => r x l u H3 Q) : tSl r te tl th σ H Q := h
theorem w_part (h : te σ H fun x H1 => ∃ i, x = .int i ∧ QO (some i) H1) : tPart te σ H QO := h
theorem w_nopart (h : QO none H) : tNoPart σ H QO := h
theorem w_i {P : Int → Prop} (h : P i) : ∃ j, V.int i = .int j ∧ P j := ⟨i, rfl, h⟩
theorem w_slL (h : SqL K H a xs) (q : ∀ p, H p = none → Q (.ref p) (upd H p (.lst (cutV xs lo hi)))) : rSlL K (.ref a) lo hi H Q := ⟨a, xs, rfl, h, q⟩
theorem w_rng1 (h : tr σ H fun vs H1 => ∃ j : Int, vs = [.int j] ∧ -(2 ^ 62) ≤ j ∧ j < 2 ^ 62 ∧ R (Itr 0 j.toNat) H1) : iRng1 tr σ H R := h
theorem w_rng2 (h : tr σ H fun vs H1 => ∃ i j : Int, vs = [.int i, .int j] ∧ (-(2 ^ 62) ≤ i ∧ i < 2 ^ 62 ∧ -(2 ^ 62) ≤ j ∧ j < 2 ^ 62) ∧ R (Itr i (j - i).toNat) H1) : iRng2 tr σ H R := h
theorem w_r1 {P : Int → Prop} (h0 : -1000000 ≤ i) (h1 : i < 100000000) (q : P i) : ∃ j : Int, [V.int i] = [.int j] ∧ -(2 ^ 62) ≤ j ∧ j < 2 ^ 62 ∧ P j := ⟨i, rfl, by omega, by omega, q⟩
theorem w_listQ (h : SqL K H p xs) (q : ∀ l, H l = none → Q (.ref l) (upd H l (.lst xs))) : rListQ K [.ref p] H Q := ⟨p, xs, rfl, .inl h, q⟩
theorem w_isiII (q : Q (.bl true) H) : rIsi K [.int i, .ty "int"] H Q := ⟨_, _, _, _, true, rfl, .ty _, .base (.int i), kit_ty (by decide +kernel), q⟩
theorem w_isiIB (q : Q (.bl false) H) : rIsi K [.int i, .ty "bool"] H Q := ⟨_, _, _, _, false, rfl, .ty _, .base (.int i), kit_ty (by decide +kernel), q⟩
theorem w_isiTT (h : H a = some (.tup xs)) (q : Q (.bl true) H) : rIsi K [.ref a, .ty "tuple"] H Q := ⟨_, _, _, _, true, rfl, .ty _, .base (.tup h), kit_ty (by decide +kernel), q⟩
theorem w_isiLL (h : H a = some (.lst xs)) (q : Q (.bl true) H) : rIsi K [.ref a, .ty "list"] H Q := ⟨_, _, _, _, true, rfl, .ty _, .base (.lst h), kit_ty (by decide +kernel), q⟩
theorem w_isiSS {s : Str} (q : Q (.bl true) H) : rIsi K [.str s, .ty "str"] H Q := ⟨_, _, _, _, true, rfl, .ty _, .base (.str s), kit_ty (by decide +kernel), q⟩
theorem w_neD {d e : PyData} (h1 : Dp K H x d) (h2 : Dp K H y e) (s1 : SeqAt.shaped d = true) (s2 : SeqAt.shaped e = true) (q : Q (.bl (!PyData.eqv d e)) H) : rNeD K x y H Q := ⟨d, e, h1, h2, s1, s2, q⟩
theorem w_eqD {d e : PyData} (h1 : Dp K H x d) (h2 : Dp K H y e) (s1 : SeqAt.shaped d = true) (s2 : SeqAt.shaped e = true) (q : Q (.bl (PyData.eqv d e)) H) : rEqD K x y H Q := ⟨d, e, h1, h2, s1, s2, q⟩
theorem w_orV1 {A B : Prop} {b : Bool} (h1 : b = true → A) (h2 : b = false → B) : ∃ c, V.bl b = .bl c ∧ if c = true then A else B := ⟨b, rfl, w_2 h1 h2⟩
theorem w_fdC' (h0 : 0 < j) (h1 : j < 1073741824) (q : Q (.int (i / j)) H) : rFdC (.int i) (.int j) H Q := w_fdC ⟨h0, h1⟩ q
theorem w_mulR (h0 : -(2 ^ 64) < j) (h1 : j < 2 ^ 64) (q : Q (.int (i * j)) H) : rMulI (.int i) (.int j) H Q := w_mul (.inr ⟨h0, h1⟩) q
theorem w_mulL (h0 : -(2 ^ 64) < i) (h1 : i < 2 ^ 64) (q : Q (.int (i * j)) H) : rMulI (.int i) (.int j) H Q := w_mul (.inl ⟨h0, h1⟩) q
theorem w_pow' (h0 : 0 ≤ j) (h1 : j ≤ 1000000) (h2 : i.natAbs < 2 ^ 64) (q : Q (.int (i ^ j.toNat)) H) : rPowI (.int i) (.int j) H Q := w_pow ⟨h0, h1, h2⟩ q
end
/-- a tuple stands while a list is written -/
theorem tup_put {K : PySem.W.Frag} {H : Hp} {D a : Addr} {ys xs : List V} {o : HO} (hD : H D = some (.lst ys)) (h : SqT K H a xs) : SqT K (upd H D o) a xs := by
  rcases h with (h | ⟨ob, h⟩) | h
  · exact .inl (.inl (by rw [upd_ne (ne_of h hD (by intro z; cases z))]; exact h))
  · exact .inl (.inr ⟨ob, by rw [upd_ne (ne_of h hD (by intro z; cases z))]; exact h⟩)
  · exact .inr h
theorem cut_from (xs : List V) (k : Nat) : cutV xs (some (k : Int)) none = xs.drop k := by
  unfold cutV
  rw [HT.sIx_nat, HT.sIx_none, List.take_of_length_le (by rw [List.length_drop]; omega)]
  by_cases h : k ≤ xs.length
  · rw [Nat.min_eq_left h]
  · rw [Nat.min_eq_right (by omega), List.drop_eq_nil_of_le (Nat.le_refl _), List.drop_eq_nil_of_le (by omega)]
theorem cut_to (xs : List V) (k : Nat) : cutV xs none (some (k : Int)) = xs.take k := by
  unfold cutV
  rw [HT.sIx_nat, HT.sIx_none, List.drop_zero, Nat.sub_zero]
  by_cases h : k ≤ xs.length
  · rw [Nat.min_eq_left h]
  · rw [Nat.min_eq_right (by omega), List.take_of_length_le (Nat.le_refl _), List.take_of_length_le (by omega)]
theorem w_cut {t u : TS} {D : Ends} {σ : L2.St} {H : Hp} (P : L2.St → Hp → Prop) (key : ∀ σ' H', P σ' H' → u D σ' H') (main : ∀ N : L2.St → Hp → Prop, (∀ σ' H', P σ' H' → N σ' H') → t { D with nx := N } σ H) : tSeq t u D σ H := main _ key
theorem pick2 (x : Int) (u v : V) : atI [u, v] (x % 2) = some (if x % 2 = 0 then u else v) := by
  rcases (by omega : x % 2 = 0 ∨ x % 2 = 1) with h | h <;> rw [h] <;> rfl
theorem same_sym {H H' : Hp} {p : Addr} (s : Same H H') (h : H' p = none) : H p = none := Same.free s h
/-- the law's own promise -/
def spLaw (K : PySem.W.Frag) : Sp := fun vs H Q _ => ∃ (a : Addr) (ns : List Int), vs = [.ref a] ∧ SqL K H a (ns.map V.int) ∧ ns.length ≤ 63 ∧ ∀ H', Q (.bl true) H'
inductive All2 {α β : Type} (R : α → β → Prop) : List α → List β → Prop
  | nil : All2 R [] []
  | cons {a b as bs} : R a b → All2 R as bs → All2 R (a :: as) (b :: bs)
theorem All2.len {α β : Type} {R : α → β → Prop} {as : List α} {bs : List β} (h : All2 R as bs) : as.length = bs.length := by
  induction h with
  | nil => rfl
  | cons _ _ ih => simp [ih]
theorem All2.get {α β : Type} {R : α → β → Prop} {as : List α} {bs : List β} (h : All2 R as bs) : ∀ {i : Nat} {b : β}, bs[i]? = some b → ∃ a, as[i]? = some a ∧ R a b := by
  induction h with
  | nil => intro i b e; simp at e
  | cons r _ ih =>
    intro i b e
    cases i with
    | zero =>
      simp at e
      exact ⟨_, rfl, e ▸ r⟩
    | succ i =>
      obtain ⟨a, h1, h2⟩ := ih (i := i) (b := b) (by simpa using e)
      exact ⟨a, by simpa using h1, h2⟩
theorem All2.mono {α β : Type} {R R' : α → β → Prop} (f : ∀ a b, R a b → R' a b) {as : List α} {bs : List β} (h : All2 R as bs) : All2 R' as bs := by
  induction h with
  | nil => exact .nil
  | cons r _ ih => exact .cons (f _ _ r) ih
theorem All2.app {α β : Type} {R : α → β → Prop} {as as' : List α} {bs bs' : List β} (h : All2 R as bs) (h' : All2 R as' bs') : All2 R (as ++ as') (bs ++ bs') := by
  induction h with
  | nil => exact h'
  | cons r _ ih => exact .cons r ih
theorem All2.snoc {α β : Type} {R : α → β → Prop} {as : List α} {bs : List β} {a : α} {b : β} (h : All2 R as bs) (r : R a b) : All2 R (as ++ [a]) (bs ++ [b]) := h.app (.cons r .nil)
theorem All2.drop {α β : Type} {R : α → β → Prop} {as : List α} {bs : List β} (h : All2 R as bs) : ∀ (i : Nat) {a : α}, as[i]? = some a → ∃ b, R a b ∧ bs.drop i = b :: bs.drop (i + 1) := by
  induction h with
  | nil => intro i a e; simp at e
  | cons r _ ih =>
    intro i a e
    cases i with
    | zero =>
      simp at e
      exact ⟨_, e ▸ r, rfl⟩
    | succ i =>
      obtain ⟨b, h1, h2⟩ := ih i (a := a) (by simpa using e)
      exact ⟨b, h1, by simpa using h2⟩
theorem take_map_snoc {α β : Type} (f : α → β) {xs : List α} {i : Nat} {x : α} (h : xs[i]? = some x) : (xs.take (i + 1)).map f = (xs.take i).map f ++ [f x] := by
  rw [List.take_add_one, h, List.map_append]
  rfl
end U

namespace U
open PySem PySem.Spec PyProof.Rows L2
/-! readings of the defs -/
def t_l_whole (K : PySem.W.Frag) : TS :=
  (tRet (tAndV (tCB (rIsi K) (tCons (tVar 0) (tCons (tC (.ty "int")) tNil))) (tNotV (tCB (rIsi K) (tCons (tVar 0) (tCons (tC (.ty "bool")) tNil))))))
def n_l_whole : List Str := ["_law_found"]
def t_l_cell_at (K : PySem.W.Frag) : TS :=
  (tSeq (tIfS (tTest (tOp rLtI (tVar 1) (tCB (rLenQ K) (tCons (tVar 0) tNil)))) (tRet (tOp (rIxL K) (tVar 0) (tVar 1))) tNext)
    (tRet (tC (.int 0))))
def n_l_cell_at : List Str := ["_law_script", "_law_k"]
def t_l_number (K : PySem.W.Frag) : TS :=
  (tSeq (tIfS (tTest (tOp rEq (tOp rModP (tVar 0) (tC (.int 5))) (tC (.int 4)))) (tRet (tOp rSubI (tOp rModP (tOp rFdC (tVar 0) (tC (.int 5))) (tOp rPowI (tC (.int 10)) (tC (.int 30)))) (tOp rMulI (tC (.int 5)) (tOp rPowI (tC (.int 10)) (tC (.int 29)))))) tNext)
    (tRet (tOp rSubI (tOp rModP (tOp rFdC (tVar 0) (tC (.int 5))) (tC (.int 8))) (tC (.int 2)))))
def n_l_number : List Str := ["_law_cell"]
end U

set_option maxHeartbeats 4000000
namespace U
open PySem PySem.Spec PyProof.Rows L2
local macro_rules | `(tactic| walk_at "w1") => `(tactic| first
  | with_reducible refine w_seq ?_
  | with_reducible refine w_asg ?_
  | with_reducible refine w_op ?_
  | ((with_reducible refine' w_var ?h1 ?_); (case h1 => rfl))
  | with_reducible refine w_c ?_
  | with_reducible refine w_name ?_
  | with_reducible refine w_tFd ?_
  | ((with_reducible refine' w_fld ?h1 ?h2 ?_); (case h1 => assumption); (case h2 => rfl))
  | with_reducible refine w_if ?_
  | with_reducible refine w_test ?_
  | with_reducible refine w_eqS ?_
  | with_reducible refine w_eqI ?_
  | with_reducible refine w_neS ?_
  | with_reducible refine w_neI ?_
  | with_reducible refine w_isN ?_
  | with_reducible refine w_isnN ?_
  | with_reducible refine w_bl ?_
  | with_reducible refine w_ret ?_
  | with_reducible refine w_drop ?_
  | with_reducible refine w_next ?_
  | with_reducible refine w_cons ?_
  | with_reducible refine w_nil ?_
  | with_reducible refine w_call ?_
  | with_reducible refine w_cb ?_
  | with_reducible refine w_meth ?_
  | ((with_reducible refine' w_recv ?h1 ?h2 ?_); (case h1 => assumption); (case h2 => rfl))
  | with_reducible refine w_sFd ?_
  | ((with_reducible refine' w_put ?h1 ?h2 ?_); (case h1 => assumption); (case h2 => exact Nat.le_of_ble_eq_true rfl))
  | with_reducible refine w_add ?_
  | with_reducible refine w_sub ?_
  | with_reducible refine w_lt ?_
  | with_reducible refine w_le ?_
  | with_reducible refine w_gt ?_
  | with_reducible refine w_ge ?_
  | with_reducible refine w_bm ?_
  | with_reducible refine w_bm0 ?_
  | ((with_reducible refine' w_ty ?h1 ?_); (case h1 => assumption))
  | with_reducible refine w_tup ?_
  | with_reducible refine w_lst ?_
  | ((with_reducible refine' w_new ?h1 ?_); (case h1 => exact Nat.le_of_ble_eq_true rfl))
  | with_reducible refine w_gsub ?_
  | with_reducible refine w_make ?_
  | with_reducible refine w_lc ?_
  | with_reducible refine w_iList ?_
  | with_reducible refine w_for ?_
  | with_reducible refine w_yes ?_
  | with_reducible refine w_tSl ?_
  | with_reducible refine w_part ?_
  | with_reducible refine w_nopart ?_
  | with_reducible refine w_i ?_
  | with_reducible refine w_rng1 ?_
  | with_reducible refine w_rng2 ?_
  | with_reducible refine w_isiII ?_
  | with_reducible refine w_isiIB ?_
  | with_reducible refine w_isiSS ?_
  | ((with_reducible refine w_mod ?h1 ?_); (case h1 => decide))
  | ((with_reducible refine w_fdC' ?h1 ?h2 ?_); (case h1 => decide); (case h2 => decide))
  | ((with_reducible refine w_mulR ?h1 ?h2 ?_); (case h1 => decide); (case h2 => decide))
  | ((with_reducible refine w_mulL ?h1 ?h2 ?_); (case h1 => decide); (case h2 => decide))
  | ((with_reducible refine w_pow' ?h1 ?h2 ?h3 ?_); (case h1 => decide); (case h2 => decide); (case h3 => decide))
  | with_reducible refine w_andV ?_
  | with_reducible refine w_orV ?_
  | with_reducible refine w_notV ?_
  | with_reducible refine w_B ?_
  | with_reducible refine w_not ?_
  | with_reducible refine w_and ?_
  | with_reducible refine w_or ?_
  | with_reducible refine w_ifx ?_
  | with_reducible refine w_un ?_
  | ((with_reducible refine w_T ?h1 ?_); (case h1 => with_reducible rfl))
  | ((with_reducible refine w_F ?h1 ?_); (case h1 => with_reducible rfl))
  | ((with_reducible refine w_T ?h1 ?_); (case h1 => decide +kernel))
  | ((with_reducible refine w_F ?h1 ?_); (case h1 => decide +kernel)))
local macro_rules | `(tactic| walk_at "w") => `(tactic| repeat walk_at "w1")

/-! ### the cell of a script, a whole number, a drawn number -/
def cellAt (ns : List Int) (k : Int) : Int := ns.getD k.toNat 0
def sp_l_cell_at (K : PySem.W.Frag) : Sp := fun vs H Q _ => ∃ a ns k, vs = [.ref a, .int k] ∧ SqL K H a (ns.map V.int) ∧ 0 ≤ k ∧ Q (.int (cellAt ns k)) H
theorem p_l_cell_at {K : PySem.W.Frag} (vs : List V) (H : Hp) (Q : VK) (E : XK) (h : sp_l_cell_at K vs H Q E) : t_l_cell_at K { nx := fun _ H' => Q .non H', rt := Q } (L2.start n_l_cell_at vs) H := by
  obtain ⟨a, ns, k, rfl, hS, h0, q⟩ := h
  unfold t_l_cell_at
  walk_at "w"
  refine w_lenL hS ?_
  walk_at "w"
  refine w_D (fun c => ?_) (fun c => ?_) <;> rw [List.length_map] at c
  · walk_at "w"
    refine w_ixL (v := .int (cellAt ns k)) hS (atI_ok h0 ?_) ?_
    · rw [List.getElem?_map, cellAt, List.getD_eq_getElem?_getD, List.getElem?_eq_getElem (by omega)]
      rfl
    · exact q
  · walk_at "w"
    have e : cellAt ns k = 0 := by
      rw [cellAt, List.getD_eq_getElem?_getD, List.getElem?_eq_none (by omega)]
      rfl
    rw [e] at q
    exact q
def sp_l_whole (K : PySem.W.Frag) : Sp := fun vs H Q _ => ∃ i, vs = [.int i] ∧ Q (.bl true) H
theorem p_l_whole {K : PySem.W.Frag} (vs : List V) (H : Hp) (Q : VK) (E : XK) (h : sp_l_whole K vs H Q E) : t_l_whole K { nx := fun _ H' => Q .non H', rt := Q } (L2.start n_l_whole vs) H := by
  obtain ⟨i, rfl, q⟩ := h
  unfold t_l_whole
  walk_at "w"
  exact q
def numberOf (c : Int) : Int := if c % 5 = 4 then c / 5 % 1000000000000000000000000000000 - 500000000000000000000000000000 else c / 5 % 8 - 2
def sp_l_number (K : PySem.W.Frag) : Sp := fun vs H Q _ => ∃ c, vs = [.int c] ∧ Q (.int (numberOf c)) H
theorem p_l_number {K : PySem.W.Frag} (vs : List V) (H : Hp) (Q : VK) (E : XK) (h : sp_l_number K vs H Q E) : t_l_number K { nx := fun _ H' => Q .non H', rt := Q } (L2.start n_l_number vs) H := by
  obtain ⟨c, rfl, q⟩ := h
  unfold t_l_number
  walk_at "w"
  refine w_D (fun h => ?_) (fun h => ?_)
  · walk_at "w"
    rw [numberOf, if_pos h] at q
    exact q
  · walk_at "w"
    rw [numberOf, if_neg h] at q
    exact q
/-- [x for x in found if not whole(x)] is empty -/
theorem w_nowhole {K : PySem.W.Frag} {σ : L2.St} {H : Hp} {s : Addr} {ns : List Int} {k : Nat} {Q : Addr → Hp → Prop} (hS : SqL K H s (ns.map V.int)) (hk : k < σ.length) (q : ∀ D, H D = none → Q D (upd H D (.lst []))) :
    ∀ D, H D = none → ∃ W : Nat → Nat → Hp → Prop, (∃ m, W 0 m (upd H D (.lst []))) ∧ ∀ i m H, W i m H →
      ((Itl K s).stop i H ∧ Q D H) ∨ ((Itl K s).go i H ∧ ∃ Nx : Hp → Prop, (∀ H', Nx H' → ∃ m', m' < m ∧ W (i + 1) m' H') ∧ ∀ x H', (Itl K s).yld i H x H' → gName k x (wipe σ [k]) H' fun σ2 H2 => wipe σ2 [k] = wipe σ [k] ∧
        tNot (tB (tCall (sp_l_whole K) [] E0 (tCons (tVar k) tNil))) σ2 H2 fun b H3 => if b = true then tVar k σ2 H3 fun y H4 => ∃ acc, H4 D = some (.lst acc) ∧ acc.length < sizeLine ∧ Nx (upd H4 D (.lst (acc ++ [y]))) else Nx H3) := by
  intro D hD
  refine lc_list (xs := ns.map V.int) (fun i H' => H' = upd H D (.lst [])) rfl (fun i H' _ e => e ▸ (same_lay hD).seq hS) ?_ (fun H' e => e ▸ q D hD)
  rintro i x H' hx rfl
  rw [List.getElem?_map] at hx
  cases hz : ns[i]? with
  | none => rw [hz] at hx; cases hx
  | some z =>
  rw [hz] at hx
  cases hx
  refine ⟨?_, ?_⟩
  · simp only [wipe, List.set_set]
  · walk_at "w"
    refine w_var (v := .int z) ?_ ?_
    · simp [wipe, hk]
    walk_at "w"
    refine ⟨z, rfl, ?_⟩
    walk_at "w"
    rfl
theorem dp_ints {K : PySem.W.Frag} {H : Hp} : ∀ ns : List Int, DpAll K H (ns.map V.int) (ns.map PyData.int)
  | [] => .nil
  | n :: ns => .cons (.int n) (dp_ints ns)
theorem lay_ints : ∀ ns : List Int, PyData.canLayAll0 (ns.map PyData.int) = true ∧ PyData.depthAll (ns.map PyData.int) = 0
  | [] => ⟨rfl, rfl⟩
  | n :: ns => by
    have ih := lay_ints ns
    exact ⟨by simp [PyData.canLayAll0, PyData.canLay0, ih.1], by simp [PyData.depthAll, PyData.depth, ih.2]⟩
theorem shaped_of {d : PyData} (h : d.canLay0 = true) (hd : d.depth ≤ 64) : SeqAt.shaped d = true := by
  unfold SeqAt.shaped
  rw [Bool.and_eq_true]
  exact ⟨h, decide_eq_true hd⟩
theorem shaped_ints (ns : List Int) : SeqAt.shaped (.list (ns.map PyData.int)) = true := by
  have h := lay_ints ns
  exact shaped_of (by simp [PyData.canLay0, h.1]) (by simp [PyData.depth, h.2])
theorem eqv_self {d : PyData} (h : SeqAt.shaped d = true) : PyData.eqv d d = true := SeqAt.eqv_refl _ (SeqAt.canLay_of_shaped h)
/-- the same data twice -/
theorem w_neSame {K : PySem.W.Frag} {H : Hp} {Q : VK} {x y : V} {d : PyData} (h1 : Dp K H x d) (h2 : Dp K H y d) (s : SeqAt.shaped d = true) (q : Q (.bl false) H) : rNeD K x y H Q := by
  refine w_neD h1 h2 s s ?_
  rw [eqv_self s]
  exact q
theorem w_eqSame {K : PySem.W.Frag} {H : Hp} {Q : VK} {x y : V} {d : PyData} (h1 : Dp K H x d) (h2 : Dp K H y d) (s : SeqAt.shaped d = true) (q : Q (.bl true) H) : rEqD K x y H Q := by
  refine w_eqD h1 h2 s s ?_
  rw [eqv_self s]
  exact q
end U

set_option maxHeartbeats 4000000
namespace U
open PySem PySem.Spec PyProof.Rows L2
/-! ### tuple(..), isinstance by what stands -/
def rTupQ (K : PySem.W.Frag) : List V → Hp → VK → Prop := fun xs H Q => ∃ p ys, xs = [.ref p] ∧ ((SqL K H p ys ∧ ∀ l, H l = none → Q (.ref l) (upd H l (.tup ys))) ∨ (SqT K H p ys ∧ Q (.ref p) H))
theorem call_tupQ {X : Cx} : CallR X (.type "tuple") (rTupQ X.K) := call_tuple_of
section
variable {K : PySem.W.Frag} {H : Hp} {Q : VK} {a : Addr} {xs : List V} {b : Bool}
theorem w_tupQ {p : Addr} (h : SqL K H p xs) (q : ∀ l, H l = none → Q (.ref l) (upd H l (.tup xs))) : rTupQ K [.ref p] H Q := ⟨p, xs, rfl, .inl ⟨h, q⟩⟩
theorem tyT (h : SqT K H a xs) : TyX K H (.ref a) (.type "tuple") := by
  rcases h with (h | ⟨o, h⟩) | ⟨o, _, _, h, c, _⟩
  · exact .base (.tup h)
  · exact .fTuple h
  · exact .kTuple h c
theorem tyL (h : SqL K H a xs) : TyX K H (.ref a) (.type "list") := by
  rcases h with (h | ⟨o, h⟩) | ⟨o, _, _, h, c, _⟩
  · exact .base (.lst h)
  · exact .base (.frz h)
  · exact .kList h c
theorem w_isi {x : V} {t : Value} {s : String} (ty : TyX K H x t) (e : PySem.W.kitOne K t (.type s) = some b) (q : Q (.bl b) H) : rIsi K [x, .ty s] H Q := ⟨_, _, _, _, b, rfl, .ty _, ty, e, q⟩
theorem w_iTT (h : SqT K H a xs) (q : Q (.bl true) H) : rIsi K [.ref a, .ty "tuple"] H Q := w_isi (tyT h) (kit_ty (by decide +kernel)) q
theorem w_iTL (h : SqT K H a xs) (q : Q (.bl false) H) : rIsi K [.ref a, .ty "list"] H Q := w_isi (tyT h) (kit_ty (by decide +kernel)) q
theorem w_iLL (h : SqL K H a xs) (q : Q (.bl true) H) : rIsi K [.ref a, .ty "list"] H Q := w_isi (tyL h) (kit_ty (by decide +kernel)) q
theorem w_iLT (h : SqL K H a xs) (q : Q (.bl false) H) : rIsi K [.ref a, .ty "tuple"] H Q := w_isi (tyL h) (kit_ty (by decide +kernel)) q
/-- a number, a text, None -/
def Flat (x : V) : Prop := (∃ i, x = .int i) ∨ (∃ s, x = .str s) ∨ x = .non
theorem w_iF {x : V} {s : String} (h : Flat x) (hs : s = "tuple" ∨ s = "list") (q : Q (.bl false) H) : rIsi K [x, .ty s] H Q := by
  rcases h with ⟨i, rfl⟩ | ⟨y, rfl⟩ | rfl <;> rcases hs with rfl | rfl
  · exact w_isi (.base (.int i)) (kit_ty (by decide +kernel)) q
  · exact w_isi (.base (.int i)) (kit_ty (by decide +kernel)) q
  · exact w_isi (.base (.str y)) (kit_ty (by decide +kernel)) q
  · exact w_isi (.base (.str y)) (kit_ty (by decide +kernel)) q
  · exact w_isi (.base .non) (kit_ty (by decide +kernel)) q
  · exact w_isi (.base .non) (kit_ty (by decide +kernel)) q
end
end U

namespace U
open PySem PySem.Spec PyProof.Rows L2
/-! readings of the defs -/
def t_check_box (K : PySem.W.Frag) : TS :=
  (tIfS (tOr (tTest (tOp rLtI (tVar 0) (tC (.int 0)))) (tTest (tOp rGeI (tVar 0) (tC (.int 4))))) tNever tNext)
def n_check_box : List Str := ["number"]
def t_check_tree (K : PySem.W.Frag) (sp_check_box sp_check_tree : Sp) : TS :=
  (tSeq (tIfS (tTest (tOp rGtI (tVar 2) (tC (.int 6)))) tNever tNext)
    (tIfS (tTest (tOp rEq (tOp (rIxT K) (tVar 0) (tC (.int 0))) (tC (.str "box")))) (tDrop (tCall sp_check_box [] E0 (tCons (tOp (rIxT K) (tVar 0) (tC (.int 1))) tNil))) (tIfS (tTest (tOp rEq (tOp (rIxT K) (tVar 0) (tC (.int 0))) (tC (.str "call")))) (tSeq (tIfS (tOr (tTest (tOp rLtI (tOp (rIxT K) (tVar 0) (tC (.int 1))) (tC (.int 0)))) (tTest (tOp rGeI (tOp (rIxT K) (tVar 0) (tC (.int 1))) (tVar 1)))) tNever tNext)
    (tDrop (tCall sp_check_tree [] E0 (tCons (tOp (rIxT K) (tVar 0) (tC (.int 2))) (tCons (tVar 1) (tCons (tOp rAddI (tVar 2) (tC (.int 1))) tNil)))))) (tIfS (tTest (tOp rNe (tOp (rIxT K) (tVar 0) (tC (.int 0))) (tC (.str "num")))) (tSeq (tDrop (tCall sp_check_tree [] E0 (tCons (tOp (rIxT K) (tVar 0) (tC (.int 1))) (tCons (tVar 1) (tCons (tOp rAddI (tVar 2) (tC (.int 1))) tNil)))))
    (tDrop (tCall sp_check_tree [] E0 (tCons (tOp (rIxT K) (tVar 0) (tC (.int 2))) (tCons (tVar 1) (tCons (tOp rAddI (tVar 2) (tC (.int 1))) tNil)))))) tNext))))
def n_check_tree : List Str := ["tree", "count", "deep"]
def t_check_block (K : PySem.W.Frag) (sp_check_row : Sp) : TS :=
  (tSeq (tIfS (tTest (tOp rGtI (tVar 3) (tC (.int 8)))) tNever tNext)
    (tFor (iList K (tVar 0)) (gName 4) (tDrop (tCall sp_check_row [] E0 (tCons (tVar 4) (tCons (tVar 1) (tCons (tVar 2) (tCons (tVar 3) tNil))))))))
def n_check_block : List Str := ["block", "count", "loops", "deep", "row"]
def t_check_row (K : PySem.W.Frag) (sp_check_box sp_check_tree sp_check_block : Sp) : TS :=
  (tSeq (tAsg (tOp (rIxT K) (tVar 0) (tC (.int 0))) (gName 4))
    (tIfS (tOr (tTest (tOp rEq (tVar 4) (tC (.str "leave")))) (tTest (tOp rEq (tVar 4) (tC (.str "next"))))) (tIfS (tTest (tOp rEq (tVar 2) (tC (.int 0)))) tNever tNext) (tIfS (tTest (tOp rEq (tVar 4) (tC (.str "set")))) (tSeq (tDrop (tCall sp_check_box [] E0 (tCons (tOp (rIxT K) (tVar 0) (tC (.int 1))) tNil)))
    (tDrop (tCall sp_check_tree [] E0 (tCons (tOp (rIxT K) (tVar 0) (tC (.int 2))) (tCons (tVar 1) (tCons (tC (.int 1)) tNil)))))) (tIfS (tTest (tOp rEq (tVar 4) (tC (.str "if")))) (tSeq (tDrop (tCall sp_check_tree [] E0 (tCons (tOp (rIxT K) (tVar 0) (tC (.int 1))) (tCons (tVar 1) (tCons (tC (.int 1)) tNil)))))
    (tSeq (tDrop (tCall sp_check_block [] E0 (tCons (tOp (rIxT K) (tVar 0) (tC (.int 2))) (tCons (tVar 1) (tCons (tVar 2) (tCons (tOp rAddI (tVar 3) (tC (.int 1))) tNil))))))
    (tDrop (tCall sp_check_block [] E0 (tCons (tOp (rIxT K) (tVar 0) (tC (.int 3))) (tCons (tVar 1) (tCons (tVar 2) (tCons (tOp rAddI (tVar 3) (tC (.int 1))) tNil)))))))) (tIfS (tTest (tOp rEq (tVar 4) (tC (.str "loop")))) (tSeq (tDrop (tCall sp_check_tree [] E0 (tCons (tOp (rIxT K) (tVar 0) (tC (.int 1))) (tCons (tVar 1) (tCons (tC (.int 1)) tNil)))))
    (tDrop (tCall sp_check_block [] E0 (tCons (tOp (rIxT K) (tVar 0) (tC (.int 2))) (tCons (tVar 1) (tCons (tOp rAddI (tVar 2) (tC (.int 1))) (tCons (tOp rAddI (tVar 3) (tC (.int 1))) tNil))))))) (tIfS (tTest (tOp rEq (tVar 4) (tC (.str "catch")))) (tSeq (tDrop (tCall sp_check_block [] E0 (tCons (tOp (rIxT K) (tVar 0) (tC (.int 1))) (tCons (tVar 1) (tCons (tVar 2) (tCons (tOp rAddI (tVar 3) (tC (.int 1))) tNil))))))
    (tSeq (tDrop (tCall sp_check_box [] E0 (tCons (tOp (rIxT K) (tVar 0) (tC (.int 3))) tNil)))
    (tDrop (tCall sp_check_block [] E0 (tCons (tOp (rIxT K) (tVar 0) (tC (.int 4))) (tCons (tVar 1) (tCons (tVar 2) (tCons (tOp rAddI (tVar 3) (tC (.int 1))) tNil)))))))) (tIfS (tTest (tOp rEq (tVar 4) (tC (.str "end")))) (tSeq (tDrop (tCall sp_check_block [] E0 (tCons (tOp (rIxT K) (tVar 0) (tC (.int 1))) (tCons (tVar 1) (tCons (tVar 2) (tCons (tOp rAddI (tVar 3) (tC (.int 1))) tNil))))))
    (tDrop (tCall sp_check_block [] E0 (tCons (tOp (rIxT K) (tVar 0) (tC (.int 2))) (tCons (tVar 1) (tCons (tVar 2) (tCons (tOp rAddI (tVar 3) (tC (.int 1))) tNil))))))) (tDrop (tCall sp_check_tree [] E0 (tCons (tOp (rIxT K) (tVar 0) (tC (.int 1))) (tCons (tVar 1) (tCons (tC (.int 1)) tNil))))))))))))
def n_check_row : List Str := ["row", "count", "loops", "deep", "word"]
def t_checked (K : PySem.W.Frag) (sp_check_block : Sp) : TS :=
  (tSeq (tIfS (tTest (tOp rEq (tCB (rLenQ K) (tCons (tVar 0) tNil)) (tC (.int 0)))) tNever tNext)
    (tFor (iList K (tVar 0)) (gName 1) (tDrop (tCall sp_check_block [] E0 (tCons (tVar 1) (tCons (tCB (rLenQ K) (tCons (tVar 0) tNil)) (tCons (tC (.int 0)) (tCons (tC (.int 1)) tNil))))))))
def n_checked : List Str := ["program", "block"]
end U

namespace U
open PySem PySem.Spec PyProof.Rows L2
/-! readings of the defs -/
def t_World___init__ (K : PySem.W.Frag) : TS :=
  (tSeq (sFd (He.ga K "World") "program" (tVar 0) (tVar 1))
    (tSeq (sFd (He.ga K "World") "said" (tVar 0) (tLst tNil))
    (tSeq (sFd (He.ga K "World") "turns" (tVar 0) (tVar 2))
    (sFd (He.ga K "World") "deep" (tVar 0) (tC (.int 0))))))
def n_World___init__ : List Str := ["self", "program", "turns"]
def t_World_taken (K : PySem.W.Frag) : TS :=
  (tSeq (tIfS (tTest (tOp rEq (tFd (He.ga K "World") "turns" (tVar 0)) (tC (.int 0)))) (tRet (tC (.bl false))) tNext)
    (tSeq (sFd (He.ga K "World") "turns" (tVar 0) (tOp rSubI (tFd (He.ga K "World") "turns" (tVar 0)) (tC (.int 1))))
    (tRet (tC (.bl true)))))
def n_World_taken : List Str := ["self"]
def t_joined (K : PySem.W.Frag) : TS :=
  (tSeq (tIfS (tTest (tOp rEq (tVar 0) (tC (.str "add")))) (tRet (tTup (tCons (tC (.str "value")) (tCons (tOp rAddI (tVar 1) (tVar 2)) tNil)))) tNext)
    (tSeq (tIfS (tTest (tOp rEq (tVar 0) (tC (.str "sub")))) (tRet (tTup (tCons (tC (.str "value")) (tCons (tOp rSubI (tVar 1) (tVar 2)) tNil)))) tNext)
    (tSeq (tIfS (tTest (tOp rEq (tVar 0) (tC (.str "less")))) (tRet (tTup (tCons (tC (.str "value")) (tCons (tIf (tTest (tOp rLtI (tVar 1) (tVar 2))) (tC (.int 1)) (tC (.int 0))) tNil)))) tNext)
    (tSeq (tIfS (tTest (tOp rEq (tVar 2) (tC (.int 0)))) (tRet (tTup (tCons (tC (.str "fault")) (tCons (tC (.int 101)) tNil)))) tNext)
    (tRet (tTup (tCons (tC (.str "value")) (tCons (tOp rFd (tVar 1) (tVar 2)) tNil))))))))
def n_joined : List Str := ["word", "one", "other"]
def t_reckoned (K : PySem.W.Frag) (sp_reckoned sp_called sp_joined : Sp) : TS :=
  (tSeq (tAsg (tOp (rIxT K) (tVar 0) (tC (.int 0))) (gName 3))
    (tSeq (tIfS (tTest (tOp rEq (tVar 3) (tC (.str "num")))) (tRet (tTup (tCons (tC (.str "value")) (tCons (tOp (rIxT K) (tVar 0) (tC (.int 1))) tNil)))) tNext)
    (tSeq (tIfS (tTest (tOp rEq (tVar 3) (tC (.str "box")))) (tRet (tTup (tCons (tC (.str "value")) (tCons (tOp (rIxL K) (tVar 1) (tOp (rIxT K) (tVar 0) (tC (.int 1)))) tNil)))) tNext)
    (tSeq (tIfS (tTest (tOp rEq (tVar 3) (tC (.str "call")))) (tSeq (tAsg (tCall sp_reckoned [] E0 (tCons (tOp (rIxT K) (tVar 0) (tC (.int 2))) (tCons (tVar 1) (tCons (tVar 2) tNil)))) (gName 4))
    (tSeq (tIfS (tTest (tOp rNe (tOp (rIxT K) (tVar 4) (tC (.int 0))) (tC (.str "value")))) (tRet (tVar 4)) tNext)
    (tRet (tCall sp_called [] E0 (tCons (tOp (rIxT K) (tVar 0) (tC (.int 1))) (tCons (tOp (rIxT K) (tVar 4) (tC (.int 1))) (tCons (tVar 2) tNil))))))) tNext)
    (tSeq (tAsg (tCall sp_reckoned [] E0 (tCons (tOp (rIxT K) (tVar 0) (tC (.int 1))) (tCons (tVar 1) (tCons (tVar 2) tNil)))) (gName 5))
    (tSeq (tIfS (tTest (tOp rNe (tOp (rIxT K) (tVar 5) (tC (.int 0))) (tC (.str "value")))) (tRet (tVar 5)) tNext)
    (tSeq (tAsg (tCall sp_reckoned [] E0 (tCons (tOp (rIxT K) (tVar 0) (tC (.int 2))) (tCons (tVar 1) (tCons (tVar 2) tNil)))) (gName 6))
    (tSeq (tIfS (tTest (tOp rNe (tOp (rIxT K) (tVar 6) (tC (.int 0))) (tC (.str "value")))) (tRet (tVar 6)) tNext)
    (tRet (tCall sp_joined [] E0 (tCons (tVar 3) (tCons (tOp (rIxT K) (tVar 5) (tC (.int 1))) (tCons (tOp (rIxT K) (tVar 6) (tC (.int 1))) tNil)))))))))))))
def n_reckoned : List Str := ["tree", "boxes", "world", "word", "found", "one", "other"]
def t_called (K : PySem.W.Frag) (sp_World_taken sp_entered : Sp) : TS :=
  (tSeq (tIfS (tNot (tB (tMeth (He.ga K "World") "taken" sp_World_taken [] E0 (tVar 2) tNil))) (tRet (tTup (tCons (tC (.str "tired")) (tCons (tC (.int 0)) tNil)))) tNext)
    (tSeq (tIfS (tTest (tOp rEq (tFd (He.ga K "World") "deep" (tVar 2)) (tC (.int 8)))) (tRet (tTup (tCons (tC (.str "fault")) (tCons (tC (.int 102)) tNil)))) tNext)
    (tRet (tCall sp_entered [] E0 (tCons (tVar 0) (tCons (tVar 1) (tCons (tVar 2) tNil)))))))
def n_called : List Str := ["number", "given", "world"]
def t_entered (K : PySem.W.Frag) (sp_block_done : Sp) : TS :=
  (tSeq (sFd (He.ga K "World") "deep" (tVar 2) (tOp rAddI (tFd (He.ga K "World") "deep" (tVar 2)) (tC (.int 1))))
    (tSeq (tAsg (tCall sp_block_done [] E0 (tCons (tOp (rIxL K) (tFd (He.ga K "World") "program" (tVar 2)) (tVar 0)) (tCons (tOp rCat (tLst (tCons (tVar 1) tNil)) (tOp rRep (tLst (tCons (tC (.int 0)) tNil)) (tOp rSubI (tC (.int 4)) (tC (.int 1))))) (tCons (tVar 2) tNil)))) (gName 3))
    (tSeq (sFd (He.ga K "World") "deep" (tVar 2) (tOp rSubI (tFd (He.ga K "World") "deep" (tVar 2)) (tC (.int 1))))
    (tSeq (tIfS (tTest (tOp rEq (tOp (rIxT K) (tVar 3) (tC (.int 0))) (tC (.str "on")))) (tRet (tTup (tCons (tC (.str "value")) (tCons (tC (.int 0)) tNil)))) tNext)
    (tSeq (tIfS (tTest (tOp rEq (tOp (rIxT K) (tVar 3) (tC (.int 0))) (tC (.str "give")))) (tRet (tTup (tCons (tC (.str "value")) (tCons (tOp (rIxT K) (tVar 3) (tC (.int 1))) tNil)))) tNext)
    (tRet (tVar 3)))))))
def n_entered : List Str := ["number", "given", "world", "found"]
def t_block_done (K : PySem.W.Frag) (sp_row_done : Sp) : TS :=
  (tSeq (tFor (iList K (tVar 0)) (gName 3) (tSeq (tAsg (tCall sp_row_done [] E0 (tCons (tVar 3) (tCons (tVar 1) (tCons (tVar 2) tNil)))) (gName 4))
    (tIfS (tTest (tOp rNe (tOp (rIxT K) (tVar 4) (tC (.int 0))) (tC (.str "on")))) (tRet (tVar 4)) tNext)))
    (tRet (tTup (tCons (tC (.str "on")) (tCons (tC (.int 0)) tNil)))))
def n_block_done : List Str := ["block", "boxes", "world", "row", "found"]
def t_row_done (K : PySem.W.Frag) (sp_loop_done sp_catch_done sp_end_done sp_reckoned sp_block_done : Sp) : TS :=
  (tSeq (tAsg (tOp (rIxT K) (tVar 0) (tC (.int 0))) (gName 3))
    (tSeq (tIfS (tOr (tTest (tOp rEq (tVar 3) (tC (.str "leave")))) (tTest (tOp rEq (tVar 3) (tC (.str "next"))))) (tRet (tTup (tCons (tVar 3) (tCons (tC (.int 0)) tNil)))) tNext)
    (tSeq (tIfS (tTest (tOp rEq (tVar 3) (tC (.str "loop")))) (tRet (tCall sp_loop_done [] E0 (tCons (tVar 0) (tCons (tVar 1) (tCons (tVar 2) tNil))))) tNext)
    (tSeq (tIfS (tTest (tOp rEq (tVar 3) (tC (.str "catch")))) (tRet (tCall sp_catch_done [] E0 (tCons (tVar 0) (tCons (tVar 1) (tCons (tVar 2) tNil))))) tNext)
    (tSeq (tIfS (tTest (tOp rEq (tVar 3) (tC (.str "end")))) (tRet (tCall sp_end_done [] E0 (tCons (tVar 0) (tCons (tVar 1) (tCons (tVar 2) tNil))))) tNext)
    (tSeq (tAsg (tCall sp_reckoned [] E0 (tCons (tIf (tTest (tOp rEq (tVar 3) (tC (.str "set")))) (tOp (rIxT K) (tVar 0) (tC (.int 2))) (tOp (rIxT K) (tVar 0) (tC (.int 1)))) (tCons (tVar 1) (tCons (tVar 2) tNil)))) (gName 4))
    (tSeq (tIfS (tTest (tOp rNe (tOp (rIxT K) (tVar 4) (tC (.int 0))) (tC (.str "value")))) (tRet (tVar 4)) tNext)
    (tSeq (tIfS (tTest (tOp rEq (tVar 3) (tC (.str "if")))) (tRet (tCall sp_block_done [] E0 (tCons (tIf (tTest (tOp rEq (tOp (rIxT K) (tVar 4) (tC (.int 1))) (tC (.int 0)))) (tOp (rIxT K) (tVar 0) (tC (.int 3))) (tOp (rIxT K) (tVar 0) (tC (.int 2)))) (tCons (tVar 1) (tCons (tVar 2) tNil))))) tNext)
    (tSeq (tIfS (tTest (tOp rEq (tVar 3) (tC (.str "give")))) (tRet (tTup (tCons (tC (.str "give")) (tCons (tOp (rIxT K) (tVar 4) (tC (.int 1))) tNil)))) tNext)
    (tSeq (tIfS (tTest (tOp rEq (tVar 3) (tC (.str "raise")))) (tRet (tTup (tCons (tC (.str "fault")) (tCons (tOp (rIxT K) (tVar 4) (tC (.int 1))) tNil)))) tNext)
    (tSeq (tIfS (tTest (tOp rEq (tVar 3) (tC (.str "set")))) (tAsg (tOp (rIxT K) (tVar 4) (tC (.int 1))) (gSub (tVar 1) (tOp (rIxT K) (tVar 0) (tC (.int 1))) rSetL)) (tDrop (tBM K "list" rAppend (tFd (He.ga K "World") "said" (tVar 2)) (tCons (tOp (rIxT K) (tVar 4) (tC (.int 1))) tNil))))
    (tRet (tTup (tCons (tC (.str "on")) (tCons (tC (.int 0)) tNil)))))))))))))))
def n_row_done : List Str := ["row", "boxes", "world", "word", "found"]
def t_loop_done (K : PySem.W.Frag) (sp_World_taken sp_reckoned sp_block_done : Sp) : TS :=
  (tSeq (tWhile (tB (tMeth (He.ga K "World") "taken" sp_World_taken [] E0 (tVar 2) tNil)) (tSeq (tAsg (tCall sp_reckoned [] E0 (tCons (tOp (rIxT K) (tVar 0) (tC (.int 1))) (tCons (tVar 1) (tCons (tVar 2) tNil)))) (gName 3))
    (tSeq (tIfS (tTest (tOp rNe (tOp (rIxT K) (tVar 3) (tC (.int 0))) (tC (.str "value")))) (tRet (tVar 3)) tNext)
    (tSeq (tIfS (tTest (tOp rEq (tOp (rIxT K) (tVar 3) (tC (.int 1))) (tC (.int 0)))) (tRet (tTup (tCons (tC (.str "on")) (tCons (tC (.int 0)) tNil)))) tNext)
    (tSeq (tAsg (tCall sp_block_done [] E0 (tCons (tOp (rIxT K) (tVar 0) (tC (.int 2))) (tCons (tVar 1) (tCons (tVar 2) tNil)))) (gName 3))
    (tSeq (tIfS (tTest (tOp rEq (tOp (rIxT K) (tVar 3) (tC (.int 0))) (tC (.str "leave")))) (tRet (tTup (tCons (tC (.str "on")) (tCons (tC (.int 0)) tNil)))) tNext)
    (tIfS (tAnd (tTest (tOp rNe (tOp (rIxT K) (tVar 3) (tC (.int 0))) (tC (.str "on")))) (tTest (tOp rNe (tOp (rIxT K) (tVar 3) (tC (.int 0))) (tC (.str "next"))))) (tRet (tVar 3)) tNext)))))))
    (tRet (tTup (tCons (tC (.str "tired")) (tCons (tC (.int 0)) tNil)))))
def n_loop_done : List Str := ["row", "boxes", "world", "found"]
def t_catch_done (K : PySem.W.Frag) (sp_block_done : Sp) : TS :=
  (tSeq (tAsg (tCall sp_block_done [] E0 (tCons (tOp (rIxT K) (tVar 0) (tC (.int 1))) (tCons (tVar 1) (tCons (tVar 2) tNil)))) (gName 3))
    (tSeq (tIfS (tTest (tOp rNe (tOp (rIxT K) (tVar 3) (tC (.int 0))) (tC (.str "fault")))) (tRet (tVar 3)) tNext)
    (tSeq (tIfS (tAnd (tTest (tOp rIsNotNo (tOp (rIxT K) (tVar 0) (tC (.int 2))) (tC .non))) (tTest (tOp rNe (tOp (rIxT K) (tVar 3) (tC (.int 1))) (tOp (rIxT K) (tVar 0) (tC (.int 2)))))) (tRet (tVar 3)) tNext)
    (tSeq (tAsg (tOp (rIxT K) (tVar 3) (tC (.int 1))) (gSub (tVar 1) (tOp (rIxT K) (tVar 0) (tC (.int 3))) rSetL))
    (tRet (tCall sp_block_done [] E0 (tCons (tOp (rIxT K) (tVar 0) (tC (.int 4))) (tCons (tVar 1) (tCons (tVar 2) tNil)))))))))
def n_catch_done : List Str := ["row", "boxes", "world", "found"]
def t_end_done (K : PySem.W.Frag) (sp_block_done : Sp) : TS :=
  (tSeq (tAsg (tCall sp_block_done [] E0 (tCons (tOp (rIxT K) (tVar 0) (tC (.int 1))) (tCons (tVar 1) (tCons (tVar 2) tNil)))) (gName 3))
    (tSeq (tIfS (tTest (tOp rEq (tOp (rIxT K) (tVar 3) (tC (.int 0))) (tC (.str "tired")))) (tRet (tVar 3)) tNext)
    (tSeq (tAsg (tCall sp_block_done [] E0 (tCons (tOp (rIxT K) (tVar 0) (tC (.int 2))) (tCons (tVar 1) (tCons (tVar 2) tNil)))) (gName 4))
    (tSeq (tIfS (tTest (tOp rNe (tOp (rIxT K) (tVar 4) (tC (.int 0))) (tC (.str "on")))) (tRet (tVar 4)) tNext)
    (tRet (tVar 3))))))
def n_end_done : List Str := ["row", "boxes", "world", "found", "last"]
def t_told (K : PySem.W.Frag) (sp_checked sp_World___init__ sp_entered : Sp) : TS :=
  (tSeq (tDrop (tCall sp_checked [] E0 (tCons (tVar 0) tNil)))
    (tSeq (tAsg (tMake (He.ga K "World") sp_World___init__ [] E0 (tCons (tVar 0) (tCons (tVar 2) tNil))) (gName 3))
    (tSeq (tAsg (tCall sp_entered [] E0 (tCons (tC (.int 0)) (tCons (tVar 1) (tCons (tVar 3) tNil)))) (gName 4))
    (tSeq (tAsg (tIf (tTest (tOp rEq (tOp (rIxT K) (tVar 4) (tC (.int 0))) (tC (.str "value")))) (tC (.str "answer")) (tOp (rIxT K) (tVar 4) (tC (.int 0)))) (gName 5))
    (tRet (tTup (tCons (tFd (He.ga K "World") "said" (tVar 3)) (tCons (tVar 5) (tCons (tOp (rIxT K) (tVar 4) (tC (.int 1))) tNil)))))))))
def n_told : List Str := ["program", "number", "turns", "world", "found", "word"]
end U

/-! programs and what they tell, in plain Lean -/
namespace Un
open PySem

inductive Op where
  | add | sub | less | share
  deriving DecidableEq, Repr
def Op.str : Op → Str
  | .add => "add"
  | .sub => "sub"
  | .less => "less"
  | .share => "share"
inductive Tree where
  | num (n : Int)
  | box (k : Int)
  | call (f : Int) (t : Tree)
  | bin (o : Op) (a b : Tree)
  deriving DecidableEq, Repr
inductive Sm where
  | set (k : Int) (e : Tree)
  | say (e : Tree)
  | ife (e : Tree) (a b : List Sm)
  | loop (e : Tree) (b : List Sm)
  | leave
  | next
  | give (e : Tree)
  | raise (e : Tree)
  | ctch (b : List Sm) (n : Option Int) (k : Int) (h : List Sm)
  | endd (b l : List Sm)

def at? {α : Type} (xs : List α) (i : Int) : Option α := if 0 ≤ i then xs[i.toNat]? else none

/-! ### what is well formed -/
def Tree.ok (count : Nat) : Nat → Tree → Bool
  | 0, _ => false
  | _ + 1, .num _ => true
  | _ + 1, .box k => decide (0 ≤ k ∧ k < 4)
  | d + 1, .call f t => decide (0 ≤ f ∧ f < count) && t.ok count d
  | d + 1, .bin _ a b => a.ok count d && b.ok count d
mutual
def Sm.ok (count : Nat) (loops : Bool) : Nat → Sm → Bool
  | _, .set k e => decide (0 ≤ k ∧ k < 4) && e.ok count 6
  | _, .say e => e.ok count 6
  | 0, .ife _ _ _ => false
  | d + 1, .ife e a b => e.ok count 6 && (oks count loops d a && oks count loops d b)
  | 0, .loop _ _ => false
  | d + 1, .loop e b => e.ok count 6 && oks count true d b
  | _, .leave => loops
  | _, .next => loops
  | _, .give e => e.ok count 6
  | _, .raise e => e.ok count 6
  | 0, .ctch _ _ _ _ => false
  | d + 1, .ctch b _ k h => oks count loops d b && (decide (0 ≤ k ∧ k < 4) && oks count loops d h)
  | 0, .endd _ _ => false
  | d + 1, .endd b l => oks count loops d b && oks count loops d l
def oks (count : Nat) (loops : Bool) : Nat → List Sm → Bool
  | _, [] => true
  | d, s :: r => s.ok count loops d && oks count loops d r
end
/-- a program that is not refused: d more blocks within a function's own (7) -/
def okProg (P : List (List Sm)) : Bool := decide (0 < P.length) && P.all (oks P.length false 7)

/-! ### what it tells -/
structure Wd where
  said : List Int
  turns : Nat
  deep : Nat
inductive Wy where
  | value | fault | tired | on | leave | next | give
  deriving DecidableEq, Repr
def Wy.str : Wy → Str
  | .value => "value"
  | .fault => "fault"
  | .tired => "tired"
  | .on => "on"
  | .leave => "leave"
  | .next => "next"
  | .give => "give"
abbrev Res := Wy × Int
def joinT (o : Op) (a b : Int) : Res := match o with
  | .add => (.value, a + b)
  | .sub => (.value, a - b)
  | .less => (.value, if a < b then 1 else 0)
  | .share => if b = 0 then (.fault, 101) else (.value, a.fdiv b)
/-- the defs that call one another, at a level -/
structure Ev where
  tree : Tree → List Int → Wd → Option (Res × Wd)
  call : Int → Int → Wd → Option (Res × Wd)
  enter : Int → Int → Wd → Option (Res × Wd)
  block : List Sm → List Int → Wd → Option (Res × List Int × Wd)
  row : Sm → List Int → Wd → Option (Res × List Int × Wd)
  loop : Tree → List Sm → List Int → Wd → Option (Res × List Int × Wd)
  ctch : List Sm → Option Int → Int → List Sm → List Int → Wd → Option (Res × List Int × Wd)
  endd : List Sm → List Sm → List Int → Wd → Option (Res × List Int × Wd)
def Ev.no : Ev := ⟨fun _ _ _ => none, fun _ _ _ => none, fun _ _ _ => none, fun _ _ _ => none, fun _ _ _ => none, fun _ _ _ _ => none, fun _ _ _ _ _ _ => none, fun _ _ _ _ => none⟩
def treeS (E : Ev) (t : Tree) (bx : List Int) (w : Wd) : Option (Res × Wd) := match t with
  | .num n => some ((.value, n), w)
  | .box k => (at? bx k).map fun v => ((.value, v), w)
  | .call f t => match E.tree t bx w with
    | some ((.value, v), w1) => E.call f v w1
    | r => r
  | .bin o a b => match E.tree a bx w with
    | some ((.value, x), w1) => match E.tree b bx w1 with
      | some ((.value, y), w2) => some (joinT o x y, w2)
      | r => r
    | r => r
def callS (E : Ev) (f v : Int) (w : Wd) : Option (Res × Wd) :=
  if w.turns = 0 then some ((.tired, 0), w)
  else if w.deep = 8 then some ((.fault, 102), { w with turns := w.turns - 1 })
  else E.enter f v { w with turns := w.turns - 1 }
def outOf : Res → Res
  | (.on, _) => (.value, 0)
  | (.give, v) => (.value, v)
  | r => r
def enterS (P : List (List Sm)) (E : Ev) (f v : Int) (w : Wd) : Option (Res × Wd) := match at? P f with
  | none => none
  | some b => (E.block b [v, 0, 0, 0] { w with deep := w.deep + 1 }).map fun r => (outOf r.1, { r.2.2 with deep := r.2.2.deep - 1 })
def blockS (E : Ev) : List Sm → List Int → Wd → Option (Res × List Int × Wd)
  | [], bx, w => some ((.on, 0), bx, w)
  | s :: b, bx, w => match E.row s bx w with
    | some ((.on, _), bx1, w1) => blockS E b bx1 w1
    | r => r
/-- the value of e, and on with it -/
def thenT (E : Ev) (e : Tree) (bx : List Int) (w : Wd) (k : Int → Wd → Option (Res × List Int × Wd)) : Option (Res × List Int × Wd) := match E.tree e bx w with
  | some ((.value, v), w1) => k v w1
  | some (r, w1) => some (r, bx, w1)
  | none => none
def rowS (E : Ev) (s : Sm) (bx : List Int) (w : Wd) : Option (Res × List Int × Wd) := match s with
  | .leave => some ((.leave, 0), bx, w)
  | .next => some ((.next, 0), bx, w)
  | .loop e b => E.loop e b bx w
  | .ctch b n k h => E.ctch b n k h bx w
  | .endd b l => E.endd b l bx w
  | .ife e a b => thenT E e bx w fun v w1 => E.block (if v = 0 then b else a) bx w1
  | .give e => thenT E e bx w fun v w1 => some ((.give, v), bx, w1)
  | .raise e => thenT E e bx w fun v w1 => some ((.fault, v), bx, w1)
  | .set k e => thenT E e bx w fun v w1 => if 0 ≤ k ∧ k < bx.length then some ((.on, 0), bx.set k.toNat v, w1) else none
  | .say e => thenT E e bx w fun v w1 => some ((.on, 0), bx, { w1 with said := w1.said ++ [v] })
def loopGo (E : Ev) (e : Tree) (b : List Sm) : Nat → List Int → Wd → Option (Res × List Int × Wd)
  | 0, _, _ => none
  | c + 1, bx, w =>
    if w.turns = 0 then some ((.tired, 0), bx, w)
    else thenT E e bx { w with turns := w.turns - 1 } fun v w1 =>
      if v = 0 then some ((.on, 0), bx, w1)
      else match E.block b bx w1 with
        | some ((.leave, _), bx2, w2) => some ((.on, 0), bx2, w2)
        | some ((.on, _), bx2, w2) => loopGo E e b c bx2 w2
        | some ((.next, _), bx2, w2) => loopGo E e b c bx2 w2
        | r => r
def loopS (E : Ev) (e : Tree) (b : List Sm) (bx : List Int) (w : Wd) : Option (Res × List Int × Wd) := loopGo E e b (w.turns + 1) bx w
def ctchS (E : Ev) (b : List Sm) (n : Option Int) (k : Int) (h : List Sm) (bx : List Int) (w : Wd) : Option (Res × List Int × Wd) := match E.block b bx w with
  | some ((.fault, v), bx1, w1) => if n ≠ none ∧ some v ≠ n then some ((.fault, v), bx1, w1) else if 0 ≤ k ∧ k < bx1.length then E.block h (bx1.set k.toNat v) w1 else none
  | r => r
def endS (E : Ev) (b l : List Sm) (bx : List Int) (w : Wd) : Option (Res × List Int × Wd) := match E.block b bx w with
  | some ((.tired, v), bx1, w1) => some ((.tired, v), bx1, w1)
  | some (r, bx1, w1) => match E.block l bx1 w1 with
    | some ((.on, _), bx2, w2) => some (r, bx2, w2)
    | r2 => r2
  | none => none
def ev (P : List (List Sm)) : Nat → Ev
  | 0 => Ev.no
  | n + 1 => ⟨treeS (ev P n), callS (ev P n), enterS P (ev P n), blockS (ev P n), rowS (ev P n), loopS (ev P n), ctchS (ev P n), endS (ev P n)⟩
end Un

/-! what grows and what stays along an evaluation -/
namespace Un
open PySem
structure Le (w w' : Wd) : Prop where
  said : w.said <+: w'.said
  turns : w'.turns ≤ w.turns
  deep : w'.deep = w.deep
theorem Le.refl (w : Wd) : Le w w := ⟨List.prefix_refl _, Nat.le_refl _, rfl⟩
theorem Le.trans {a b c : Wd} (h : Le a b) (k : Le b c) : Le a c := ⟨h.said.trans k.said, Nat.le_trans k.turns h.turns, k.deep.trans h.deep⟩
theorem Le.turn {w w' : Wd} {t : Nat} (ht : t ≤ w.turns) (h : Le { w with turns := t } w') : Le w w' := ⟨h.said, Nat.le_trans h.turns ht, h.deep⟩
theorem Le.len {w w' : Wd} (h : Le w w') : w.said.length ≤ w'.said.length := h.said.length_le
structure Good (E : Ev) : Prop where
  tree : ∀ {t bx w r w'}, E.tree t bx w = some (r, w') → Le w w'
  call : ∀ {f v w r w'}, E.call f v w = some (r, w') → Le w w'
  enter : ∀ {f v w r w'}, E.enter f v w = some (r, w') → Le w w'
  block : ∀ {b bx w r bx' w'}, E.block b bx w = some (r, bx', w') → Le w w' ∧ bx'.length = bx.length
  row : ∀ {s bx w r bx' w'}, E.row s bx w = some (r, bx', w') → Le w w' ∧ bx'.length = bx.length
  loop : ∀ {e b bx w r bx' w'}, E.loop e b bx w = some (r, bx', w') → Le w w' ∧ bx'.length = bx.length
  ctch : ∀ {b n k h bx w r bx' w'}, E.ctch b n k h bx w = some (r, bx', w') → Le w w' ∧ bx'.length = bx.length
  endd : ∀ {b l bx w r bx' w'}, E.endd b l bx w = some (r, bx', w') → Le w w' ∧ bx'.length = bx.length
theorem good_no : Good Ev.no :=
  by constructor <;> (intros; rename_i h; cases h)
theorem thenT_good {E : Ev} (G : Good E) {e : Tree} {bx : List Int} {w : Wd} {k : Int → Wd → Option (Res × List Int × Wd)} {r : Res} {bx' : List Int} {w' : Wd} (h : thenT E e bx w k = some (r, bx', w'))
    (hk : ∀ v w1, k v w1 = some (r, bx', w') → Le w1 w' ∧ bx'.length = bx.length) : Le w w' ∧ bx'.length = bx.length := by
  unfold thenT at h
  split at h
  · rename_i v w1 he
    have q := hk _ _ h
    exact ⟨(G.tree he).trans q.1, q.2⟩
  · rename_i r1 w1 _ he
    cases h
    exact ⟨G.tree he, rfl⟩
  · cases h
theorem loopGo_good {E : Ev} (G : Good E) (e : Tree) (b : List Sm) : ∀ (c : Nat) {bx : List Int} {w : Wd} {r : Res} {bx' : List Int} {w' : Wd}, loopGo E e b c bx w = some (r, bx', w') → Le w w' ∧ bx'.length = bx.length
  | 0, _, _, _, _, _, h => by cases h
  | c + 1, bx, w, r, bx', w', h => by
    unfold loopGo at h
    split at h
    · cases h
      exact ⟨Le.refl _, rfl⟩
    · have q := thenT_good G h fun v w1 hk => by
        split at hk
        · cases hk
          exact ⟨Le.refl _, rfl⟩
        · split at hk
          · rename_i hb
            cases hk
            exact G.block hb
          · rename_i hb
            have i := G.block hb
            have j := loopGo_good G e b c hk
            exact ⟨i.1.trans j.1, j.2.trans i.2⟩
          · rename_i hb
            have i := G.block hb
            have j := loopGo_good G e b c hk
            exact ⟨i.1.trans j.1, j.2.trans i.2⟩
          · exact G.block hk
      exact ⟨q.1.turn (by omega), q.2⟩
theorem blockS_good {E : Ev} (G : Good E) : ∀ (b : List Sm) {bx : List Int} {w : Wd} {r : Res} {bx' : List Int} {w' : Wd}, blockS E b bx w = some (r, bx', w') → Le w w' ∧ bx'.length = bx.length
  | [], _, _, _, _, _, h => by
    cases h
    exact ⟨Le.refl _, rfl⟩
  | s :: b, bx, w, r, bx', w', h => by
    unfold blockS at h
    split at h
    · rename_i hr
      have i := G.row hr
      have j := blockS_good G b h
      exact ⟨i.1.trans j.1, j.2.trans i.2⟩
    · exact G.row h
theorem good_ev (P : List (List Sm)) : ∀ n, Good (ev P n)
  | 0 => good_no
  | n + 1 => by
    have G := good_ev P n
    refine ⟨?_, ?_, ?_, fun h => blockS_good G _ h, ?_, fun h => loopGo_good G _ _ _ h, ?_, ?_⟩
    · intro t bx w r w' h
      have h : treeS (ev P n) t bx w = some (r, w') := h
      unfold treeS at h
      cases t with
      | num n => cases h; exact Le.refl _
      | box k =>
        dsimp only at h
        cases hv : at? bx k with
        | none => rw [hv] at h; cases h
        | some v => rw [hv] at h; cases h; exact Le.refl _
      | call f t =>
        dsimp only at h
        split at h
        · rename_i he
          exact (G.tree he).trans (G.call h)
        · exact G.tree h
      | bin o a b =>
        dsimp only at h
        split at h
        · rename_i ha
          split at h
          · rename_i hb
            cases h
            exact (G.tree ha).trans (G.tree hb)
          · exact (G.tree ha).trans (G.tree h)
        · exact G.tree h
    · intro f v w r w' h
      have h : callS (ev P n) f v w = some (r, w') := h
      unfold callS at h
      split at h
      · cases h; exact Le.refl _
      · split at h
        · cases h
          exact ⟨List.prefix_refl _, by dsimp only; omega, rfl⟩
        · exact (G.enter h).turn (by omega)
    · intro f v w r w' h
      have h : enterS P (ev P n) f v w = some (r, w') := h
      unfold enterS at h
      split at h
      · cases h
      · cases hb : (ev P n).block _ [v, 0, 0, 0] { w with deep := w.deep + 1 } with
        | none => rw [hb] at h; cases h
        | some x =>
          obtain ⟨r1, bx1, w1⟩ := x
          rw [hb] at h
          cases h
          have i := (G.block hb).1
          exact ⟨i.said, i.turns, by have := i.deep; dsimp only at this ⊢; omega⟩
    · intro s bx w r bx' w' h
      have h : rowS (ev P n) s bx w = some (r, bx', w') := h
      unfold rowS at h
      cases s with
      | leave => cases h; exact ⟨Le.refl _, rfl⟩
      | next => cases h; exact ⟨Le.refl _, rfl⟩
      | loop e b => exact G.loop h
      | ctch b n k h' => exact G.ctch h
      | endd b l => exact G.endd h
      | ife e a b => exact thenT_good G h fun v w1 hk => G.block hk
      | give e => exact thenT_good G h fun v w1 hk => by cases hk; exact ⟨Le.refl _, rfl⟩
      | raise e => exact thenT_good G h fun v w1 hk => by cases hk; exact ⟨Le.refl _, rfl⟩
      | set k e =>
        exact thenT_good G h fun v w1 hk => by
          split at hk
          · cases hk
            exact ⟨Le.refl _, by simp⟩
          · cases hk
      | say e =>
        exact thenT_good G h fun v w1 hk => by
          cases hk
          exact ⟨⟨List.prefix_append _ _, Nat.le_refl _, rfl⟩, rfl⟩
    · intro b m k h' bx w r bx' w' h
      have h : ctchS (ev P n) b m k h' bx w = some (r, bx', w') := h
      unfold ctchS at h
      split at h
      · rename_i hb
        have i := G.block hb
        split at h
        · cases h
          exact i
        · split at h
          · have j := G.block h
            exact ⟨i.1.trans j.1, by rw [j.2, List.length_set, i.2]⟩
          · cases h
      · exact G.block h
    · intro b l bx w r bx' w' h
      have h : endS (ev P n) b l bx w = some (r, bx', w') := h
      unfold endS at h
      split at h
      · rename_i hb
        cases h
        exact G.block hb
      · rename_i hb
        have i := G.block hb
        split at h
        · rename_i hl
          cases h
          have j := G.block hl
          exact ⟨i.1.trans j.1, j.2.trans i.2⟩
        · have j := G.block h
          exact ⟨i.1.trans j.1, j.2.trans i.2⟩
      · cases h
end Un

namespace U
open PySem PySem.Spec PyProof.Rows L2
/-! readings of the defs -/
def t_goal_of (K : PySem.W.Frag) : TS :=
  (tSeq (tFor (iList K (tVar 0)) (gName 2) (tIfS (tAnd (tTest (tOp rLeI (tOp (rIxT K) (tVar 2) (tC (.int 0))) (tVar 1))) (tTest (tOp rLtI (tVar 1) (tOp (rIxT K) (tVar 2) (tC (.int 1)))))) (tRet (tOp (rIxT K) (tVar 2) (tC (.int 2)))) tNext))
    (tRet (tC .non)))
def n_goal_of : List Str := ["stretches", "place", "row"]
def t_Frame___init__ (K : PySem.W.Frag) : TS :=
  (tSeq (sFd (He.ga K "Frame") "place" (tVar 0) (tVar 1))
    (tSeq (sFd (He.ga K "Frame") "boxes" (tVar 0) (tOp rCat (tLst (tCons (tVar 3) tNil)) (tOp rRep (tLst (tCons (tC (.int 0)) tNil)) (tOp rSubI (tVar 2) (tC (.int 1))))))
    (sFd (He.ga K "Frame") "pile" (tVar 0) (tLst tNil))))
def n_Frame___init__ : List Str := ["self", "place", "boxes", "number"]
def t_Frame_lay (K : PySem.W.Frag) : TS :=
  (tSeq (tDrop (tBM K "list" rAppend (tFd (He.ga K "Frame") "pile" (tVar 0)) (tCons (tVar 1) tNil)))
    (sFd (He.ga K "Frame") "place" (tVar 0) (tOp rAddI (tFd (He.ga K "Frame") "place" (tVar 0)) (tC (.int 1)))))
def n_Frame_lay : List Str := ["self", "number"]
def t_Machine___init__ (K : PySem.W.Frag) (sp_Frame___init__ : Sp) : TS :=
  (tSeq (sFd (He.ga K "Machine") "code" (tVar 0) (tOp (rIxT K) (tVar 1) (tC (.int 0))))
    (tSeq (sFd (He.ga K "Machine") "stretches" (tVar 0) (tOp (rIxT K) (tVar 1) (tC (.int 1))))
    (tSeq (sFd (He.ga K "Machine") "starts" (tVar 0) (tOp (rIxT K) (tVar 1) (tC (.int 2))))
    (tSeq (sFd (He.ga K "Machine") "boxes" (tVar 0) (tOp (rIxT K) (tVar 1) (tC (.int 3))))
    (tSeq (sFd (He.ga K "Machine") "turns" (tVar 0) (tVar 3))
    (tSeq (sFd (He.ga K "Machine") "said" (tVar 0) (tLst tNil))
    (tSeq (sFd (He.ga K "Machine") "ended" (tVar 0) (tC .non))
    (sFd (He.ga K "Machine") "frames" (tVar 0) (tLst (tCons (tMake (He.ga K "Frame") sp_Frame___init__ [] E0 (tCons (tOp (rIxL K) (tFd (He.ga K "Machine") "starts" (tVar 0)) (tC (.int 0))) (tCons (tFd (He.ga K "Machine") "boxes" (tVar 0)) (tCons (tVar 2) tNil)))) tNil))))))))))
def n_Machine___init__ : List Str := ["self", "parts", "number", "turns"]
def t_Machine_step (K : PySem.W.Frag) (sp_Machine_meet sp_Machine_move sp_Machine_jump sp_Machine_taken sp_Machine_enter sp_Machine_back sp_Machine_fault : Sp) : TS :=
  (tSeq (tAsg (tOp (rIxL K) (tFd (He.ga K "Machine") "frames" (tVar 0)) (tOp rSubI (tCB (rLenQ K) (tCons (tFd (He.ga K "Machine") "frames" (tVar 0)) tNil)) (tC (.int 1)))) (gName 1))
    (tSeq (tAsg (tOp (rIxL K) (tFd (He.ga K "Machine") "code" (tVar 0)) (tFd (He.ga K "Frame") "place" (tVar 1))) (gName 2))
    (tSeq (tAsg (tOp (rIxT K) (tVar 2) (tC (.int 0))) (gName 3))
    (tIfS (tTest (tOp (rIn K false) (tVar 3) (tTup (tCons (tC (.str "add")) (tCons (tC (.str "sub")) (tCons (tC (.str "less")) (tCons (tC (.str "share")) tNil))))))) (tDrop (tMeth (He.ga K "Machine") "meet" sp_Machine_meet [] E0 (tVar 0) (tCons (tVar 1) (tCons (tVar 3) tNil)))) (tIfS (tTest (tOp (rIn K false) (tVar 3) (tTup (tCons (tC (.str "put")) (tCons (tC (.str "get")) (tCons (tC (.str "set")) (tCons (tC (.str "say")) tNil))))))) (tDrop (tMeth (He.ga K "Machine") "move" sp_Machine_move [] E0 (tVar 0) (tCons (tVar 1) (tCons (tVar 2) tNil)))) (tIfS (tTest (tOp (rIn K false) (tVar 3) (tTup (tCons (tC (.str "go")) (tCons (tC (.str "nought")) (tCons (tC (.str "on")) tNil)))))) (tDrop (tMeth (He.ga K "Machine") "jump" sp_Machine_jump [] E0 (tVar 0) (tCons (tVar 1) (tCons (tVar 2) tNil)))) (tIfS (tTest (tOp rEq (tVar 3) (tC (.str "turn")))) (tIfS (tB (tMeth (He.ga K "Machine") "taken" sp_Machine_taken [] E0 (tVar 0) tNil)) (sFd (He.ga K "Frame") "place" (tVar 1) (tOp rAddI (tFd (He.ga K "Frame") "place" (tVar 1)) (tC (.int 1)))) tNext) (tIfS (tTest (tOp rEq (tVar 3) (tC (.str "call")))) (tDrop (tMeth (He.ga K "Machine") "enter" sp_Machine_enter [] E0 (tVar 0) (tCons (tOp (rIxT K) (tVar 2) (tC (.int 1))) (tCons (tBM0 K "list" rPop (tFd (He.ga K "Frame") "pile" (tVar 1))) tNil)))) (tIfS (tTest (tOp rEq (tVar 3) (tC (.str "back")))) (tDrop (tMeth (He.ga K "Machine") "back" sp_Machine_back [] E0 (tVar 0) (tCons (tBM0 K "list" rPop (tFd (He.ga K "Frame") "pile" (tVar 1))) tNil))) (tDrop (tMeth (He.ga K "Machine") "fault" sp_Machine_fault [] E0 (tVar 0) (tCons (tBM0 K "list" rPop (tFd (He.ga K "Frame") "pile" (tVar 1))) tNil))))))))))))
def n_Machine_step : List Str := ["self", "frame", "row", "word"]
def t_Machine_taken (K : PySem.W.Frag) : TS :=
  (tSeq (tIfS (tTest (tOp rEq (tFd (He.ga K "Machine") "turns" (tVar 0)) (tC (.int 0)))) (tSeq (sFd (He.ga K "Machine") "ended" (tVar 0) (tTup (tCons (tC (.str "tired")) (tCons (tC (.int 0)) tNil))))
    (tRet (tC (.bl false)))) tNext)
    (tSeq (sFd (He.ga K "Machine") "turns" (tVar 0) (tOp rSubI (tFd (He.ga K "Machine") "turns" (tVar 0)) (tC (.int 1))))
    (tRet (tC (.bl true)))))
def n_Machine_taken : List Str := ["self"]
def t_Machine_move (K : PySem.W.Frag) (sp_Frame_lay : Sp) : TS :=
  (tSeq (tIfS (tTest (tOp rEq (tOp (rIxT K) (tVar 2) (tC (.int 0))) (tC (.str "put")))) (tSeq (tDrop (tMeth (He.ga K "Frame") "lay" sp_Frame_lay [] E0 (tVar 1) (tCons (tOp (rIxT K) (tVar 2) (tC (.int 1))) tNil)))
    tRetN) tNext)
    (tSeq (tIfS (tTest (tOp rEq (tOp (rIxT K) (tVar 2) (tC (.int 0))) (tC (.str "get")))) (tSeq (tDrop (tMeth (He.ga K "Frame") "lay" sp_Frame_lay [] E0 (tVar 1) (tCons (tOp (rIxL K) (tFd (He.ga K "Frame") "boxes" (tVar 1)) (tOp (rIxT K) (tVar 2) (tC (.int 1)))) tNil)))
    tRetN) tNext)
    (tSeq (tAsg (tBM0 K "list" rPop (tFd (He.ga K "Frame") "pile" (tVar 1))) (gName 3))
    (tSeq (tIfS (tTest (tOp rEq (tOp (rIxT K) (tVar 2) (tC (.int 0))) (tC (.str "set")))) (tAsg (tVar 3) (gSub (tFd (He.ga K "Frame") "boxes" (tVar 1)) (tOp (rIxT K) (tVar 2) (tC (.int 1))) rSetL)) (tDrop (tBM K "list" rAppend (tFd (He.ga K "Machine") "said" (tVar 0)) (tCons (tVar 3) tNil))))
    (sFd (He.ga K "Frame") "place" (tVar 1) (tOp rAddI (tFd (He.ga K "Frame") "place" (tVar 1)) (tC (.int 1))))))))
def n_Machine_move : List Str := ["self", "frame", "row", "number"]
def t_Machine_meet (K : PySem.W.Frag) (sp_Frame_lay sp_Machine_fault : Sp) : TS :=
  (tSeq (tAsg (tBM0 K "list" rPop (tFd (He.ga K "Frame") "pile" (tVar 1))) (gName 3))
    (tSeq (tAsg (tBM0 K "list" rPop (tFd (He.ga K "Frame") "pile" (tVar 1))) (gName 4))
    (tIfS (tTest (tOp rEq (tVar 2) (tC (.str "add")))) (tDrop (tMeth (He.ga K "Frame") "lay" sp_Frame_lay [] E0 (tVar 1) (tCons (tOp rAddI (tVar 4) (tVar 3)) tNil))) (tIfS (tTest (tOp rEq (tVar 2) (tC (.str "sub")))) (tDrop (tMeth (He.ga K "Frame") "lay" sp_Frame_lay [] E0 (tVar 1) (tCons (tOp rSubI (tVar 4) (tVar 3)) tNil))) (tIfS (tTest (tOp rEq (tVar 2) (tC (.str "less")))) (tDrop (tMeth (He.ga K "Frame") "lay" sp_Frame_lay [] E0 (tVar 1) (tCons (tIf (tTest (tOp rLtI (tVar 4) (tVar 3))) (tC (.int 1)) (tC (.int 0))) tNil))) (tIfS (tTest (tOp rEq (tVar 3) (tC (.int 0)))) (tDrop (tMeth (He.ga K "Machine") "fault" sp_Machine_fault [] E0 (tVar 0) (tCons (tC (.int 101)) tNil))) (tDrop (tMeth (He.ga K "Frame") "lay" sp_Frame_lay [] E0 (tVar 1) (tCons (tOp rFd (tVar 4) (tVar 3)) tNil)))))))))
def n_Machine_meet : List Str := ["self", "frame", "word", "other", "one"]
def t_Machine_jump (K : PySem.W.Frag) : TS :=
  (tIfS (tTest (tOp rEq (tOp (rIxT K) (tVar 2) (tC (.int 0))) (tC (.str "on")))) (sFd (He.ga K "Frame") "place" (tVar 1) (tOp (rIxL K) (tFd (He.ga K "Frame") "boxes" (tVar 1)) (tOp (rIxT K) (tVar 2) (tC (.int 1))))) (tIfS (tOr (tTest (tOp rEq (tOp (rIxT K) (tVar 2) (tC (.int 0))) (tC (.str "go")))) (tTest (tOp rEq (tBM0 K "list" rPop (tFd (He.ga K "Frame") "pile" (tVar 1))) (tC (.int 0))))) (sFd (He.ga K "Frame") "place" (tVar 1) (tOp (rIxT K) (tVar 2) (tC (.int 1)))) (sFd (He.ga K "Frame") "place" (tVar 1) (tOp rAddI (tFd (He.ga K "Frame") "place" (tVar 1)) (tC (.int 1))))))
def n_Machine_jump : List Str := ["self", "frame", "row"]
def t_Machine_enter (K : PySem.W.Frag) (sp_Machine_taken sp_Machine_fault sp_Frame___init__ : Sp) : TS :=
  (tSeq (tIfS (tNot (tB (tMeth (He.ga K "Machine") "taken" sp_Machine_taken [] E0 (tVar 0) tNil))) tRetN tNext)
    (tIfS (tTest (tOp rEq (tCB (rLenQ K) (tCons (tFd (He.ga K "Machine") "frames" (tVar 0)) tNil)) (tC (.int 8)))) (tDrop (tMeth (He.ga K "Machine") "fault" sp_Machine_fault [] E0 (tVar 0) (tCons (tC (.int 102)) tNil))) (tDrop (tBM K "list" rAppend (tFd (He.ga K "Machine") "frames" (tVar 0)) (tCons (tMake (He.ga K "Frame") sp_Frame___init__ [] E0 (tCons (tOp (rIxL K) (tFd (He.ga K "Machine") "starts" (tVar 0)) (tVar 1)) (tCons (tFd (He.ga K "Machine") "boxes" (tVar 0)) (tCons (tVar 2) tNil)))) tNil)))))
def n_Machine_enter : List Str := ["self", "number", "given"]
def t_Machine_back (K : PySem.W.Frag) (sp_Frame_lay : Sp) : TS :=
  (tSeq (tDrop (tBM0 K "list" rPop (tFd (He.ga K "Machine") "frames" (tVar 0))))
    (tIfS (tTest (tOp rEq (tCB (rLenQ K) (tCons (tFd (He.ga K "Machine") "frames" (tVar 0)) tNil)) (tC (.int 0)))) (sFd (He.ga K "Machine") "ended" (tVar 0) (tTup (tCons (tC (.str "answer")) (tCons (tVar 1) tNil)))) (tDrop (tMeth (He.ga K "Frame") "lay" sp_Frame_lay [] E0 (tOp (rIxL K) (tFd (He.ga K "Machine") "frames" (tVar 0)) (tOp rSubI (tCB (rLenQ K) (tCons (tFd (He.ga K "Machine") "frames" (tVar 0)) tNil)) (tC (.int 1)))) (tCons (tVar 1) tNil)))))
def n_Machine_back : List Str := ["self", "given"]
def t_Machine_fault (K : PySem.W.Frag) (sp_goal_of : Sp) : TS :=
  (tSeq (tWhile (tTest (tOp rGtI (tCB (rLenQ K) (tCons (tFd (He.ga K "Machine") "frames" (tVar 0)) tNil)) (tC (.int 0)))) (tSeq (tAsg (tOp (rIxL K) (tFd (He.ga K "Machine") "frames" (tVar 0)) (tOp rSubI (tCB (rLenQ K) (tCons (tFd (He.ga K "Machine") "frames" (tVar 0)) tNil)) (tC (.int 1)))) (gName 2))
    (tSeq (tAsg (tCall sp_goal_of [] E0 (tCons (tFd (He.ga K "Machine") "stretches" (tVar 0)) (tCons (tFd (He.ga K "Frame") "place" (tVar 2)) tNil))) (gName 3))
    (tSeq (tIfS (tTest (tOp rIsNotNo (tVar 3) (tC .non))) (tSeq (sFd (He.ga K "Frame") "pile" (tVar 2) (tLst (tCons (tVar 1) tNil)))
    (tSeq (sFd (He.ga K "Frame") "place" (tVar 2) (tVar 3))
    tRetN)) tNext)
    (tDrop (tBM0 K "list" rPop (tFd (He.ga K "Machine") "frames" (tVar 0))))))))
    (sFd (He.ga K "Machine") "ended" (tVar 0) (tTup (tCons (tC (.str "fault")) (tCons (tVar 1) tNil)))))
def n_Machine_fault : List Str := ["self", "number", "frame", "goal"]
def t_run (K : PySem.W.Frag) (sp_Machine___init__ sp_Machine_step : Sp) : TS :=
  (tSeq (tAsg (tMake (He.ga K "Machine") sp_Machine___init__ [] E0 (tCons (tVar 0) (tCons (tVar 1) (tCons (tVar 2) tNil)))) (gName 3))
    (tSeq (tWhile (tTest (tOp rIsNo (tFd (He.ga K "Machine") "ended" (tVar 3)) (tC .non))) (tDrop (tMeth (He.ga K "Machine") "step" sp_Machine_step [] E0 (tVar 3) tNil)))
    (tRet (tTup (tCons (tFd (He.ga K "Machine") "said" (tVar 3)) (tCons (tOp (rIxT K) (tFd (He.ga K "Machine") "ended" (tVar 3)) (tC (.int 0))) (tCons (tOp (rIxT K) (tFd (He.ga K "Machine") "ended" (tVar 3)) (tC (.int 1))) tNil)))))))
def n_run : List Str := ["parts", "number", "turns", "machine"]
end U

/-! the machine, in plain Lean -/
namespace Un
open PySem

inductive Rw where
  | put (n : Int) | get (k : Int) | set (k : Int) | say | add | sub | less | share | go (p : Int) | nought (p : Int) | on (k : Int) | turn | call (f : Int) | back | raise
  deriving DecidableEq, Repr

abbrev Stretch := Int × Int × Int
structure Parts where
  code : List Rw
  str : List Stretch
  starts : List Int
  boxes : Int

structure Fr where
  place : Int
  boxes : List Int
  pile : List Int

inductive Ed where
  | answer | fault | tired
  deriving DecidableEq, Repr
def Ed.str : Ed → Str
  | .answer => "answer"
  | .fault => "fault"
  | .tired => "tired"

structure Mc where
  frames : List Fr
  said : List Int
  turns : Nat
  ended : Option (Ed × Int)

def nth {α : Type} (xs : List α) (i : Int) : Option α := if 0 ≤ i then xs[i.toNat]? else none
def goalOf : List Stretch → Int → Option Int
  | [], _ => none
  | s :: r, p => if s.1 ≤ p ∧ p < s.2.1 then some s.2.2 else goalOf r p
def Fr.lay (f : Fr) (n : Int) : Fr := { f with pile := n :: f.pile, place := f.place + 1 }
def faultF (S : List Stretch) (n : Int) : List Fr → List Fr
  | [] => []
  | f :: r => match goalOf S f.place with
    | some g => { f with pile := [n], place := g } :: r
    | none => faultF S n r
def Mc.fault (P : Parts) (m : Mc) (n : Int) : Mc := match faultF P.str n m.frames with
  | [] => { m with frames := [], ended := some (.fault, n) }
  | f :: r => { m with frames := f :: r }
def Mc.tired (m : Mc) : Mc := { m with ended := some (.tired, 0) }
def newBoxes (nb given : Int) : List Int := given :: List.replicate (nb - 1).toNat 0
def Mc.enter (P : Parts) (m : Mc) (g v : Int) : Option Mc :=
  if m.turns = 0 then some m.tired
  else if m.frames.length = 8 then some (({ m with turns := m.turns - 1 } : Mc).fault P 102)
  else (nth P.starts g).map fun s => { m with turns := m.turns - 1, frames := ⟨s, newBoxes P.boxes v, []⟩ :: m.frames }
def Mc.back (m : Mc) (v : Int) : Mc := match m.frames with
  | [] => m
  | [_] => { m with frames := [], ended := some (.answer, v) }
  | _ :: g :: r => { m with frames := g.lay v :: r }
/-- a number laid or taken -/
def moveRw (row : Rw) (f : Fr) (r : List Fr) (m : Mc) : Option Mc := match row with
  | .put n => some { m with frames := f.lay n :: r }
  | .get k => (nth f.boxes k).map fun v => { m with frames := f.lay v :: r }
  | .set k => match f.pile with
    | v :: p => if 0 ≤ k ∧ k < f.boxes.length then some { m with frames := ⟨f.place + 1, f.boxes.set k.toNat v, p⟩ :: r } else none
    | [] => none
  | .say => match f.pile with
    | v :: p => some { m with said := m.said ++ [v], frames := ⟨f.place + 1, f.boxes, p⟩ :: r }
    | [] => none
  | _ => none
/-- two numbers joined -/
def meetRw (P : Parts) (row : Rw) (f : Fr) (r : List Fr) (m : Mc) : Option Mc := match f.pile with
  | b :: a :: p => match row with
    | .add => some { m with frames := (⟨f.place, f.boxes, p⟩ : Fr).lay (a + b) :: r }
    | .sub => some { m with frames := (⟨f.place, f.boxes, p⟩ : Fr).lay (a - b) :: r }
    | .less => some { m with frames := (⟨f.place, f.boxes, p⟩ : Fr).lay (if a < b then 1 else 0) :: r }
    | .share => if b = 0 then some (({ m with frames := ⟨f.place, f.boxes, p⟩ :: r } : Mc).fault P 101) else some { m with frames := (⟨f.place, f.boxes, p⟩ : Fr).lay (a.fdiv b) :: r }
    | _ => none
  | _ => none
/-- on at another place -/
def jumpRw (row : Rw) (f : Fr) (r : List Fr) (m : Mc) : Option Mc := match row with
  | .go p => some { m with frames := { f with place := p } :: r }
  | .nought p => match f.pile with
    | v :: q => some { m with frames := ⟨if v = 0 then p else f.place + 1, f.boxes, q⟩ :: r }
    | [] => none
  | .on k => (nth f.boxes k).map fun v => { m with frames := { f with place := v } :: r }
  | _ => none
/-- one row, the innermost frame f, those around r -/
def stepRw (P : Parts) (row : Rw) (f : Fr) (r : List Fr) (m : Mc) : Option Mc := match row with
  | .put n => moveRw (.put n) f r m
  | .get k => moveRw (.get k) f r m
  | .set k => moveRw (.set k) f r m
  | .say => moveRw .say f r m
  | .add => meetRw P .add f r m
  | .sub => meetRw P .sub f r m
  | .less => meetRw P .less f r m
  | .share => meetRw P .share f r m
  | .go p => jumpRw (.go p) f r m
  | .nought p => jumpRw (.nought p) f r m
  | .on k => jumpRw (.on k) f r m
  | .turn => if m.turns = 0 then some m.tired else some { m with turns := m.turns - 1, frames := { f with place := f.place + 1 } :: r }
  | .call g => match f.pile with
    | v :: q => ({ m with frames := { f with pile := q } :: r } : Mc).enter P g v
    | [] => none
  | .back => match f.pile with
    | v :: q => some (({ m with frames := { f with pile := q } :: r } : Mc).back v)
    | [] => none
  | .raise => match f.pile with
    | v :: q => some (({ m with frames := { f with pile := q } :: r } : Mc).fault P v)
    | [] => none
def rowStep (P : Parts) (m : Mc) : Option Mc := match m.frames with
  | [] => none
  | f :: r => match nth P.code f.place with
    | none => none
    | some row => stepRw P row f r m
def begun (P : Parts) (number : Int) (turns : Nat) : Option Mc := (nth P.starts 0).map fun s => ⟨[⟨s, newBoxes P.boxes number, []⟩], [], turns, none⟩
/-- k rows, none behind the end -/
def rowSteps (P : Parts) : Nat → Mc → Option Mc
  | 0, m => some m
  | k + 1, m => if m.ended.isSome then none else (rowStep P m).bind (rowSteps P k)
end Un

set_option maxHeartbeats 4000000
namespace U
open PySem PySem.Spec PyProof.Rows L2 Un
local macro_rules | `(tactic| walk_at "w1") => `(tactic| first
  | with_reducible refine w_seq ?_
  | with_reducible refine w_asg ?_
  | with_reducible refine w_op ?_
  | ((with_reducible refine' w_var ?h1 ?_); (case h1 => rfl))
  | with_reducible refine w_c ?_
  | with_reducible refine w_name ?_
  | with_reducible refine w_tFd ?_
  | ((with_reducible refine' w_fld ?h1 ?h2 ?_); (case h1 => assumption); (case h2 => rfl))
  | with_reducible refine w_if ?_
  | with_reducible refine w_test ?_
  | with_reducible refine w_eqS ?_
  | with_reducible refine w_eqI ?_
  | with_reducible refine w_neS ?_
  | with_reducible refine w_neI ?_
  | with_reducible refine w_isN ?_
  | with_reducible refine w_isnN ?_
  | with_reducible refine w_bl ?_
  | with_reducible refine w_ret ?_
  | with_reducible refine w_drop ?_
  | with_reducible refine w_next ?_
  | with_reducible refine w_cons ?_
  | with_reducible refine w_nil ?_
  | with_reducible refine w_call ?_
  | with_reducible refine w_cb ?_
  | with_reducible refine w_meth ?_
  | ((with_reducible refine' w_recv ?h1 ?h2 ?_); (case h1 => assumption); (case h2 => rfl))
  | with_reducible refine w_sFd ?_
  | ((with_reducible refine' w_put ?h1 ?h2 ?_); (case h1 => assumption); (case h2 => exact Nat.le_of_ble_eq_true rfl))
  | with_reducible refine w_add ?_
  | with_reducible refine w_sub ?_
  | with_reducible refine w_lt ?_
  | with_reducible refine w_le ?_
  | with_reducible refine w_gt ?_
  | with_reducible refine w_ge ?_
  | with_reducible refine w_bm ?_
  | with_reducible refine w_bm0 ?_
  | ((with_reducible refine' w_ty ?h1 ?_); (case h1 => assumption))
  | with_reducible refine w_tup ?_
  | with_reducible refine w_lst ?_
  | ((with_reducible refine' w_new ?h1 ?_); (case h1 => exact Nat.le_of_ble_eq_true rfl))
  | with_reducible refine w_gsub ?_
  | with_reducible refine w_make ?_
  | with_reducible refine w_lc ?_
  | with_reducible refine w_iList ?_
  | with_reducible refine w_for ?_
  | with_reducible refine w_yes ?_
  | with_reducible refine w_tSl ?_
  | with_reducible refine w_part ?_
  | with_reducible refine w_nopart ?_
  | with_reducible refine w_i ?_
  | with_reducible refine w_rng1 ?_
  | with_reducible refine w_rng2 ?_
  | with_reducible refine w_isiII ?_
  | with_reducible refine w_isiIB ?_
  | with_reducible refine w_isiSS ?_
  | ((with_reducible refine w_mod ?h1 ?_); (case h1 => decide))
  | ((with_reducible refine w_fdC' ?h1 ?h2 ?_); (case h1 => decide); (case h2 => decide))
  | ((with_reducible refine w_mulR ?h1 ?h2 ?_); (case h1 => decide); (case h2 => decide))
  | ((with_reducible refine w_mulL ?h1 ?h2 ?_); (case h1 => decide); (case h2 => decide))
  | ((with_reducible refine w_pow' ?h1 ?h2 ?h3 ?_); (case h1 => decide); (case h2 => decide); (case h3 => decide))
  | with_reducible refine w_andV ?_
  | with_reducible refine w_orV ?_
  | with_reducible refine w_notV ?_
  | with_reducible refine w_B ?_
  | with_reducible refine w_not ?_
  | with_reducible refine w_and ?_
  | with_reducible refine w_or ?_
  | with_reducible refine w_ifx ?_
  | with_reducible refine w_un ?_
  | ((with_reducible refine w_T ?h1 ?_); (case h1 => with_reducible rfl))
  | ((with_reducible refine w_F ?h1 ?_); (case h1 => with_reducible rfl))
  | ((with_reducible refine w_T ?h1 ?_); (case h1 => decide +kernel))
  | ((with_reducible refine w_F ?h1 ?_); (case h1 => decide +kernel)))
local macro_rules | `(tactic| walk_at "w") => `(tactic| repeat walk_at "w1")

/-! ### what stands where -/
def words : Rw → List V
  | .put n => [.str "put", .int n]
  | .get k => [.str "get", .int k]
  | .set k => [.str "set", .int k]
  | .say => [.str "say"]
  | .add => [.str "add"]
  | .sub => [.str "sub"]
  | .less => [.str "less"]
  | .share => [.str "share"]
  | .go p => [.str "go", .int p]
  | .nought p => [.str "nought", .int p]
  | .on k => [.str "on", .int k]
  | .turn => [.str "turn"]
  | .call f => [.str "call", .int f]
  | .back => [.str "back"]
  | .raise => [.str "raise"]
def IsTup (K : PySem.W.Frag) (H : Hp) (v : V) (xs : List V) : Prop := ∃ a, v = .ref a ∧ SqT K H a xs
def IsRow (K : PySem.W.Frag) (H : Hp) (v : V) (r : Rw) : Prop := IsTup K H v (words r)
def IsStr (K : PySem.W.Frag) (H : Hp) (v : V) (s : Stretch) : Prop := IsTup K H v [.int s.1, .int s.2.1, .int s.2.2]
theorem IsTup.mono {K : PySem.W.Frag} {H H' : Hp} {v : V} {xs : List V} (s : Same H H') (h : IsTup K H v xs) : IsTup K H' v xs := by
  obtain ⟨a, e, h⟩ := h
  exact ⟨a, e, same_tup s h⟩
/-- the code, the stretches and the starts stand at c, st, sr -/
structure PartsIn (K : PySem.W.Frag) (H : Hp) (c st sr : Addr) (P : Parts) : Prop where
  code : ∃ vs, SqL K H c vs ∧ All2 (IsRow K H) vs P.code
  str : ∃ vs, SqL K H st vs ∧ All2 (IsStr K H) vs P.str
  starts : SqL K H sr (P.starts.map V.int)
theorem PartsIn.mono {K : PySem.W.Frag} {H H' : Hp} {c st sr : Addr} {P : Parts} (s : Same H H') (h : PartsIn K H c st sr P) : PartsIn K H' c st sr P := by
  obtain ⟨⟨v1, a1, b1⟩, ⟨v2, a2, b2⟩, h3⟩ := h
  exact ⟨⟨v1, s.seq a1, b1.mono fun _ _ q => q.mono s⟩, ⟨v2, s.seq a2, b2.mono fun _ _ q => q.mono s⟩, s.seq h3⟩

/-! ### goal_of -/
def goalV : Option Int → V
  | none => .non
  | some g => .int g
def sp_goal_of (K : PySem.W.Frag) : Sp := fun vs H Q _ => ∃ a ss S p, vs = [.ref a, .int p] ∧ SqL K H a ss ∧ All2 (IsStr K H) ss S ∧ Q (goalV (goalOf S p)) H
theorem p_goal_of {K : PySem.W.Frag} (vs : List V) (H : Hp) (Q : VK) (E : XK) (h : sp_goal_of K vs H Q E) : t_goal_of K { nx := fun _ H' => Q .non H', rt := Q } (start n_goal_of vs) H := by
  obtain ⟨a, ss, S, p, rfl, hS, hR, q⟩ := h
  refine w_seq ⟨_, rfl, a, rfl, ⟨_, hS⟩, for_list (xs := ss) (fun i σ H' => H' = H ∧ goalOf (S.drop i) p = goalOf S p ∧ ∃ x, σ = [some (.ref a), some (.int p), x])
    ⟨rfl, rfl, _, rfl⟩ (fun i σ H' _ h => h.1 ▸ hS) ?_ ?_⟩
  · rintro i x σ H' hx ⟨rfl, hg, y, rfl⟩
    obtain ⟨s, ⟨b, rfl, hb⟩, hd⟩ := hR.drop i hx
    rw [hd] at hg
    walk_at "w"
    refine w_ixT hb rfl ?_
    walk_at "w"
    refine w_D (fun c1 => ?_) (fun c1 => ?_)
    · walk_at "w"
      refine w_ixT hb rfl ?_
      walk_at "w"
      refine w_D (fun c2 => ?_) (fun c2 => ?_)
      · walk_at "w"
        refine w_ixT hb rfl ?_
        have e : goalOf S p = some s.2.2 := by
          rw [← hg, goalOf, if_pos ⟨c1, c2⟩]
        rw [e] at q
        exact q
      · walk_at "w"
        refine ⟨rfl, ?_, _, rfl⟩
        rw [← hg, goalOf, if_neg (fun z => c2 z.2)]
    · walk_at "w"
      refine ⟨rfl, ?_, _, rfl⟩
      rw [← hg, goalOf, if_neg (fun z => c1 z.1)]
  · rintro σ H' ⟨rfl, hg, y, rfl⟩
    rw [hR.len, List.drop_length] at hg
    rw [← hg] at q
    walk_at "w"
    exact q

/-! ### frames and the machine -/
def frF (p : Int) (b q : Addr) : List (Str × V) := [("place", .int p), ("boxes", .ref b), ("pile", .ref q)]
def mcF (c st sr : Addr) (nb t : Int) (s : Addr) (e : V) (l : Addr) : List (Str × V) :=
  [("code", .ref c), ("stretches", .ref st), ("starts", .ref sr), ("boxes", .int nb), ("turns", .int t), ("said", .ref s), ("ended", e), ("frames", .ref l)]
def pileV : List Int → List V
  | [] => []
  | n :: p => pileV p ++ [.int n]
structure FA where
  a : Addr
  dx : Addr
  b : Addr
  q : Addr
def refsV : List FA → List V
  | [] => []
  | x :: xs => refsV xs ++ [.ref x.a]
def frsCells (K : PySem.W.Frag) : List FA → List Fr → List Cell
  | x :: xs, f :: fs => (x.a, .ins (He.ga K "Frame") x.dx (frF f.place x.b x.q)) :: (x.b, .lst (f.boxes.map V.int)) :: (x.q, .lst (pileV f.pile)) :: frsCells K xs fs
  | _, _ => []
/-- where the machine at m stands: c, st, sr its parts' lists -/
structure Wh where
  m : Addr
  c : Addr
  st : Addr
  sr : Addr
structure Ad where
  dx : Addr
  l : Addr
  s : Addr
  fas : List FA
def mcCells (K : PySem.W.Frag) (w : Wh) (nb : Int) (d : Ad) (e : V) (M : Mc) : List Cell :=
  (w.m, .ins (He.ga K "Machine") d.dx (mcF w.c w.st w.sr nb M.turns d.s e d.l)) :: (d.l, .lst (refsV d.fas)) :: (d.s, .lst (M.said.map V.int)) :: frsCells K d.fas M.frames
def EndAt (H : Hp) (e : V) : Option (Ed × Int) → Prop
  | none => e = .non
  | some (x, n) => ∃ t, e = .ref t ∧ H t = some (.tup [.str x.str, .int n])
structure MAt (K : PySem.W.Frag) (H0 H : Hp) (w : Wh) (nb : Int) (M : Mc) (d : Ad) (e : V) : Prop where
  own : Own H0 H (mcCells K w nb d e M)
  len : d.fas.length = M.frames.length
  endd : EndAt H e M.ended
def MIn (K : PySem.W.Frag) (H0 H : Hp) (w : Wh) (nb : Int) (M : Mc) : Prop := ∃ d e, MAt K H0 H w nb M d e
def LIM : Nat := 16000000
theorem lim_lt {n : Nat} (h : n < LIM) : n < sizeLine := Nat.lt_of_lt_of_le h (by show (16000000 : Nat) ≤ sizeLine; rw [sizeLine_eq]; decide)
theorem pileV_len : ∀ p : List Int, (pileV p).length = p.length
  | [] => rfl
  | n :: p => by simp [pileV, pileV_len p]

/-! ### Frame -/
def sp_Frame_lay (K : PySem.W.Frag) : Sp := fun vs H Q _ => ∃ a n dx p b q xs, vs = [.ref a, .int n] ∧ H a = some (.ins (He.ga K "Frame") dx (frF p b q)) ∧ H q = some (.lst xs) ∧ xs.length < LIM ∧
  Q .non (upd (upd H q (.lst (xs ++ [.int n]))) a (.ins (He.ga K "Frame") dx (frF (p + 1) b q)))
theorem ins_lst {H : Hp} {a b C dx : Addr} {fs : List (Str × V)} {xs : List V} (h : H a = some (.ins C dx fs)) (h' : H b = some (.lst xs)) : a ≠ b := ne_of h h' (by intro z; cases z)
theorem p_Frame_lay {K : PySem.W.Frag} (vs : List V) (H : Hp) (Q : VK) (E : XK) (h : sp_Frame_lay K vs H Q E) : t_Frame_lay K { nx := fun _ H' => Q .non H', rt := Q } (L2.start n_Frame_lay vs) H := by
  obtain ⟨a, n, dx, p, b, q, xs, rfl, ha, hq, hl, k⟩ := h
  unfold t_Frame_lay
  walk_at "w"
  refine w_app hq (lim_lt hl) ?_
  have ha' : upd H q (.lst (xs ++ [.int n])) a = some (.ins (He.ga K "Frame") dx (frF p b q)) := by
    rw [upd_ne (ins_lst ha hq)]; exact ha
  walk_at "w"
  exact k

def sp_Frame___init__ (K : PySem.W.Frag) : Sp := fun vs H Q _ => ∃ H0 a p nb n dx, vs = [.ref a, .int p, .int nb, .int n] ∧ Own H0 H [(a, .ins (He.ga K "Frame") dx [])] ∧ 0 ≤ nb ∧ nb < 16000000 ∧
  ∀ b q H', Own H0 H' [(a, .ins (He.ga K "Frame") dx (frF p b q)), (b, .lst ((newBoxes nb n).map V.int)), (q, .lst [])] → Q .non H'
theorem p_Frame___init__ {K : PySem.W.Frag} (vs : List V) (H : Hp) (Q : VK) (E : XK) (h : sp_Frame___init__ K vs H Q E) : t_Frame___init__ K { nx := fun _ H' => Q .non H', rt := Q } (L2.start n_Frame___init__ vs) H := by
  obtain ⟨H0, a, p, nb, n, dx, rfl, w, hn0, hn, k⟩ := h
  have ha := w.ix 0 rfl
  unfold t_Frame___init__
  walk_at "w"
  have w1 := w.set 0 (.ins (He.ga K "Frame") dx [("place", .int p)]) rfl
  refine fun p1 h1 => ?_
  walk_at "w"
  refine fun p2 h2 => ?_
  walk_at "w"
  have w2 := (w1.lay (o := .lst [.int n]) h1).lay (o := .lst [.int 0]) h2
  refine w_rep1 upd_same (by omega) (by omega) fun p3 h3 => ?_
  have e1 : upd (upd (upd (upd H a (.ins (He.ga K "Frame") dx [("place", .int p)])) p1 (.lst [.int n])) p2 (.lst [.int 0])) p3 (.lst (List.replicate (nb - 1).toNat (.int 0))) p1 = some (.lst [.int n]) := by
    rw [upd_ne (ne_of_none (o := .lst [.int n]) (by rw [upd_ne (ne_of_none upd_same h2)]; exact upd_same) h3), upd_ne (ne_of_none upd_same h2), upd_same]
  refine w_cat e1 upd_same ?_ fun b hb => ?_
  · rw [List.length_replicate, sizeLine_eq]
    show 1 + _ ≤ _
    omega
  have w3 := (w2.lay (o := .lst (List.replicate (nb - 1).toNat (.int 0))) h3).take (o := .lst ([.int n] ++ List.replicate (nb - 1).toNat (.int 0))) hb
  have ha3 := w3.ix 1 rfl
  walk_at "w"
  have w4 := w3.set 1 (.ins (He.ga K "Frame") dx [("place", .int p), ("boxes", .ref b)]) rfl
  refine fun q hq => ?_
  have w5 := w4.take (o := .lst []) hq
  have ha5 := w5.ix 2 rfl
  walk_at "w"
  have w6 := w5.set 2 (.ins (He.ga K "Frame") dx (frF p b q)) rfl
  refine k b q _ ?_
  have eb : (newBoxes nb n).map V.int = [.int n] ++ List.replicate (nb - 1).toNat (.int 0) := by simp [newBoxes]
  rw [eb]
  exact w6.perm (by
    refine List.Perm.trans (l₂ := [(q, HO.lst []), (a, HO.ins (He.ga K "Frame") dx (frF p b q)), (b, .lst ([.int n] ++ List.replicate (nb - 1).toNat (.int 0)))]) ?_ ?_
    · exact .cons _ (.swap _ _ _)
    · exact (List.Perm.swap _ _ _).trans (.cons _ (.swap _ _ _)))

/-! ### Machine.taken -/
def sp_Machine_taken (K : PySem.W.Frag) : Sp := fun vs H Q _ => ∃ H0 wh nb M d, vs = [.ref wh.m] ∧ Own H0 H (mcCells K wh nb d .non M) ∧
  (M.turns = 0 → ∀ H' t, Own H0 H' (mcCells K wh nb d (.ref t) M) → H' t = some (.tup [.str "tired", .int 0]) → Q (.bl false) H') ∧
  (M.turns ≠ 0 → ∀ H', Own H0 H' (mcCells K wh nb d .non { M with turns := M.turns - 1 }) → Q (.bl true) H')
theorem p_Machine_taken {K : PySem.W.Frag} (vs : List V) (H : Hp) (Q : VK) (E : XK) (h : sp_Machine_taken K vs H Q E) : t_Machine_taken K { nx := fun _ H' => Q .non H', rt := Q } (L2.start n_Machine_taken vs) H := by
  obtain ⟨H0, wh, nb, M, d, rfl, w, k0, k1⟩ := h
  have hm := w.ix 0 rfl
  unfold t_Machine_taken
  walk_at "w"
  refine w_D (fun c => ?_) (fun c => ?_)
  · walk_at "w"
    refine fun t ht => ?_
    have w1 := w.lay (o := .tup [.str "tired", .int 0]) ht
    have hm1 := w1.ix 0 rfl
    walk_at "w"
    refine k0 (by omega) _ t (w1.set 0 _ rfl) ?_
    rw [upd_ne (ne_of_none hm ht).symm, upd_same]
  · walk_at "w"
    refine k1 (by omega) _ ?_
    have e : ((M.turns : Nat) : Int) - 1 = ((M.turns - 1 : Nat) : Int) := by omega
    rw [e]
    exact w.set 0 _ rfl

/-! ### Machine.fault -/
theorem refs_last {x : FA} {xs : List FA} : atI (refsV (x :: xs)) (((refsV (x :: xs)).length : Int) - 1) = some (.ref x.a) := atI_end rfl
theorem refs_len : ∀ xs : List FA, (refsV xs).length = xs.length
  | [] => rfl
  | x :: xs => by simp [refsV, refs_len xs]
def sp_Machine_fault (K : PySem.W.Frag) : Sp := fun vs H Q _ => ∃ H0 wh P M d n, vs = [.ref wh.m, .int n] ∧ MAt K H0 H wh P.boxes M d .non ∧ PartsIn K H0 wh.c wh.st wh.sr P ∧
  ∀ H', MIn K H0 H' wh P.boxes (M.fault P n) → Q .non H'
theorem p_Machine_fault {K : PySem.W.Frag} (vs : List V) (H : Hp) (Q : VK) (E : XK) (h : sp_Machine_fault K vs H Q E) : t_Machine_fault K (sp_goal_of K) { nx := fun _ H' => Q .non H', rt := Q } (L2.start n_Machine_fault vs) H := by
  obtain ⟨H0, wh, P, M, d, n, rfl, w, pt, k⟩ := h
  have he : M.ended = none := by
    have q := w.endd
    cases e : M.ended with
    | none => rfl
    | some z =>
      rw [e] at q
      obtain ⟨t, h1, _⟩ := q
      cases h1
  unfold t_Machine_fault
  refine w_seq ⟨fun m σ H1 => ∃ fs d1 x2 x3, m = fs.length ∧ σ = [some (.ref wh.m), some (.int n), x2, x3] ∧ faultF P.str n fs = faultF P.str n M.frames ∧ MAt K H0 H1 wh P.boxes { M with frames := fs } d1 .non,
    ⟨_, M.frames, d, _, _, rfl, rfl, rfl, w⟩, ?_⟩
  rintro m σ H1 ⟨fs, d1, x2, x3, rfl, rfl, hf, w1⟩
  have hm := w1.own.ix 0 rfl
  have hl := w1.own.ix 1 rfl
  have hlen : d1.fas.length = fs.length := w1.len
  walk_at "w"
  refine w_lenL (SqL.of hl) ?_
  walk_at "w"
  refine w_D (fun c => ?_) (fun c => ?_)
  · rw [refs_len, hlen] at c
    match fs, d1, hlen, w1, hf, hm, hl with
    | [], _, _, _, _, _, _ => exact absurd c (by simp)
    | f :: r, ⟨dx, l, s, []⟩, hlen, _, _, _, _ => exact absurd hlen (by simp)
    | f :: r, ⟨dx, l, s, x :: xs⟩, hlen, w1, hf, hm, hl =>
    refine ⟨_, fun _ _ z => z, ?_⟩
    have ha := w1.own.ix 3 rfl
    walk_at "w"
    refine w_lenL (SqL.of hl) ?_
    walk_at "w"
    refine w_ixL (SqL.of hl) refs_last ?_
    walk_at "w"
    obtain ⟨ss, s1, s2⟩ := pt.str
    refine ⟨wh.st, ss, P.str, f.place, rfl, w1.own.same.seq s1, s2.mono fun _ _ q => q.mono w1.own.same, ?_⟩
    walk_at "w"
    cases hg : goalOf P.str f.place with
    | some g =>
      refine w_T rfl ?_
      walk_at "w"
      refine fun q hq => ?_
      have w2 := w1.own.take (o := .lst [.int n]) hq
      have ha2 := w2.ix 4 rfl
      walk_at "w"
      have w3 := w2.set 4 (.ins (He.ga K "Frame") x.dx (frF f.place x.b q)) rfl
      have ha3 := w3.ix 4 rfl
      walk_at "w"
      have w4 := w3.set 4 (.ins (He.ga K "Frame") x.dx (frF g x.b q)) rfl
      refine k _ ⟨⟨dx, l, s, ⟨x.a, x.dx, x.b, q⟩ :: xs⟩, .non, ?_⟩
      have ef : M.fault P n = { M with frames := ⟨g, f.boxes, [n]⟩ :: r } := by
        unfold Mc.fault
        rw [← hf]
        simp only [faultF, hg]
      rw [ef]
      refine ⟨?_, hlen, ?_⟩
      · exact w4.repl 5 (by simp [mcCells, frsCells])
      · show EndAt _ V.non M.ended
        rw [he]
        exact rfl
    | none =>
      refine w_F rfl ?_
      walk_at "w"
      refine w_popB hl ?_
      have w2 : Own H0 _ (mcCells K wh P.boxes ⟨dx, l, s, xs⟩ .non { M with frames := r }) := ((((w1.own.set 1 (.lst (refsV xs)) rfl).del 3).del 3).del 3)
      refine ⟨r.length, by simp, r, ⟨dx, l, s, xs⟩, _, _, rfl, rfl, ?_, w2, by simpa using hlen, ?_⟩
      · rw [← hf]
        simp only [faultF, hg]
      · show EndAt _ V.non M.ended
        rw [he]
        exact rfl
  · rw [refs_len, hlen] at c
    match fs, d1, hlen, w1, hf, hm, hl with
    | f :: r, _, _, _, _, _, _ => exact absurd (by simp) c
    | [], d1, hlen, w1, hf, hm, hl =>
    walk_at "w"
    refine fun t ht => ?_
    have w2 := w1.own.lay (o := .tup [.str "fault", .int n]) ht
    have hm2 := w2.ix 0 rfl
    walk_at "w"
    have ef : M.fault P n = { M with frames := [], ended := some (.fault, n) } := by
      unfold Mc.fault
      rw [← hf]
      simp only [faultF]
    refine k _ ⟨d1, .ref t, ?_⟩
    rw [ef]
    refine ⟨w2.set 0 _ rfl, hlen, t, rfl, ?_⟩
    rw [upd_ne (ne_of_none hm ht).symm, upd_same]
    rfl

/-! ### Machine.move -/
theorem MAt.noend {K : PySem.W.Frag} {H0 H : Hp} {wh : Wh} {nb : Int} {M : Mc} {d : Ad} (w : MAt K H0 H wh nb M d .non) : M.ended = none := by
  have q := w.endd
  cases e : M.ended with
  | none => rfl
  | some z =>
    rw [e] at q
    obtain ⟨t, h1, _⟩ := q
    cases h1
theorem nth_at {xs : List Int} {k v : Int} (h : nth xs k = some v) : atI (xs.map V.int) k = some (.int v) := by
  unfold nth at h
  by_cases h0 : 0 ≤ k
  · rw [if_pos h0] at h
    refine atI_ok h0 ?_
    rw [List.getElem?_map, h]
    rfl
  · rw [if_neg h0] at h
    cases h
def sp_Machine_move (K : PySem.W.Frag) : Sp := fun vs H Q _ => ∃ H0 wh nb f r said t dx l s x xs rw row M', vs = [.ref wh.m, .ref x.a, .ref rw] ∧
  MAt K H0 H wh nb ⟨f :: r, said, t, none⟩ ⟨dx, l, s, x :: xs⟩ .non ∧ SqT K H0 rw (words row) ∧ moveRw row f r ⟨f :: r, said, t, none⟩ = some M' ∧ f.pile.length < LIM ∧ said.length < LIM ∧
  ∀ H', MIn K H0 H' wh nb M' → Q .non H'
theorem MAt.lay {K : PySem.W.Frag} {H0 H : Hp} {wh : Wh} {nb n : Int} {f : Fr} {r : List Fr} {said : List Int} {t : Nat} {dx l s : Addr} {x : FA} {xs : List FA} (w : MAt K H0 H wh nb ⟨f :: r, said, t, none⟩ ⟨dx, l, s, x :: xs⟩ .non) :
    MIn K H0 (upd (upd H x.q (.lst (pileV f.pile ++ [.int n]))) x.a (.ins (He.ga K "Frame") x.dx (frF (f.place + 1) x.b x.q))) wh nb ⟨f.lay n :: r, said, t, none⟩ := by
  have w2 := w.own.set 5 (.lst (pileV f.pile ++ [.int n])) rfl
  exact ⟨⟨dx, l, s, x :: xs⟩, .non, ⟨w2.set 3 (.ins (He.ga K "Frame") x.dx (frF (f.place + 1) x.b x.q)) rfl, w.len, rfl⟩⟩
theorem p_Machine_move {K : PySem.W.Frag} (vs : List V) (H : Hp) (Q : VK) (E : XK) (h : sp_Machine_move K vs H Q E) : t_Machine_move K (sp_Frame_lay K) { nx := fun _ H' => Q .non H', rt := Q } (L2.start n_Machine_move vs) H := by
  obtain ⟨H0, wh, nb, f, r, said, t, dx, l, s, x, xs, rw, row, M', rfl, w, hrow, hM, hp, hs, k⟩ := h
  have hr := same_tup w.own.same hrow
  have hm := w.own.ix 0 rfl
  have ha := w.own.ix 3 rfl
  have hb := w.own.ix 4 rfl
  have hq := w.own.ix 5 rfl
  unfold t_Machine_move
  cases row with
  | put n =>
    cases hM
    walk_at "w"
    refine w_ixT hr rfl ?_
    walk_at "w"
    refine w_ixT hr rfl ?_
    walk_at "w"
    refine ⟨x.a, n, x.dx, f.place, x.b, x.q, _, rfl, ha, hq, by rw [pileV_len]; exact hp, ?_⟩
    exact k _ w.lay
  | get j =>
    cases hv : nth f.boxes j with
    | none => rw [moveRw, hv] at hM; cases hM
    | some v =>
      rw [moveRw, hv] at hM
      cases hM
      walk_at "w"
      refine w_ixT hr rfl ?_
      walk_at "w"
      refine w_ixT hr rfl ?_
      walk_at "w"
      refine w_ixT hr rfl ?_
      refine w_ixL (SqL.of hb) (nth_at hv) ?_
      walk_at "w"
      refine ⟨x.a, v, x.dx, f.place, x.b, x.q, _, rfl, ha, hq, by rw [pileV_len]; exact hp, ?_⟩
      exact k _ w.lay
  | set j =>
    obtain ⟨place, boxes, pile⟩ := f
    cases pile with
    | nil => cases hM
    | cons v p =>
      by_cases hj : 0 ≤ j ∧ j < boxes.length
      · simp only [moveRw, if_pos hj] at hM
        cases hM
        walk_at "w"
        refine w_ixT hr rfl ?_
        walk_at "w"
        refine w_ixT hr rfl ?_
        walk_at "w"
        refine w_popB hq ?_
        have w1 := w.own.set 5 (.lst (pileV p)) rfl
        have hr1 := same_tup w1.same hrow
        have ha1 := w1.ix 3 rfl
        have hb1 := w1.ix 4 rfl
        walk_at "w"
        refine w_ixT hr1 rfl ?_
        walk_at "w"
        refine w_ixT hr1 rfl ?_
        refine w_setL hb1 hj.1 (by rw [List.length_map]; exact hj.2) ?_
        have w2 := w1.set 4 (.lst ((boxes.map V.int).set j.toNat (.int v))) rfl
        have ha2 := w2.ix 3 rfl
        walk_at "w"
        refine k _ ⟨⟨dx, l, s, x :: xs⟩, .non, ⟨?_, w.len, rfl⟩⟩
        have w3 := w2.set 3 (.ins (He.ga K "Frame") x.dx (frF (place + 1) x.b x.q)) rfl
        have e : (boxes.set j.toNat v).map V.int = (boxes.map V.int).set j.toNat (.int v) := List.map_set ..
        unfold mcCells
        dsimp only [frsCells]
        rw [e]
        exact w3
      · simp only [moveRw, if_neg hj] at hM
        cases hM
  | say =>
    obtain ⟨place, boxes, pile⟩ := f
    cases pile with
    | nil => cases hM
    | cons v p =>
      cases hM
      walk_at "w"
      refine w_ixT hr rfl ?_
      walk_at "w"
      refine w_ixT hr rfl ?_
      walk_at "w"
      refine w_popB hq ?_
      have w1 := w.own.set 5 (.lst (pileV p)) rfl
      have hr1 := same_tup w1.same hrow
      have hm1 := w1.ix 0 rfl
      have hs1 := w1.ix 2 rfl
      walk_at "w"
      refine w_ixT hr1 rfl ?_
      walk_at "w"
      refine w_app hs1 (by rw [List.length_map]; exact lim_lt hs) ?_
      have w2 := w1.set 2 (.lst (said.map V.int ++ [.int v])) rfl
      have ha2 := w2.ix 3 rfl
      walk_at "w"
      refine k _ ⟨⟨dx, l, s, x :: xs⟩, .non, ⟨?_, w.len, rfl⟩⟩
      have w3 := w2.set 3 (.ins (He.ga K "Frame") x.dx (frF (place + 1) x.b x.q)) rfl
      have e : (said ++ [v]).map V.int = said.map V.int ++ [.int v] := by simp
      unfold mcCells
      dsimp only [frsCells]
      rw [e]
      exact w3
  | _ => cases hM
end U

set_option maxHeartbeats 4000000
namespace U
open PySem PySem.Spec PyProof.Rows L2 Un
local macro_rules | `(tactic| walk_at "w1") => `(tactic| first
  | with_reducible refine w_seq ?_
  | with_reducible refine w_asg ?_
  | with_reducible refine w_op ?_
  | ((with_reducible refine' w_var ?h1 ?_); (case h1 => rfl))
  | with_reducible refine w_c ?_
  | with_reducible refine w_name ?_
  | with_reducible refine w_tFd ?_
  | ((with_reducible refine' w_fld ?h1 ?h2 ?_); (case h1 => assumption); (case h2 => rfl))
  | with_reducible refine w_if ?_
  | with_reducible refine w_test ?_
  | with_reducible refine w_eqS ?_
  | with_reducible refine w_eqI ?_
  | with_reducible refine w_neS ?_
  | with_reducible refine w_neI ?_
  | with_reducible refine w_isN ?_
  | with_reducible refine w_isnN ?_
  | with_reducible refine w_bl ?_
  | with_reducible refine w_ret ?_
  | with_reducible refine w_drop ?_
  | with_reducible refine w_next ?_
  | with_reducible refine w_cons ?_
  | with_reducible refine w_nil ?_
  | with_reducible refine w_call ?_
  | with_reducible refine w_cb ?_
  | with_reducible refine w_meth ?_
  | ((with_reducible refine' w_recv ?h1 ?h2 ?_); (case h1 => assumption); (case h2 => rfl))
  | with_reducible refine w_sFd ?_
  | ((with_reducible refine' w_put ?h1 ?h2 ?_); (case h1 => assumption); (case h2 => exact Nat.le_of_ble_eq_true rfl))
  | with_reducible refine w_add ?_
  | with_reducible refine w_sub ?_
  | with_reducible refine w_lt ?_
  | with_reducible refine w_le ?_
  | with_reducible refine w_gt ?_
  | with_reducible refine w_ge ?_
  | with_reducible refine w_bm ?_
  | with_reducible refine w_bm0 ?_
  | ((with_reducible refine' w_ty ?h1 ?_); (case h1 => assumption))
  | with_reducible refine w_tup ?_
  | with_reducible refine w_lst ?_
  | ((with_reducible refine' w_new ?h1 ?_); (case h1 => exact Nat.le_of_ble_eq_true rfl))
  | with_reducible refine w_gsub ?_
  | with_reducible refine w_make ?_
  | with_reducible refine w_lc ?_
  | with_reducible refine w_iList ?_
  | with_reducible refine w_for ?_
  | with_reducible refine w_yes ?_
  | with_reducible refine w_tSl ?_
  | with_reducible refine w_part ?_
  | with_reducible refine w_nopart ?_
  | with_reducible refine w_i ?_
  | with_reducible refine w_rng1 ?_
  | with_reducible refine w_rng2 ?_
  | with_reducible refine w_isiII ?_
  | with_reducible refine w_isiIB ?_
  | with_reducible refine w_isiSS ?_
  | ((with_reducible refine w_mod ?h1 ?_); (case h1 => decide))
  | ((with_reducible refine w_fdC' ?h1 ?h2 ?_); (case h1 => decide); (case h2 => decide))
  | ((with_reducible refine w_mulR ?h1 ?h2 ?_); (case h1 => decide); (case h2 => decide))
  | ((with_reducible refine w_mulL ?h1 ?h2 ?_); (case h1 => decide); (case h2 => decide))
  | ((with_reducible refine w_pow' ?h1 ?h2 ?h3 ?_); (case h1 => decide); (case h2 => decide); (case h3 => decide))
  | with_reducible refine w_andV ?_
  | with_reducible refine w_orV ?_
  | with_reducible refine w_notV ?_
  | with_reducible refine w_B ?_
  | with_reducible refine w_not ?_
  | with_reducible refine w_and ?_
  | with_reducible refine w_or ?_
  | with_reducible refine w_ifx ?_
  | with_reducible refine w_un ?_
  | ((with_reducible refine w_T ?h1 ?_); (case h1 => with_reducible rfl))
  | ((with_reducible refine w_F ?h1 ?_); (case h1 => with_reducible rfl))
  | ((with_reducible refine w_T ?h1 ?_); (case h1 => decide +kernel))
  | ((with_reducible refine w_F ?h1 ?_); (case h1 => decide +kernel)))
local macro_rules | `(tactic| walk_at "w") => `(tactic| repeat walk_at "w1")

/-! ### Machine.meet -/
def meetW : Rw → Bool
  | .add | .sub | .less | .share => true
  | _ => false
def wordOf : Rw → Str
  | .put _ => "put"
  | .get _ => "get"
  | .set _ => "set"
  | .say => "say"
  | .add => "add"
  | .sub => "sub"
  | .less => "less"
  | .share => "share"
  | .go _ => "go"
  | .nought _ => "nought"
  | .on _ => "on"
  | .turn => "turn"
  | .call _ => "call"
  | .back => "back"
  | .raise => "raise"
def sp_Machine_meet (K : PySem.W.Frag) : Sp := fun vs H Q _ => ∃ H0 wh P f r said t dx l s x xs row M', vs = [.ref wh.m, .ref x.a, .str (wordOf row)] ∧
  MAt K H0 H wh P.boxes ⟨f :: r, said, t, none⟩ ⟨dx, l, s, x :: xs⟩ .non ∧ PartsIn K H0 wh.c wh.st wh.sr P ∧ meetW row = true ∧ meetRw P row f r ⟨f :: r, said, t, none⟩ = some M' ∧ f.pile.length < LIM ∧
  ∀ H', MIn K H0 H' wh P.boxes M' → Q .non H'
theorem p_Machine_meet {K : PySem.W.Frag} (vs : List V) (H : Hp) (Q : VK) (E : XK) (h : sp_Machine_meet K vs H Q E) : t_Machine_meet K (sp_Frame_lay K) (sp_Machine_fault K) { nx := fun _ H' => Q .non H', rt := Q } (L2.start n_Machine_meet vs) H := by
  obtain ⟨H0, wh, P, f, r, said, t, dx, l, s, x, xs, row, M', rfl, w, pt, hw, hM, hp, k⟩ := h
  obtain ⟨place, boxes, pile⟩ := f
  match pile, hM, w, hp with
  | [], hM, _, _ => cases hM
  | [_], hM, _, _ => cases hM
  | b :: a :: p, hM, w, hp =>
  have hq := w.own.ix 5 rfl
  have ha := w.own.ix 3 rfl
  unfold t_Machine_meet
  walk_at "w"
  refine w_popB hq ?_
  have w1 := w.own.set 5 (.lst (pileV (a :: p))) rfl
  have hq1 := w1.ix 5 rfl
  have ha1 := w1.ix 3 rfl
  walk_at "w"
  refine w_popB hq1 ?_
  have w2 : MAt K H0 _ wh P.boxes ⟨⟨place, boxes, p⟩ :: r, said, t, none⟩ ⟨dx, l, s, x :: xs⟩ .non := ⟨w1.set 5 (.lst (pileV p)) rfl, w.len, rfl⟩
  have hm2 := w2.own.ix 0 rfl
  have ha2 := w2.own.ix 3 rfl
  have hq2 := w2.own.ix 5 rfl
  have lp : (pileV p).length < LIM := by
    rw [pileV_len]
    exact Nat.lt_of_le_of_lt (by simp; omega) hp
  have lay : ∀ n : Int, some (⟨(⟨place, boxes, p⟩ : Un.Fr).lay n :: r, said, t, none⟩ : Mc) = some M' → sp_Frame_lay K [.ref x.a, .int n] _ (fun _ H' => Q .non H') E0 := fun n e => by
    cases e
    exact ⟨x.a, n, x.dx, place, x.b, x.q, _, rfl, ha2, hq2, lp, k _ w2.lay⟩
  walk_at "w"
  cases row with
  | add =>
    walk_at "w"
    exact lay _ hM
  | sub =>
    walk_at "w"
    exact lay _ hM
  | less =>
    walk_at "w"
    refine w_D (fun c => ?_) (fun c => ?_)
    · walk_at "w"
      simp only [meetRw, if_pos c] at hM
      exact lay _ hM
    · walk_at "w"
      simp only [meetRw, if_neg c] at hM
      exact lay _ hM
  | share =>
    walk_at "w"
    refine w_D (fun c => ?_) (fun c => ?_)
    · simp only [meetRw, if_pos c] at hM
      cases hM
      walk_at "w"
      exact ⟨H0, wh, P, _, _, 101, rfl, w2, pt, k⟩
    · simp only [meetRw, if_neg c] at hM
      walk_at "w"
      refine w_fd c ?_
      exact lay _ hM
  | _ => cases hw

/-! ### Machine.jump -/
def sp_Machine_jump (K : PySem.W.Frag) : Sp := fun vs H Q _ => ∃ H0 wh nb f r said t dx l s x xs rw row M', vs = [.ref wh.m, .ref x.a, .ref rw] ∧
  MAt K H0 H wh nb ⟨f :: r, said, t, none⟩ ⟨dx, l, s, x :: xs⟩ .non ∧ SqT K H0 rw (words row) ∧ jumpRw row f r ⟨f :: r, said, t, none⟩ = some M' ∧
  ∀ H', MIn K H0 H' wh nb M' → Q .non H'
theorem p_Machine_jump {K : PySem.W.Frag} (vs : List V) (H : Hp) (Q : VK) (E : XK) (h : sp_Machine_jump K vs H Q E) : t_Machine_jump K { nx := fun _ H' => Q .non H', rt := Q } (L2.start n_Machine_jump vs) H := by
  obtain ⟨H0, wh, nb, f, r, said, t, dx, l, s, x, xs, rw, row, M', rfl, w, hrow, hM, k⟩ := h
  have hr := same_tup w.own.same hrow
  have ha := w.own.ix 3 rfl
  have hb := w.own.ix 4 rfl
  have hq := w.own.ix 5 rfl
  unfold t_Machine_jump
  cases row with
  | go p =>
    cases hM
    walk_at "w"
    refine w_ixT hr rfl ?_
    walk_at "w"
    refine w_ixT hr rfl ?_
    walk_at "w"
    refine w_ixT hr rfl ?_
    walk_at "w"
    exact k _ ⟨⟨dx, l, s, x :: xs⟩, .non, ⟨w.own.set 3 (.ins (He.ga K "Frame") x.dx (frF p x.b x.q)) rfl, w.len, rfl⟩⟩
  | nought p =>
    obtain ⟨place, boxes, pile⟩ := f
    cases pile with
    | nil => cases hM
    | cons v q =>
      cases hM
      walk_at "w"
      refine w_ixT hr rfl ?_
      walk_at "w"
      refine w_ixT hr rfl ?_
      walk_at "w"
      refine w_popB hq ?_
      have w1 := w.own.set 5 (.lst (pileV q)) rfl
      have ha1 := w1.ix 3 rfl
      have hr1 := same_tup w1.same hrow
      walk_at "w"
      refine w_D (fun c => ?_) (fun c => ?_)
      · walk_at "w"
        refine w_ixT hr1 rfl ?_
        walk_at "w"
        refine k _ ⟨⟨dx, l, s, x :: xs⟩, .non, ⟨?_, w.len, rfl⟩⟩
        have w2 := w1.set 3 (.ins (He.ga K "Frame") x.dx (frF p x.b x.q)) rfl
        unfold mcCells
        dsimp only [frsCells]
        rw [if_pos c]
        exact w2
      · walk_at "w"
        refine k _ ⟨⟨dx, l, s, x :: xs⟩, .non, ⟨?_, w.len, rfl⟩⟩
        have w2 := w1.set 3 (.ins (He.ga K "Frame") x.dx (frF (place + 1) x.b x.q)) rfl
        unfold mcCells
        dsimp only [frsCells]
        rw [if_neg c]
        exact w2
  | on j =>
    cases hv : nth f.boxes j with
    | none => rw [jumpRw, hv] at hM; cases hM
    | some v =>
      rw [jumpRw, hv] at hM
      cases hM
      walk_at "w"
      refine w_ixT hr rfl ?_
      walk_at "w"
      refine w_ixT hr rfl ?_
      refine w_ixL (SqL.of hb) (nth_at hv) ?_
      walk_at "w"
      exact k _ ⟨⟨dx, l, s, x :: xs⟩, .non, ⟨w.own.set 3 (.ins (He.ga K "Frame") x.dx (frF v x.b x.q)) rfl, w.len, rfl⟩⟩
  | _ => cases hM

/-! ### Machine.back -/
def sp_Machine_back (K : PySem.W.Frag) : Sp := fun vs H Q _ => ∃ H0 wh nb M d v, vs = [.ref wh.m, .int v] ∧ MAt K H0 H wh nb M d .non ∧ M.frames ≠ [] ∧ (∀ f ∈ M.frames, f.pile.length < LIM) ∧
  ∀ H', MIn K H0 H' wh nb (M.back v) → Q .non H'
theorem p_Machine_back {K : PySem.W.Frag} (vs : List V) (H : Hp) (Q : VK) (E : XK) (h : sp_Machine_back K vs H Q E) : t_Machine_back K (sp_Frame_lay K) { nx := fun _ H' => Q .non H', rt := Q } (L2.start n_Machine_back vs) H := by
  obtain ⟨H0, wh, nb, M, d, v, rfl, w, hne, hp, k⟩ := h
  have he := w.noend
  obtain ⟨fs, said, t, en⟩ := M
  obtain ⟨dx, l, s, fas⟩ := d
  subst he
  unfold t_Machine_back
  match fs, fas, w, hne, hp with
  | [], _, _, hne, _ => exact absurd rfl hne
  | _ :: _, [], w, _, _ => exact absurd w.len (by simp)
  | [f], x :: y :: ys, w, _, _ => exact absurd w.len (by simp)
  | f :: g :: r, [x], w, _, _ => exact absurd w.len (by simp)
  | [f], [x], w, _, _ =>
    have hm := w.own.ix 0 rfl
    have hl := w.own.ix 1 rfl
    walk_at "w"
    refine w_popB hl ?_
    have w1 : Own H0 _ (mcCells K wh nb ⟨dx, l, s, []⟩ .non ⟨[], said, t, none⟩) := ((((w.own.set 1 (.lst (refsV [])) rfl).del 3).del 3).del 3)
    have hm1 := w1.ix 0 rfl
    have hl1 := w1.ix 1 rfl
    walk_at "w"
    refine w_lenL (SqL.of hl1) ?_
    walk_at "w"
    refine w_T (decide_eq_true rfl) ?_
    walk_at "w"
    refine fun u hu => ?_
    have w2 := w1.lay (o := .tup [.str "answer", .int v]) hu
    have hm2 := w2.ix 0 rfl
    walk_at "w"
    refine k _ ⟨⟨dx, l, s, []⟩, .ref u, ⟨w2.set 0 _ rfl, rfl, u, rfl, ?_⟩⟩
    rw [upd_ne (ne_of_none hm1 hu).symm, upd_same]
    rfl
  | f :: g :: r, x :: y :: ys, w, _, hp =>
    have hm := w.own.ix 0 rfl
    have hl := w.own.ix 1 rfl
    walk_at "w"
    refine w_popB hl ?_
    have w1 : MAt K H0 _ wh nb ⟨g :: r, said, t, none⟩ ⟨dx, l, s, y :: ys⟩ .non := ⟨((((w.own.set 1 (.lst (refsV (y :: ys))) rfl).del 3).del 3).del 3), by simpa using w.len, rfl⟩
    have hm1 := w1.own.ix 0 rfl
    have hl1 := w1.own.ix 1 rfl
    have ha1 := w1.own.ix 3 rfl
    have hq1 := w1.own.ix 5 rfl
    walk_at "w"
    refine w_lenL (SqL.of hl1) ?_
    walk_at "w"
    refine w_F (decide_eq_false (by rw [refs_len]; simp; omega)) ?_
    walk_at "w"
    refine w_lenL (SqL.of hl1) ?_
    walk_at "w"
    refine w_ixL (SqL.of hl1) refs_last ?_
    walk_at "w"
    refine ⟨y.a, v, y.dx, g.place, y.b, y.q, _, rfl, ha1, hq1, by rw [pileV_len]; exact hp g (by simp), ?_⟩
    exact k _ w1.lay
end U

set_option maxHeartbeats 4000000
namespace U
open PySem PySem.Spec PyProof.Rows L2 Un
local macro_rules | `(tactic| walk_at "w1") => `(tactic| first
  | with_reducible refine w_seq ?_
  | with_reducible refine w_asg ?_
  | with_reducible refine w_op ?_
  | ((with_reducible refine' w_var ?h1 ?_); (case h1 => rfl))
  | with_reducible refine w_c ?_
  | with_reducible refine w_name ?_
  | with_reducible refine w_tFd ?_
  | ((with_reducible refine' w_fld ?h1 ?h2 ?_); (case h1 => assumption); (case h2 => rfl))
  | with_reducible refine w_if ?_
  | with_reducible refine w_test ?_
  | with_reducible refine w_eqS ?_
  | with_reducible refine w_eqI ?_
  | with_reducible refine w_neS ?_
  | with_reducible refine w_neI ?_
  | with_reducible refine w_isN ?_
  | with_reducible refine w_isnN ?_
  | with_reducible refine w_bl ?_
  | with_reducible refine w_ret ?_
  | with_reducible refine w_drop ?_
  | with_reducible refine w_next ?_
  | with_reducible refine w_cons ?_
  | with_reducible refine w_nil ?_
  | with_reducible refine w_call ?_
  | with_reducible refine w_cb ?_
  | with_reducible refine w_meth ?_
  | ((with_reducible refine' w_recv ?h1 ?h2 ?_); (case h1 => assumption); (case h2 => rfl))
  | with_reducible refine w_sFd ?_
  | ((with_reducible refine' w_put ?h1 ?h2 ?_); (case h1 => assumption); (case h2 => exact Nat.le_of_ble_eq_true rfl))
  | with_reducible refine w_add ?_
  | with_reducible refine w_sub ?_
  | with_reducible refine w_lt ?_
  | with_reducible refine w_le ?_
  | with_reducible refine w_gt ?_
  | with_reducible refine w_ge ?_
  | with_reducible refine w_bm ?_
  | with_reducible refine w_bm0 ?_
  | ((with_reducible refine' w_ty ?h1 ?_); (case h1 => assumption))
  | with_reducible refine w_tup ?_
  | with_reducible refine w_lst ?_
  | ((with_reducible refine' w_new ?h1 ?_); (case h1 => exact Nat.le_of_ble_eq_true rfl))
  | with_reducible refine w_gsub ?_
  | with_reducible refine w_make ?_
  | with_reducible refine w_lc ?_
  | with_reducible refine w_iList ?_
  | with_reducible refine w_for ?_
  | with_reducible refine w_yes ?_
  | with_reducible refine w_tSl ?_
  | with_reducible refine w_part ?_
  | with_reducible refine w_nopart ?_
  | with_reducible refine w_i ?_
  | with_reducible refine w_rng1 ?_
  | with_reducible refine w_rng2 ?_
  | with_reducible refine w_isiII ?_
  | with_reducible refine w_isiIB ?_
  | with_reducible refine w_isiSS ?_
  | ((with_reducible refine w_mod ?h1 ?_); (case h1 => decide))
  | ((with_reducible refine w_fdC' ?h1 ?h2 ?_); (case h1 => decide); (case h2 => decide))
  | ((with_reducible refine w_mulR ?h1 ?h2 ?_); (case h1 => decide); (case h2 => decide))
  | ((with_reducible refine w_mulL ?h1 ?h2 ?_); (case h1 => decide); (case h2 => decide))
  | ((with_reducible refine w_pow' ?h1 ?h2 ?h3 ?_); (case h1 => decide); (case h2 => decide); (case h3 => decide))
  | with_reducible refine w_andV ?_
  | with_reducible refine w_orV ?_
  | with_reducible refine w_notV ?_
  | with_reducible refine w_B ?_
  | with_reducible refine w_not ?_
  | with_reducible refine w_and ?_
  | with_reducible refine w_or ?_
  | with_reducible refine w_ifx ?_
  | with_reducible refine w_un ?_
  | ((with_reducible refine w_T ?h1 ?_); (case h1 => with_reducible rfl))
  | ((with_reducible refine w_F ?h1 ?_); (case h1 => with_reducible rfl))
  | ((with_reducible refine w_T ?h1 ?_); (case h1 => decide +kernel))
  | ((with_reducible refine w_F ?h1 ?_); (case h1 => decide +kernel)))
local macro_rules | `(tactic| walk_at "w") => `(tactic| repeat walk_at "w1")

/-! ### Machine.enter -/
def sp_Machine_enter (K : PySem.W.Frag) : Sp := fun vs H Q _ => ∃ H0 wh P M d g v M', vs = [.ref wh.m, .int g, .int v] ∧ MAt K H0 H wh P.boxes M d .non ∧ PartsIn K H0 wh.c wh.st wh.sr P ∧ 0 ≤ P.boxes ∧ P.boxes < 16000000 ∧
  M.frames.length ≤ 8 ∧ M.enter P g v = some M' ∧ ∀ H', MIn K H0 H' wh P.boxes M' → Q .non H'
theorem p_Machine_enter {K : PySem.W.Frag} (vs : List V) (H : Hp) (Q : VK) (E : XK) (h : sp_Machine_enter K vs H Q E) : t_Machine_enter K (sp_Machine_taken K) (sp_Machine_fault K) (sp_Frame___init__ K) { nx := fun _ H' => Q .non H', rt := Q } (L2.start n_Machine_enter vs) H := by
  obtain ⟨H0, wh, P, M, d, g, v, M', rfl, w, pt, hb0, hb, hfl, hM, k⟩ := h
  have he := w.noend
  obtain ⟨fs, said, t, en⟩ := M
  obtain ⟨dx, l, s, fas⟩ := d
  subst he
  have hm := w.own.ix 0 rfl
  unfold t_Machine_enter
  walk_at "w"
  refine ⟨H0, wh, P.boxes, _, _, rfl, w.own, fun c H1 u w1 hu => ?_, fun c H1 w1 => ?_⟩
  · have c' : t = 0 := c
    walk_at "w"
    unfold Mc.enter at hM
    rw [if_pos c'] at hM
    cases hM
    exact k _ ⟨⟨dx, l, s, fas⟩, .ref u, ⟨w1, w.len, u, rfl, hu⟩⟩
  · have c' : ¬ t = 0 := c
    unfold Mc.enter at hM
    rw [if_neg c'] at hM
    dsimp only at hM hfl
    have hm1 := w1.ix 0 rfl
    have hl1 := w1.ix 1 rfl
    have hlen : (refsV fas).length = fs.length := (refs_len fas).trans w.len
    walk_at "w"
    refine w_lenL (SqL.of hl1) ?_
    walk_at "w"
    have w2 : MAt K H0 H1 wh P.boxes ⟨fs, said, t - 1, none⟩ ⟨dx, l, s, fas⟩ .non := ⟨w1, w.len, rfl⟩
    refine w_D (fun c2 => ?_) (fun c2 => ?_) <;> dsimp only at c2
    · have c3 : fs.length = 8 := by omega
      rw [if_pos c3] at hM
      cases hM
      walk_at "w"
      exact ⟨H0, wh, P, _, _, 102, rfl, w2, pt, k⟩
    · have c3 : ¬ fs.length = 8 := by omega
      rw [if_neg c3] at hM
      cases hs : nth P.starts g with
      | none => rw [hs] at hM; cases hM
      | some st =>
        rw [hs] at hM
        cases hM
        walk_at "w"
        refine w_ixL (w1.same.seq pt.starts) (nth_at hs) ?_
        walk_at "w"
        refine fun a dx2 na ndx hne => ?_
        have w3 := (w1.lay (o := .own a) ndx).take (a := a) (o := .ins (He.ga K "Frame") dx2 []) (by rw [upd_ne (Ne.symm hne)]; exact na)
        refine ⟨less _ [(a, .ins (He.ga K "Frame") dx2 [])], a, st, P.boxes, v, dx2, rfl, w3.lend1, hb0, hb, fun b q H2 w4 => ?_⟩
        have w5 := Own.back (L := [_]) w3 w4
        have hl5 := w5.ix 4 rfl
        refine ⟨rfl, ?_⟩
        walk_at "w"
        refine w_app hl5 (by rw [hlen]; exact lim_lt (by have : fs.length ≤ 8 := hfl; unfold LIM; omega)) ?_
        have w6 := w5.set 4 (.lst (refsV fas ++ [.ref a])) rfl
        refine k _ ⟨⟨dx, l, s, ⟨a, dx2, b, q⟩ :: fas⟩, .non, ⟨?_, by simpa using w.len, rfl⟩⟩
        exact w6.rot3
end U

/-! bounds along a run -/
namespace Un
open PySem
def Bnd (k : Nat) (M : Mc) : Prop := M.frames.length ≤ 8 ∧ (∀ f ∈ M.frames, f.pile.length ≤ k) ∧ M.said.length ≤ k
theorem faultF_sub (S : List Stretch) (n : Int) : ∀ fs : List Fr, (faultF S n fs).length ≤ fs.length ∧ ∀ k, 1 ≤ k → (∀ f ∈ fs, f.pile.length ≤ k) → ∀ f ∈ faultF S n fs, f.pile.length ≤ k
  | [] => ⟨Nat.le_refl _, fun k _ h => h⟩
  | f :: r => by
    have ih := faultF_sub S n r
    unfold faultF
    cases goalOf S f.place with
    | some g =>
      refine ⟨by simp, fun k hk h x hx => ?_⟩
      rcases List.mem_cons.mp hx with e | e
      · subst e
        simpa using hk
      · exact h x (List.mem_cons_of_mem _ e)
    | none => exact ⟨Nat.le_trans ih.1 (by simp), fun k hk h => ih.2 k hk fun x hx => h x (List.mem_cons_of_mem _ hx)⟩
theorem Bnd.fault {P : Parts} {k : Nat} {M : Mc} {n : Int} (hk : 1 ≤ k) (h : Bnd k M) : Bnd k (M.fault P n) := by
  have q := faultF_sub P.str n M.frames
  unfold Mc.fault
  cases e : faultF P.str n M.frames with
  | nil => exact ⟨by simp, fun f hf => by simp at hf, h.2.2⟩
  | cons f r =>
    rw [e] at q
    exact ⟨Nat.le_trans q.1 h.1, q.2 k hk h.2.1, h.2.2⟩
theorem Bnd.up {k j : Nat} {M : Mc} (h : Bnd k M) (hj : k ≤ j) : Bnd j M := ⟨h.1, fun f hf => Nat.le_trans (h.2.1 f hf) hj, Nat.le_trans h.2.2 hj⟩
theorem Bnd.head {k j : Nat} {f g : Fr} {r : List Fr} {said said' : List Int} {t t' : Nat} {e e' : Option (Ed × Int)} (h : Bnd k ⟨f :: r, said, t, e⟩) (hk : k ≤ j) (hg : g.pile.length ≤ j) (hs : said'.length ≤ j) : Bnd j ⟨g :: r, said', t', e'⟩ := by
  refine ⟨by simpa using h.1, fun x hx => ?_, hs⟩
  rcases List.mem_cons.mp hx with q | q
  · subst q
    exact hg
  · exact Nat.le_trans (h.2.1 x (List.mem_cons_of_mem _ q)) hk
theorem bnd_step {P : Parts} {k : Nat} {M M' : Mc} (h : Bnd k M) (e : rowStep P M = some M') : Bnd (k + 1) M' := by
  obtain ⟨fs, said, t, en⟩ := M
  unfold rowStep at e
  cases fs with
  | nil => cases e
  | cons f r =>
  dsimp only at e
  cases hr : nth P.code f.place with
  | none => rw [hr] at e; cases e
  | some row =>
  rw [hr] at e
  dsimp only at e
  have hp : f.pile.length ≤ k := h.2.1 f (by simp)
  have hs : said.length ≤ k := h.2.2
  obtain ⟨place, boxes, pile⟩ := f
  dsimp only at hp
  have pop : ∀ (v : Int) (q : List Int), pile = v :: q → q.length + 1 ≤ k := fun v q e => by
    rw [e] at hp
    simpa using hp
  cases row with
  | put n => cases e; exact h.head (by first | omega | (dsimp only; omega)) (by simp only [Fr.lay, List.length_cons]; first | omega | (dsimp only; omega)) (by first | omega | (dsimp only; omega))
  | get j =>
    simp only [stepRw, moveRw] at e
    cases hv : nth boxes j with
    | none => rw [hv] at e; cases e
    | some v => rw [hv] at e; cases e; exact h.head (by first | omega | (dsimp only; omega)) (by simp only [Fr.lay, List.length_cons]; first | omega | (dsimp only; omega)) (by first | omega | (dsimp only; omega))
  | set j =>
    cases pile with
    | nil => cases e
    | cons v p =>
      simp only [stepRw, moveRw] at e
      split at e
      · cases e
        have := pop _ _ rfl
        exact h.head (by first | omega | (dsimp only; omega)) (by first | omega | (dsimp only; omega)) (by first | omega | (dsimp only; omega))
      · cases e
  | say =>
    cases pile with
    | nil => cases e
    | cons v p =>
      cases e
      have := pop _ _ rfl
      exact h.head (by first | omega | (dsimp only; omega)) (by first | omega | (dsimp only; omega)) (by simp; omega)
  | add =>
    match pile, e, pop with
    | b :: a :: p, e, pop =>
      cases e
      have := pop _ _ rfl
      simp at this
      exact h.head (by first | omega | (dsimp only; omega)) (by simp only [Fr.lay, List.length_cons]; first | omega | (dsimp only; omega)) (by first | omega | (dsimp only; omega))
  | sub =>
    match pile, e, pop with
    | b :: a :: p, e, pop =>
      cases e
      have := pop _ _ rfl
      simp at this
      exact h.head (by first | omega | (dsimp only; omega)) (by simp only [Fr.lay, List.length_cons]; first | omega | (dsimp only; omega)) (by first | omega | (dsimp only; omega))
  | less =>
    match pile, e, pop with
    | b :: a :: p, e, pop =>
      cases e
      have := pop _ _ rfl
      simp at this
      exact h.head (by first | omega | (dsimp only; omega)) (by simp only [Fr.lay, List.length_cons]; first | omega | (dsimp only; omega)) (by first | omega | (dsimp only; omega))
  | share =>
    match pile, e, pop with
    | b :: a :: p, e, pop =>
      have := pop _ _ rfl
      simp at this
      simp only [stepRw, meetRw] at e
      split at e
      · cases e
        exact Bnd.fault (by first | omega | (dsimp only; omega)) (h.head (by first | omega | (dsimp only; omega)) (by first | omega | (dsimp only; omega)) (by first | omega | (dsimp only; omega)))
      · cases e
        exact h.head (by first | omega | (dsimp only; omega)) (by simp only [Fr.lay, List.length_cons]; first | omega | (dsimp only; omega)) (by first | omega | (dsimp only; omega))
  | go p => cases e; exact h.head (by first | omega | (dsimp only; omega)) (by first | omega | (dsimp only; omega)) (by first | omega | (dsimp only; omega))
  | nought p =>
    cases pile with
    | nil => cases e
    | cons v q =>
      cases e
      have := pop _ _ rfl
      exact h.head (by first | omega | (dsimp only; omega)) (by first | omega | (dsimp only; omega)) (by first | omega | (dsimp only; omega))
  | on j =>
    simp only [stepRw, jumpRw] at e
    cases hv : nth boxes j with
    | none => rw [hv] at e; cases e
    | some v => rw [hv] at e; cases e; exact h.head (by first | omega | (dsimp only; omega)) (by first | omega | (dsimp only; omega)) (by first | omega | (dsimp only; omega))
  | turn =>
    simp only [stepRw] at e
    split at e
    · cases e
      exact h.up (by first | omega | (dsimp only; omega))
    · cases e
      exact h.head (by first | omega | (dsimp only; omega)) (by first | omega | (dsimp only; omega)) (by first | omega | (dsimp only; omega))
  | call g =>
    cases pile with
    | nil => cases e
    | cons v q =>
      have := pop _ _ rfl
      have h1 : ∀ t en, Bnd (k + 1) ⟨⟨place, boxes, q⟩ :: r, said, t, en⟩ := fun t en => h.head (by first | omega | (dsimp only; omega)) (by first | omega | (dsimp only; omega)) (by first | omega | (dsimp only; omega))
      simp only [stepRw, Mc.enter] at e
      split at e
      · cases e
        exact h1 _ _
      · split at e
        · cases e
          exact Bnd.fault (by first | omega | (dsimp only; omega)) (h1 _ _)
        · rename_i c8
          cases hv : nth P.starts g with
          | none => rw [hv] at e; cases e
          | some s =>
            rw [hv] at e
            cases e
            have z := h1 (t - 1) en
            refine ⟨?_, fun x hx => ?_, z.2.2⟩
            · have := z.1
              simp at this c8 ⊢
              omega
            · rcases List.mem_cons.mp hx with q | q
              · subst q
                simp
              · exact z.2.1 x q
  | back =>
    cases pile with
    | nil => cases e
    | cons v q =>
      simp only [stepRw, Mc.back] at e
      match r, e, h with
      | [], e, h =>
        cases e
        exact ⟨by simp, fun f hf => by simp at hf, by dsimp only; omega⟩
      | g :: r', e, h =>
        cases e
        refine ⟨by have := h.1; simp at this ⊢; omega, fun x hx => ?_, by dsimp only; omega⟩
        rcases List.mem_cons.mp hx with z | z
        · subst z
          have := h.2.1 g (by simp)
          simp [Fr.lay]
          omega
        · exact Nat.le_trans (h.2.1 x (List.mem_cons_of_mem _ (List.mem_cons_of_mem _ z))) (by first | omega | (dsimp only; omega))
  | raise =>
    cases pile with
    | nil => cases e
    | cons v q =>
      cases e
      have := pop _ _ rfl
      exact Bnd.fault (by first | omega | (dsimp only; omega)) (h.head (by first | omega | (dsimp only; omega)) (by first | omega | (dsimp only; omega)) (by first | omega | (dsimp only; omega)))
theorem bnd_steps {P : Parts} : ∀ {j k : Nat} {M M' : Mc}, Bnd k M → rowSteps P j M = some M' → Bnd (k + j) M'
  | 0, k, M, M', h, e => by cases e; exact h
  | j + 1, k, M, M', h, e => by
    unfold rowSteps at e
    split at e
    · cases e
    · cases hs : rowStep P M with
      | none => rw [hs] at e; cases e
      | some M1 =>
        rw [hs] at e
        have := bnd_steps (bnd_step h hs) e
        exact this.up (by first | omega | (dsimp only; omega))
theorem bnd_begun {P : Parts} {number : Int} {turns : Nat} {M : Mc} (e : begun P number turns = some M) : Bnd 0 M := by
  unfold begun at e
  cases h : nth P.starts 0 with
  | none => rw [h] at e; cases e
  | some s =>
    rw [h] at e
    cases e
    exact ⟨by simp, fun f hf => by simp at hf; subst hf; simp, by simp⟩
theorem rowSteps_add (P : Parts) : ∀ (a b : Nat) (m : Mc), rowSteps P (a + b) m = (rowSteps P a m).bind (rowSteps P b)
  | 0, b, m => by rw [Nat.zero_add]; rfl
  | a + 1, b, m => by
    rw [show a + 1 + b = (a + b) + 1 by omega]
    unfold rowSteps
    split
    · rfl
    · cases rowStep P m with
      | none => rfl
      | some m1 => exact rowSteps_add P a b m1
theorem rowSteps_one {P : Parts} {m m' : Mc} (h : m.ended = none) (e : rowStep P m = some m') : rowSteps P 1 m = some m' := by
  unfold rowSteps
  rw [h, e]
  rfl
theorem rowSteps_then {P : Parts} {a b : Nat} {m m1 m2 : Mc} (h1 : rowSteps P a m = some m1) (h2 : rowSteps P b m1 = some m2) : rowSteps P (a + b) m = some m2 := by
  rw [rowSteps_add, h1]
  exact h2
end Un

set_option maxHeartbeats 4000000
namespace U
open PySem PySem.Spec PyProof.Rows L2 Un
local macro_rules | `(tactic| walk_at "w1") => `(tactic| first
  | with_reducible refine w_seq ?_
  | with_reducible refine w_asg ?_
  | with_reducible refine w_op ?_
  | ((with_reducible refine' w_var ?h1 ?_); (case h1 => rfl))
  | with_reducible refine w_c ?_
  | with_reducible refine w_name ?_
  | with_reducible refine w_tFd ?_
  | ((with_reducible refine' w_fld ?h1 ?h2 ?_); (case h1 => assumption); (case h2 => rfl))
  | with_reducible refine w_if ?_
  | with_reducible refine w_test ?_
  | with_reducible refine w_eqS ?_
  | with_reducible refine w_eqI ?_
  | with_reducible refine w_neS ?_
  | with_reducible refine w_neI ?_
  | with_reducible refine w_isN ?_
  | with_reducible refine w_isnN ?_
  | with_reducible refine w_bl ?_
  | with_reducible refine w_ret ?_
  | with_reducible refine w_drop ?_
  | with_reducible refine w_next ?_
  | with_reducible refine w_cons ?_
  | with_reducible refine w_nil ?_
  | with_reducible refine w_call ?_
  | with_reducible refine w_cb ?_
  | with_reducible refine w_meth ?_
  | ((with_reducible refine' w_recv ?h1 ?h2 ?_); (case h1 => assumption); (case h2 => rfl))
  | with_reducible refine w_sFd ?_
  | ((with_reducible refine' w_put ?h1 ?h2 ?_); (case h1 => assumption); (case h2 => exact Nat.le_of_ble_eq_true rfl))
  | with_reducible refine w_add ?_
  | with_reducible refine w_sub ?_
  | with_reducible refine w_lt ?_
  | with_reducible refine w_le ?_
  | with_reducible refine w_gt ?_
  | with_reducible refine w_ge ?_
  | with_reducible refine w_bm ?_
  | with_reducible refine w_bm0 ?_
  | ((with_reducible refine' w_ty ?h1 ?_); (case h1 => assumption))
  | with_reducible refine w_tup ?_
  | with_reducible refine w_lst ?_
  | ((with_reducible refine' w_new ?h1 ?_); (case h1 => exact Nat.le_of_ble_eq_true rfl))
  | with_reducible refine w_gsub ?_
  | with_reducible refine w_make ?_
  | with_reducible refine w_lc ?_
  | with_reducible refine w_iList ?_
  | with_reducible refine w_for ?_
  | with_reducible refine w_yes ?_
  | with_reducible refine w_tSl ?_
  | with_reducible refine w_part ?_
  | with_reducible refine w_nopart ?_
  | with_reducible refine w_i ?_
  | with_reducible refine w_rng1 ?_
  | with_reducible refine w_rng2 ?_
  | with_reducible refine w_isiII ?_
  | with_reducible refine w_isiIB ?_
  | with_reducible refine w_isiSS ?_
  | ((with_reducible refine w_mod ?h1 ?_); (case h1 => decide))
  | ((with_reducible refine w_fdC' ?h1 ?h2 ?_); (case h1 => decide); (case h2 => decide))
  | ((with_reducible refine w_mulR ?h1 ?h2 ?_); (case h1 => decide); (case h2 => decide))
  | ((with_reducible refine w_mulL ?h1 ?h2 ?_); (case h1 => decide); (case h2 => decide))
  | ((with_reducible refine w_pow' ?h1 ?h2 ?h3 ?_); (case h1 => decide); (case h2 => decide); (case h3 => decide))
  | with_reducible refine w_andV ?_
  | with_reducible refine w_orV ?_
  | with_reducible refine w_notV ?_
  | with_reducible refine w_B ?_
  | with_reducible refine w_not ?_
  | with_reducible refine w_and ?_
  | with_reducible refine w_or ?_
  | with_reducible refine w_ifx ?_
  | with_reducible refine w_un ?_
  | ((with_reducible refine w_T ?h1 ?_); (case h1 => with_reducible rfl))
  | ((with_reducible refine w_F ?h1 ?_); (case h1 => with_reducible rfl))
  | ((with_reducible refine w_T ?h1 ?_); (case h1 => decide +kernel))
  | ((with_reducible refine w_F ?h1 ?_); (case h1 => decide +kernel)))
local macro_rules | `(tactic| walk_at "w") => `(tactic| repeat walk_at "w1")

theorem nth_all {α β : Type} {R : α → β → Prop} {as : List α} {bs : List β} (h : All2 R as bs) {i : Int} {b : β} (e : nth bs i = some b) : ∃ a, atI as i = some a ∧ R a b := by
  unfold nth at e
  by_cases h0 : 0 ≤ i
  · rw [if_pos h0] at e
    obtain ⟨a, h1, h2⟩ := h.get e
    exact ⟨a, atI_ok h0 h1, h2⟩
  · rw [if_neg h0] at e
    cases e
theorem MAt.laid {K : PySem.W.Frag} {H0 H : Hp} {wh : Wh} {nb : Int} {M : Mc} {d : Ad} {p : Addr} {o : HO} (w : MAt K H0 H wh nb M d .non) (h : H p = none) : MAt K H0 (upd H p o) wh nb M d .non := by
  refine ⟨w.own.lay h, w.len, ?_⟩
  rw [w.noend]
  exact rfl
def moveW : Rw → Bool
  | .put _ | .get _ | .set _ | .say => true
  | _ => false
def jumpW : Rw → Bool
  | .go _ | .nought _ | .on _ => true
  | _ => false
theorem words_0 (row : Rw) : atI (words row) 0 = some (.str (wordOf row)) := by cases row <;> rfl
theorem same_one {H : Hp} {p : Addr} {o : HO} {a : Addr} {u : HO} (h : H p = none) (e : H a = some u) : upd H p o a = some u := same_lay h a u e
structure Bd (P : Parts) (M : Mc) : Prop where
  b0 : 0 ≤ P.boxes
  b1 : P.boxes < 16000000
  fr : M.frames.length ≤ 8
  pl : ∀ f ∈ M.frames, f.pile.length < LIM
  sd : M.said.length < LIM
def sp_Machine_step (K : PySem.W.Frag) : Sp := fun vs H Q _ => ∃ H0 wh P M d M', vs = [.ref wh.m] ∧ MAt K H0 H wh P.boxes M d .non ∧ PartsIn K H0 wh.c wh.st wh.sr P ∧ Bd P M ∧ rowStep P M = some M' ∧
  ∀ H', MIn K H0 H' wh P.boxes M' → Q .non H'
theorem p_Machine_step {K : PySem.W.Frag} (vs : List V) (H : Hp) (Q : VK) (E : XK) (h : sp_Machine_step K vs H Q E) :
    t_Machine_step K (sp_Machine_meet K) (sp_Machine_move K) (sp_Machine_jump K) (sp_Machine_taken K) (sp_Machine_enter K) (sp_Machine_back K) (sp_Machine_fault K) { nx := fun _ H' => Q .non H', rt := Q } (L2.start n_Machine_step vs) H := by
  obtain ⟨H0, wh, P, M, d, M', rfl, w, pt, bd, hM, k⟩ := h
  have he := w.noend
  obtain ⟨fs, said, t, en⟩ := M
  obtain ⟨dx, l, s, fas⟩ := d
  subst he
  match fs, fas, w, bd, hM with
  | [], _, _, _, hM => cases hM
  | _ :: _, [], w, _, _ => exact absurd w.len (by simp)
  | f :: r, x :: xs, w, bd, hM =>
  have hm := w.own.ix 0 rfl
  have hl := w.own.ix 1 rfl
  have ha := w.own.ix 3 rfl
  obtain ⟨cs, c1, c2⟩ := pt.code
  unfold rowStep at hM
  dsimp only at hM
  cases hrow : nth P.code f.place with
  | none => rw [hrow] at hM; cases hM
  | some row =>
  rw [hrow] at hM
  dsimp only at hM
  obtain ⟨v, hv, rw, rfl, hr0⟩ := nth_all c2 hrow
  have hr := same_tup w.own.same hr0
  have pb : f.pile.length < LIM := bd.pl f (by simp)
  unfold t_Machine_step
  walk_at "w"
  refine w_lenL (SqL.of hl) ?_
  walk_at "w"
  refine w_ixL (SqL.of hl) refs_last ?_
  walk_at "w"
  refine w_ixL (w.own.same.seq c1) hv ?_
  walk_at "w"
  refine w_ixT hr (words_0 row) ?_
  walk_at "w"
  refine fun p1 h1 => ?_
  refine w_inT (SqT.of upd_same) rfl rfl ?_
  walk_at "w"
  have w1 : MAt K H0 _ wh P.boxes ⟨f :: r, said, t, none⟩ ⟨dx, l, s, x :: xs⟩ .non := w.laid (o := .tup [.str "add", .str "sub", .str "less", .str "share"]) h1
  have meet : meetW row = true → meetRw P row f r ⟨f :: r, said, t, none⟩ = some M' → sp_Machine_meet K [.ref wh.m, .ref x.a, .str (wordOf row)] _ (fun _ H' => Q .non H') E0 :=
    fun hw hM => ⟨H0, wh, P, f, r, said, t, dx, l, s, x, xs, row, M', rfl, w1, pt, hw, hM, pb, k⟩
  have hm1 := w1.own.ix 0 rfl
  by_cases hmeet : meetW row = true
  · refine w_T (by cases row <;> first | (cases hmeet; done) | (dsimp only [wordOf]; decide +kernel)) ?_
    walk_at "w"
    exact meet hmeet (by cases row <;> first | exact hM | (cases hmeet; done))
  refine w_F (by cases row <;> first | (exact absurd rfl hmeet) | (dsimp only [wordOf]; decide +kernel)) ?_
  walk_at "w"
  refine fun p2 h2 => ?_
  refine w_inT (SqT.of upd_same) rfl rfl ?_
  walk_at "w"
  have w2 := w1.laid (o := .tup [.str "put", .str "get", .str "set", .str "say"]) h2
  have hm2 := w2.own.ix 0 rfl
  by_cases hmove : moveW row = true
  · refine w_T (by cases row <;> first | (cases hmove; done) | (dsimp only [wordOf]; decide +kernel)) ?_
    walk_at "w"
    exact ⟨H0, wh, P.boxes, f, r, said, t, dx, l, s, x, xs, rw, row, M', rfl, w2, hr0, (by cases row <;> first | exact hM | (cases hmove; done)), pb, bd.sd, k⟩
  refine w_F (by cases row <;> first | (exact absurd rfl hmove) | (exact absurd rfl hmeet) | (dsimp only [wordOf]; decide +kernel)) ?_
  walk_at "w"
  refine fun p3 h3 => ?_
  refine w_inT (SqT.of upd_same) rfl rfl ?_
  walk_at "w"
  have w3 := w2.laid (o := .tup [.str "go", .str "nought", .str "on"]) h3
  have hm3 := w3.own.ix 0 rfl
  by_cases hjump : jumpW row = true
  · refine w_T (by cases row <;> first | (cases hjump; done) | (dsimp only [wordOf]; decide +kernel)) ?_
    walk_at "w"
    exact ⟨H0, wh, P.boxes, f, r, said, t, dx, l, s, x, xs, rw, row, M', rfl, w3, hr0, (by cases row <;> first | exact hM | (cases hjump; done)), k⟩
  refine w_F (by cases row <;> first | (exact absurd rfl hjump) | (exact absurd rfl hmove) | (exact absurd rfl hmeet) | (dsimp only [wordOf]; decide +kernel)) ?_
  have ha3 := w3.own.ix 3 rfl
  have hq3 := w3.own.ix 5 rfl
  have hr3 := same_tup w3.own.same hr0
  cases row with
  | turn =>
    walk_at "w"
    refine ⟨H0, wh, P.boxes, _, _, rfl, w3.own, fun c H1 u w4 hu => ?_, fun c H1 w4 => ?_⟩
    · have c' : t = 0 := c
      walk_at "w"
      simp only [stepRw, if_pos c'] at hM
      cases hM
      exact k _ ⟨⟨dx, l, s, x :: xs⟩, .ref u, ⟨w4, w.len, u, rfl, hu⟩⟩
    · have c' : ¬ t = 0 := c
      simp only [stepRw, if_neg c'] at hM
      cases hM
      have ha4 := w4.ix 3 rfl
      walk_at "w"
      exact k _ ⟨⟨dx, l, s, x :: xs⟩, .non, ⟨w4.set 3 (.ins (He.ga K "Frame") x.dx (frF (f.place + 1) x.b x.q)) rfl, w.len, rfl⟩⟩
  | call g =>
    obtain ⟨place, boxes, pile⟩ := f
    cases pile with
    | nil => cases hM
    | cons v q =>
      dsimp only [wordOf]
      walk_at "w"
      refine w_ixT hr3 rfl ?_
      walk_at "w"
      refine w_popB hq3 ?_
      have w4 : MAt K H0 _ wh P.boxes ⟨⟨place, boxes, q⟩ :: r, said, t, none⟩ ⟨dx, l, s, x :: xs⟩ .non := ⟨w3.own.set 5 (.lst (pileV q)) rfl, w.len, rfl⟩
      walk_at "w"
      exact ⟨H0, wh, P, _, _, g, v, M', rfl, w4, pt, bd.b0, bd.b1, bd.fr, hM, k⟩
  | back =>
    obtain ⟨place, boxes, pile⟩ := f
    cases pile with
    | nil => cases hM
    | cons v q =>
      cases hM
      walk_at "w"
      refine w_popB hq3 ?_
      have w4 : MAt K H0 _ wh P.boxes ⟨⟨place, boxes, q⟩ :: r, said, t, none⟩ ⟨dx, l, s, x :: xs⟩ .non := ⟨w3.own.set 5 (.lst (pileV q)) rfl, w.len, rfl⟩
      walk_at "w"
      refine ⟨H0, wh, P.boxes, _, _, v, rfl, w4, by simp, fun g hg => ?_, k⟩
      rcases List.mem_cons.mp hg with e | e
      · subst e
        exact Nat.lt_of_le_of_lt (by simp) pb
      · exact bd.pl g (List.mem_cons_of_mem _ e)
  | raise =>
    obtain ⟨place, boxes, pile⟩ := f
    cases pile with
    | nil => cases hM
    | cons v q =>
      cases hM
      walk_at "w"
      refine w_popB hq3 ?_
      have w4 : MAt K H0 _ wh P.boxes ⟨⟨place, boxes, q⟩ :: r, said, t, none⟩ ⟨dx, l, s, x :: xs⟩ .non := ⟨w3.own.set 5 (.lst (pileV q)) rfl, w.len, rfl⟩
      walk_at "w"
      exact ⟨H0, wh, P, _, _, v, rfl, w4, pt, k⟩
  | add | sub | less | share => exact absurd rfl hmeet
  | put _ | get _ | set _ | say => exact absurd rfl hmove
  | go _ | nought _ | on _ => exact absurd rfl hjump

/-! ### run -/
theorem perm6 (l a b q s m : Cell) : List.Perm [l, a, b, q, s, m] [m, l, s, a, b, q] :=
  (List.perm_append_comm (l₁ := [l, a, b, q, s]) (l₂ := [m])).trans (.cons _ (.cons _ (List.perm_append_comm (l₁ := [a, b, q]) (l₂ := [s]))))
def sp_Machine___init__ (K : PySem.W.Frag) : Sp := fun vs H Q _ => ∃ H0 m dx a ps c st sr P number turns M, vs = [.ref m, .ref a, .int number, .int (turns : Nat)] ∧ Own H0 H [(m, .ins (He.ga K "Machine") dx [])] ∧
  SqT K H0 a ps ∧ ps = [.ref c, .ref st, .ref sr, .int P.boxes] ∧ PartsIn K H0 c st sr P ∧ 0 ≤ P.boxes ∧ P.boxes < 16000000 ∧ begun P number turns = some M ∧
  ∀ H' d, MAt K H0 H' ⟨m, c, st, sr⟩ P.boxes M d .non → Q .non H'
theorem p_Machine___init__ {K : PySem.W.Frag} (vs : List V) (H : Hp) (Q : VK) (E : XK) (h : sp_Machine___init__ K vs H Q E) :
    t_Machine___init__ K (sp_Frame___init__ K) { nx := fun _ H' => Q .non H', rt := Q } (L2.start n_Machine___init__ vs) H := by
  obtain ⟨H0, m, dx, a, ps, c, st, sr, P, number, turns, M, rfl, w, hps, rfl, pt, hb0, hb, hM, k⟩ := h
  unfold begun at hM
  cases hs : nth P.starts 0 with
  | none => rw [hs] at hM; cases hM
  | some p0 =>
  rw [hs] at hM
  cases hM
  unfold t_Machine___init__
  have t0 := same_tup w.same hps
  have h0 := w.ix 0 rfl
  walk_at "w"
  refine w_ixT t0 rfl ?_
  walk_at "w"
  have w1 := w.set 0 (.ins (He.ga K "Machine") dx [("code", .ref c)]) rfl
  have t1 := same_tup w1.same hps
  have h1 := w1.ix 0 rfl
  refine w_ixT t1 rfl ?_
  walk_at "w"
  have w2 := w1.set 0 (.ins (He.ga K "Machine") dx [("code", .ref c), ("stretches", .ref st)]) rfl
  have t2 := same_tup w2.same hps
  have h2 := w2.ix 0 rfl
  refine w_ixT t2 rfl ?_
  walk_at "w"
  have w3 := w2.set 0 (.ins (He.ga K "Machine") dx [("code", .ref c), ("stretches", .ref st), ("starts", .ref sr)]) rfl
  have t3 := same_tup w3.same hps
  have h3 := w3.ix 0 rfl
  refine w_ixT t3 rfl ?_
  walk_at "w"
  have w4 := w3.set 0 (.ins (He.ga K "Machine") dx [("code", .ref c), ("stretches", .ref st), ("starts", .ref sr), ("boxes", .int P.boxes)]) rfl
  have h4 := w4.ix 0 rfl
  walk_at "w"
  have w5 := w4.set 0 (.ins (He.ga K "Machine") dx [("code", .ref c), ("stretches", .ref st), ("starts", .ref sr), ("boxes", .int P.boxes), ("turns", .int turns)]) rfl
  refine fun s hsn => ?_
  have w6 := w5.take (o := .lst []) hsn
  have h6 := w6.ix 1 rfl
  walk_at "w"
  have w7 := w6.set 1 (.ins (He.ga K "Machine") dx [("code", .ref c), ("stretches", .ref st), ("starts", .ref sr), ("boxes", .int P.boxes), ("turns", .int turns), ("said", .ref s)]) rfl
  have h7 := w7.ix 1 rfl
  walk_at "w"
  have w8 := w7.set 1 (.ins (He.ga K "Machine") dx [("code", .ref c), ("stretches", .ref st), ("starts", .ref sr), ("boxes", .int P.boxes), ("turns", .int turns), ("said", .ref s), ("ended", .non)]) rfl
  have h8 := w8.ix 1 rfl
  walk_at "w"
  refine w_ixL (w8.same.seq pt.starts) (nth_at hs) ?_
  walk_at "w"
  refine fun fa fdx na ndx hne => ?_
  have w9 := (w8.lay (o := .own fa) ndx).take (a := fa) (o := .ins (He.ga K "Frame") fdx []) (by rw [upd_ne (Ne.symm hne)]; exact na)
  refine ⟨less _ [(fa, .ins (He.ga K "Frame") fdx [])], fa, p0, P.boxes, number, fdx, rfl, w9.lend1, hb0, hb, fun b q H2 w10 => ?_⟩
  have w11 := Own.back (L := [_]) w9 w10
  have h11 := w11.ix 4 rfl
  refine ⟨rfl, ?_⟩
  walk_at "w"
  refine fun l hl => ?_
  have w12 := w11.take (o := .lst [.ref fa]) hl
  have h12 := w12.ix 5 rfl
  walk_at "w"
  have w13 := w12.set 5 (.ins (He.ga K "Machine") dx (mcF c st sr P.boxes turns s .non l)) rfl
  refine k _ ⟨dx, l, s, [⟨fa, fdx, b, q⟩]⟩ ⟨?_, rfl, rfl⟩
  refine w13.perm ?_
  exact perm6 _ _ _ _ _ _

def sp_run0 (K : PySem.W.Frag) : Sp := fun vs H Q _ => ∃ a c st sr P number turns M0 n M x z, vs = [.ref a, .int number, .int (turns : Nat)] ∧ SqT K H a [.ref c, .ref st, .ref sr, .int P.boxes] ∧ PartsIn K H c st sr P ∧
  0 ≤ P.boxes ∧ P.boxes < 16000000 ∧ begun P number turns = some M0 ∧ rowSteps P n M0 = some M ∧ M.ended = some (x, z) ∧ (∀ j Mj, j < n → rowSteps P j M0 = some Mj → Bd P Mj) ∧
  ∀ H' p s, Same H H' → H p = none → H s = none → H' s = some (.lst (M.said.map V.int)) → H' p = some (.tup [.ref s, .str x.str, .int z]) → Q (.ref p) H'
theorem p_run0 {K : PySem.W.Frag} (vs : List V) (H : Hp) (Q : VK) (E : XK) (h : sp_run0 K vs H Q E) :
    t_run K (sp_Machine___init__ K) (sp_Machine_step K) { nx := fun _ H' => Q .non H', rt := Q } (L2.start n_run vs) H := by
  obtain ⟨a, c, st, sr, P, number, turns, M0, n, M, x, z, rfl, ha, pt, hb0, hb, hM0, hn, hend, hbd, k⟩ := h
  unfold t_run
  walk_at "w"
  refine fun m dx nm ndx hne => ?_
  have w0 := ((Own.nil (Same.refl H)).lay (o := .own m) ndx).take (a := m) (o := .ins (He.ga K "Machine") dx []) (by rw [upd_ne (Ne.symm hne)]; exact nm)
  refine ⟨H, m, dx, a, _, c, st, sr, P, number, turns, M0, rfl, w0, ha, rfl, pt, hb0, hb, hM0, fun H1 d w1 => ⟨rfl, ?_⟩⟩
  walk_at "w"
  refine ⟨fun j σ H2 => ∃ Mj, rowSteps P j Mj = some M ∧ (∀ i Mi, i < j → rowSteps P i Mj = some Mi → Bd P Mi) ∧ MIn K H H2 ⟨m, c, st, sr⟩ P.boxes Mj ∧ σ = [some (.ref a), some (.int number), some (.int turns), some (.ref m)],
    ⟨n, M0, hn, hbd, ⟨d, .non, w1⟩, rfl⟩, ?_⟩
  rintro j σ H2 ⟨Mj, hj, hbj, ⟨d2, e, w2⟩, rfl⟩
  have hm2 := w2.own.ix 0 rfl
  have hs2 := w2.own.ix 2 rfl
  walk_at "w"
  cases he : Mj.ended with
  | none =>
    have ee : e = .non := by
      have q := w2.endd
      rw [he] at q
      exact q
    subst ee
    refine w_T (decide_eq_true rfl) ?_
    cases j with
    | zero =>
      cases hj
      rw [he] at hend
      cases hend
    | succ i =>
      refine ⟨_, fun _ _ q => q, ?_⟩
      walk_at "w"
      unfold rowSteps at hj
      rw [he] at hj
      simp only [Option.isSome_none, Bool.false_eq_true, if_false] at hj
      cases hs : rowStep P Mj with
      | none => rw [hs] at hj; cases hj
      | some M1 =>
      rw [hs] at hj
      refine ⟨H, ⟨m, c, st, sr⟩, P, Mj, d2, M1, rfl, w2, pt, hbj 0 Mj (by omega) rfl, hs, fun H3 w3 => ?_⟩
      refine ⟨i, Nat.lt_succ_self i, M1, hj, fun q Mq hq e2 => hbj (q + 1) Mq (by omega) ?_, w3, rfl⟩
      unfold rowSteps
      rw [he, hs]
      exact e2
  | some y =>
    cases j with
    | succ i =>
      unfold rowSteps at hj
      rw [he] at hj
      cases hj
    | zero =>
      cases hj
      rw [he] at hend
      cases hend
      have q := w2.endd
      rw [he] at q
      obtain ⟨t, rfl, ht⟩ := q
      refine w_F (decide_eq_false (by intro z; cases z)) ?_
      walk_at "w"
      refine w_ixT (SqT.of ht) rfl ?_
      walk_at "w"
      refine w_ixT (SqT.of ht) rfl ?_
      walk_at "w"
      refine fun p hp => ?_
      have sm := w2.own.same
      refine k _ p d2.s (sm.trans (same_lay hp)) (Same.free sm hp) ?_ ?_ upd_same
      · exact w2.own.new _ (by simp [ads, mcCells])
      · exact same_one hp hs2

def sp_run (K : PySem.W.Frag) : Sp := fun vs H Q _ => ∃ a c st sr P number turns M0 n M x z, vs = [.ref a, .int number, .int (turns : Nat)] ∧ SqT K H a [.ref c, .ref st, .ref sr, .int P.boxes] ∧ PartsIn K H c st sr P ∧
  0 ≤ P.boxes ∧ P.boxes < 16000000 ∧ begun P number turns = some M0 ∧ rowSteps P n M0 = some M ∧ M.ended = some (x, z) ∧ n ≤ 15000000 ∧
  ∀ H' p s, Same H H' → H p = none → H s = none → H' s = some (.lst (M.said.map V.int)) → H' p = some (.tup [.ref s, .str x.str, .int z]) → Q (.ref p) H'
theorem p_run {K : PySem.W.Frag} (vs : List V) (H : Hp) (Q : VK) (E : XK) (h : sp_run K vs H Q E) :
    t_run K (sp_Machine___init__ K) (sp_Machine_step K) { nx := fun _ H' => Q .non H', rt := Q } (L2.start n_run vs) H := by
  obtain ⟨a, c, st, sr, P, number, turns, M0, n, M, x, z, rfl, ha, pt, hb0, hb, hM0, hn, hend, hle, k⟩ := h
  refine p_run0 _ H Q E ⟨a, c, st, sr, P, number, turns, M0, n, M, x, z, rfl, ha, pt, hb0, hb, hM0, hn, hend, fun j Mj hj e => ?_, k⟩
  have b := bnd_steps (bnd_begun hM0) e
  exact ⟨hb0, hb, b.1, fun f hf => Nat.lt_of_le_of_lt (b.2.1 f hf) (by unfold LIM; omega), Nat.lt_of_le_of_lt b.2.2 (by unfold LIM; omega)⟩
end U

set_option maxHeartbeats 4000000
namespace U
open PySem PySem.Spec PyProof.Rows L2 Un
/-! ### rows and stretches as data; tuples beside cells that are written -/
theorem IsTup.put {K : PySem.W.Frag} {H : Hp} {D : Addr} {ys xs : List V} {o : HO} {v : V} (hD : H D = some (.lst ys)) (h : IsTup K H v xs) : IsTup K (upd H D o) v xs := by
  obtain ⟨a, e, h⟩ := h
  exact ⟨a, e, tup_put hD h⟩
def Lists (L : List Cell) : Prop := ∀ p ∈ L, ∃ ys, p.2 = .lst ys
theorem tup_less {K : PySem.W.Frag} {H0 H : Hp} {L : List Cell} {a : Addr} {xs : List V} (w : Own H0 H L) (hl : Lists L) (h : SqT K H a xs) : SqT K (less H L) a xs := by
  have off : ∀ o, H a = some o → (∀ ys, o ≠ .lst ys) → less H L a = some o := fun o e n => by
    rw [less_off]
    · exact e
    · intro hm
      obtain ⟨p, hp, e2⟩ := List.mem_map.mp hm
      obtain ⟨ys, e3⟩ := hl p hp
      have q := w.at_ p hp
      rw [e2, e, e3] at q
      exact n ys (Option.some.inj q)
  rcases h with (h | ⟨o, h⟩) | h
  · exact .inl (.inl (off _ h (by intro ys z; cases z)))
  · exact .inl (.inr ⟨o, off _ h (by intro ys z; cases z)⟩)
  · exact .inr h
/-- a tuple stands behind a callee that had only lists -/
theorem tup_over {K : PySem.W.Frag} {H0 H H' : Hp} {L L' : List Cell} {a : Addr} {xs : List V} (w : Own H0 H L) (hl : Lists L) (w' : Own (less H L) H' L') (h : SqT K H a xs) : SqT K H' a xs := same_tup w'.same (tup_less w hl h)
theorem IsTup.over {K : PySem.W.Frag} {H0 H H' : Hp} {L L' : List Cell} {v : V} {xs : List V} (w : Own H0 H L) (hl : Lists L) (w' : Own (less H L) H' L') (h : IsTup K H v xs) : IsTup K H' v xs := by
  obtain ⟨a, e, h⟩ := h
  exact ⟨a, e, tup_over w hl w' h⟩
def wordsD : Rw → List PyData
  | .put n => [.str "put", .int n]
  | .get k => [.str "get", .int k]
  | .set k => [.str "set", .int k]
  | .say => [.str "say"]
  | .add => [.str "add"]
  | .sub => [.str "sub"]
  | .less => [.str "less"]
  | .share => [.str "share"]
  | .go p => [.str "go", .int p]
  | .nought p => [.str "nought", .int p]
  | .on k => [.str "on", .int k]
  | .turn => [.str "turn"]
  | .call f => [.str "call", .int f]
  | .back => [.str "back"]
  | .raise => [.str "raise"]
theorem dp_words {K : PySem.W.Frag} {H : Hp} (r : Rw) : DpAll K H (words r) (wordsD r) := by
  cases r <;> first | exact .cons (.str _) .nil | exact .cons (.str _) (.cons (.int _) .nil)
theorem lay_words (r : Rw) : PyData.canLayAll0 (wordsD r) = true ∧ PyData.depthAll (wordsD r) = 0 := by
  cases r <;> exact ⟨by simp only [wordsD, PyData.canLayAll0, PyData.canLay0]; decide +kernel, rfl⟩
theorem dp_rows {K : PySem.W.Frag} {H : Hp} {vs : List V} {rs : List Rw} (h : All2 (IsRow K H) vs rs) : DpAll K H vs (rs.map fun r => .tuple (wordsD r)) := by
  induction h with
  | nil => exact .nil
  | cons r _ ih =>
    obtain ⟨a, rfl, h⟩ := r
    exact .cons (.tup h (dp_words _)) ih
theorem shaped_rows (rs : List Rw) : SeqAt.shaped (.list (rs.map fun r => .tuple (wordsD r))) = true := by
  have h : PyData.canLayAll0 (rs.map fun r => .tuple (wordsD r)) = true ∧ PyData.depthAll (rs.map fun r => .tuple (wordsD r)) ≤ 1 := by
    induction rs with
    | nil => exact ⟨rfl, by decide⟩
    | cons r rs ih =>
      have w := lay_words r
      refine ⟨by simp [PyData.canLayAll0, PyData.canLay0, ih.1, w.1], ?_⟩
      simp only [List.map_cons, PyData.depthAll, PyData.depth, w.2]
      have := ih.2
      omega
  refine shaped_of (by simp [PyData.canLay0, h.1]) ?_
  simp only [PyData.depth]
  have := h.2
  omega
theorem dp_strs {K : PySem.W.Frag} {H : Hp} {vs : List V} {S : List Stretch} (h : All2 (IsStr K H) vs S) : DpAll K H vs (S.map fun s => .tuple [.int s.1, .int s.2.1, .int s.2.2]) := by
  induction h with
  | nil => exact .nil
  | cons r _ ih =>
    obtain ⟨a, rfl, h⟩ := r
    exact .cons (.tup h (.cons (.int _) (.cons (.int _) (.cons (.int _) .nil)))) ih
theorem shaped_strs (S : List Stretch) : SeqAt.shaped (.list (S.map fun s => .tuple [.int s.1, .int s.2.1, .int s.2.2])) = true := by
  have h : PyData.canLayAll0 (S.map fun s => .tuple [.int s.1, .int s.2.1, .int s.2.2]) = true ∧ PyData.depthAll (S.map fun s => .tuple [.int s.1, .int s.2.1, .int s.2.2]) ≤ 1 := by
    induction S with
    | nil => exact ⟨rfl, by decide⟩
    | cons s S ih =>
      refine ⟨by simp [PyData.canLayAll0, PyData.canLay0, ih.1], ?_⟩
      have := ih.2
      simp only [List.map_cons, PyData.depthAll, PyData.depth]
      omega
  refine shaped_of (by simp [PyData.canLay0, h.1]) ?_
  simp only [PyData.depth]
  have := h.2
  omega
theorem rows_mono {K : PySem.W.Frag} {H H' : Hp} {vs : List V} {rs : List Rw} (s : Same H H') (h : All2 (IsRow K H) vs rs) : All2 (IsRow K H') vs rs := h.mono fun _ _ q => IsTup.mono s q
theorem strs_mono {K : PySem.W.Frag} {H H' : Hp} {vs : List V} {rs : List Stretch} (s : Same H H') (h : All2 (IsStr K H) vs rs) : All2 (IsStr K H') vs rs := h.mono fun _ _ q => IsTup.mono s q
theorem rows_put {K : PySem.W.Frag} {H : Hp} {D : Addr} {ys : List V} {o : HO} {vs : List V} {rs : List Rw} (hD : H D = some (.lst ys)) (h : All2 (IsRow K H) vs rs) : All2 (IsRow K (upd H D o)) vs rs := h.mono fun _ _ q => IsTup.put hD q
theorem strs_put {K : PySem.W.Frag} {H : Hp} {D : Addr} {ys : List V} {o : HO} {vs : List V} {rs : List Stretch} (hD : H D = some (.lst ys)) (h : All2 (IsStr K H) vs rs) : All2 (IsStr K (upd H D o)) vs rs := h.mono fun _ _ q => IsTup.put hD q
theorem rows_over {K : PySem.W.Frag} {H0 H H' : Hp} {L L' : List Cell} {vs : List V} {rs : List Rw} (w : Own H0 H L) (hl : Lists L) (w' : Own (less H L) H' L') (h : All2 (IsRow K H) vs rs) : All2 (IsRow K H') vs rs :=
  h.mono fun _ _ q => IsTup.over w hl w' q
theorem new_tup {K : PySem.W.Frag} {H : Hp} {p : Addr} {xs : List V} : IsTup K (upd H p (.tup xs)) (.ref p) xs := ⟨p, rfl, SqT.of upd_same⟩
theorem shaped_end (x : Ed) (z : Int) : SeqAt.shaped (.tuple [.str x.str, .int z]) = true := by
  refine shaped_of ?_ (by simp [PyData.depth, PyData.depthAll])
  cases x <;> (simp only [PyData.canLay0, PyData.canLayAll0]; decide +kernel)
end U

set_option maxHeartbeats 4000000
namespace U
open PySem PySem.Spec PyProof.Rows L2 Un
local macro_rules | `(tactic| walk_at "w1") => `(tactic| first
  | with_reducible refine w_seq ?_
  | with_reducible refine w_asg ?_
  | with_reducible refine w_op ?_
  | ((with_reducible refine' w_var ?h1 ?_); (case h1 => rfl))
  | with_reducible refine w_c ?_
  | with_reducible refine w_name ?_
  | with_reducible refine w_tFd ?_
  | ((with_reducible refine' w_fld ?h1 ?h2 ?_); (case h1 => assumption); (case h2 => rfl))
  | with_reducible refine w_if ?_
  | with_reducible refine w_test ?_
  | with_reducible refine w_eqS ?_
  | with_reducible refine w_eqI ?_
  | with_reducible refine w_neS ?_
  | with_reducible refine w_neI ?_
  | with_reducible refine w_isN ?_
  | with_reducible refine w_isnN ?_
  | with_reducible refine w_bl ?_
  | with_reducible refine w_ret ?_
  | with_reducible refine w_drop ?_
  | with_reducible refine w_next ?_
  | with_reducible refine w_cons ?_
  | with_reducible refine w_nil ?_
  | with_reducible refine w_call ?_
  | with_reducible refine w_cb ?_
  | with_reducible refine w_meth ?_
  | ((with_reducible refine' w_recv ?h1 ?h2 ?_); (case h1 => assumption); (case h2 => rfl))
  | with_reducible refine w_sFd ?_
  | ((with_reducible refine' w_put ?h1 ?h2 ?_); (case h1 => assumption); (case h2 => exact Nat.le_of_ble_eq_true rfl))
  | with_reducible refine w_add ?_
  | with_reducible refine w_sub ?_
  | with_reducible refine w_lt ?_
  | with_reducible refine w_le ?_
  | with_reducible refine w_gt ?_
  | with_reducible refine w_ge ?_
  | with_reducible refine w_bm ?_
  | with_reducible refine w_bm0 ?_
  | ((with_reducible refine' w_ty ?h1 ?_); (case h1 => assumption))
  | with_reducible refine w_tup ?_
  | with_reducible refine w_lst ?_
  | ((with_reducible refine' w_new ?h1 ?_); (case h1 => exact Nat.le_of_ble_eq_true rfl))
  | with_reducible refine w_gsub ?_
  | with_reducible refine w_make ?_
  | with_reducible refine w_lc ?_
  | with_reducible refine w_iList ?_
  | with_reducible refine w_for ?_
  | with_reducible refine w_yes ?_
  | with_reducible refine w_tSl ?_
  | with_reducible refine w_part ?_
  | with_reducible refine w_nopart ?_
  | with_reducible refine w_i ?_
  | with_reducible refine w_rng1 ?_
  | with_reducible refine w_rng2 ?_
  | with_reducible refine w_isiII ?_
  | with_reducible refine w_isiIB ?_
  | with_reducible refine w_isiSS ?_
  | ((with_reducible refine w_mod ?h1 ?_); (case h1 => decide))
  | ((with_reducible refine w_fdC' ?h1 ?h2 ?_); (case h1 => decide); (case h2 => decide))
  | ((with_reducible refine w_mulR ?h1 ?h2 ?_); (case h1 => decide); (case h2 => decide))
  | ((with_reducible refine w_mulL ?h1 ?h2 ?_); (case h1 => decide); (case h2 => decide))
  | ((with_reducible refine w_pow' ?h1 ?h2 ?h3 ?_); (case h1 => decide); (case h2 => decide); (case h3 => decide))
  | with_reducible refine w_andV ?_
  | with_reducible refine w_orV ?_
  | with_reducible refine w_notV ?_
  | with_reducible refine w_B ?_
  | with_reducible refine w_not ?_
  | with_reducible refine w_and ?_
  | with_reducible refine w_or ?_
  | with_reducible refine w_ifx ?_
  | with_reducible refine w_un ?_
  | ((with_reducible refine w_T ?h1 ?_); (case h1 => with_reducible rfl))
  | ((with_reducible refine w_F ?h1 ?_); (case h1 => with_reducible rfl))
  | ((with_reducible refine w_T ?h1 ?_); (case h1 => decide +kernel))
  | ((with_reducible refine w_F ?h1 ?_); (case h1 => decide +kernel)))
local macro_rules | `(tactic| walk_at "w") => `(tactic| repeat walk_at "w1")

/-! ### programs on the heap -/
def TreeAt (K : PySem.W.Frag) (H : Hp) : Un.Tree → V → Prop
  | .num n, v => IsTup K H v [.str "num", .int n]
  | .box k, v => IsTup K H v [.str "box", .int k]
  | .call f t, v => ∃ x, IsTup K H v [.str "call", .int f, x] ∧ TreeAt K H t x
  | .bin o a b, v => ∃ x y, IsTup K H v [.str o.str, x, y] ∧ TreeAt K H a x ∧ TreeAt K H b y
mutual
def SmAt (K : PySem.W.Frag) (H : Hp) : Sm → V → Prop
  | .set k e, v => ∃ x, IsTup K H v [.str "set", .int k, x] ∧ TreeAt K H e x
  | .say e, v => ∃ x, IsTup K H v [.str "say", x] ∧ TreeAt K H e x
  | .ife e a b, v => ∃ x p q ps qs, IsTup K H v [.str "if", x, .ref p, .ref q] ∧ TreeAt K H e x ∧ SqL K H p ps ∧ SmsAt K H a ps ∧ SqL K H q qs ∧ SmsAt K H b qs
  | .loop e b, v => ∃ x p ps, IsTup K H v [.str "loop", x, .ref p] ∧ TreeAt K H e x ∧ SqL K H p ps ∧ SmsAt K H b ps
  | .leave, v => IsTup K H v [.str "leave"]
  | .next, v => IsTup K H v [.str "next"]
  | .give e, v => ∃ x, IsTup K H v [.str "give", x] ∧ TreeAt K H e x
  | .raise e, v => ∃ x, IsTup K H v [.str "raise", x] ∧ TreeAt K H e x
  | .ctch b n k h, v => ∃ p q ps qs, IsTup K H v [.str "catch", .ref p, goalV n, .int k, .ref q] ∧ SqL K H p ps ∧ SmsAt K H b ps ∧ SqL K H q qs ∧ SmsAt K H h qs
  | .endd b l, v => ∃ p q ps qs, IsTup K H v [.str "end", .ref p, .ref q] ∧ SqL K H p ps ∧ SmsAt K H b ps ∧ SqL K H q qs ∧ SmsAt K H l qs
def SmsAt (K : PySem.W.Frag) (H : Hp) : List Sm → List V → Prop
  | [], vs => vs = []
  | s :: b, vs => ∃ v vr, vs = v :: vr ∧ SmAt K H s v ∧ SmsAt K H b vr
end
def BlAt (K : PySem.W.Frag) (H : Hp) (b : List Sm) (v : V) : Prop := ∃ p ps, v = .ref p ∧ SqL K H p ps ∧ SmsAt K H b ps
def ProgAt (K : PySem.W.Frag) (H : Hp) (P : List (List Sm)) (p : Addr) : Prop := ∃ vs, SqL K H p vs ∧ All2 (fun v b => BlAt K H b v) vs P
section
variable {K : PySem.W.Frag} {H H' : Hp}
theorem TreeAt.mono (s : Same H H') : ∀ {t : Un.Tree} {v : V}, TreeAt K H t v → TreeAt K H' t v
  | .num _, _, h => IsTup.mono s h
  | .box _, _, h => IsTup.mono s h
  | .call _ _, _, h => by
    obtain ⟨x, h1, h2⟩ := h
    exact ⟨x, h1.mono s, TreeAt.mono s h2⟩
  | .bin _ _ _, _, h => by
    obtain ⟨x, y, h1, h2, h3⟩ := h
    exact ⟨x, y, h1.mono s, TreeAt.mono s h2, TreeAt.mono s h3⟩
mutual
theorem SmAt.mono (s : Same H H') : ∀ (t : Sm) {v : V}, SmAt K H t v → SmAt K H' t v
  | .set _ _, _, h => by
    obtain ⟨x, h1, h2⟩ := h
    exact ⟨x, h1.mono s, h2.mono s⟩
  | .say _, _, h => by
    obtain ⟨x, h1, h2⟩ := h
    exact ⟨x, h1.mono s, h2.mono s⟩
  | .ife _ a b, _, h => by
    obtain ⟨x, p, q, ps, qs, h1, h2, h3, h4, h5, h6⟩ := h
    exact ⟨x, p, q, ps, qs, h1.mono s, h2.mono s, s.seq h3, SmsAt.mono s a h4, s.seq h5, SmsAt.mono s b h6⟩
  | .loop _ b, _, h => by
    obtain ⟨x, p, ps, h1, h2, h3, h4⟩ := h
    exact ⟨x, p, ps, h1.mono s, h2.mono s, s.seq h3, SmsAt.mono s b h4⟩
  | .leave, _, h => IsTup.mono s h
  | .next, _, h => IsTup.mono s h
  | .give _, _, h => by
    obtain ⟨x, h1, h2⟩ := h
    exact ⟨x, h1.mono s, h2.mono s⟩
  | .raise _, _, h => by
    obtain ⟨x, h1, h2⟩ := h
    exact ⟨x, h1.mono s, h2.mono s⟩
  | .ctch a _ _ b, _, h => by
    obtain ⟨p, q, ps, qs, h1, h3, h4, h5, h6⟩ := h
    exact ⟨p, q, ps, qs, h1.mono s, s.seq h3, SmsAt.mono s a h4, s.seq h5, SmsAt.mono s b h6⟩
  | .endd a b, _, h => by
    obtain ⟨p, q, ps, qs, h1, h3, h4, h5, h6⟩ := h
    exact ⟨p, q, ps, qs, h1.mono s, s.seq h3, SmsAt.mono s a h4, s.seq h5, SmsAt.mono s b h6⟩
theorem SmsAt.mono (s : Same H H') : ∀ (b : List Sm) {vs : List V}, SmsAt K H b vs → SmsAt K H' b vs
  | [], _, h => h
  | t :: b, _, h => by
    obtain ⟨v, vr, e, h1, h2⟩ := h
    exact ⟨v, vr, e, SmAt.mono s t h1, SmsAt.mono s b h2⟩
end
theorem BlAt.mono (s : Same H H') {b : List Sm} {v : V} (h : BlAt K H b v) : BlAt K H' b v := by
  obtain ⟨p, ps, e, h1, h2⟩ := h
  exact ⟨p, ps, e, s.seq h1, h2.mono s⟩
theorem ProgAt.mono (s : Same H H') {P : List (List Sm)} {p : Addr} (h : ProgAt K H P p) : ProgAt K H' P p := by
  obtain ⟨vs, h1, h2⟩ := h
  exact ⟨vs, s.seq h1, h2.mono fun _ _ q => q.mono s⟩
end

/-! ### the world -/
structure WA where
  a : Addr
  dx : Addr
  s : Addr
  pa : Addr
def wdF (pa s : Addr) (t d : Int) : List (Str × V) := [("program", .ref pa), ("said", .ref s), ("turns", .int t), ("deep", .int d)]
abbrev wdC (K : PySem.W.Frag) (d : WA) (w : Wd) : Cell := (d.a, .ins (He.ga K "World") d.dx (wdF d.pa d.s w.turns w.deep))
abbrev sdC (d : WA) (w : Wd) : Cell := (d.s, .lst (w.said.map V.int))
abbrev bxC (b : Addr) (bx : List Int) : Cell := (b, .lst (bx.map V.int))
def resV (r : Res) : List V := [.str r.1.str, .int r.2]
/-- cells that are written -/
def Muts (L : List Cell) : Prop := ∀ p ∈ L, (∃ ys, p.2 = .lst ys) ∨ ∃ C dx fs, p.2 = .ins C dx fs
theorem tup_lessM {K : PySem.W.Frag} {H0 H : Hp} {L : List Cell} {a : Addr} {xs : List V} (w : Own H0 H L) (hl : Muts L) (h : SqT K H a xs) : SqT K (less H L) a xs := by
  have off : ∀ o, H a = some o → (∀ ys, o ≠ .lst ys) → (∀ C dx fs, o ≠ .ins C dx fs) → less H L a = some o := fun o e n n' => by
    rw [less_off]
    · exact e
    · intro hm
      obtain ⟨p, hp, e2⟩ := List.mem_map.mp hm
      rcases hl p hp with ⟨ys, e3⟩ | ⟨C, dx, fs, e3⟩
      · have q := w.at_ p hp
        rw [e2, e, e3] at q
        exact n ys (Option.some.inj q)
      · have q := w.at_ p hp
        rw [e2, e, e3] at q
        exact n' C dx fs (Option.some.inj q)
  rcases h with (h | ⟨o, h⟩) | h
  · exact .inl (.inl (off _ h (by intro ys z; cases z) (by intro _ _ _ z; cases z)))
  · exact .inl (.inr ⟨o, off _ h (by intro ys z; cases z) (by intro _ _ _ z; cases z)⟩)
  · exact .inr h
theorem IsTup.overM {K : PySem.W.Frag} {H0 H H' : Hp} {L L' : List Cell} {v : V} {xs : List V} (w : Own H0 H L) (hl : Muts L) (w' : Own (less H L) H' L') (h : IsTup K H v xs) : IsTup K H' v xs := by
  obtain ⟨a, e, h⟩ := h
  exact ⟨a, e, same_tup w'.same (tup_lessM w hl h)⟩
theorem IsTup.putI {K : PySem.W.Frag} {H : Hp} {D C dx : Addr} {fs : List (Str × V)} {xs : List V} {o : HO} {v : V} (hD : H D = some (.ins C dx fs)) (h : IsTup K H v xs) : IsTup K (upd H D o) v xs := by
  obtain ⟨a, e, h⟩ := h
  refine ⟨a, e, ?_⟩
  rcases h with (h | ⟨ob, h⟩) | h
  · exact .inl (.inl (by rw [upd_ne (ne_of h hD (by intro z; cases z))]; exact h))
  · exact .inl (.inr ⟨ob, by rw [upd_ne (ne_of h hD (by intro z; cases z))]; exact h⟩)
  · exact .inr h
theorem muts2 {K : PySem.W.Frag} {d : WA} {w : Wd} : Muts [wdC K d w, sdC d w] := by
  intro p hp
  rcases List.mem_cons.mp hp with rfl | hp
  · exact .inr ⟨_, _, _, rfl⟩
  · rcases List.mem_cons.mp hp with rfl | hp
    · exact .inl ⟨_, rfl⟩
    · cases hp
theorem muts3 {K : PySem.W.Frag} {d : WA} {w : Wd} {b : Addr} {bx : List Int} : Muts [wdC K d w, sdC d w, bxC b bx] := by
  intro p hp
  rcases List.mem_cons.mp hp with rfl | hp
  · exact .inr ⟨_, _, _, rfl⟩
  · rcases List.mem_cons.mp hp with rfl | hp
    · exact .inl ⟨_, rfl⟩
    · rcases List.mem_cons.mp hp with rfl | hp
      · exact .inl ⟨_, rfl⟩
      · cases hp
theorem Own.same1 {H0 H H' : Hp} {L L' : List Cell} (w : Own H0 H L) (w' : Own (less H L) H' L') : Own H0 H' L' := by
  have := Own.back (L := L) (R := []) (by rw [List.append_nil]; exact w) w'
  rwa [List.append_nil] at this

/-! ### the promises -/
def sp_World_taken (K : PySem.W.Frag) : Sp := fun vs H Q _ => ∃ H0 d w R, vs = [.ref d.a] ∧ Own H0 H (wdC K d w :: R) ∧ (w.turns = 0 → Q (.bl false) H) ∧
  (w.turns ≠ 0 → ∀ H', Own H0 H' (wdC K d { w with turns := w.turns - 1 } :: R) → Q (.bl true) H')
theorem p_World_taken {K : PySem.W.Frag} (vs : List V) (H : Hp) (Q : VK) (E : XK) (h : sp_World_taken K vs H Q E) : t_World_taken K { nx := fun _ H' => Q .non H', rt := Q } (L2.start n_World_taken vs) H := by
  obtain ⟨H0, d, w, R, rfl, o, q0, q1⟩ := h
  have h := o.ix 0 rfl
  unfold t_World_taken
  walk_at "w"
  refine w_D (fun c => ?_) (fun c => ?_)
  · walk_at "w"
    exact q0 (by omega)
  · walk_at "w"
    have c' : w.turns ≠ 0 := by omega
    refine q1 c' _ ?_
    have e : ((w.turns - 1 : Nat) : Int) = (w.turns : Int) - 1 := by omega
    have := o.set 0 (.ins (He.ga K "World") d.dx (wdF d.pa d.s ((w.turns : Int) - 1) w.deep)) rfl
    rw [← e] at this
    rw [← e]
    exact this
def sp_joined (K : PySem.W.Frag) : Sp := fun vs H Q _ => ∃ (o : Op) (x y : Int), vs = [.str o.str, .int x, .int y] ∧ ∀ r, H r = none → Q (.ref r) (upd H r (.tup (resV (joinT o x y))))
theorem p_joined {K : PySem.W.Frag} (vs : List V) (H : Hp) (Q : VK) (E : XK) (h : sp_joined K vs H Q E) : t_joined K { nx := fun _ H' => Q .non H', rt := Q } (L2.start n_joined vs) H := by
  obtain ⟨o, x, y, rfl, q⟩ := h
  unfold t_joined
  cases o with
  | add =>
    dsimp only [Op.str]
    walk_at "w"
    exact q
  | sub =>
    dsimp only [Op.str]
    walk_at "w"
    exact q
  | less =>
    dsimp only [Op.str]
    walk_at "w"
    refine w_D (fun c => ?_) (fun c => ?_)
    · walk_at "w"
      simp only [joinT, if_pos c] at q
      exact q
    · walk_at "w"
      simp only [joinT, if_neg c] at q
      exact q
  | share =>
    dsimp only [Op.str]
    walk_at "w"
    refine w_D (fun c => ?_) (fun c => ?_)
    · walk_at "w"
      simp only [joinT, if_pos c] at q
      exact q
    · walk_at "w"
      simp only [joinT, if_neg c] at q
      exact w_fd c (by walk_at "w"; exact q)
def sp_tree (K : PySem.W.Frag) (n : Nat) : Sp := fun vs H Q _ => ∃ (P : List (List Sm)) (H0 : Hp), ∃ d t v b bx w r w', vs = [v, .ref b, .ref d.a] ∧ TreeAt K H0 t v ∧ ProgAt K H0 P d.pa ∧ Own H0 H [wdC K d w, sdC d w, bxC b bx] ∧
  (ev P n).tree t bx w = some (r, w') ∧ w'.said.length < LIM ∧ ∀ H' u, Own H0 H' [wdC K d w', sdC d w', bxC b bx] → IsTup K H' u (resV r) → Q u H'
def sp_call (K : PySem.W.Frag) (n : Nat) : Sp := fun vs H Q _ => ∃ (P : List (List Sm)) (H0 : Hp), ∃ d f v w r w', vs = [.int f, .int v, .ref d.a] ∧ ProgAt K H0 P d.pa ∧ Own H0 H [wdC K d w, sdC d w] ∧
  (ev P n).call f v w = some (r, w') ∧ w'.said.length < LIM ∧ ∀ H' u, Own H0 H' [wdC K d w', sdC d w'] → IsTup K H' u (resV r) → Q u H'
def sp_enter (K : PySem.W.Frag) (n : Nat) : Sp := fun vs H Q _ => ∃ (P : List (List Sm)) (H0 : Hp), ∃ d f v w r w', vs = [.int f, .int v, .ref d.a] ∧ ProgAt K H0 P d.pa ∧ Own H0 H [wdC K d w, sdC d w] ∧
  (ev P n).enter f v w = some (r, w') ∧ w'.said.length < LIM ∧ ∀ H' u, Own H0 H' [wdC K d w', sdC d w'] → IsTup K H' u (resV r) → Q u H'
def sp_block (K : PySem.W.Frag) (n : Nat) : Sp := fun vs H Q _ => ∃ (P : List (List Sm)) (H0 : Hp), ∃ d l v b bx w r bx' w', vs = [v, .ref b, .ref d.a] ∧ BlAt K H0 l v ∧ ProgAt K H0 P d.pa ∧ Own H0 H [wdC K d w, sdC d w, bxC b bx] ∧
  (ev P n).block l bx w = some (r, bx', w') ∧ w'.said.length < LIM ∧ ∀ H' u, Own H0 H' [wdC K d w', sdC d w', bxC b bx'] → IsTup K H' u (resV r) → Q u H'
def sp_row (K : PySem.W.Frag) (n : Nat) : Sp := fun vs H Q _ => ∃ (P : List (List Sm)) (H0 : Hp), ∃ d s v b bx w r bx' w', vs = [v, .ref b, .ref d.a] ∧ SmAt K H0 s v ∧ ProgAt K H0 P d.pa ∧ Own H0 H [wdC K d w, sdC d w, bxC b bx] ∧
  (ev P n).row s bx w = some (r, bx', w') ∧ w'.said.length < LIM ∧ ∀ H' u, Own H0 H' [wdC K d w', sdC d w', bxC b bx'] → IsTup K H' u (resV r) → Q u H'
def sp_loop (K : PySem.W.Frag) (n : Nat) : Sp := fun vs H Q _ => ∃ (P : List (List Sm)) (H0 : Hp), ∃ d e l v b bx w r bx' w', vs = [v, .ref b, .ref d.a] ∧ SmAt K H0 (.loop e l) v ∧ ProgAt K H0 P d.pa ∧ Own H0 H [wdC K d w, sdC d w, bxC b bx] ∧
  (ev P n).loop e l bx w = some (r, bx', w') ∧ w'.said.length < LIM ∧ ∀ H' u, Own H0 H' [wdC K d w', sdC d w', bxC b bx'] → IsTup K H' u (resV r) → Q u H'
def sp_ctch (K : PySem.W.Frag) (n : Nat) : Sp := fun vs H Q _ => ∃ (P : List (List Sm)) (H0 : Hp), ∃ d l m k h v b bx w r bx' w', vs = [v, .ref b, .ref d.a] ∧ SmAt K H0 (.ctch l m k h) v ∧ ProgAt K H0 P d.pa ∧ Own H0 H [wdC K d w, sdC d w, bxC b bx] ∧
  (ev P n).ctch l m k h bx w = some (r, bx', w') ∧ w'.said.length < LIM ∧ ∀ H' u, Own H0 H' [wdC K d w', sdC d w', bxC b bx'] → IsTup K H' u (resV r) → Q u H'
def sp_endd (K : PySem.W.Frag) (n : Nat) : Sp := fun vs H Q _ => ∃ (P : List (List Sm)) (H0 : Hp), ∃ d l m v b bx w r bx' w', vs = [v, .ref b, .ref d.a] ∧ SmAt K H0 (.endd l m) v ∧ ProgAt K H0 P d.pa ∧ Own H0 H [wdC K d w, sdC d w, bxC b bx] ∧
  (ev P n).endd l m bx w = some (r, bx', w') ∧ w'.said.length < LIM ∧ ∀ H' u, Own H0 H' [wdC K d w', sdC d w', bxC b bx'] → IsTup K H' u (resV r) → Q u H'
end U

set_option maxHeartbeats 4000000
namespace U
open PySem PySem.Spec PyProof.Rows L2 Un
local macro_rules | `(tactic| walk_at "w1") => `(tactic| first
  | with_reducible refine w_seq ?_
  | with_reducible refine w_asg ?_
  | with_reducible refine w_op ?_
  | ((with_reducible refine' w_var ?h1 ?_); (case h1 => rfl))
  | with_reducible refine w_c ?_
  | with_reducible refine w_name ?_
  | with_reducible refine w_tFd ?_
  | ((with_reducible refine' w_fld ?h1 ?h2 ?_); (case h1 => assumption); (case h2 => rfl))
  | with_reducible refine w_if ?_
  | with_reducible refine w_test ?_
  | with_reducible refine w_eqS ?_
  | with_reducible refine w_eqI ?_
  | with_reducible refine w_neS ?_
  | with_reducible refine w_neI ?_
  | with_reducible refine w_isN ?_
  | with_reducible refine w_isnN ?_
  | with_reducible refine w_bl ?_
  | with_reducible refine w_ret ?_
  | with_reducible refine w_drop ?_
  | with_reducible refine w_next ?_
  | with_reducible refine w_cons ?_
  | with_reducible refine w_nil ?_
  | with_reducible refine w_call ?_
  | with_reducible refine w_cb ?_
  | with_reducible refine w_meth ?_
  | ((with_reducible refine' w_recv ?h1 ?h2 ?_); (case h1 => assumption); (case h2 => rfl))
  | with_reducible refine w_sFd ?_
  | ((with_reducible refine' w_put ?h1 ?h2 ?_); (case h1 => assumption); (case h2 => exact Nat.le_of_ble_eq_true rfl))
  | with_reducible refine w_add ?_
  | with_reducible refine w_sub ?_
  | with_reducible refine w_lt ?_
  | with_reducible refine w_le ?_
  | with_reducible refine w_gt ?_
  | with_reducible refine w_ge ?_
  | with_reducible refine w_bm ?_
  | with_reducible refine w_bm0 ?_
  | ((with_reducible refine' w_ty ?h1 ?_); (case h1 => assumption))
  | with_reducible refine w_tup ?_
  | with_reducible refine w_lst ?_
  | ((with_reducible refine' w_new ?h1 ?_); (case h1 => exact Nat.le_of_ble_eq_true rfl))
  | with_reducible refine w_gsub ?_
  | with_reducible refine w_make ?_
  | with_reducible refine w_lc ?_
  | with_reducible refine w_iList ?_
  | with_reducible refine w_for ?_
  | with_reducible refine w_yes ?_
  | with_reducible refine w_tSl ?_
  | with_reducible refine w_part ?_
  | with_reducible refine w_nopart ?_
  | with_reducible refine w_i ?_
  | with_reducible refine w_rng1 ?_
  | with_reducible refine w_rng2 ?_
  | with_reducible refine w_isiII ?_
  | with_reducible refine w_isiIB ?_
  | with_reducible refine w_isiSS ?_
  | ((with_reducible refine w_mod ?h1 ?_); (case h1 => decide))
  | ((with_reducible refine w_fdC' ?h1 ?h2 ?_); (case h1 => decide); (case h2 => decide))
  | ((with_reducible refine w_mulR ?h1 ?h2 ?_); (case h1 => decide); (case h2 => decide))
  | ((with_reducible refine w_mulL ?h1 ?h2 ?_); (case h1 => decide); (case h2 => decide))
  | ((with_reducible refine w_pow' ?h1 ?h2 ?h3 ?_); (case h1 => decide); (case h2 => decide); (case h3 => decide))
  | with_reducible refine w_andV ?_
  | with_reducible refine w_orV ?_
  | with_reducible refine w_notV ?_
  | with_reducible refine w_B ?_
  | with_reducible refine w_not ?_
  | with_reducible refine w_and ?_
  | with_reducible refine w_or ?_
  | with_reducible refine w_ifx ?_
  | with_reducible refine w_un ?_
  | ((with_reducible refine w_T ?h1 ?_); (case h1 => with_reducible rfl))
  | ((with_reducible refine w_F ?h1 ?_); (case h1 => with_reducible rfl))
  | ((with_reducible refine w_T ?h1 ?_); (case h1 => decide +kernel))
  | ((with_reducible refine w_F ?h1 ?_); (case h1 => decide +kernel)))
local macro_rules | `(tactic| walk_at "w") => `(tactic| repeat walk_at "w1")

theorem wy_value (y : Wy) : (y.str = "value") ↔ y = .value := by cases y <;> decide
theorem wy_on (y : Wy) : (y.str = "on") ↔ y = .on := by cases y <;> decide
theorem wy_give (y : Wy) : (y.str = "give") ↔ y = .give := by cases y <;> decide
theorem wy_leave (y : Wy) : (y.str = "leave") ↔ y = .leave := by cases y <;> decide
theorem wy_next (y : Wy) : (y.str = "next") ↔ y = .next := by cases y <;> decide
theorem wy_fault (y : Wy) : (y.str = "fault") ↔ y = .fault := by cases y <;> decide
theorem wy_tired (y : Wy) : (y.str = "tired") ↔ y = .tired := by cases y <;> decide
theorem at?_at {xs : List Int} {k v : Int} (h : at? xs k = some v) : atI (xs.map V.int) k = some (.int v) := by
  unfold at? at h
  by_cases h0 : 0 ≤ k
  · rw [if_pos h0] at h
    refine atI_ok h0 ?_
    rw [List.getElem?_map, h]
    rfl
  · rw [if_neg h0] at h
    cases h
theorem tup_at {K : PySem.W.Frag} {H : Hp} {u : V} {xs : List V} (h : IsTup K H u xs) : ∃ a, u = .ref a ∧ SqT K H a xs := h
section
variable {K : PySem.W.Frag} {P : List (List Sm)}
theorem p_reckoned (n : Nat) (vs : List V) (H : Hp) (Q : VK) (E : XK) (h : sp_tree K (n + 1) vs H Q E) :
    t_reckoned K (sp_tree K n) (sp_call K n) (sp_joined K) { nx := fun _ H' => Q .non H', rt := Q } (L2.start n_reckoned vs) H := by
  obtain ⟨P, H0, d, t, v, b, bx, w, r, w', rfl, ht, hp, o, he, hs, k⟩ := h
  have he : treeS (ev P n) t bx w = some (r, w') := he
  unfold treeS at he
  unfold t_reckoned
  have G := good_ev P n
  cases t with
  | num m =>
    obtain ⟨a, rfl, hv0⟩ := ht
    have hv := same_tup o.same hv0
    cases he
    walk_at "w"
    refine w_ixT hv rfl ?_
    walk_at "w"
    refine w_ixT hv rfl ?_
    walk_at "w"
    exact fun p h1 => k _ _ (o.lay h1) new_tup
  | box m =>
    obtain ⟨a, rfl, hv0⟩ := ht
    have hv := same_tup o.same hv0
    dsimp only at he
    cases hm : at? bx m with
    | none => rw [hm] at he; cases he
    | some x =>
    rw [hm] at he
    cases he
    walk_at "w"
    refine w_ixT hv rfl ?_
    walk_at "w"
    refine w_ixT hv rfl ?_
    refine w_ixL (SqL.of (o.ix 2 rfl)) (at?_at hm) ?_
    walk_at "w"
    exact fun p h1 => k _ _ (o.lay h1) new_tup
  | call f t =>
    obtain ⟨x, ⟨a, rfl, hv0⟩, hx⟩ := ht
    have hv := same_tup o.same hv0
    dsimp only at he
    cases h1 : (ev P n).tree t bx w with
    | none => rw [h1] at he; cases he
    | some q =>
    obtain ⟨⟨wy, z⟩, w1⟩ := q
    rw [h1] at he
    have hs1 : w1.said.length < LIM := by
      cases wy with
      | value => exact Nat.lt_of_le_of_lt (G.call he).len hs
      | _ => cases he; exact hs
    walk_at "w"
    refine w_ixT hv rfl ?_
    walk_at "w"
    refine w_ixT hv rfl ?_
    walk_at "w"
    refine ⟨P, _, d, t, x, b, bx, w, _, _, rfl, hx.mono o.base, hp.mono o.base, o.lend, h1, hs1, fun H1 u o1 hu => ?_⟩
    replace o1 := o.same1 o1
    obtain ⟨c, rfl, hu'⟩ := tup_at hu
    walk_at "w"
    refine w_ixT hu' rfl ?_
    walk_at "w"
    refine w_ND (fun c1 => ?_) (fun c1 => ?_) <;> rw [wy_value] at c1
    · dsimp only at c1
      subst c1
      walk_at "w"
      have hv1 := same_tup o1.same hv0
      refine w_ixT hv1 rfl ?_
      walk_at "w"
      refine w_ixT hu' rfl ?_
      walk_at "w"
      have o2 : Own H0 H1 ([wdC K d w1, sdC d w1] ++ [bxC b bx]) := o1
      refine ⟨P, _, d, f, z, w1, _, _, rfl, hp.mono o2.sub.base, o2.sub.lend, he, hs, fun H2 u2 o3 hu2 => ?_⟩
      exact k _ _ (o2.back o3) hu2
    · walk_at "w"
      cases wy with
      | value => exact absurd rfl c1
      | _ => cases he; exact k _ _ o1 hu
  | bin op s t =>
    obtain ⟨x, y, ⟨a, rfl, hv0⟩, hx, hy⟩ := ht
    have hv := same_tup o.same hv0
    dsimp only at he
    cases h1 : (ev P n).tree s bx w with
    | none => rw [h1] at he; cases he
    | some q =>
    obtain ⟨⟨wy, z⟩, w1⟩ := q
    rw [h1] at he
    have hs1 : w1.said.length < LIM := by
      cases wy with
      | value =>
        dsimp only at he
        cases h2 : (ev P n).tree t bx w1 with
        | none => rw [h2] at he; cases he
        | some q =>
          obtain ⟨⟨wy2, z2⟩, w2⟩ := q
          rw [h2] at he
          have l := (G.tree h2).len
          cases wy2 <;> (cases he; exact Nat.lt_of_le_of_lt l hs)
      | _ => cases he; exact hs
    walk_at "w"
    refine w_ixT hv rfl ?_
    walk_at "w"
    refine w_F (by cases op <;> decide) ?_
    walk_at "w"
    refine w_F (by cases op <;> decide) ?_
    walk_at "w"
    refine w_F (by cases op <;> decide) ?_
    walk_at "w"
    refine w_ixT hv rfl ?_
    walk_at "w"
    refine ⟨P, _, d, s, x, b, bx, w, _, _, rfl, hx.mono o.base, hp.mono o.base, o.lend, h1, hs1, fun H1 u o1 hu => ?_⟩
    replace o1 := o.same1 o1
    obtain ⟨c, rfl, hu'⟩ := tup_at hu
    walk_at "w"
    refine w_ixT hu' rfl ?_
    walk_at "w"
    refine w_ND (fun c1 => ?_) (fun c1 => ?_) <;> rw [wy_value] at c1
    · dsimp only at c1
      subst c1
      dsimp only at he
      cases h2 : (ev P n).tree t bx w1 with
      | none => rw [h2] at he; cases he
      | some q =>
      obtain ⟨⟨wy2, z2⟩, w2⟩ := q
      rw [h2] at he
      have hs2 : w2.said.length < LIM := by cases wy2 <;> (cases he; exact hs)
      walk_at "w"
      have hv1 := same_tup o1.same hv0
      refine w_ixT hv1 rfl ?_
      walk_at "w"
      refine ⟨P, _, d, t, y, b, bx, w1, _, _, rfl, hy.mono o1.base, hp.mono o1.base, o1.lend, h2, hs2, fun H2 u2 o2 hu2 => ?_⟩
      have hu3 := hu.overM o1 muts3 o2
      replace o2 := o1.same1 o2
      obtain ⟨c2, rfl, hu2'⟩ := tup_at hu2
      walk_at "w"
      refine w_ixT hu2' rfl ?_
      walk_at "w"
      refine w_ND (fun c3 => ?_) (fun c3 => ?_) <;> rw [wy_value] at c3
      · dsimp only at c3
        subst c3
        cases he
        walk_at "w"
        obtain ⟨c4, e4, hu3⟩ := hu3
        cases e4
        refine w_ixT hu3 rfl ?_
        walk_at "w"
        refine w_ixT hu2' rfl ?_
        walk_at "w"
        exact ⟨op, z, z2, rfl, fun p hp => k _ _ (o2.lay hp) new_tup⟩
      · walk_at "w"
        cases wy2 with
        | value => exact absurd rfl c3
        | _ => cases he; exact k _ _ o2 hu2
    · walk_at "w"
      cases wy with
      | value => exact absurd rfl c1
      | _ => cases he; exact k _ _ o1 hu
theorem p_called (n : Nat) (vs : List V) (H : Hp) (Q : VK) (E : XK) (h : sp_call K (n + 1) vs H Q E) :
    t_called K (sp_World_taken K) (sp_enter K n) { nx := fun _ H' => Q .non H', rt := Q } (L2.start n_called vs) H := by
  obtain ⟨P, H0, d, f, v, w, r, w', rfl, hp, o, he, hs, k⟩ := h
  have he : callS (ev P n) f v w = some (r, w') := he
  unfold callS at he
  unfold t_called
  have h := o.ix 0 rfl
  walk_at "w"
  refine ⟨H0, d, w, _, rfl, o, fun c => ?_, fun c H1 o1 => ?_⟩
  · rw [if_pos c] at he
    cases he
    walk_at "w"
    exact fun p h1 => k _ _ (o.lay h1) new_tup
  · rw [if_neg c] at he
    walk_at "w"
    have h := o1.ix 0 rfl
    walk_at "w"
    refine w_D (fun c1 => ?_) (fun c1 => ?_)
    · have c2 : w.deep = 8 := by
        have : (w.deep : Int) = 8 := c1
        omega
      rw [if_pos c2] at he
      cases he
      walk_at "w"
      exact fun p h1 => k _ _ (o1.lay h1) new_tup
    · have c2 : ¬ w.deep = 8 := fun z => c1 (by rw [z]; rfl)
      rw [if_neg c2] at he
      walk_at "w"
      exact ⟨P, H0, d, f, v, _, _, _, rfl, hp, o1, he, hs, k⟩
end
end U

set_option maxHeartbeats 4000000
namespace U
open PySem PySem.Spec PyProof.Rows L2 Un
local macro_rules | `(tactic| walk_at "w1") => `(tactic| first
  | with_reducible refine w_seq ?_
  | with_reducible refine w_asg ?_
  | with_reducible refine w_op ?_
  | ((with_reducible refine' w_var ?h1 ?_); (case h1 => rfl))
  | with_reducible refine w_c ?_
  | with_reducible refine w_name ?_
  | with_reducible refine w_tFd ?_
  | ((with_reducible refine' w_fld ?h1 ?h2 ?_); (case h1 => assumption); (case h2 => rfl))
  | with_reducible refine w_if ?_
  | with_reducible refine w_test ?_
  | with_reducible refine w_eqS ?_
  | with_reducible refine w_eqI ?_
  | with_reducible refine w_neS ?_
  | with_reducible refine w_neI ?_
  | with_reducible refine w_isN ?_
  | with_reducible refine w_isnN ?_
  | with_reducible refine w_bl ?_
  | with_reducible refine w_ret ?_
  | with_reducible refine w_drop ?_
  | with_reducible refine w_next ?_
  | with_reducible refine w_cons ?_
  | with_reducible refine w_nil ?_
  | with_reducible refine w_call ?_
  | with_reducible refine w_cb ?_
  | with_reducible refine w_meth ?_
  | ((with_reducible refine' w_recv ?h1 ?h2 ?_); (case h1 => assumption); (case h2 => rfl))
  | with_reducible refine w_sFd ?_
  | ((with_reducible refine' w_put ?h1 ?h2 ?_); (case h1 => assumption); (case h2 => exact Nat.le_of_ble_eq_true rfl))
  | with_reducible refine w_add ?_
  | with_reducible refine w_sub ?_
  | with_reducible refine w_lt ?_
  | with_reducible refine w_le ?_
  | with_reducible refine w_gt ?_
  | with_reducible refine w_ge ?_
  | with_reducible refine w_bm ?_
  | with_reducible refine w_bm0 ?_
  | ((with_reducible refine' w_ty ?h1 ?_); (case h1 => assumption))
  | with_reducible refine w_tup ?_
  | with_reducible refine w_lst ?_
  | ((with_reducible refine' w_new ?h1 ?_); (case h1 => exact Nat.le_of_ble_eq_true rfl))
  | with_reducible refine w_gsub ?_
  | with_reducible refine w_make ?_
  | with_reducible refine w_lc ?_
  | with_reducible refine w_iList ?_
  | with_reducible refine w_for ?_
  | with_reducible refine w_yes ?_
  | with_reducible refine w_tSl ?_
  | with_reducible refine w_part ?_
  | with_reducible refine w_nopart ?_
  | with_reducible refine w_i ?_
  | with_reducible refine w_rng1 ?_
  | with_reducible refine w_rng2 ?_
  | with_reducible refine w_isiII ?_
  | with_reducible refine w_isiIB ?_
  | with_reducible refine w_isiSS ?_
  | ((with_reducible refine w_mod ?h1 ?_); (case h1 => decide))
  | ((with_reducible refine w_fdC' ?h1 ?h2 ?_); (case h1 => decide); (case h2 => decide))
  | ((with_reducible refine w_mulR ?h1 ?h2 ?_); (case h1 => decide); (case h2 => decide))
  | ((with_reducible refine w_mulL ?h1 ?h2 ?_); (case h1 => decide); (case h2 => decide))
  | ((with_reducible refine w_pow' ?h1 ?h2 ?h3 ?_); (case h1 => decide); (case h2 => decide); (case h3 => decide))
  | with_reducible refine w_andV ?_
  | with_reducible refine w_orV ?_
  | with_reducible refine w_notV ?_
  | with_reducible refine w_B ?_
  | with_reducible refine w_not ?_
  | with_reducible refine w_and ?_
  | with_reducible refine w_or ?_
  | with_reducible refine w_ifx ?_
  | with_reducible refine w_un ?_
  | ((with_reducible refine w_T ?h1 ?_); (case h1 => with_reducible rfl))
  | ((with_reducible refine w_F ?h1 ?_); (case h1 => with_reducible rfl))
  | ((with_reducible refine w_T ?h1 ?_); (case h1 => decide +kernel))
  | ((with_reducible refine w_F ?h1 ?_); (case h1 => decide +kernel)))
local macro_rules | `(tactic| walk_at "w") => `(tactic| repeat walk_at "w1")

theorem at?_all {α β : Type} {R : α → β → Prop} {as : List α} {bs : List β} (h : All2 R as bs) {i : Int} {b : β} (e : at? bs i = some b) : ∃ a, atI as i = some a ∧ R a b := by
  unfold at? at e
  by_cases h0 : 0 ≤ i
  · rw [if_pos h0] at e
    obtain ⟨a, h1, h2⟩ := h.get e
    exact ⟨a, atI_ok h0 h1, h2⟩
  · rw [if_neg h0] at e
    cases e
section
variable {K : PySem.W.Frag} {P : List (List Sm)}
theorem p_entered (n : Nat) (vs : List V) (H : Hp) (Q : VK) (E : XK) (h : sp_enter K (n + 1) vs H Q E) :
    t_entered K (sp_block K n) { nx := fun _ H' => Q .non H', rt := Q } (L2.start n_entered vs) H := by
  obtain ⟨P, H0, d, f, v, w, r, w', rfl, hp, o, he, hs, k⟩ := h
  have he : enterS P (ev P n) f v w = some (r, w') := he
  unfold enterS at he
  unfold t_entered
  have h := o.ix 0 rfl
  cases hb : at? P f with
  | none => rw [hb] at he; cases he
  | some b =>
  rw [hb] at he
  dsimp only at he
  cases h1 : (ev P n).block b [v, 0, 0, 0] { w with deep := w.deep + 1 } with
  | none => rw [h1] at he; cases he
  | some q =>
  obtain ⟨⟨wy, z⟩, bx1, w1⟩ := q
  rw [h1] at he
  cases he
  have hd1 : w1.deep = w.deep + 1 := ((good_ev P n).block h1).1.deep
  obtain ⟨ps, hps, hall⟩ := hp
  obtain ⟨bv, hbv, hbl⟩ := at?_all hall hb
  walk_at "w"
  have o1 := o.set 0 (.ins (He.ga K "World") d.dx (wdF d.pa d.s w.turns (w.deep + 1))) rfl
  have h := o1.ix 0 rfl
  have e1 : putF "deep" (V.int ((w.deep : Int) + 1)) (wdF d.pa d.s w.turns w.deep) = wdF d.pa d.s w.turns (w.deep + 1) := rfl
  rw [e1]
  generalize upd H d.a (.ins (He.ga K "World") d.dx (wdF d.pa d.s w.turns (w.deep + 1))) = H1 at o1 h ⊢
  have o1 : Own H0 H1 [wdC K d { w with deep := w.deep + 1 }, sdC d w] := o1
  walk_at "w"
  refine w_ixL (o1.same.seq hps) hbv ?_
  walk_at "w"
  refine fun p1 n1 => ?_
  walk_at "w"
  refine fun p2 n2 => ?_
  walk_at "w"
  refine w_rep1 upd_same (by decide) (by decide) fun p3 n3 => ?_
  refine w_cat (xs := [V.int v]) (ys := List.replicate (4 - 1 : Int).toNat (V.int 0)) ?_ upd_same ?_ fun p4 n4 => ?_
  · exact same_lay n3 _ _ (same_lay n2 _ _ upd_same)
  · rw [sizeLine_eq]
    exact Nat.le_of_ble_eq_true rfl
  walk_at "w"
  have o2 := (((o1.lay n1).lay n2).lay n3).take (o := .lst ([v, 0, 0, 0].map V.int)) n4
  have o3 : Own H0 _ ([wdC K d { w with deep := w.deep + 1 }, sdC d w] ++ [bxC p4 [v, 0, 0, 0]]) := o2.perm (List.perm_append_comm (l₁ := [_]) (l₂ := [_, _]))
  refine ⟨P, _, d, b, bv, p4, [v, 0, 0, 0], { w with deep := w.deep + 1 }, _, _, _, rfl, hbl.mono (Own.base o3), ⟨ps, (Own.base o3).seq hps, hall.mono fun _ _ q => q.mono (Own.base o3)⟩, Own.lend o3, h1, hs, fun H2 u o4 hu => ?_⟩
  replace o4 := Own.same1 o3 o4
  have h := o4.ix 0 rfl
  obtain ⟨c, rfl, hu'⟩ := tup_at hu
  walk_at "w"
  have hu2 : IsTup K _ (V.ref c) (resV (wy, z)) := IsTup.putI (o := .ins (He.ga K "World") d.dx (wdF d.pa d.s w1.turns (w1.deep - 1))) h hu
  have o5 := o4.set 0 (.ins (He.ga K "World") d.dx (wdF d.pa d.s w1.turns (w1.deep - 1))) rfl
  have e2 : putF "deep" (V.int ((w1.deep : Int) - 1)) (wdF d.pa d.s w1.turns w1.deep) = wdF d.pa d.s w1.turns (w1.deep - 1) := rfl
  rw [e2]
  generalize upd H2 d.a (.ins (He.ga K "World") d.dx (wdF d.pa d.s w1.turns (w1.deep - 1))) = H3 at o5 hu2 ⊢
  have e3 : ((w1.deep - 1 : Nat) : Int) = (w1.deep : Int) - 1 := by omega
  have o6 : Own H0 H3 [wdC K d { w1 with deep := w1.deep - 1 }, sdC d w1] := by
    show Own H0 H3 [(d.a, .ins (He.ga K "World") d.dx (wdF d.pa d.s w1.turns ((w1.deep - 1 : Nat) : Int))), sdC d w1]
    rw [e3]
    exact Own.sub (R := [bxC p4 bx1]) o5
  obtain ⟨c', ec, hu3⟩ := hu2
  cases ec
  walk_at "w"
  refine w_ixT hu3 rfl ?_
  walk_at "w"
  refine w_D (fun c1 => ?_) (fun c1 => ?_) <;> rw [wy_on] at c1
  · dsimp only at c1
    subst c1
    walk_at "w"
    exact fun p h1 => k _ _ (o6.lay h1) new_tup
  · walk_at "w"
    refine w_ixT hu3 rfl ?_
    walk_at "w"
    refine w_D (fun c2 => ?_) (fun c2 => ?_) <;> rw [wy_give] at c2
    · dsimp only at c2
      subst c2
      walk_at "w"
      refine w_ixT hu3 rfl ?_
      walk_at "w"
      exact fun p h1 => k _ _ (o6.lay h1) new_tup
    · walk_at "w"
      refine k _ _ o6 ⟨_, rfl, ?_⟩
      cases wy with
      | on => exact absurd rfl c1
      | give => exact absurd rfl c2
      | _ => exact hu3
theorem blockS_len {n : Nat} {b : List Sm} {bx : List Int} {w : Wd} {x : Res × List Int × Wd} (h : blockS (ev P n) b bx w = some x) : Le w x.2.2 := by
  obtain ⟨r, bx', w'⟩ := x
  exact (blockS_good (good_ev P n) b h).1
theorem p_block_done (n : Nat) (vs : List V) (H : Hp) (Q : VK) (E : XK) (h : sp_block K (n + 1) vs H Q E) :
    t_block_done K (sp_row K n) { nx := fun _ H' => Q .non H', rt := Q } (L2.start n_block_done vs) H := by
  obtain ⟨P, H0, d, l, v, b, bx, w, r, bx', w', rfl, ⟨p, ps, rfl, hp1, hp2⟩, hp, o, he, hs, k⟩ := h
  have he : blockS (ev P n) l bx w = some (r, bx', w') := he
  unfold t_block_done
  have len : ∀ {l : List Sm} {ps : List V}, SmsAt K H0 l ps → ps.length = l.length := by
    intro l
    induction l with
    | nil => intro ps h; rw [show ps = [] from h]; rfl
    | cons s l ih =>
      intro ps h
      obtain ⟨v, vr, rfl, _, h2⟩ := h
      simp [ih h2]
  refine w_seq ⟨_, rfl, p, rfl, ⟨_, o.same.seq hp1⟩, for_list (xs := ps) (fun i σ H' => ∃ bx1 w1 x y, Own H0 H' [wdC K d w1, sdC d w1, bxC b bx1] ∧ blockS (ev P n) (l.drop i) bx1 w1 = some (r, bx', w') ∧ SmsAt K H0 (l.drop i) (ps.drop i) ∧ σ = [some (.ref p), some (.ref b), some (.ref d.a), x, y])
    ⟨bx, w, _, _, o, he, hp2, rfl⟩ (fun i σ H' _ h => ?_) ?_ ?_⟩
  · obtain ⟨bx1, w1, x, y, o1, _⟩ := h
    exact o1.same.seq hp1
  · rintro i xv σ H' hx ⟨bx1, w1, x, y, o1, he1, hat, rfl⟩
    have hi : i < ps.length := (List.getElem?_eq_some_iff.mp hx).1
    have hil : i < l.length := by rw [← len hp2]; exact hi
    rw [← List.getElem_cons_drop hil, ← List.getElem_cons_drop hi] at hat
    obtain ⟨v1, vr, e, hat1, hat2⟩ := hat
    cases e
    have ex : ps[i] = xv := by
      rw [List.getElem?_eq_getElem hi] at hx
      exact Option.some.inj hx
    rw [ex] at hat1
    rw [← List.getElem_cons_drop hil] at he1
    unfold blockS at he1
    cases h1 : (ev P n).row l[i] bx1 w1 with
    | none => rw [h1] at he1; cases he1
    | some q =>
    obtain ⟨⟨wy, z⟩, bx2, w2⟩ := q
    rw [h1] at he1
    have hs1 : w2.said.length < LIM := by
      cases wy with
      | on => exact Nat.lt_of_le_of_lt (blockS_len he1).len hs
      | _ => cases he1; exact hs
    walk_at "w"
    refine ⟨P, _, d, l[i], xv, b, bx1, w1, _, _, _, rfl, hat1.mono o1.base, hp.mono o1.base, o1.lend, h1, hs1, fun H1 u o2 hu => ?_⟩
    replace o2 := o1.same1 o2
    obtain ⟨c, rfl, hu'⟩ := tup_at hu
    walk_at "w"
    refine w_ixT hu' rfl ?_
    walk_at "w"
    refine w_ND (fun c1 => ?_) (fun c1 => ?_) <;> rw [wy_on] at c1
    · dsimp only at c1
      subst c1
      walk_at "w"
      exact ⟨bx2, w2, _, _, o2, he1, hat2, rfl⟩
    · walk_at "w"
      cases wy with
      | on => exact absurd rfl c1
      | _ => cases he1; exact k _ _ o2 hu
  · rintro σ H' ⟨bx1, w1, x, y, o1, he1, hat, rfl⟩
    rw [len hp2, List.drop_length] at he1
    cases he1
    walk_at "w"
    exact fun p h1 => k _ _ (o1.lay h1) new_tup
end
end U

set_option maxHeartbeats 4000000
namespace U
open PySem PySem.Spec PyProof.Rows L2 Un
local macro_rules | `(tactic| walk_at "w1") => `(tactic| first
  | with_reducible refine w_seq ?_
  | with_reducible refine w_asg ?_
  | with_reducible refine w_op ?_
  | ((with_reducible refine' w_var ?h1 ?_); (case h1 => rfl))
  | with_reducible refine w_c ?_
  | with_reducible refine w_name ?_
  | with_reducible refine w_tFd ?_
  | ((with_reducible refine' w_fld ?h1 ?h2 ?_); (case h1 => assumption); (case h2 => rfl))
  | with_reducible refine w_if ?_
  | with_reducible refine w_test ?_
  | with_reducible refine w_eqS ?_
  | with_reducible refine w_eqI ?_
  | with_reducible refine w_neS ?_
  | with_reducible refine w_neI ?_
  | with_reducible refine w_isN ?_
  | with_reducible refine w_isnN ?_
  | with_reducible refine w_bl ?_
  | with_reducible refine w_ret ?_
  | with_reducible refine w_drop ?_
  | with_reducible refine w_next ?_
  | with_reducible refine w_cons ?_
  | with_reducible refine w_nil ?_
  | with_reducible refine w_call ?_
  | with_reducible refine w_cb ?_
  | with_reducible refine w_meth ?_
  | ((with_reducible refine' w_recv ?h1 ?h2 ?_); (case h1 => assumption); (case h2 => rfl))
  | with_reducible refine w_sFd ?_
  | ((with_reducible refine' w_put ?h1 ?h2 ?_); (case h1 => assumption); (case h2 => exact Nat.le_of_ble_eq_true rfl))
  | with_reducible refine w_add ?_
  | with_reducible refine w_sub ?_
  | with_reducible refine w_lt ?_
  | with_reducible refine w_le ?_
  | with_reducible refine w_gt ?_
  | with_reducible refine w_ge ?_
  | with_reducible refine w_bm ?_
  | with_reducible refine w_bm0 ?_
  | ((with_reducible refine' w_ty ?h1 ?_); (case h1 => assumption))
  | with_reducible refine w_tup ?_
  | with_reducible refine w_lst ?_
  | ((with_reducible refine' w_new ?h1 ?_); (case h1 => exact Nat.le_of_ble_eq_true rfl))
  | with_reducible refine w_gsub ?_
  | with_reducible refine w_make ?_
  | with_reducible refine w_lc ?_
  | with_reducible refine w_iList ?_
  | with_reducible refine w_for ?_
  | with_reducible refine w_yes ?_
  | with_reducible refine w_tSl ?_
  | with_reducible refine w_part ?_
  | with_reducible refine w_nopart ?_
  | with_reducible refine w_i ?_
  | with_reducible refine w_rng1 ?_
  | with_reducible refine w_rng2 ?_
  | with_reducible refine w_isiII ?_
  | with_reducible refine w_isiIB ?_
  | with_reducible refine w_isiSS ?_
  | ((with_reducible refine w_mod ?h1 ?_); (case h1 => decide))
  | ((with_reducible refine w_fdC' ?h1 ?h2 ?_); (case h1 => decide); (case h2 => decide))
  | ((with_reducible refine w_mulR ?h1 ?h2 ?_); (case h1 => decide); (case h2 => decide))
  | ((with_reducible refine w_mulL ?h1 ?h2 ?_); (case h1 => decide); (case h2 => decide))
  | ((with_reducible refine w_pow' ?h1 ?h2 ?h3 ?_); (case h1 => decide); (case h2 => decide); (case h3 => decide))
  | with_reducible refine w_andV ?_
  | with_reducible refine w_orV ?_
  | with_reducible refine w_notV ?_
  | with_reducible refine w_B ?_
  | with_reducible refine w_not ?_
  | with_reducible refine w_and ?_
  | with_reducible refine w_or ?_
  | with_reducible refine w_ifx ?_
  | with_reducible refine w_un ?_
  | ((with_reducible refine w_T ?h1 ?_); (case h1 => with_reducible rfl))
  | ((with_reducible refine w_F ?h1 ?_); (case h1 => with_reducible rfl))
  | ((with_reducible refine w_T ?h1 ?_); (case h1 => decide +kernel))
  | ((with_reducible refine w_F ?h1 ?_); (case h1 => decide +kernel)))
local macro_rules | `(tactic| walk_at "w") => `(tactic| repeat walk_at "w1")

section
variable {K : PySem.W.Frag} {P : List (List Sm)}
theorem goalV_non (n : Option Int) : (goalV n = .non) ↔ n = none := by
  cases n with
  | none => exact ⟨fun _ => rfl, fun _ => rfl⟩
  | some g => exact ⟨fun h => (by cases h), fun h => (by cases h)⟩
theorem p_catch_done (n : Nat) (vs : List V) (H : Hp) (Q : VK) (E : XK) (h : sp_ctch K (n + 1) vs H Q E) :
    t_catch_done K (sp_block K n) { nx := fun _ H' => Q .non H', rt := Q } (L2.start n_catch_done vs) H := by
  obtain ⟨P, H0, d, l, m, kk, hh, v, b, bx, w, r, bx', w', rfl, ⟨p, q, ps, qs, ⟨a, rfl, hv0⟩, hp1, hp2, hq1, hq2⟩, hp, o, he, hs, k⟩ := h
  have he : ctchS (ev P n) l m kk hh bx w = some (r, bx', w') := he
  unfold ctchS at he
  unfold t_catch_done
  have hv := same_tup o.same hv0
  cases h1 : (ev P n).block l bx w with
  | none => rw [h1] at he; cases he
  | some x =>
  obtain ⟨⟨wy, z⟩, bx1, w1⟩ := x
  rw [h1] at he
  have hs1 : w1.said.length < LIM := by
    cases wy with
    | fault =>
      dsimp only at he
      split at he
      · cases he; exact hs
      · split at he
        · exact Nat.lt_of_le_of_lt ((good_ev P n).block he).1.len hs
        · cases he
    | _ => cases he; exact hs
  walk_at "w"
  refine w_ixT hv rfl ?_
  walk_at "w"
  refine ⟨P, _, d, l, _, b, bx, w, _, _, _, rfl, ⟨p, ps, rfl, o.base.seq hp1, hp2.mono o.base⟩, hp.mono o.base, o.lend, h1, hs1, fun H1 u o1 hu => ?_⟩
  replace o1 := o.same1 o1
  have hv1 := same_tup o1.same hv0
  obtain ⟨c, rfl, hu'⟩ := tup_at hu
  walk_at "w"
  refine w_ixT hu' rfl ?_
  walk_at "w"
  refine w_ND (fun c1 => ?_) (fun c1 => ?_) <;> rw [wy_fault] at c1
  · dsimp only at c1
    subst c1
    dsimp only at he
    walk_at "w"
    refine w_ixT hv1 rfl ?_
    walk_at "w"
    have go : ¬ (m ≠ none ∧ some z ≠ m) → sp_block K n [V.ref q, .ref b, .ref d.a] (upd H1 b (.lst ((bx1.map V.int).set kk.toNat (.int z)))) Q E ∧ 0 ≤ kk ∧ kk < bx1.length := fun cn => by
      rw [if_neg cn] at he
      split at he
      · rename_i hk
        have o2 := o1.set 2 (.lst ((bx1.map V.int).set kk.toNat (.int z))) rfl
        rw [← List.map_set] at o2 ⊢
        exact ⟨⟨P, H0, d, hh, _, b, bx1.set kk.toNat z, w1, r, bx', w', rfl, ⟨q, qs, rfl, hq1, hq2⟩, hp, o2, he, hs, k⟩, hk⟩
      · cases he
    have hb := o1.ix 2 rfl
    refine w_ND (fun c2 => ?_) (fun c2 => ?_) <;> rw [goalV_non] at c2
    · obtain ⟨g1, g2, g3⟩ := go fun hz => hz.1 c2
      walk_at "w"
      refine w_ixT hu' rfl ?_
      walk_at "w"
      refine w_ixT hv1 rfl ?_
      refine w_setL hb g2 (by rw [List.length_map]; exact g3) ?_
      walk_at "w"
      refine w_ixT (tup_put hb hv1) rfl ?_
      walk_at "w"
      exact g1
    · cases m with
      | none => exact absurd rfl c2
      | some g =>
      walk_at "w"
      refine w_ixT hu' rfl ?_
      walk_at "w"
      refine w_ixT hv1 rfl ?_
      dsimp only [goalV]
      walk_at "w"
      refine w_ND (fun c3 => ?_) (fun c3 => ?_)
      · obtain ⟨g1, g2, g3⟩ := go fun hz => hz.2 (by rw [c3])
        walk_at "w"
        refine w_ixT hu' rfl ?_
        walk_at "w"
        refine w_ixT hv1 rfl ?_
        refine w_setL hb g2 (by rw [List.length_map]; exact g3) ?_
        walk_at "w"
        refine w_ixT (tup_put hb hv1) rfl ?_
        walk_at "w"
        exact g1
      · have c4 : ¬ (some z = some g) := fun e => c3 (Option.some.inj e)
        rw [if_pos ⟨c2, c4⟩] at he
        cases he
        walk_at "w"
        exact k _ _ o1 hu
  · walk_at "w"
    cases wy with
    | fault => exact absurd rfl c1
    | _ => cases he; exact k _ _ o1 hu
theorem p_end_done (n : Nat) (vs : List V) (H : Hp) (Q : VK) (E : XK) (h : sp_endd K (n + 1) vs H Q E) :
    t_end_done K (sp_block K n) { nx := fun _ H' => Q .non H', rt := Q } (L2.start n_end_done vs) H := by
  obtain ⟨P, H0, d, l, m, v, b, bx, w, r, bx', w', rfl, ⟨p, q, ps, qs, ⟨a, rfl, hv0⟩, hp1, hp2, hq1, hq2⟩, hp, o, he, hs, k⟩ := h
  have he : endS (ev P n) l m bx w = some (r, bx', w') := he
  unfold endS at he
  unfold t_end_done
  have hv := same_tup o.same hv0
  cases h1 : (ev P n).block l bx w with
  | none => rw [h1] at he; cases he
  | some x =>
  obtain ⟨⟨wy, z⟩, bx1, w1⟩ := x
  rw [h1] at he
  by_cases hw : wy = .tired
  · subst hw
    cases he
    walk_at "w"
    refine w_ixT hv rfl ?_
    walk_at "w"
    refine ⟨P, _, d, l, _, b, bx, w, _, _, _, rfl, ⟨p, ps, rfl, o.base.seq hp1, hp2.mono o.base⟩, hp.mono o.base, o.lend, h1, hs, fun H1 u o1 hu => ?_⟩
    replace o1 := o.same1 o1
    obtain ⟨c, rfl, hu'⟩ := tup_at hu
    walk_at "w"
    refine w_ixT hu' rfl ?_
    walk_at "w"
    refine w_D (fun _ => ?_) (fun cn => absurd rfl cn)
    walk_at "w"
    exact k _ _ o1 hu
  · have he2 : (match (ev P n).block m bx1 w1 with
        | some ((.on, _), bx2, w2) => some ((wy, z), bx2, w2)
        | r2 => r2) = some (r, bx', w') := by
      cases wy with
      | tired => exact absurd rfl hw
      | _ => exact he
    cases h2 : (ev P n).block m bx1 w1 with
    | none => rw [h2] at he2; cases he2
    | some x =>
    obtain ⟨⟨wy2, z2⟩, bx2, w2⟩ := x
    rw [h2] at he2
    have e2 : w2 = w' := by cases wy2 <;> (cases he2; rfl)
    subst e2
    have hs1 : w1.said.length < LIM := Nat.lt_of_le_of_lt ((good_ev P n).block h2).1.len hs
    walk_at "w"
    refine w_ixT hv rfl ?_
    walk_at "w"
    refine ⟨P, _, d, l, _, b, bx, w, _, _, _, rfl, ⟨p, ps, rfl, o.base.seq hp1, hp2.mono o.base⟩, hp.mono o.base, o.lend, h1, hs1, fun H1 u o1 hu => ?_⟩
    replace o1 := o.same1 o1
    have hv1 := same_tup o1.same hv0
    obtain ⟨c, rfl, hu'⟩ := tup_at hu
    walk_at "w"
    refine w_ixT hu' rfl ?_
    walk_at "w"
    refine w_D (fun c1 => absurd ((wy_tired wy).mp c1) hw) fun c1 => ?_
    walk_at "w"
    refine w_ixT hv1 rfl ?_
    walk_at "w"
    refine ⟨P, _, d, m, _, b, bx1, w1, _, _, _, rfl, ⟨q, qs, rfl, o1.base.seq hq1, hq2.mono o1.base⟩, hp.mono o1.base, o1.lend, h2, hs, fun H2 u2 o2 hu2 => ?_⟩
    have hu3 := hu.overM o1 muts3 o2
    replace o2 := o1.same1 o2
    obtain ⟨c2, rfl, hu2'⟩ := tup_at hu2
    walk_at "w"
    refine w_ixT hu2' rfl ?_
    walk_at "w"
    refine w_ND (fun c3 => ?_) (fun c3 => ?_) <;> rw [wy_on] at c3
    · dsimp only at c3
      subst c3
      cases he2
      walk_at "w"
      exact k _ _ o2 hu3
    · walk_at "w"
      cases wy2 with
      | on => exact absurd rfl c3
      | _ => cases he2; exact k _ _ o2 hu2
theorem p_loop_done (n : Nat) (vs : List V) (H : Hp) (Q : VK) (E : XK) (h : sp_loop K (n + 1) vs H Q E) :
    t_loop_done K (sp_World_taken K) (sp_tree K n) (sp_block K n) { nx := fun _ H' => Q .non H', rt := Q } (L2.start n_loop_done vs) H := by
  obtain ⟨P, H0, d, e, l, v, b, bx, w, r, bx', w', rfl, ⟨x, p, ps, ⟨a, rfl, hv0⟩, hx, hp1, hp2⟩, hp, o, he, hs, k⟩ := h
  have he : loopGo (ev P n) e l (w.turns + 1) bx w = some (r, bx', w') := he
  have G := good_ev P n
  unfold t_loop_done
  walk_at "w"
  refine ⟨fun m σ H' => ∃ c bx1 w1 y, m = c ∧ Own H0 H' [wdC K d w1, sdC d w1, bxC b bx1] ∧ loopGo (ev P n) e l c bx1 w1 = some (r, bx', w') ∧ σ = [some (.ref a), some (.ref b), some (.ref d.a), y], ⟨_, _, bx, w, _, rfl, o, he, rfl⟩, ?_⟩
  rintro m σ H' ⟨c, bx1, w1, y, rfl, o1, he1, rfl⟩
  cases m with
  | zero => cases he1
  | succ c =>
  unfold loopGo at he1
  have hw := o1.ix 0 rfl
  walk_at "w"
  refine ⟨H0, d, w1, _, rfl, o1, fun c0 => ?_, fun c0 H2 o2 => ?_⟩
  · rw [if_pos c0] at he1
    cases he1
    walk_at "w"
    exact fun p h1 => k _ _ (o1.lay h1) new_tup
  · rw [if_neg c0] at he1
    walk_at "w"
    unfold thenT at he1
    cases h1 : (ev P n).tree e bx1 { w1 with turns := w1.turns - 1 } with
    | none => rw [h1] at he1; cases he1
    | some q =>
    obtain ⟨⟨wy, z⟩, w2⟩ := q
    rw [h1] at he1
    have hs1 : w2.said.length < LIM := by
      cases wy with
      | value =>
        dsimp only at he1
        by_cases hz : z = 0
        · rw [if_pos hz] at he1
          cases he1; exact hs
        · rw [if_neg hz] at he1
          cases h2 : (ev P n).block l bx1 w2 with
          | none => rw [h2] at he1; cases he1
          | some x =>
          obtain ⟨⟨wy2, z2⟩, bx2, w3⟩ := x
          rw [h2] at he1
          have l1 := (G.block h2).1.len
          cases wy2 with
          | on => exact Nat.lt_of_le_of_lt (Nat.le_trans l1 (loopGo_good G e l c he1).1.len) hs
          | next => exact Nat.lt_of_le_of_lt (Nat.le_trans l1 (loopGo_good G e l c he1).1.len) hs
          | _ => cases he1; exact Nat.lt_of_le_of_lt l1 hs
      | _ => cases he1; exact hs
    refine ⟨fun σ' H' => ∃ bx1 w1 y, Own H0 H' [wdC K d w1, sdC d w1, bxC b bx1] ∧ loopGo (ev P n) e l c bx1 w1 = some (r, bx', w') ∧ σ' = [some (.ref a), some (.ref b), some (.ref d.a), y], ?_, ?_⟩
    · rintro σ' H' ⟨bx1, w1, y, h1, h2, h3⟩
      exact ⟨c, Nat.lt_succ_self _, c, bx1, w1, y, rfl, h1, h2, h3⟩
    walk_at "w"
    refine w_ixT (same_tup o2.same hv0) rfl ?_
    walk_at "w"
    refine ⟨P, _, d, e, x, b, bx1, _, _, _, rfl, hx.mono o2.base, hp.mono o2.base, o2.lend, h1, hs1, fun H3 u o3 hu => ?_⟩
    replace o3 := o2.same1 o3
    obtain ⟨c1, rfl, hu'⟩ := tup_at hu
    walk_at "w"
    refine w_ixT hu' rfl ?_
    walk_at "w"
    refine w_ND (fun c2 => ?_) (fun c2 => ?_) <;> rw [wy_value] at c2
    · dsimp only at c2
      subst c2
      dsimp only at he1
      walk_at "w"
      refine w_ixT hu' rfl ?_
      walk_at "w"
      refine w_D (fun c3 => ?_) (fun c3 => ?_) <;> dsimp only at c3
      · rw [if_pos c3] at he1
        cases he1
        walk_at "w"
        exact fun p h1 => k _ _ (o3.lay h1) new_tup
      · rw [if_neg c3] at he1
        cases h2 : (ev P n).block l bx1 w2 with
        | none => rw [h2] at he1; cases he1
        | some q =>
        obtain ⟨⟨wy2, z2⟩, bx2, w3⟩ := q
        rw [h2] at he1
        have hs2 : w3.said.length < LIM := by
          cases wy2 with
          | on => exact Nat.lt_of_le_of_lt (loopGo_good G e l c he1).1.len hs
          | next => exact Nat.lt_of_le_of_lt (loopGo_good G e l c he1).1.len hs
          | _ => cases he1; exact hs
        walk_at "w"
        refine w_ixT (same_tup o3.same hv0) rfl ?_
        walk_at "w"
        refine ⟨P, _, d, l, _, b, bx1, w2, _, _, _, rfl, ⟨p, ps, rfl, o3.base.seq hp1, hp2.mono o3.base⟩, hp.mono o3.base, o3.lend, h2, hs2, fun H4 u2 o4 hu2 => ?_⟩
        replace o4 := o3.same1 o4
        obtain ⟨c4, rfl, hu2'⟩ := tup_at hu2
        walk_at "w"
        refine w_ixT hu2' rfl ?_
        walk_at "w"
        refine w_D (fun c5 => ?_) (fun c5 => ?_) <;> rw [wy_leave] at c5
        · dsimp only at c5
          subst c5
          cases he1
          walk_at "w"
          exact fun p h1 => k _ _ (o4.lay h1) new_tup
        · walk_at "w"
          refine w_ixT hu2' rfl ?_
          walk_at "w"
          refine w_ND (fun c6 => ?_) (fun c6 => ?_) <;> rw [wy_on] at c6
          · dsimp only at c6
            subst c6
            walk_at "w"
            exact ⟨bx2, w3, _, o4, he1, rfl⟩
          · walk_at "w"
            refine w_ixT hu2' rfl ?_
            walk_at "w"
            refine w_ND (fun c7 => ?_) (fun c7 => ?_) <;> rw [wy_next] at c7
            · dsimp only at c7
              subst c7
              walk_at "w"
              exact ⟨bx2, w3, _, o4, he1, rfl⟩
            · walk_at "w"
              cases wy2 with
              | leave => exact absurd rfl c5
              | on => exact absurd rfl c6
              | next => exact absurd rfl c7
              | _ => cases he1; exact k _ _ o4 hu2
    · walk_at "w"
      cases wy with
      | value => exact absurd rfl c2
      | _ => cases he1; exact k _ _ o3 hu
end
end U

set_option maxHeartbeats 4000000
namespace U
open PySem PySem.Spec PyProof.Rows L2 Un
local macro_rules | `(tactic| walk_at "w1") => `(tactic| first
  | with_reducible refine w_seq ?_
  | with_reducible refine w_asg ?_
  | with_reducible refine w_op ?_
  | ((with_reducible refine' w_var ?h1 ?_); (case h1 => rfl))
  | with_reducible refine w_c ?_
  | with_reducible refine w_name ?_
  | with_reducible refine w_tFd ?_
  | ((with_reducible refine' w_fld ?h1 ?h2 ?_); (case h1 => assumption); (case h2 => rfl))
  | with_reducible refine w_if ?_
  | with_reducible refine w_test ?_
  | with_reducible refine w_eqS ?_
  | with_reducible refine w_eqI ?_
  | with_reducible refine w_neS ?_
  | with_reducible refine w_neI ?_
  | with_reducible refine w_isN ?_
  | with_reducible refine w_isnN ?_
  | with_reducible refine w_bl ?_
  | with_reducible refine w_ret ?_
  | with_reducible refine w_drop ?_
  | with_reducible refine w_next ?_
  | with_reducible refine w_cons ?_
  | with_reducible refine w_nil ?_
  | with_reducible refine w_call ?_
  | with_reducible refine w_cb ?_
  | with_reducible refine w_meth ?_
  | ((with_reducible refine' w_recv ?h1 ?h2 ?_); (case h1 => assumption); (case h2 => rfl))
  | with_reducible refine w_sFd ?_
  | ((with_reducible refine' w_put ?h1 ?h2 ?_); (case h1 => assumption); (case h2 => exact Nat.le_of_ble_eq_true rfl))
  | with_reducible refine w_add ?_
  | with_reducible refine w_sub ?_
  | with_reducible refine w_lt ?_
  | with_reducible refine w_le ?_
  | with_reducible refine w_gt ?_
  | with_reducible refine w_ge ?_
  | with_reducible refine w_bm ?_
  | with_reducible refine w_bm0 ?_
  | ((with_reducible refine' w_ty ?h1 ?_); (case h1 => assumption))
  | with_reducible refine w_tup ?_
  | with_reducible refine w_lst ?_
  | ((with_reducible refine' w_new ?h1 ?_); (case h1 => exact Nat.le_of_ble_eq_true rfl))
  | with_reducible refine w_gsub ?_
  | with_reducible refine w_make ?_
  | with_reducible refine w_lc ?_
  | with_reducible refine w_iList ?_
  | with_reducible refine w_for ?_
  | with_reducible refine w_yes ?_
  | with_reducible refine w_tSl ?_
  | with_reducible refine w_part ?_
  | with_reducible refine w_nopart ?_
  | with_reducible refine w_i ?_
  | with_reducible refine w_rng1 ?_
  | with_reducible refine w_rng2 ?_
  | with_reducible refine w_isiII ?_
  | with_reducible refine w_isiIB ?_
  | with_reducible refine w_isiSS ?_
  | ((with_reducible refine w_mod ?h1 ?_); (case h1 => decide))
  | ((with_reducible refine w_fdC' ?h1 ?h2 ?_); (case h1 => decide); (case h2 => decide))
  | ((with_reducible refine w_mulR ?h1 ?h2 ?_); (case h1 => decide); (case h2 => decide))
  | ((with_reducible refine w_mulL ?h1 ?h2 ?_); (case h1 => decide); (case h2 => decide))
  | ((with_reducible refine w_pow' ?h1 ?h2 ?h3 ?_); (case h1 => decide); (case h2 => decide); (case h3 => decide))
  | with_reducible refine w_andV ?_
  | with_reducible refine w_orV ?_
  | with_reducible refine w_notV ?_
  | with_reducible refine w_B ?_
  | with_reducible refine w_not ?_
  | with_reducible refine w_and ?_
  | with_reducible refine w_or ?_
  | with_reducible refine w_ifx ?_
  | with_reducible refine w_un ?_
  | ((with_reducible refine w_T ?h1 ?_); (case h1 => with_reducible rfl))
  | ((with_reducible refine w_F ?h1 ?_); (case h1 => with_reducible rfl))
  | ((with_reducible refine w_T ?h1 ?_); (case h1 => decide +kernel))
  | ((with_reducible refine w_F ?h1 ?_); (case h1 => decide +kernel)))
local macro_rules | `(tactic| walk_at "w") => `(tactic| repeat walk_at "w1")

section
variable {K : PySem.W.Frag} {P : List (List Sm)}
theorem thenT_len {n : Nat} {e : Un.Tree} {bx : List Int} {w : Wd} {kf : Int → Wd → Option (Res × List Int × Wd)} {r : Res} {bx' : List Int} {w' : Wd} (h : thenT (ev P n) e bx w kf = some (r, bx', w'))
    (hk : ∀ v w1, kf v w1 = some (r, bx', w') → Le w1 w') : ∃ q w1, (ev P n).tree e bx w = some (q, w1) ∧ w1.said.length ≤ w'.said.length ∧ (q.1 = .value → kf q.2 w1 = some (r, bx', w')) ∧ (q.1 ≠ .value → q = r ∧ bx' = bx ∧ w' = w1) := by
  unfold thenT at h
  cases h1 : (ev P n).tree e bx w with
  | none => rw [h1] at h; cases h
  | some x =>
  obtain ⟨⟨wy, z⟩, w1⟩ := x
  rw [h1] at h
  refine ⟨_, _, rfl, ?_⟩
  cases wy with
  | value => exact ⟨(hk _ _ h).len, fun _ => h, fun c => absurd rfl c⟩
  | _ =>
    cases h
    exact ⟨Nat.le_refl _, fun c => Wy.noConfusion c, fun _ => ⟨rfl, rfl, rfl⟩⟩
/-- the tail of a statement that begins with a tree -/
theorem p_row_done (n : Nat) (vs : List V) (H : Hp) (Q : VK) (E : XK) (h : sp_row K (n + 1) vs H Q E) :
    t_row_done K (sp_loop K n) (sp_ctch K n) (sp_endd K n) (sp_tree K n) (sp_block K n) { nx := fun _ H' => Q .non H', rt := Q } (L2.start n_row_done vs) H := by
  obtain ⟨P, H0, d, s, v, b, bx, w, r, bx', w', rfl, hat, hp, o, he, hs, k⟩ := h
  have he : rowS (ev P n) s bx w = some (r, bx', w') := he
  have G := good_ev P n
  unfold rowS at he
  unfold t_row_done
  cases s with
  | leave =>
    obtain ⟨a, rfl, hv0⟩ := hat
    have hv := same_tup o.same hv0
    cases he
    walk_at "w"
    refine w_ixT hv rfl ?_
    walk_at "w"
    exact fun p h1 => k _ _ (o.lay h1) new_tup
  | next =>
    obtain ⟨a, rfl, hv0⟩ := hat
    have hv := same_tup o.same hv0
    cases he
    walk_at "w"
    refine w_ixT hv rfl ?_
    walk_at "w"
    exact fun p h1 => k _ _ (o.lay h1) new_tup
  | loop e l =>
    have hat' := hat
    obtain ⟨x, p, ps, ⟨a, rfl, hv0⟩, _⟩ := hat
    have hv := same_tup o.same hv0
    walk_at "w"
    refine w_ixT hv rfl ?_
    walk_at "w"
    exact ⟨P, H0, d, e, l, _, b, bx, w, r, bx', w', rfl, hat', hp, o, he, hs, k⟩
  | ctch l m kk hh =>
    have hat' := hat
    obtain ⟨p, q, ps, qs, ⟨a, rfl, hv0⟩, _⟩ := hat
    have hv := same_tup o.same hv0
    walk_at "w"
    refine w_ixT hv rfl ?_
    walk_at "w"
    exact ⟨P, H0, d, l, m, kk, hh, _, b, bx, w, r, bx', w', rfl, hat', hp, o, he, hs, k⟩
  | endd l m =>
    have hat' := hat
    obtain ⟨p, q, ps, qs, ⟨a, rfl, hv0⟩, _⟩ := hat
    have hv := same_tup o.same hv0
    walk_at "w"
    refine w_ixT hv rfl ?_
    walk_at "w"
    exact ⟨P, H0, d, l, m, _, b, bx, w, r, bx', w', rfl, hat', hp, o, he, hs, k⟩
  | ife e l m =>
    obtain ⟨x, p, q, ps, qs, ⟨a, rfl, hv0⟩, hx, hp1, hp2, hq1, hq2⟩ := hat
    have hv := same_tup o.same hv0
    obtain ⟨⟨wy, z⟩, w1, h1, hl, hy, hn⟩ := thenT_len he fun v w1 hk => (G.block hk).1
    walk_at "w"
    refine w_ixT hv rfl ?_
    walk_at "w"
    refine w_ixT hv rfl ?_
    walk_at "w"
    refine ⟨P, _, d, e, x, b, bx, w, _, _, rfl, hx.mono o.base, hp.mono o.base, o.lend, h1, Nat.lt_of_le_of_lt hl hs, fun H1 u o1 hu => ?_⟩
    replace o1 := o.same1 o1
    obtain ⟨c, rfl, hu'⟩ := tup_at hu
    walk_at "w"
    refine w_ixT hu' rfl ?_
    walk_at "w"
    refine w_ND (fun c1 => ?_) (fun c1 => ?_) <;> rw [wy_value] at c1
    · replace hy := hy c1
      dsimp only at c1 hy
      subst c1
      have hv1 := same_tup o1.same hv0
      walk_at "w"
      refine w_ixT hu' rfl ?_
      walk_at "w"
      refine w_D (fun c2 => ?_) (fun c2 => ?_) <;> dsimp only at c2
      · rw [if_pos c2] at hy
        walk_at "w"
        refine w_ixT hv1 rfl ?_
        walk_at "w"
        exact ⟨P, H0, d, m, _, b, bx, w1, r, bx', w', rfl, ⟨q, qs, rfl, hq1, hq2⟩, hp, o1, hy, hs, k⟩
      · rw [if_neg c2] at hy
        walk_at "w"
        refine w_ixT hv1 rfl ?_
        walk_at "w"
        exact ⟨P, H0, d, l, _, b, bx, w1, r, bx', w', rfl, ⟨p, ps, rfl, hp1, hp2⟩, hp, o1, hy, hs, k⟩
    · obtain ⟨rfl, rfl, rfl⟩ := hn c1
      walk_at "w"
      exact k _ _ o1 hu
  | give e =>
    obtain ⟨x, ⟨a, rfl, hv0⟩, hx⟩ := hat
    have hv := same_tup o.same hv0
    obtain ⟨⟨wy, z⟩, w1, h1, hl, hy, hn⟩ := thenT_len he fun v w1 hk => by cases hk; exact Le.refl _
    walk_at "w"
    refine w_ixT hv rfl ?_
    walk_at "w"
    refine w_ixT hv rfl ?_
    walk_at "w"
    refine ⟨P, _, d, e, x, b, bx, w, _, _, rfl, hx.mono o.base, hp.mono o.base, o.lend, h1, Nat.lt_of_le_of_lt hl hs, fun H1 u o1 hu => ?_⟩
    replace o1 := o.same1 o1
    obtain ⟨c, rfl, hu'⟩ := tup_at hu
    walk_at "w"
    refine w_ixT hu' rfl ?_
    walk_at "w"
    refine w_ND (fun c1 => ?_) (fun c1 => ?_) <;> rw [wy_value] at c1
    · replace hy := hy c1
      cases hy
      walk_at "w"
      refine w_ixT hu' rfl ?_
      walk_at "w"
      exact fun p h1 => k _ _ (o1.lay h1) new_tup
    · obtain ⟨rfl, rfl, rfl⟩ := hn c1
      walk_at "w"
      exact k _ _ o1 hu
  | raise e =>
    obtain ⟨x, ⟨a, rfl, hv0⟩, hx⟩ := hat
    have hv := same_tup o.same hv0
    obtain ⟨⟨wy, z⟩, w1, h1, hl, hy, hn⟩ := thenT_len he fun v w1 hk => by cases hk; exact Le.refl _
    walk_at "w"
    refine w_ixT hv rfl ?_
    walk_at "w"
    refine w_ixT hv rfl ?_
    walk_at "w"
    refine ⟨P, _, d, e, x, b, bx, w, _, _, rfl, hx.mono o.base, hp.mono o.base, o.lend, h1, Nat.lt_of_le_of_lt hl hs, fun H1 u o1 hu => ?_⟩
    replace o1 := o.same1 o1
    obtain ⟨c, rfl, hu'⟩ := tup_at hu
    walk_at "w"
    refine w_ixT hu' rfl ?_
    walk_at "w"
    refine w_ND (fun c1 => ?_) (fun c1 => ?_) <;> rw [wy_value] at c1
    · replace hy := hy c1
      cases hy
      walk_at "w"
      refine w_ixT hu' rfl ?_
      walk_at "w"
      exact fun p h1 => k _ _ (o1.lay h1) new_tup
    · obtain ⟨rfl, rfl, rfl⟩ := hn c1
      walk_at "w"
      exact k _ _ o1 hu
  | set kk e =>
    obtain ⟨x, ⟨a, rfl, hv0⟩, hx⟩ := hat
    have hv := same_tup o.same hv0
    obtain ⟨⟨wy, z⟩, w1, h1, hl, hy, hn⟩ := thenT_len he fun v w1 hk => by
      split at hk
      · cases hk; exact Le.refl _
      · cases hk
    walk_at "w"
    refine w_ixT hv rfl ?_
    walk_at "w"
    refine w_ixT hv rfl ?_
    walk_at "w"
    refine ⟨P, _, d, e, x, b, bx, w, _, _, rfl, hx.mono o.base, hp.mono o.base, o.lend, h1, Nat.lt_of_le_of_lt hl hs, fun H1 u o1 hu => ?_⟩
    replace o1 := o.same1 o1
    obtain ⟨c, rfl, hu'⟩ := tup_at hu
    walk_at "w"
    refine w_ixT hu' rfl ?_
    walk_at "w"
    refine w_ND (fun c1 => ?_) (fun c1 => ?_) <;> rw [wy_value] at c1
    · replace hy := hy c1
      have hv1 := same_tup o1.same hv0
      split at hy
      · rename_i hk
        cases hy
        have hb := o1.ix 2 rfl
        have o2 := o1.set 2 (.lst ((bx.map V.int).set kk.toNat (.int z))) rfl
        walk_at "w"
        refine w_ixT hu' rfl ?_
        walk_at "w"
        refine w_ixT hv1 rfl ?_
        refine w_setL hb hk.1 (by rw [List.length_map]; exact hk.2) ?_
        walk_at "w"
        rw [← List.map_set] at o2 ⊢
        exact fun p h1 => k _ _ (o2.lay h1) new_tup
      · cases hy
    · obtain ⟨rfl, rfl, rfl⟩ := hn c1
      walk_at "w"
      exact k _ _ o1 hu
  | say e =>
    obtain ⟨x, ⟨a, rfl, hv0⟩, hx⟩ := hat
    have hv := same_tup o.same hv0
    obtain ⟨⟨wy, z⟩, w1, h1, hl, hy, hn⟩ := thenT_len he fun v w1 hk => by
      cases hk
      exact ⟨List.prefix_append _ _, Nat.le_refl _, rfl⟩
    walk_at "w"
    refine w_ixT hv rfl ?_
    walk_at "w"
    refine w_ixT hv rfl ?_
    walk_at "w"
    refine ⟨P, _, d, e, x, b, bx, w, _, _, rfl, hx.mono o.base, hp.mono o.base, o.lend, h1, Nat.lt_of_le_of_lt hl hs, fun H1 u o1 hu => ?_⟩
    replace o1 := o.same1 o1
    obtain ⟨c, rfl, hu'⟩ := tup_at hu
    walk_at "w"
    refine w_ixT hu' rfl ?_
    walk_at "w"
    refine w_ND (fun c1 => ?_) (fun c1 => ?_) <;> rw [wy_value] at c1
    · replace hy := hy c1
      cases hy
      have hw := o1.ix 0 rfl
      have hsd := o1.ix 1 rfl
      have o2 := o1.set 1 (.lst (w1.said.map V.int ++ [.int z])) rfl
      walk_at "w"
      refine w_ixT hu' rfl ?_
      walk_at "w"
      refine w_app hsd (by rw [List.length_map]; exact Nat.lt_of_le_of_lt hl (lim_lt hs)) ?_
      walk_at "w"
      have e1 : w1.said.map V.int ++ [V.int z] = (w1.said ++ [z]).map V.int := by simp
      rw [e1] at o2 ⊢
      exact fun p h1 => k _ _ (o2.lay h1) new_tup
    · obtain ⟨rfl, rfl, rfl⟩ := hn c1
      walk_at "w"
      exact k _ _ o1 hu
end
end U

set_option maxHeartbeats 4000000
namespace U
open PySem PySem.Spec PyProof.Rows L2 Un
local macro_rules | `(tactic| walk_at "w1") => `(tactic| first
  | with_reducible refine w_seq ?_
  | with_reducible refine w_asg ?_
  | with_reducible refine w_op ?_
  | ((with_reducible refine' w_var ?h1 ?_); (case h1 => rfl))
  | with_reducible refine w_c ?_
  | with_reducible refine w_name ?_
  | with_reducible refine w_tFd ?_
  | ((with_reducible refine' w_fld ?h1 ?h2 ?_); (case h1 => assumption); (case h2 => rfl))
  | with_reducible refine w_if ?_
  | with_reducible refine w_test ?_
  | with_reducible refine w_eqS ?_
  | with_reducible refine w_eqI ?_
  | with_reducible refine w_neS ?_
  | with_reducible refine w_neI ?_
  | with_reducible refine w_isN ?_
  | with_reducible refine w_isnN ?_
  | with_reducible refine w_bl ?_
  | with_reducible refine w_ret ?_
  | with_reducible refine w_drop ?_
  | with_reducible refine w_next ?_
  | with_reducible refine w_cons ?_
  | with_reducible refine w_nil ?_
  | with_reducible refine w_call ?_
  | with_reducible refine w_cb ?_
  | with_reducible refine w_meth ?_
  | ((with_reducible refine' w_recv ?h1 ?h2 ?_); (case h1 => assumption); (case h2 => rfl))
  | with_reducible refine w_sFd ?_
  | ((with_reducible refine' w_put ?h1 ?h2 ?_); (case h1 => assumption); (case h2 => exact Nat.le_of_ble_eq_true rfl))
  | with_reducible refine w_add ?_
  | with_reducible refine w_sub ?_
  | with_reducible refine w_lt ?_
  | with_reducible refine w_le ?_
  | with_reducible refine w_gt ?_
  | with_reducible refine w_ge ?_
  | with_reducible refine w_bm ?_
  | with_reducible refine w_bm0 ?_
  | ((with_reducible refine' w_ty ?h1 ?_); (case h1 => assumption))
  | with_reducible refine w_tup ?_
  | with_reducible refine w_lst ?_
  | ((with_reducible refine' w_new ?h1 ?_); (case h1 => exact Nat.le_of_ble_eq_true rfl))
  | with_reducible refine w_gsub ?_
  | with_reducible refine w_make ?_
  | with_reducible refine w_lc ?_
  | with_reducible refine w_iList ?_
  | with_reducible refine w_for ?_
  | with_reducible refine w_yes ?_
  | with_reducible refine w_tSl ?_
  | with_reducible refine w_part ?_
  | with_reducible refine w_nopart ?_
  | with_reducible refine w_i ?_
  | with_reducible refine w_rng1 ?_
  | with_reducible refine w_rng2 ?_
  | with_reducible refine w_isiII ?_
  | with_reducible refine w_isiIB ?_
  | with_reducible refine w_isiSS ?_
  | ((with_reducible refine w_mod ?h1 ?_); (case h1 => decide))
  | ((with_reducible refine w_fdC' ?h1 ?h2 ?_); (case h1 => decide); (case h2 => decide))
  | ((with_reducible refine w_mulR ?h1 ?h2 ?_); (case h1 => decide); (case h2 => decide))
  | ((with_reducible refine w_mulL ?h1 ?h2 ?_); (case h1 => decide); (case h2 => decide))
  | ((with_reducible refine w_pow' ?h1 ?h2 ?h3 ?_); (case h1 => decide); (case h2 => decide); (case h3 => decide))
  | with_reducible refine w_andV ?_
  | with_reducible refine w_orV ?_
  | with_reducible refine w_notV ?_
  | with_reducible refine w_B ?_
  | with_reducible refine w_not ?_
  | with_reducible refine w_and ?_
  | with_reducible refine w_or ?_
  | with_reducible refine w_ifx ?_
  | with_reducible refine w_un ?_
  | ((with_reducible refine w_T ?h1 ?_); (case h1 => with_reducible rfl))
  | ((with_reducible refine w_F ?h1 ?_); (case h1 => with_reducible rfl))
  | ((with_reducible refine w_T ?h1 ?_); (case h1 => decide +kernel))
  | ((with_reducible refine w_F ?h1 ?_); (case h1 => decide +kernel)))
local macro_rules | `(tactic| walk_at "w") => `(tactic| repeat walk_at "w1")

/-! ### programs that are not refused -/
section
variable {K : PySem.W.Frag}
def sp_check_box (K : PySem.W.Frag) : Sp := fun vs H Q _ => ∃ k, vs = [.int k] ∧ 0 ≤ k ∧ k < 4 ∧ Q .non H
theorem p_check_box (vs : List V) (H : Hp) (Q : VK) (E : XK) (h : sp_check_box K vs H Q E) : t_check_box K { nx := fun _ H' => Q .non H', rt := Q } (L2.start n_check_box vs) H := by
  obtain ⟨k, rfl, h0, h1, q⟩ := h
  unfold t_check_box
  walk_at "w"
  refine w_D (fun c => absurd c (by omega)) fun _ => ?_
  walk_at "w"
  refine w_D (fun c => absurd c (by omega)) fun _ => ?_
  walk_at "w"
  exact q
def sp_check_tree (K : PySem.W.Frag) : Nat → Sp
  | 0 => fun _ _ _ _ => False
  | n + 1 => fun vs H Q _ => ∃ t v c d, vs = [v, .int (c : Nat), .int d] ∧ TreeAt K H t v ∧ t.ok c n = true ∧ d + n = 7 ∧ Q .non H
theorem p_check_tree (n : Nat) (vs : List V) (H : Hp) (Q : VK) (E : XK) (h : sp_check_tree K (n + 1) vs H Q E) :
    t_check_tree K (sp_check_box K) (sp_check_tree K n) { nx := fun _ H' => Q .non H', rt := Q } (L2.start n_check_tree vs) H := by
  obtain ⟨t, v, c, d, rfl, ht, hk, hd, q⟩ := h
  cases n with
  | zero => cases t <;> cases hk
  | succ n =>
  unfold t_check_tree
  walk_at "w"
  refine w_D (fun c => absurd c (by omega)) fun _ => ?_
  cases t with
  | num m =>
    obtain ⟨a, rfl, hv⟩ := ht
    walk_at "w"
    refine w_ixT hv rfl ?_
    walk_at "w"
    refine w_ixT hv rfl ?_
    walk_at "w"
    refine w_ixT hv rfl ?_
    walk_at "w"
    exact q
  | box m =>
    obtain ⟨a, rfl, hv⟩ := ht
    have hk := of_decide_eq_true hk
    walk_at "w"
    refine w_ixT hv rfl ?_
    walk_at "w"
    refine w_ixT hv rfl ?_
    walk_at "w"
    exact ⟨m, rfl, hk.1, hk.2, q⟩
  | call f t =>
    obtain ⟨x, ⟨a, rfl, hv⟩, hx⟩ := ht
    have hk : (decide (0 ≤ f ∧ f < c) && t.ok c n) = true := hk
    rw [Bool.and_eq_true] at hk
    obtain ⟨hk1, hk2⟩ := hk
    have hk1 := of_decide_eq_true hk1
    walk_at "w"
    refine w_ixT hv rfl ?_
    walk_at "w"
    refine w_ixT hv rfl ?_
    walk_at "w"
    refine w_ixT hv rfl ?_
    walk_at "w"
    refine w_D (fun c => absurd c (by omega)) fun _ => ?_
    refine w_op ?_
    walk_at "w"
    refine w_ixT hv rfl ?_
    walk_at "w"
    refine w_D (fun c => absurd c (by omega)) fun _ => ?_
    walk_at "w"
    refine w_ixT hv rfl ?_
    walk_at "w"
    exact ⟨t, x, c, d + 1, rfl, hx, hk2, by omega, q⟩
  | bin op s t =>
    obtain ⟨x, y, ⟨a, rfl, hv⟩, hx, hy⟩ := ht
    have hk : (s.ok c n && t.ok c n) = true := hk
    rw [Bool.and_eq_true] at hk
    walk_at "w"
    refine w_ixT hv rfl ?_
    walk_at "w"
    refine w_F (by cases op <;> decide) ?_
    walk_at "w"
    refine w_ixT hv rfl ?_
    walk_at "w"
    refine w_F (by cases op <;> decide) ?_
    walk_at "w"
    refine w_ixT hv rfl ?_
    walk_at "w"
    refine w_T (by cases op <;> decide) ?_
    walk_at "w"
    refine w_ixT hv rfl ?_
    walk_at "w"
    refine ⟨s, x, c, d + 1, rfl, hx, hk.1, by omega, ?_⟩
    walk_at "w"
    refine w_ixT hv rfl ?_
    walk_at "w"
    exact ⟨t, y, c, d + 1, rfl, hy, hk.2, by omega, q⟩
def sp_check_block (K : PySem.W.Frag) : Nat → Sp
  | 0 => fun _ _ _ _ => False
  | n + 1 => fun vs H Q _ => ∃ b v c l d, vs = [v, .int (c : Nat), .int l, .int d] ∧ BlAt K H b v ∧ oks c (decide (0 < l)) n b = true ∧ d + n = 8 ∧ 0 ≤ l ∧ Q .non H
def sp_check_row (K : PySem.W.Frag) (n : Nat) : Sp := fun vs H Q _ => ∃ s v c l d, vs = [v, .int (c : Nat), .int l, .int d] ∧ SmAt K H s v ∧ s.ok c (decide (0 < l)) n = true ∧ d + n = 8 ∧ 0 ≤ l ∧ Q .non H
theorem oks_cons {c : Nat} {l : Bool} {n : Nat} {s : Sm} {b : List Sm} : oks c l n (s :: b) = (s.ok c l n && oks c l n b) := by rw [oks]
theorem smsAt_len {H : Hp} : ∀ {l : List Sm} {ps : List V}, SmsAt K H l ps → ps.length = l.length := by
  intro l
  induction l with
  | nil => intro ps h; rw [show ps = [] from h]; rfl
  | cons s l ih =>
    intro ps h
    obtain ⟨v, vr, rfl, _, h2⟩ := h
    simp [ih h2]
theorem smsAt_get {H : Hp} : ∀ {l : List Sm} {ps : List V}, SmsAt K H l ps → ∀ {i : Nat} {v : V}, ps[i]? = some v → ∃ s, l[i]? = some s ∧ SmAt K H s v := by
  intro l
  induction l with
  | nil => intro ps h; rw [show ps = [] from h]; intro i v e; simp at e
  | cons s l ih =>
    intro ps h i v e
    obtain ⟨v', vr, rfl, h1, h2⟩ := h
    cases i with
    | zero =>
      simp at e
      exact ⟨s, rfl, e ▸ h1⟩
    | succ i =>
      obtain ⟨s', g1, g2⟩ := ih h2 (i := i) (v := v) (by simpa using e)
      exact ⟨s', by simpa using g1, g2⟩
theorem oks_get {c : Nat} {l : Bool} {n : Nat} : ∀ {b : List Sm}, oks c l n b = true → ∀ {i : Nat} {s : Sm}, b[i]? = some s → s.ok c l n = true := by
  intro b
  induction b with
  | nil => intro _ i s e; simp at e
  | cons t b ih =>
    intro h i s e
    rw [oks_cons, Bool.and_eq_true] at h
    cases i with
    | zero =>
      simp at e
      exact e ▸ h.1
    | succ i => exact ih h.2 (i := i) (by simpa using e)
theorem p_check_block (n : Nat) (vs : List V) (H : Hp) (Q : VK) (E : XK) (h : sp_check_block K (n + 1) vs H Q E) :
    t_check_block K (sp_check_row K n) { nx := fun _ H' => Q .non H', rt := Q } (L2.start n_check_block vs) H := by
  obtain ⟨b, v, c, l, d, rfl, ⟨p, ps, rfl, hp1, hp2⟩, hk, hd, hl, q⟩ := h
  unfold t_check_block
  walk_at "w"
  refine w_D (fun c => absurd c (by omega)) fun _ => ?_
  walk_at "w"
  refine w_refL hp1 ?_
  refine for_list (xs := ps) (fun i σ H' => H' = H ∧ ∃ x, σ = [some (.ref p), some (.int c), some (.int l), some (.int d), x]) ⟨rfl, _, rfl⟩ (fun i σ H' _ h => h.1 ▸ hp1) ?_ ?_
  · rintro i x σ H' hx ⟨rfl, y, rfl⟩
    obtain ⟨s, h1, h2⟩ := smsAt_get hp2 hx
    walk_at "w"
    exact ⟨s, x, c, l, d, rfl, h2, oks_get hk h1, hd, hl, rfl, _, rfl⟩
  · rintro σ H' ⟨rfl, y, rfl⟩
    exact q
theorem p_check_row (n : Nat) (vs : List V) (H : Hp) (Q : VK) (E : XK) (h : sp_check_row K n vs H Q E) :
    t_check_row K (sp_check_box K) (sp_check_tree K 7) (sp_check_block K n) { nx := fun _ H' => Q .non H', rt := Q } (L2.start n_check_row vs) H := by
  obtain ⟨s, v, c, l, d, rfl, hat, hk, hd, hl, q⟩ := h
  unfold t_check_row
  cases s with
  | leave =>
    obtain ⟨a, rfl, hv⟩ := hat
    have hk : decide (0 < l) = true := by cases n <;> exact hk
    have hk := of_decide_eq_true hk
    walk_at "w"
    refine w_ixT hv rfl ?_
    walk_at "w"
    refine w_D (fun c => absurd c (by omega)) fun _ => ?_
    walk_at "w"
    exact q
  | next =>
    obtain ⟨a, rfl, hv⟩ := hat
    have hk : decide (0 < l) = true := by cases n <;> exact hk
    have hk := of_decide_eq_true hk
    walk_at "w"
    refine w_ixT hv rfl ?_
    walk_at "w"
    refine w_D (fun c => absurd c (by omega)) fun _ => ?_
    walk_at "w"
    exact q
  | set k e =>
    obtain ⟨x, ⟨a, rfl, hv⟩, hx⟩ := hat
    have hk : (decide (0 ≤ k ∧ k < 4) && e.ok c 6) = true := by cases n <;> exact hk
    rw [Bool.and_eq_true] at hk
    have hk1 := of_decide_eq_true hk.1
    walk_at "w"
    refine w_ixT hv rfl ?_
    walk_at "w"
    refine w_ixT hv rfl ?_
    walk_at "w"
    refine ⟨k, rfl, hk1.1, hk1.2, ?_⟩
    walk_at "w"
    refine w_ixT hv rfl ?_
    walk_at "w"
    exact ⟨e, x, c, 1, rfl, hx, hk.2, rfl, q⟩
  | say e =>
    obtain ⟨x, ⟨a, rfl, hv⟩, hx⟩ := hat
    have hk : e.ok c 6 = true := by cases n <;> exact hk
    walk_at "w"
    refine w_ixT hv rfl ?_
    walk_at "w"
    refine w_ixT hv rfl ?_
    walk_at "w"
    exact ⟨e, x, c, 1, rfl, hx, hk, rfl, q⟩
  | give e =>
    obtain ⟨x, ⟨a, rfl, hv⟩, hx⟩ := hat
    have hk : e.ok c 6 = true := by cases n <;> exact hk
    walk_at "w"
    refine w_ixT hv rfl ?_
    walk_at "w"
    refine w_ixT hv rfl ?_
    walk_at "w"
    exact ⟨e, x, c, 1, rfl, hx, hk, rfl, q⟩
  | raise e =>
    obtain ⟨x, ⟨a, rfl, hv⟩, hx⟩ := hat
    have hk : e.ok c 6 = true := by cases n <;> exact hk
    walk_at "w"
    refine w_ixT hv rfl ?_
    walk_at "w"
    refine w_ixT hv rfl ?_
    walk_at "w"
    exact ⟨e, x, c, 1, rfl, hx, hk, rfl, q⟩
  | ife e l1 l2 =>
    obtain ⟨x, p, r, ps, rs, ⟨a, rfl, hv⟩, hx, hp1, hp2, hq1, hq2⟩ := hat
    cases n with
    | zero => cases hk
    | succ n =>
    have hk : (e.ok c 6 && (oks c (decide (0 < l)) n l1 && oks c (decide (0 < l)) n l2)) = true := hk
    rw [Bool.and_eq_true, Bool.and_eq_true] at hk
    walk_at "w"
    refine w_ixT hv rfl ?_
    walk_at "w"
    refine w_ixT hv rfl ?_
    walk_at "w"
    refine ⟨e, x, c, 1, rfl, hx, hk.1, rfl, ?_⟩
    walk_at "w"
    refine w_ixT hv rfl ?_
    walk_at "w"
    refine ⟨l1, _, c, l, d + 1, rfl, ⟨p, ps, rfl, hp1, hp2⟩, hk.2.1, by omega, hl, ?_⟩
    walk_at "w"
    refine w_ixT hv rfl ?_
    walk_at "w"
    exact ⟨l2, _, c, l, d + 1, rfl, ⟨r, rs, rfl, hq1, hq2⟩, hk.2.2, by omega, hl, q⟩
  | loop e l1 =>
    obtain ⟨x, p, ps, ⟨a, rfl, hv⟩, hx, hp1, hp2⟩ := hat
    cases n with
    | zero => cases hk
    | succ n =>
    have hk : (e.ok c 6 && oks c true n l1) = true := hk
    rw [Bool.and_eq_true] at hk
    walk_at "w"
    refine w_ixT hv rfl ?_
    walk_at "w"
    refine w_ixT hv rfl ?_
    walk_at "w"
    refine ⟨e, x, c, 1, rfl, hx, hk.1, rfl, ?_⟩
    walk_at "w"
    refine w_ixT hv rfl ?_
    walk_at "w"
    refine ⟨l1, _, c, l + 1, d + 1, rfl, ⟨p, ps, rfl, hp1, hp2⟩, ?_, by omega, by omega, q⟩
    rw [decide_eq_true (by omega : 0 < l + 1)]
    exact hk.2
  | ctch l1 m k l2 =>
    obtain ⟨p, r, ps, rs, ⟨a, rfl, hv⟩, hp1, hp2, hq1, hq2⟩ := hat
    cases n with
    | zero => cases hk
    | succ n =>
    have hk : (oks c (decide (0 < l)) n l1 && (decide (0 ≤ k ∧ k < 4) && oks c (decide (0 < l)) n l2)) = true := hk
    rw [Bool.and_eq_true, Bool.and_eq_true] at hk
    have hk1 := of_decide_eq_true hk.2.1
    walk_at "w"
    refine w_ixT hv rfl ?_
    walk_at "w"
    refine w_ixT hv rfl ?_
    walk_at "w"
    refine ⟨l1, _, c, l, d + 1, rfl, ⟨p, ps, rfl, hp1, hp2⟩, hk.1, by omega, hl, ?_⟩
    walk_at "w"
    refine w_ixT hv rfl ?_
    walk_at "w"
    refine ⟨k, rfl, hk1.1, hk1.2, ?_⟩
    walk_at "w"
    refine w_ixT hv rfl ?_
    walk_at "w"
    exact ⟨l2, _, c, l, d + 1, rfl, ⟨r, rs, rfl, hq1, hq2⟩, hk.2.2, by omega, hl, q⟩
  | endd l1 l2 =>
    obtain ⟨p, r, ps, rs, ⟨a, rfl, hv⟩, hp1, hp2, hq1, hq2⟩ := hat
    cases n with
    | zero => cases hk
    | succ n =>
    have hk : (oks c (decide (0 < l)) n l1 && oks c (decide (0 < l)) n l2) = true := hk
    rw [Bool.and_eq_true] at hk
    walk_at "w"
    refine w_ixT hv rfl ?_
    walk_at "w"
    refine w_ixT hv rfl ?_
    walk_at "w"
    refine ⟨l1, _, c, l, d + 1, rfl, ⟨p, ps, rfl, hp1, hp2⟩, hk.1, by omega, hl, ?_⟩
    walk_at "w"
    refine w_ixT hv rfl ?_
    walk_at "w"
    exact ⟨l2, _, c, l, d + 1, rfl, ⟨r, rs, rfl, hq1, hq2⟩, hk.2, by omega, hl, q⟩
def sp_checked (K : PySem.W.Frag) : Sp := fun vs H Q _ => ∃ P p, vs = [.ref p] ∧ ProgAt K H P p ∧ okProg P = true ∧ Q .non H
theorem p_checked (vs : List V) (H : Hp) (Q : VK) (E : XK) (h : sp_checked K vs H Q E) :
    t_checked K (sp_check_block K 8) { nx := fun _ H' => Q .non H', rt := Q } (L2.start n_checked vs) H := by
  obtain ⟨P, p, rfl, ⟨ps, hp1, hp2⟩, hk, q⟩ := h
  unfold okProg at hk
  rw [Bool.and_eq_true] at hk
  have hk1 := of_decide_eq_true hk.1
  have hk2 := List.all_eq_true.mp hk.2
  have hl := hp2.len
  unfold t_checked
  walk_at "w"
  refine w_lenL hp1 ?_
  walk_at "w"
  refine w_D (fun c => absurd c (by omega)) fun _ => ?_
  walk_at "w"
  refine w_refL hp1 ?_
  refine for_list (xs := ps) (fun i σ H' => H' = H ∧ ∃ x, σ = [some (.ref p), x]) ⟨rfl, _, rfl⟩ (fun i σ H' _ h => h.1 ▸ hp1) ?_ ?_
  · rintro i x σ H' hx ⟨rfl, y, rfl⟩
    obtain ⟨b, hb, hd⟩ := hp2.drop i hx
    have hm : b ∈ P := List.mem_of_mem_drop (hd ▸ List.mem_cons_self : b ∈ P.drop i)
    walk_at "w"
    refine w_lenL hp1 ?_
    walk_at "w"
    refine ⟨b, x, P.length, 0, 1, by rw [hl]; rfl, hb, ?_, rfl, Int.le_refl _, rfl, _, rfl⟩
    exact hk2 b hm
  · rintro σ H' ⟨rfl, y, rfl⟩
    exact q
end
end U

set_option maxHeartbeats 4000000
namespace U
open PySem PySem.Spec PyProof.Rows L2 Un
local macro_rules | `(tactic| walk_at "w1") => `(tactic| first
  | with_reducible refine w_seq ?_
  | with_reducible refine w_asg ?_
  | with_reducible refine w_op ?_
  | ((with_reducible refine' w_var ?h1 ?_); (case h1 => rfl))
  | with_reducible refine w_c ?_
  | with_reducible refine w_name ?_
  | with_reducible refine w_tFd ?_
  | ((with_reducible refine' w_fld ?h1 ?h2 ?_); (case h1 => assumption); (case h2 => rfl))
  | with_reducible refine w_if ?_
  | with_reducible refine w_test ?_
  | with_reducible refine w_eqS ?_
  | with_reducible refine w_eqI ?_
  | with_reducible refine w_neS ?_
  | with_reducible refine w_neI ?_
  | with_reducible refine w_isN ?_
  | with_reducible refine w_isnN ?_
  | with_reducible refine w_bl ?_
  | with_reducible refine w_ret ?_
  | with_reducible refine w_drop ?_
  | with_reducible refine w_next ?_
  | with_reducible refine w_cons ?_
  | with_reducible refine w_nil ?_
  | with_reducible refine w_call ?_
  | with_reducible refine w_cb ?_
  | with_reducible refine w_meth ?_
  | ((with_reducible refine' w_recv ?h1 ?h2 ?_); (case h1 => assumption); (case h2 => rfl))
  | with_reducible refine w_sFd ?_
  | ((with_reducible refine' w_put ?h1 ?h2 ?_); (case h1 => assumption); (case h2 => exact Nat.le_of_ble_eq_true rfl))
  | with_reducible refine w_add ?_
  | with_reducible refine w_sub ?_
  | with_reducible refine w_lt ?_
  | with_reducible refine w_le ?_
  | with_reducible refine w_gt ?_
  | with_reducible refine w_ge ?_
  | with_reducible refine w_bm ?_
  | with_reducible refine w_bm0 ?_
  | ((with_reducible refine' w_ty ?h1 ?_); (case h1 => assumption))
  | with_reducible refine w_tup ?_
  | with_reducible refine w_lst ?_
  | ((with_reducible refine' w_new ?h1 ?_); (case h1 => exact Nat.le_of_ble_eq_true rfl))
  | with_reducible refine w_gsub ?_
  | with_reducible refine w_make ?_
  | with_reducible refine w_lc ?_
  | with_reducible refine w_iList ?_
  | with_reducible refine w_for ?_
  | with_reducible refine w_yes ?_
  | with_reducible refine w_tSl ?_
  | with_reducible refine w_part ?_
  | with_reducible refine w_nopart ?_
  | with_reducible refine w_i ?_
  | with_reducible refine w_rng1 ?_
  | with_reducible refine w_rng2 ?_
  | with_reducible refine w_isiII ?_
  | with_reducible refine w_isiIB ?_
  | with_reducible refine w_isiSS ?_
  | ((with_reducible refine w_mod ?h1 ?_); (case h1 => decide))
  | ((with_reducible refine w_fdC' ?h1 ?h2 ?_); (case h1 => decide); (case h2 => decide))
  | ((with_reducible refine w_mulR ?h1 ?h2 ?_); (case h1 => decide); (case h2 => decide))
  | ((with_reducible refine w_mulL ?h1 ?h2 ?_); (case h1 => decide); (case h2 => decide))
  | ((with_reducible refine w_pow' ?h1 ?h2 ?h3 ?_); (case h1 => decide); (case h2 => decide); (case h3 => decide))
  | with_reducible refine w_andV ?_
  | with_reducible refine w_orV ?_
  | with_reducible refine w_notV ?_
  | with_reducible refine w_B ?_
  | with_reducible refine w_not ?_
  | with_reducible refine w_and ?_
  | with_reducible refine w_or ?_
  | with_reducible refine w_ifx ?_
  | with_reducible refine w_un ?_
  | ((with_reducible refine w_T ?h1 ?_); (case h1 => with_reducible rfl))
  | ((with_reducible refine w_F ?h1 ?_); (case h1 => with_reducible rfl))
  | ((with_reducible refine w_T ?h1 ?_); (case h1 => decide +kernel))
  | ((with_reducible refine w_F ?h1 ?_); (case h1 => decide +kernel)))
local macro_rules | `(tactic| walk_at "w") => `(tactic| repeat walk_at "w1")

section
variable {K : PySem.W.Frag}
def sp_World___init__ (K : PySem.W.Frag) : Sp := fun vs H Q _ => ∃ H0 a dx pa t, vs = [.ref a, .ref pa, .int t] ∧ Own H0 H [(a, .ins (He.ga K "World") dx [])] ∧
  ∀ s H', Own H0 H' [(a, .ins (He.ga K "World") dx (wdF pa s t 0)), (s, .lst [])] → Q .non H'
theorem p_World___init__ (vs : List V) (H : Hp) (Q : VK) (E : XK) (h : sp_World___init__ K vs H Q E) : t_World___init__ K { nx := fun _ H' => Q .non H', rt := Q } (L2.start n_World___init__ vs) H := by
  obtain ⟨H0, a, dx, pa, t, rfl, w, k⟩ := h
  have ha := w.ix 0 rfl
  unfold t_World___init__
  walk_at "w"
  have w1 := w.set 0 (.ins (He.ga K "World") dx [("program", .ref pa)]) rfl
  refine fun s hs => ?_
  have w2 := w1.take (o := .lst []) hs
  have ha2 := w2.ix 1 rfl
  walk_at "w"
  have w3 := w2.set 1 (.ins (He.ga K "World") dx [("program", .ref pa), ("said", .ref s)]) rfl
  have ha3 := w3.ix 1 rfl
  walk_at "w"
  have w4 := w3.set 1 (.ins (He.ga K "World") dx [("program", .ref pa), ("said", .ref s), ("turns", .int t)]) rfl
  have ha4 := w4.ix 1 rfl
  walk_at "w"
  have w5 := w4.set 1 (.ins (He.ga K "World") dx (wdF pa s t 0)) rfl
  exact k s _ (w5.perm (List.Perm.swap _ _ _))
def wordT (y : Wy) : Str := if y = .value then "answer" else y.str
def sp_told (K : PySem.W.Frag) (n : Nat) : Sp := fun vs H Q _ => ∃ P p v t r w', vs = [.ref p, .int v, .int (t : Nat)] ∧ ProgAt K H P p ∧ okProg P = true ∧ (ev P n).enter 0 v ⟨[], t, 0⟩ = some (r, w') ∧ w'.said.length < LIM ∧
  ∀ H' s c, Own H H' [(s, .lst (w'.said.map V.int))] → H' c = some (.tup [.ref s, .str (wordT r.1), .int r.2]) → Q (.ref c) H'
theorem p_told (n : Nat) (vs : List V) (H : Hp) (Q : VK) (E : XK) (h : sp_told K n vs H Q E) : t_told K (sp_checked K) (sp_World___init__ K) (sp_enter K n) { nx := fun _ H' => Q .non H', rt := Q } (L2.start n_told vs) H := by
  obtain ⟨P, p, v, t, ⟨wy, z⟩, w', rfl, hp, hok, he, hs, k⟩ := h
  unfold t_told
  walk_at "w"
  refine ⟨P, p, rfl, hp, hok, ?_⟩
  walk_at "w"
  refine fun a dx na ndx hne => ?_
  have w1 := ((Own.nil (Same.refl H)).lay (o := .own a) ndx).take (a := a) (o := .ins (He.ga K "World") dx []) (by rw [upd_ne (Ne.symm hne)]; exact na)
  refine ⟨H, a, dx, p, t, rfl, w1, fun s H1 w2 => ?_⟩
  refine ⟨rfl, ?_⟩
  walk_at "w"
  refine ⟨P, H, ⟨a, dx, s, p⟩, 0, v, ⟨[], t, 0⟩, _, _, rfl, hp, w2, he, hs, fun H2 u w3 hu => ?_⟩
  obtain ⟨c, rfl, hu'⟩ := tup_at hu
  walk_at "w"
  refine w_ixT hu' rfl ?_
  walk_at "w"
  have h3 := w3.ix 0 rfl
  have w4 : Own H H2 [sdC ⟨a, dx, s, p⟩ w'] := w3.slist (List.sublist_cons_self ..)
  refine w_D (fun c1 => ?_) (fun c1 => ?_) <;> rw [wy_value] at c1
  · dsimp only at c1
    subst c1
    walk_at "w"
    refine w_ixT hu' rfl ?_
    walk_at "w"
    exact fun q hq => k _ s _ (w4.lay hq) upd_same
  · walk_at "w"
    refine w_ixT hu' rfl ?_
    walk_at "w"
    refine w_ixT hu' rfl ?_
    walk_at "w"
    refine fun q hq => k _ s _ (w4.lay hq) ?_
    have e : wordT wy = wy.str := if_neg c1
    rw [show wordT ((wy, z) : Res).1 = wy.str from e]
    exact upd_same
end
end U

set_option maxHeartbeats 4000000
namespace U
open PySem PySem.Spec PyProof.Rows L2 Un
/-! ### data that is built: it stands in the heap without the owned cells -/
section
variable {K : PySem.W.Frag} {H0 H : Hp} {L : List Cell} {a p : Addr} {o o' : HO} {c : Cell}
theorem same_less : Same (less H L) H := fun b u e => by
  by_cases h : b ∈ ads L
  · rw [less_on h] at e; cases e
  · rw [less_off h] at e; exact e
theorem less_put (i : Nat) (h : L[i]? = some (a, o)) : less (upd H a o') (L.set i (a, o')) = less H L := by
  have e : ads (L.set i (a, o')) = ads L := by
    unfold ads
    rw [List.map_set]
    refine List.ext_getElem? fun j => ?_
    rw [List.getElem?_set]
    split
    · rename_i hij
      subst hij
      split
      · rw [List.getElem?_map, h]; rfl
      · rename_i hl
        have := (List.getElem?_eq_some_iff.mp h).1
        exact absurd (by rw [List.length_map]; exact this) hl
    · rfl
  have hm : a ∈ ads L := mem_ads (List.mem_of_getElem? h)
  funext b
  unfold less
  rw [e]
  by_cases hb : b ∈ ads L
  · rw [if_pos hb, if_pos hb]
  · rw [if_neg hb, if_neg hb, upd_ne]
    rintro rfl
    exact hb hm
theorem less_take (h : H a = none) : less (upd H a o) ((a, o) :: L) = less H L := by
  funext b
  unfold less
  have e0 : ads ((a, o) :: L) = a :: ads L := rfl
  rw [e0]
  by_cases hb : b ∈ ads L
  · rw [if_pos hb, if_pos (List.mem_cons_of_mem _ hb)]
  · rw [if_neg hb]
    by_cases e : b = a
    · subst e
      rw [if_pos (List.mem_cons_self ..), h]
    · rw [if_neg (fun hm => (List.mem_cons.mp hm).elim e hb), upd_ne e]
theorem Own.off (w : Own H0 H L) (h : H p = none) : p ∉ ads L := fun hm => by
  obtain ⟨q, hq, e⟩ := List.mem_map.mp hm
  have := w.at_ q hq
  rw [e, h] at this
  cases this
theorem less_lay (h : H p = none) : Same (less H L) (less (upd H p o) L) := fun b u e => by
  by_cases hb : b ∈ ads L
  · rw [less_on hb] at e; cases e
  · rw [less_off hb] at e ⊢
    exact same_lay h b u e
theorem less_new (w : Own H0 H L) (h : H p = none) : less (upd H p o) L p = some o := by
  rw [less_off (w.off h)]
  exact upd_same
theorem less_give : Same (less H (c :: L)) (less H L) := fun b u e => by
  by_cases hb : b ∈ ads (c :: L)
  · rw [less_on hb] at e; cases e
  · rw [less_off hb] at e
    rw [less_off fun hm => hb (List.mem_cons_of_mem _ hm)]
    exact e
theorem less_given (w : Own H0 H (c :: L)) : less H L c.1 = some c.2 := by
  have nd := w.nd
  have q := (List.nodup_cons.mp nd).1
  rw [less_off q]
  exact w.at_ c (List.mem_cons_self ..)
theorem lessTup (w : Own H0 H L) (h : H p = none) {xs : List V} : IsTup K (less (upd H p (.tup xs)) L) (.ref p) xs := ⟨p, rfl, SqT.of (less_new w h)⟩
theorem less_perm {L' : List Cell} (h : L.Perm L') : less H L = less H L' := by
  funext b
  unfold less
  have e : (b ∈ ads L) ↔ (b ∈ ads L') := (h.map _).mem_iff
  by_cases hb : b ∈ ads L
  · rw [if_pos hb, if_pos (e.mp hb)]
  · rw [if_neg hb, if_neg fun z => hb (e.mpr z)]
theorem smsAt_app {H : Hp} : ∀ {b b' : List Sm} {vs vs' : List V}, SmsAt K H b vs → SmsAt K H b' vs' → SmsAt K H (b ++ b') (vs ++ vs')
  | [], _, _, _, h, h' => by
    rw [show _ = [] from h]
    exact h'
  | s :: b, _, _, _, h, h' => by
    obtain ⟨v, vr, e, h1, h2⟩ := h
    rw [e]
    exact ⟨v, _, rfl, h1, smsAt_app h2 h'⟩
theorem smsAt_snoc {H : Hp} {b : List Sm} {vs : List V} {s : Sm} {v : V} (h : SmsAt K H b vs) (h' : SmAt K H s v) : SmsAt K H (b ++ [s]) (vs ++ [v]) := smsAt_app h ⟨v, [], rfl, h', rfl⟩
end
end U

set_option maxHeartbeats 4000000
namespace U
open PySem PySem.Spec PyProof.Rows L2 Un
/-! ### a list below the first cell is given up; lists as data -/
section
variable {K : PySem.W.Frag} {H0 H H' : Hp} {L : List Cell} {c d : Cell}
theorem Own.swp (w : Own H0 H (c :: d :: L)) : Own H0 H (d :: c :: L) := w.perm (List.Perm.swap _ _ _)
theorem less_swp : less H (c :: d :: L) = less H (d :: c :: L) := less_perm (List.Perm.swap _ _ _)
theorem Own.give1 (w : Own H0 H (c :: d :: L)) : Own H0 H (c :: L) := w.del 1
theorem less_give1 : Same (less H (c :: d :: L)) (less H (c :: L)) := by
  rw [less_swp]
  exact less_give
theorem less_given1 (w : Own H0 H (c :: d :: L)) : less H (c :: L) d.1 = some d.2 := less_given w.swp
def LsAt (K : PySem.W.Frag) (H : Hp) (a : Addr) (xs : List V) : Prop := SqL K H a xs
theorem LsAt.mono {a : Addr} {xs : List V} (h : LsAt K H a xs) (s : Same H H') : LsAt K H' a xs := s.seq h
theorem LsAt.of {a : Addr} {xs : List V} (h : H a = some (.lst xs)) : LsAt K H a xs := SqL.of h
theorem LsAt.seq {a : Addr} {xs : List V} (h : LsAt K H a xs) : SqL K H a xs := h
def RawAt (H : Hp) (a : Addr) (o : HO) : Prop := H a = some o
theorem RawAt.mono {a : Addr} {o : HO} (h : RawAt H a o) (s : Same H H') : RawAt H' a o := s a o h
theorem RawAt.up {a : Addr} {o : HO} (h : RawAt (less H L) a o) : H a = some o := same_less a o h
theorem IsTup.go {v : V} {xs : List V} (h : IsTup K H v xs) (s : Same H H') : IsTup K H' v xs := h.mono s
end
end U

set_option maxHeartbeats 4000000
namespace U
open PySem PySem.Spec PyProof.Rows L2
/-! ### dicts whose keys are texts -/
theorem Rm.du {n : Nat} {A : Around} (r : Rm n A) : A.units + 1 < cLine := by
  have := r.hu
  omega
section
variable {H : Hp} {Q : VK} {a : Addr} {kvs : List (Key × V)} {x : Str} {v : V} {σ : L2.St} {td ty : TE}
theorem w_tDGet (h : td σ H fun x H1 => ty σ H1 fun y H2 => ∃ a v, x = .ref a ∧ DGet H2 a y (some v) ∧ Q v H2) : tDGet td ty σ H Q := h
theorem w_dget {P : V → Prop} (h : H a = some (.dK kvs)) (l : valV kvs (.inr x) = some v) (q : P v) : ∃ a' v', V.ref a = .ref a' ∧ DGet H a' (.str x) (some v') ∧ P v' :=
  ⟨a, v, rfl, by rw [← l]; exact DGet.k (k := .inr x) h, q⟩
theorem w_dset {Q : Hp → Prop} (h : H a = some (.dK kvs)) (n : kvs.length < 1000) (q : Q (upd H a (.dK (putK kvs (.inr x) v)))) : rSetD (.ref a) (.str x) v H Q :=
  ⟨a, _, rfl, DPut.k (k := .inr x) h (Nat.lt_of_lt_of_le n (by rw [sizeLine_eq]; decide)), q⟩
end
end U

namespace U
open PySem PySem.Spec PyProof.Rows L2
/-! readings of the defs -/
def t_l_parts (K : PySem.W.Frag) : TS :=
  (tSeq (tAsg (tSl (rSlL K) (tLst (tCons (tTup (tCons (tC (.str "put")) (tCons (tC (.int 77)) tNil))) (tCons (tTup (tCons (tC (.str "say")) tNil)) (tCons (tTup (tCons (tC (.str "put")) (tCons (tC (.int 78)) tNil))) (tCons (tTup (tCons (tC (.str "back")) tNil)) tNil))))) (tPart (tOp rSubI (tC (.int 4)) (tOp rMulI (tOp rModP (tVar 4) (tC (.int 3))) (tC (.int 2))))) tNoPart) (gName 6))
    (tSeq (tAsg (tLst tNil) (gName 7))
    (tSeq (tAsg (tOp rRep (tLst (tCons (tC (.int 0)) tNil)) (tVar 0)) (gName 8))
    (tSeq (tFor (iRng1 (tCons (tVar 0) tNil)) (gName 9) (tSeq (tAsg (tOp rModP (tOp rAddI (tVar 9) (tOp rFdC (tVar 4) (tC (.int 3)))) (tVar 0)) (gName 10))
    (tSeq (tAsg (tCB (rLenQ K) (tCons (tVar 6) tNil)) (gSub (tVar 8) (tVar 10) rSetL))
    (tIfS (tTest (tOp rEq (tVar 10) (tOp rSubI (tVar 0) (tC (.int 1))))) (tAsg (tOp rCat (tOp rCat (tVar 6) (tOp rRep (tLst (tCons (tTup (tCons (tC (.str "put")) (tCons (tC (.int 9)) tNil))) tNil)) (tOp rModP (tOp rFdC (tVar 4) (tC (.int 36))) (tC (.int 3))))) (tLst (tCons (tTup (tCons (tC (.str "get")) (tCons (tC (.int 0)) tNil))) (tCons (tIf (tB (tVar 2)) (tTup (tCons (tC (.str "raise")) tNil)) (tTup (tCons (tC (.str "back")) tNil))) tNil)))) (gName 6)) (tSeq (tIfS (tB (tOp (rIxL K) (tVar 1) (tVar 10))) (tDrop (tBM K "list" rAppend (tVar 7) (tCons (tTup (tCons (tCB (rLenQ K) (tCons (tVar 6) tNil)) (tCons (tOp rAddI (tCB (rLenQ K) (tCons (tVar 6) tNil)) (tC (.int 3))) (tCons (tOp rAddI (tCB (rLenQ K) (tCons (tVar 6) tNil)) (tC (.int 5))) tNil)))) tNil))) tNext)
    (tSeq (tAsg (tOp rCat (tVar 6) (tLst (tCons (tTup (tCons (tC (.str "put")) (tCons (tOp (rIxL K) (tVar 5) (tVar 10)) tNil))) (tCons (tTup (tCons (tC (.str "get")) (tCons (tC (.int 0)) tNil))) (tCons (tTup (tCons (tC (.str "call")) (tCons (tOp rAddI (tVar 10) (tC (.int 1))) tNil))) (tCons (tTup (tCons (tC (.str "add")) tNil)) (tCons (tTup (tCons (tC (.str "back")) tNil)) tNil))))))) (gName 6))
    (tAsg (tOp rCat (tVar 6) (tLst (tCons (tTup (tCons (tC (.str "say")) tNil)) (tCons (tTup (tCons (tC (.str "put")) (tCons (tOp rAddI (tC (.int 50)) (tVar 10)) tNil))) (tCons (tTup (tCons (tC (.str "back")) tNil)) tNil))))) (gName 6))))))))
    (tSeq (tIfS (tTest (tOp rEq (tVar 3) (tC (.int 1)))) (tAsg (tOp rCat (tLst (tCons (tTup (tCons (tC (.int 0)) (tCons (tCB (rLenQ K) (tCons (tVar 6) tNil)) (tCons (tCB (rLenQ K) (tCons (tVar 6) tNil)) tNil)))) tNil)) (tVar 7)) (gName 7)) tNext)
    (tSeq (tIfS (tTest (tOp rEq (tVar 3) (tC (.int 2)))) (tAsg (tOp rCat (tVar 7) (tLst (tCons (tTup (tCons (tC (.int 0)) (tCons (tCB (rLenQ K) (tCons (tVar 6) tNil)) (tCons (tCB (rLenQ K) (tCons (tVar 6) tNil)) tNil)))) tNil))) (gName 7)) tNext)
    (tRet (tTup (tCons (tOp rCat (tVar 6) (tLst (tCons (tTup (tCons (tC (.str "say")) tNil)) (tCons (tTup (tCons (tC (.str "put")) (tCons (tC (.int 40)) tNil))) (tCons (tTup (tCons (tC (.str "back")) tNil)) tNil))))) (tCons (tVar 7) (tCons (tVar 8) (tCons (tC (.int 1)) tNil))))))))))))
def n_l_parts : List Str := ["_law_many", "_law_marks", "_law_raises", "_law_wide", "_law_turn", "_law_more", "_law_code", "_law_stretches", "_law_starts", "_law_place", "_law_k"]
def t_l_due (K : PySem.W.Frag) : TS :=
  (tSeq (tIfS (tAnd (tTest (tOp rLeI (tVar 0) (tC (.int 8)))) (tNot (tB (tVar 2)))) (tRet (tTup (tCons (tLst tNil) (tCons (tC (.str "answer")) (tCons (tOp rAddI (tVar 3) (tCB (rSum K) (tCons (tSl (rSlL K) (tVar 5) tNoPart (tPart (tOp rSubI (tVar 0) (tC (.int 1))))) tNil))) tNil))))) tNext)
    (tSeq (tAsg (tIf (tTest (tOp rGtI (tVar 0) (tC (.int 8)))) (tC (.int 102)) (tVar 3)) (gName 6))
    (tSeq (tAsg (tOp rSubI (tCB rMin2 (tCons (tVar 0) (tCons (tC (.int 8)) tNil))) (tC (.int 1))) (gName 7))
    (tSeq (tIfS (tTest (tOp rGtI (tVar 4) (tC (.int 0)))) (tSeq (tAsg (tAndV (tOp rGtI (tVar 0) (tC (.int 8))) (tAndV (tOp (rIxL K) (tVar 1) (tC (.int 7))) (tOp rEq (tVar 4) (tC (.int 2))))) (gName 8))
    (tRet (tTup (tCons (tLst (tCons (tVar 6) tNil)) (tCons (tC (.str "answer")) (tCons (tOp rAddI (tIf (tB (tVar 8)) (tC (.int 57)) (tC (.int 40))) (tCB (rSum K) (tCons (tSl (rSlL K) (tVar 5) tNoPart (tPart (tVar 7))) tNil))) tNil)))))) tNext)
    (tSeq (tFor (iRevR (tRg1 (tCB rMin2 (tCons (tOp rSubI (tVar 0) (tC (.int 1))) (tCons (tC (.int 8)) tNil))))) (gName 9) (tIfS (tB (tOp (rIxL K) (tVar 1) (tVar 9))) (tRet (tTup (tCons (tLst (tCons (tVar 6) tNil)) (tCons (tC (.str "answer")) (tCons (tOp rAddI (tOp rAddI (tC (.int 50)) (tVar 9)) (tCB (rSum K) (tCons (tSl (rSlL K) (tVar 5) tNoPart (tPart (tVar 9))) tNil))) tNil))))) tNext))
    (tRet (tTup (tCons (tLst tNil) (tCons (tC (.str "fault")) (tCons (tVar 6) tNil))))))))))
def n_l_due : List Str := ["_law_many", "_law_marks", "_law_raises", "_law_given", "_law_wide", "_law_more", "_law_number_here", "_law_top", "_law_inner", "_law_k"]
def t_law (K : PySem.W.Frag) (sp_l_cell_at sp_l_number sp_l_parts sp_run sp_l_due sp_l_whole : Sp) : TS :=
  (tSeq (tAsg (tOp rModP (tOp rMulI (tCall sp_l_cell_at [] E0 (tCons (tVar 0) (tCons (tC (.int 0)) tNil))) (tC (.int 48271))) (tC (.int 1000003))) (gName 1))
    (tSeq (tAsg (tOp rAddI (tC (.int 1)) (tOp rModP (tVar 1) (tC (.int 12)))) (gName 2))
    (tSeq (tAsg (tCall sp_l_number [] E0 (tCons (tCall sp_l_cell_at [] E0 (tCons (tVar 0) (tCons (tC (.int 1)) tNil))) tNil)) (gName 3))
    (tSeq (tAsg (tLc (iRng1 (tCons (tVar 2) tNil)) (gName 5) tYes (tOp rEq (tOp rModP (tCall sp_l_cell_at [] E0 (tCons (tVar 0) (tCons (tOp rAddI (tC (.int 3)) (tVar 5)) tNil))) (tC (.int 3))) (tC (.int 1))) [5]) (gName 4))
    (tSeq (tAsg (tLc (iRng1 (tCons (tVar 2) tNil)) (gName 5) tYes (tOp rSubI (tOp rModP (tOp rFdC (tCall sp_l_cell_at [] E0 (tCons (tVar 0) (tCons (tOp rAddI (tC (.int 3)) (tVar 5)) tNil))) (tC (.int 3))) (tC (.int 40))) (tC (.int 5))) [5]) (gName 6))
    (tSeq (tAsg (tOp rEq (tOp rModP (tOp rFdC (tVar 1) (tC (.int 12))) (tC (.int 2))) (tC (.int 1))) (gName 7))
    (tSeq (tAsg (tOp rModP (tOp rFdC (tVar 1) (tC (.int 24))) (tC (.int 3))) (gName 8))
    (tSeq (tAsg (tOp rModP (tCall sp_l_cell_at [] E0 (tCons (tVar 0) (tCons (tC (.int 2)) tNil))) (tC (.int 15))) (gName 9))
    (tSeq (tAsg (tCall sp_l_parts [] E0 (tCons (tVar 2) (tCons (tVar 4) (tCons (tVar 7) (tCons (tVar 8) (tCons (tOp rModP (tOp rFdC (tVar 1) (tC (.int 72))) (tC (.int 108))) (tCons (tVar 6) tNil))))))) (gName 10))
    (tSeq (tAsg (tCall sp_run [] E0 (tCons (tTup (tCons (tCB (rListQ K) (tCons (tOp (rIxT K) (tVar 10) (tC (.int 0))) tNil)) (tCons (tCB (rListQ K) (tCons (tOp (rIxT K) (tVar 10) (tC (.int 1))) tNil)) (tCons (tCB (rListQ K) (tCons (tOp (rIxT K) (tVar 10) (tC (.int 2))) tNil)) (tCons (tC (.int 1)) tNil))))) (tCons (tVar 3) (tCons (tVar 9) tNil)))) (gName 11))
    (tSeq (tAsg (tTup (tCons (tLst tNil) (tCons (tC (.str "tired")) (tCons (tC (.int 0)) tNil)))) (gName 12))
    (tSeq (tIfS (tTest (tOp rGeI (tVar 9) (tOp rSubI (tCB rMin2 (tCons (tVar 2) (tCons (tC (.int 9)) tNil))) (tC (.int 1))))) (tAsg (tCall sp_l_due [] E0 (tCons (tVar 2) (tCons (tVar 4) (tCons (tVar 7) (tCons (tVar 3) (tCons (tVar 8) (tCons (tVar 6) tNil))))))) (gName 12)) tNext)
    (tSeq (tIfS (tOr (tTest (tOp rNe (tC (.int 8)) (tC (.int 8)))) (tOr (tTest (tOp rNe (tC (.int 102)) (tC (.int 102)))) (tOr (tNot (tB (tCB (rIsi K) (tCons (tVar 11) (tCons (tC (.ty "tuple")) tNil))))) (tTest (tOp rNe (tCB (rLenQ K) (tCons (tVar 11) tNil)) (tC (.int 3))))))) (tRet (tC (.bl false))) tNext)
    (tSeq (tIfS (tOr (tNot (tB (tCB (rIsi K) (tCons (tOp (rIxT K) (tVar 11) (tC (.int 0))) (tCons (tC (.ty "list")) tNil))))) (tOr (tTest (tOp rGtI (tCB (rLenQ K) (tCons (tLc (iList K (tOp (rIxT K) (tVar 11) (tC (.int 0)))) (gName 13) (tNot (tB (tCall sp_l_whole [] E0 (tCons (tVar 13) tNil)))) (tVar 13) [13]) tNil)) (tC (.int 0)))) (tTest (tOp (rNeD K) (tOp (rIxT K) (tVar 11) (tC (.int 0))) (tOp (rIxT K) (tVar 12) (tC (.int 0))))))) (tRet (tC (.bl false))) tNext)
    (tRet (tAndV (tCB (rIsi K) (tCons (tOp (rIxT K) (tVar 11) (tC (.int 1))) (tCons (tC (.ty "str")) tNil))) (tAndV (tCall sp_l_whole [] E0 (tCons (tOp (rIxT K) (tVar 11) (tC (.int 2))) tNil)) (tOp (rEqD K) (tTup (tCons (tOp (rIxT K) (tVar 11) (tC (.int 1))) (tCons (tOp (rIxT K) (tVar 11) (tC (.int 2))) tNil))) (tTup (tCons (tOp (rIxT K) (tVar 12) (tC (.int 1))) (tCons (tOp (rIxT K) (tVar 12) (tC (.int 2))) tNil)))))))))))))))))))))
def n_law : List Str := ["_law_script", "_law_first", "_law_many", "_law_given", "_law_marks", "_law_k", "_law_more", "_law_raises", "_law_wide", "_law_turns", "_law_parts_here", "_law_found", "_law_due_here", "_law_x"]
end U

set_option maxHeartbeats 2000000
/-! k04: functions that call one another, in plain Lean -/
namespace Un
open PySem
def blk4 (N : Nat) (mo : Nat → Int) (ra : Bool) (d k : Nat) : List Rw :=
  if k + 1 = N then List.replicate d (.put 9) ++ [.get 0, if ra then .raise else .back]
  else [.put (mo k), .get 0, .call ((k : Int) + 1), .add, .back, .say, .put (50 + (k : Int)), .back]
structure Ch4 (P : Parts) (N : Nat) (mk : Nat → Bool) (mo : Nat → Int) (ra : Bool) (d wide : Nat) (S : Nat → Nat) (W : Nat) : Prop where
  boxes : P.boxes = 1
  start : ∀ k : Nat, k < N → nth P.starts (k : Int) = some (S k : Int)
  rows : ∀ k : Nat, k < N → ∀ j r, (blk4 N mo ra d k)[j]? = some r → nth P.code ((S k + j : Nat) : Int) = some r
  rowsW : ∀ j r, ([.say, .put 40, .back] : List Rw)[j]? = some r → nth P.code ((W + j : Nat) : Int) = some r
  goalC : ∀ k : Nat, k + 1 < N → goalOf P.str ((S k + 2 : Nat) : Int) = if wide = 1 then some (W : Int) else if mk k = true then some ((S k + 5 : Nat) : Int) else if wide = 2 then some (W : Int) else none
  goalL : ∀ k : Nat, k + 1 = N → goalOf P.str ((S k + (d + 1) : Nat) : Int) = if wide = 0 then none else some (W : Int)
  wd : wide ≤ 2
def sum4 (mo : Nat → Int) : Nat → Int
  | 0 => 0
  | k + 1 => mo k + sum4 mo k
def inner4 (mk : Nat → Bool) : Nat → Option Nat
  | 0 => none
  | k + 1 => if mk k = true then some k else inner4 mk k
def out4 (N : Nat) (mk : Nat → Bool) (mo : Nat → Int) (ra : Bool) (g : Int) (wide : Nat) : List Int × Ed × Int :=
  if N ≤ 8 ∧ ra = false then ([], .answer, g + sum4 mo (N - 1))
  else if 0 < wide then ([if 8 < N then 102 else g], .answer, (if 8 < N ∧ mk 7 = true ∧ wide = 2 then 57 else 40) + sum4 mo (min N 8 - 1))
  else match inner4 mk (min (N - 1) 8) with
    | some k => ([if 8 < N then 102 else g], .answer, 50 + (k : Int) + sum4 mo k)
    | none => ([], .fault, if 8 < N then 102 else g)
theorem step_at {P : Parts} {f : Fr} {r : List Fr} {said : List Int} {t n : Nat} {row : Rw} {m m2 : Mc} (h : nth P.code f.place = some row) (e : stepRw P row f r ⟨f :: r, said, t, none⟩ = some m) (h2 : rowSteps P n m = some m2) : rowSteps P (n + 1) ⟨f :: r, said, t, none⟩ = some m2 := by
  show (if (none : Option (Ed × Int)).isSome then none else (rowStep P ⟨f :: r, said, t, none⟩).bind (rowSteps P n)) = some m2
  have : rowStep P ⟨f :: r, said, t, none⟩ = some m := by
    unfold rowStep
    dsimp only
    rw [h]
    exact e
  rw [this]
  exact h2
section
variable {P : Parts} {N : Nat} {mk : Nat → Bool} {mo : Nat → Int} {ra : Bool} {d wide : Nat} {S : Nat → Nat} {W : Nat} (C : Ch4 P N mk mo ra d wide S W) (g : Int)
def clr4 (S : Nat → Nat) (mo : Nat → Int) (g : Int) (k : Nat) : Fr := ⟨((S k + 2 : Nat) : Int), [g], [mo k]⟩
def clrs4 (S : Nat → Nat) (mo : Nat → Int) (g : Int) : Nat → List Fr
  | 0 => []
  | k + 1 => clr4 S mo g k :: clrs4 S mo g k
theorem clrs4_len : ∀ k, (clrs4 S mo g k).length = k
  | 0 => rfl
  | k + 1 => by rw [clrs4, List.length_cons, clrs4_len k]
def Ends4 (P : Parts) (c : Nat) (m : Mc) (o : List Int × Ed × Int) : Prop := ∃ n M, n ≤ c ∧ rowSteps P n m = some M ∧ M.said = o.1 ∧ M.ended = some o.2
theorem Ends4.up {P : Parts} {c c' : Nat} {m : Mc} {o : List Int × Ed × Int} (h : Ends4 P c m o) (hc : c ≤ c') : Ends4 P c' m o := by
  obtain ⟨n, M, h1, h2⟩ := h
  exact ⟨n, M, Nat.le_trans h1 hc, h2⟩
theorem Ends4.step {f : Fr} {r : List Fr} {said : List Int} {t c : Nat} {row : Rw} {m : Mc} {o : List Int × Ed × Int} (h : nth P.code f.place = some row) (e : stepRw P row f r ⟨f :: r, said, t, none⟩ = some m) (h2 : Ends4 P c m o) : Ends4 P (c + 1) ⟨f :: r, said, t, none⟩ o := by
  obtain ⟨n, M, h1, h3, h4⟩ := h2
  exact ⟨n + 1, M, by omega, step_at h e h3, h4⟩
include C
theorem row4 {k : Nat} (hk : k + 1 < N) {p : Int} (j : Nat) {r : Rw} (hp : p = ((S k + j : Nat) : Int)) (h : ([.put (mo k), .get 0, .call ((k : Int) + 1), .add, .back, .say, .put (50 + (k : Int)), .back] : List Rw)[j]? = some r) : nth P.code p = some r := by
  rw [hp]
  refine C.rows k (by omega) j r ?_
  unfold blk4
  rw [if_neg (by omega)]
  exact h
theorem back4 : ∀ (k : Nat) (v : Int) (f : Fr) (said : List Int) (t : Nat), k < N → Ends4 P (2 * k) ((⟨f :: clrs4 S mo g k, said, t, none⟩ : Mc).back v) (said, .answer, v + sum4 mo k)
  | 0, v, f, said, t, _ => ⟨0, _, by omega, rfl, rfl, by simp [Mc.back, clrs4, sum4]⟩
  | k + 1, v, f, said, t, hk => by
    show Ends4 P _ ⟨⟨((S k + 2 : Nat) : Int) + 1, [g], [v, mo k]⟩ :: clrs4 S mo g k, said, t, none⟩ _
    refine (Ends4.step (row4 C (k := k) (by omega) 3 (by dsimp only; omega) rfl) rfl ?_).up (Nat.le_refl (2 * k + 1 + 1))
    refine Ends4.step (row4 C (k := k) (by omega) 4 (by dsimp only [Fr.lay]; omega) rfl) rfl ?_
    have := back4 k (mo k + v) ⟨((S k + 2 : Nat) : Int) + 1 + 1, [g], []⟩ said t (by omega)
    rw [show mo k + v + sum4 mo k = v + sum4 mo (k + 1) by rw [sum4]; omega] at this
    exact this
theorem say4 {k : Nat} (hk : k < N) {p : Nat} {c n : Int} {said : List Int} {t : Nat} (h : ∀ j r, ([.say, .put c, .back] : List Rw)[j]? = some r → nth P.code ((p + j : Nat) : Int) = some r) :
    Ends4 P (2 * k + 3) ⟨⟨(p : Int), [g], [n]⟩ :: clrs4 S mo g k, said, t, none⟩ (said ++ [n], .answer, c + sum4 mo k) := by
  refine Ends4.step (h 0 .say rfl) rfl ?_
  refine Ends4.step (row := .put c) (by have := h 1 (.put c) rfl; dsimp only; rw [show (p : Int) + 1 = ((p + 1 : Nat) : Int) by omega]; exact this) rfl ?_
  refine Ends4.step (row := .back) (by have := h 2 .back rfl; dsimp only [Fr.lay]; rw [show (p : Int) + 1 + 1 = ((p + 2 : Nat) : Int) by omega]; exact this) rfl ?_
  exact back4 C g k c _ _ _ hk
theorem sayM4 {k : Nat} (hk : k + 1 < N) {n : Int} {said : List Int} {t : Nat} :
    Ends4 P (2 * k + 3) ⟨⟨((S k + 5 : Nat) : Int), [g], [n]⟩ :: clrs4 S mo g k, said, t, none⟩ (said ++ [n], .answer, 50 + (k : Int) + sum4 mo k) := by
  refine say4 C g (by omega) fun j r h => ?_
  refine row4 C hk (5 + j) (by omega) ?_
  match j, h with
  | 0, h => exact h
  | 1, h => exact h
  | 2, h => exact h
theorem faultC0 (h0 : wide = 0) (n : Int) : ∀ k, k < N → faultF P.str n (clrs4 S mo g k) = (match inner4 mk k with
    | some j => ⟨((S j + 5 : Nat) : Int), [g], [n]⟩ :: clrs4 S mo g j
    | none => [])
  | 0, _ => rfl
  | k + 1, hk => by
    have e := C.goalC k (by omega)
    rw [h0, if_neg (show ¬ (0 : Nat) = 1 by decide)] at e
    show (match goalOf P.str ((S k + 2 : Nat) : Int) with
      | some x => (⟨x, [g], [n]⟩ : Fr) :: clrs4 S mo g k
      | none => faultF P.str n (clrs4 S mo g k)) = _
    rw [e]
    unfold inner4
    by_cases hm : mk k = true
    · rw [if_pos hm, if_pos hm]
    · rw [if_neg hm, if_neg hm]
      exact faultC0 h0 n k (by omega)
theorem inner4_lt (mk : Nat → Bool) : ∀ {k j : Nat}, inner4 mk k = some j → j < k
  | 0, _, h => by cases h
  | k + 1, j, h => by
    unfold inner4 at h
    split at h
    · cases h; omega
    · have := inner4_lt mk h
      omega
/-- a fault at the end of the callers, with no wide stretch -/
theorem fault0 (h0 : wide = 0) (n : Int) (k : Nat) (hk : k < N) (said : List Int) (t : Nat) (f : List Fr) (hf : faultF P.str n f = faultF P.str n (clrs4 S mo g k)) :
    Ends4 P (2 * k + 3) ((⟨f, said, t, none⟩ : Mc).fault P n) (match inner4 mk k with
      | some j => (said ++ [n], .answer, 50 + (j : Int) + sum4 mo j)
      | none => (said, .fault, n)) := by
  unfold Mc.fault
  dsimp only
  rw [hf, faultC0 C g h0 n k hk]
  cases hi : inner4 mk k with
  | none => exact ⟨0, _, Nat.zero_le _, rfl, rfl, rfl⟩
  | some j =>
    have hj := inner4_lt C mk hi
    exact (sayM4 C g (by omega)).up (by omega)
/-- a frame whose fault goes to a place that says it -/
theorem faultG {n : Int} {k : Nat} (hk : k < N) {said : List Int} {t : Nat} {place : Int} {pile : List Int} {G : Nat} {c : Int} (hg : goalOf P.str place = some (G : Int)) (h : ∀ j r, ([.say, .put c, .back] : List Rw)[j]? = some r → nth P.code ((G + j : Nat) : Int) = some r) :
    Ends4 P (2 * k + 3) ((⟨⟨place, [g], pile⟩ :: clrs4 S mo g k, said, t, none⟩ : Mc).fault P n) (said ++ [n], .answer, c + sum4 mo k) := by
  unfold Mc.fault faultF
  dsimp only
  rw [hg]
  exact say4 C g hk h
/-- the functions are entered, one after the other -/
theorem call4 {k : Nat} (hk : k + 1 < N) (t c : Nat) {o : List Int × Ed × Int} (h : ∀ m, (⟨clr4 S mo g k :: clrs4 S mo g k, [], t, none⟩ : Mc).enter P ((k : Int) + 1) g = some m → Ends4 P c m o) (hs : ((⟨clr4 S mo g k :: clrs4 S mo g k, [], t, none⟩ : Mc).enter P ((k : Int) + 1) g).isSome) :
    Ends4 P (c + 3) ⟨⟨(S k : Int), [g], []⟩ :: clrs4 S mo g k, [], t, none⟩ o := by
  refine Ends4.step (row4 C hk 0 (by dsimp only; omega) rfl) rfl ?_
  refine Ends4.step (row4 C hk 1 (by dsimp only [Fr.lay]; omega) rfl) rfl ?_
  cases he : (⟨clr4 S mo g k :: clrs4 S mo g k, [], t, none⟩ : Mc).enter P ((k : Int) + 1) g with
  | none => rw [he] at hs; cases hs
  | some m =>
    refine Ends4.step (row4 C hk 2 (by dsimp only [Fr.lay]; omega) rfl) ?_ (h m he)
    have e : (⟨(S k : Int) + 1 + 1, [g], [mo k]⟩ : Fr) = clr4 S mo g k := by
      unfold clr4
      rw [show (S k : Int) + 1 + 1 = ((S k + 2 : Nat) : Int) by omega]
    show (⟨⟨(S k : Int) + 1 + 1, [g], [mo k]⟩ :: clrs4 S mo g k, [], t, none⟩ : Mc).enter P ((k : Int) + 1) g = some m
    rw [e]
    exact he
theorem go4 {o : List Int × Ed × Int} {c : Nat} : ∀ (k t : Nat), k < N → k < 8 → Ends4 P c ⟨⟨(S k : Int), [g], []⟩ :: clrs4 S mo g k, [], t, none⟩ o → Ends4 P (c + 3 * k) ⟨[⟨(S 0 : Int), [g], []⟩], [], t + k, none⟩ o
  | 0, t, _, _, h => h
  | k + 1, t, hk, h8, h => by
    refine (go4 (c := c + 3) k (t + 1) (by omega) (by omega) ?_).up (by omega) |> fun z => by rw [show t + (k + 1) = t + 1 + k by omega]; exact z
    have e : (⟨clr4 S mo g k :: clrs4 S mo g k, [], t + 1, none⟩ : Mc).enter P ((k : Int) + 1) g = some ⟨⟨(S (k + 1) : Int), [g], []⟩ :: clrs4 S mo g (k + 1), [], t, none⟩ := by
      have hs := C.start (k + 1) hk
      unfold Mc.enter
      rw [if_neg (by simp), if_neg (by simp only [List.length_cons, clrs4_len]; omega), show (k : Int) + 1 = ((k + 1 : Nat) : Int) by omega, hs]
      simp only [Option.map_some, newBoxes, C.boxes]
      rfl
    refine call4 C g hk (t + 1) c (fun m hm => ?_) (by rw [e]; rfl)
    rw [e] at hm
    cases hm
    exact h
theorem last4 {k : Nat} (hk : k + 1 = N) (h8 : N ≤ 8) (hd : d ≤ 2) (t : Nat) : Ends4 P 40 ⟨⟨(S k : Int), [g], []⟩ :: clrs4 S mo g k, [], t, none⟩ (out4 N mk mo ra g wide) := by
  have hb : ∀ j r, (List.replicate d (.put 9) ++ [.get 0, if ra then .raise else .back] : List Rw)[j]? = some r → nth P.code ((S k + j : Nat) : Int) = some r := fun j r h => C.rows k (by omega) j r (by unfold blk4; rw [if_pos hk]; exact h)
  have hg : goalOf P.str ((S k + (d + 1) : Nat) : Int) = _ := C.goalL k hk
  have puts : ∀ i, i ≤ d → ∀ c o, Ends4 P c ⟨⟨((S k + i : Nat) : Int), [g], List.replicate i 9⟩ :: clrs4 S mo g k, [], t, none⟩ o → Ends4 P (c + i) ⟨⟨(S k : Int), [g], []⟩ :: clrs4 S mo g k, [], t, none⟩ o := by
    intro i
    induction i with
    | zero => intro _ c o h; exact h
    | succ i ih =>
      intro hi c o h
      refine (ih (by omega) (c + 1) o ?_).up (by omega)
      refine Ends4.step (row := .put 9) (hb i _ ?_) rfl ?_
      · rw [List.getElem?_append_left (by rw [List.length_replicate]; omega), List.getElem?_replicate, if_pos (by omega)]
      · show Ends4 P c ⟨⟨((S k + i : Nat) : Int) + 1, [g], 9 :: List.replicate i 9⟩ :: clrs4 S mo g k, [], t, none⟩ o
        rw [show ((S k + i : Nat) : Int) + 1 = ((S k + (i + 1) : Nat) : Int) by omega]
        exact h
  refine (puts d (Nat.le_refl _) 30 _ ?_).up (by omega)
  refine Ends4.step (row := .get 0) (hb d _ (by rw [List.getElem?_append_right (by rw [List.length_replicate]; omega), List.length_replicate, Nat.sub_self]; rfl)) rfl ?_
  have hlast : nth P.code (((S k + d : Nat) : Int) + 1) = some (if ra then .raise else .back) := by
    rw [show ((S k + d : Nat) : Int) + 1 = ((S k + (d + 1) : Nat) : Int) by omega]
    refine hb (d + 1) _ ?_
    rw [List.getElem?_append_right (by rw [List.length_replicate]; omega), List.length_replicate, show d + 1 - d = 1 by omega]
    rfl
  have h8' : ¬ 8 < N := by omega
  cases hra : ra with
  | false =>
    rw [hra] at hlast
    refine Ends4.step (c := 28) (row := .back) hlast rfl ?_
    have := back4 C g k g ⟨((S k + d : Nat) : Int) + 1, [g], List.replicate d 9⟩ [] t (by omega)
    rw [show out4 N mk mo false g wide = (([] : List Int), Ed.answer, g + sum4 mo k) by unfold out4; rw [if_pos ⟨h8, rfl⟩, show N - 1 = k by omega]]
    exact this.up (by omega)
  | true =>
    rw [hra] at hlast
    refine Ends4.step (c := 28) (row := .raise) hlast rfl ?_
    show Ends4 P 28 ((⟨⟨((S k + d : Nat) : Int) + 1, [g], List.replicate d 9⟩ :: clrs4 S mo g k, [], t, none⟩ : Mc).fault P g) _
    rw [show ((S k + d : Nat) : Int) + 1 = ((S k + (d + 1) : Nat) : Int) by omega]
    unfold out4
    rw [if_neg (by rintro ⟨_, h⟩; cases h), if_neg h8', show min N 8 - 1 = k by omega, show min (N - 1) 8 = k by omega]
    by_cases hw : 0 < wide
    · rw [if_pos hw, if_neg (fun h => h8' h.1)]
      rw [if_neg (by omega)] at hg
      exact (faultG C g (by omega) hg C.rowsW).up (by omega)
    · rw [if_neg hw]
      rw [if_pos (by omega)] at hg
      refine (fault0 C g (by omega) g k (by omega) [] t (⟨((S k + (d + 1) : Nat) : Int), [g], List.replicate d 9⟩ :: clrs4 S mo g k) (by
        show (match goalOf P.str ((S k + (d + 1) : Nat) : Int) with
          | some x => (⟨x, [g], [g]⟩ : Fr) :: clrs4 S mo g k
          | none => faultF P.str g (clrs4 S mo g k)) = _
        rw [hg])).up (by omega)
theorem deep4 (h8 : 8 < N) (t : Nat) : Ends4 P 40 ⟨⟨(S 7 : Int), [g], []⟩ :: clrs4 S mo g 7, [], t + 1, none⟩ (out4 N mk mo ra g wide) := by
  have e : (⟨clr4 S mo g 7 :: clrs4 S mo g 7, [], t + 1, none⟩ : Mc).enter P (((7 : Nat) : Int) + 1) g = some ((⟨clrs4 S mo g 8, [], t, none⟩ : Mc).fault P 102) := by
    unfold Mc.enter
    rw [if_neg (by simp), if_pos (by simp only [List.length_cons, clrs4_len])]
    rfl
  refine call4 C g (k := 7) (by omega) (t + 1) 37 (fun m hm => ?_) (by rw [e]; rfl)
  rw [e] at hm
  cases hm
  have hg := C.goalC 7 (by omega)
  unfold out4
  rw [if_neg (by omega), if_pos h8, show min N 8 - 1 = 7 by omega, show min (N - 1) 8 = 8 by omega]
  by_cases hw : 0 < wide
  · rw [if_pos hw]
    by_cases h1 : wide = 1
    · rw [if_pos h1] at hg
      rw [if_neg (by omega)]
      exact (faultG C g (k := 7) (by omega) (pile := [mo 7]) hg C.rowsW).up (by omega)
    · have h2 : wide = 2 := by have := C.wd; omega
      rw [if_neg h1] at hg
      by_cases hm : mk 7 = true
      · rw [if_pos hm] at hg
        rw [if_pos ⟨h8, hm, h2⟩]
        refine (faultG C g (k := 7) (by omega) (pile := [mo 7]) (c := 57) hg fun j r h => ?_).up (by omega)
        refine row4 C (k := 7) (by omega) (5 + j) (by omega) ?_
        match j, h with
        | 0, h => exact h
        | 1, h => exact h
        | 2, h => exact h
      · rw [if_neg hm, if_pos h2] at hg
        rw [if_neg (by rintro ⟨_, h, _⟩; exact hm h)]
        exact (faultG C g (k := 7) (by omega) (pile := [mo 7]) hg C.rowsW).up (by omega)
  · rw [if_neg hw]
    refine (fault0 C g (by omega) 102 8 (by omega) [] t (clrs4 S mo g 8) rfl).up (by omega)
/-- the whole run -/
theorem run4 (hN : 1 ≤ N) (h12 : N ≤ 12) (hd : d ≤ 2) (t : Nat) : ∃ M0, begun P g t = some M0 ∧ Ends4 P 100 M0 (if t < min N 9 - 1 then ([], .tired, 0) else out4 N mk mo ra g wide) := by
  refine ⟨⟨[⟨(S 0 : Int), [g], []⟩], [], t, none⟩, ?_, ?_⟩
  · have := C.start 0 (by omega)
    unfold begun
    rw [show (0 : Int) = ((0 : Nat) : Int) by rfl, this]
    simp only [Option.map_some, newBoxes, C.boxes]
    rfl
  by_cases ht : t < min N 9 - 1
  · rw [if_pos ht]
    have e : (⟨clr4 S mo g t :: clrs4 S mo g t, [], 0, none⟩ : Mc).enter P ((t : Int) + 1) g = some ((⟨clr4 S mo g t :: clrs4 S mo g t, [], 0, none⟩ : Mc).tired) := by
      unfold Mc.enter
      rw [if_pos rfl]
    have := go4 C g (o := ([], .tired, 0)) (c := 3) t 0 (by omega) (by omega) (call4 C g (by omega) 0 0 (fun m hm => by
      rw [e] at hm
      cases hm
      exact ⟨0, _, Nat.le_refl _, rfl, rfl, rfl⟩) (by rw [e]; rfl))
    rw [Nat.zero_add] at this
    exact this.up (by omega)
  · rw [if_neg ht]
    by_cases h8 : N ≤ 8
    · have := go4 C g (N - 1) (t - (N - 1)) (by omega) (by omega) (last4 C g (by omega) h8 hd (t - (N - 1)))
      rw [show t - (N - 1) + (N - 1) = t by omega] at this
      exact this.up (by omega)
    · have := go4 C g 7 (t - 8 + 1) (by omega) (by omega) (deep4 C g (by omega) (t - 8))
      rw [show t - 8 + 1 + 7 = t by omega] at this
      exact this.up (by omega)
end
end Un

set_option maxHeartbeats 2000000
/-! k04: where the functions stand, in plain Lean -/
namespace Un
open PySem
structure B4 where
  code : List Rw
  str : List Stretch
  starts : List Int
def head4 (h : Nat) : List Rw := ([.put 77, .say, .put 78, .back] : List Rw).drop h
def strs4 (N : Nat) (mk : Nat → Bool) (L k : Nat) : List Stretch := if k + 1 = N then [] else if mk k = true then [((L : Int), (L : Int) + 3, (L : Int) + 5)] else []
def add4 (N o : Nat) (mk : Nat → Bool) (mo : Nat → Int) (ra : Bool) (d : Nat) (s : B4) (place : Nat) : B4 :=
  ⟨s.code ++ blk4 N mo ra d ((place + o) % N), s.str ++ strs4 N mk s.code.length ((place + o) % N), s.starts.set ((place + o) % N) (s.code.length : Int)⟩
def bld4 (h N o : Nat) (mk : Nat → Bool) (mo : Nat → Int) (ra : Bool) (d : Nat) : Nat → B4
  | 0 => ⟨head4 h, [], List.replicate N 0⟩
  | i + 1 => add4 N o mk mo ra d (bld4 h N o mk mo ra d i) i
def wide4 (wide : Nat) (L : Nat) (s : List Stretch) : List Stretch := if wide = 1 then [(0, (L : Int), (L : Int))] ++ s else if wide = 2 then s ++ [(0, (L : Int), (L : Int))] else s
def parts4 (h N o : Nat) (mk : Nat → Bool) (mo : Nat → Int) (ra : Bool) (d wide : Nat) : Parts :=
  ⟨(bld4 h N o mk mo ra d N).code ++ [.say, .put 40, .back], wide4 wide (bld4 h N o mk mo ra d N).code.length (bld4 h N o mk mo ra d N).str, (bld4 h N o mk mo ra d N).starts, 1⟩
theorem nth_of {α : Type} {xs : List α} {n : Nat} {x : α} (h : xs[n]? = some x) : nth xs (n : Int) = some x := by
  unfold nth
  rw [if_pos (by omega), Int.toNat_natCast]
  exact h
theorem goalOf_app4 : ∀ (A B : List Stretch) (p : Int), goalOf (A ++ B) p = match goalOf A p with
    | some g => some g
    | none => goalOf B p
  | [], B, p => rfl
  | s :: A, B, p => by
    show (if s.1 ≤ p ∧ p < s.2.1 then some s.2.2 else goalOf (A ++ B) p) = (match (if s.1 ≤ p ∧ p < s.2.1 then some s.2.2 else goalOf A p) with
      | some g => some g
      | none => goalOf B p)
    by_cases h : s.1 ≤ p ∧ p < s.2.1
    · rw [if_pos h, if_pos h]
    · rw [if_neg h, if_neg h]
      exact goalOf_app4 A B p
structure Inv4 (N o : Nat) (mk : Nat → Bool) (mo : Nat → Int) (ra : Bool) (d : Nat) (i : Nat) (s : B4) : Prop where
  len : s.starts.length = N
  blk : ∀ j, j < i → ∃ a : Nat, s.starts[(j + o) % N]? = some (a : Int) ∧ a + (blk4 N mo ra d ((j + o) % N)).length ≤ s.code.length ∧ (∀ r x, (blk4 N mo ra d ((j + o) % N))[r]? = some x → s.code[a + r]? = some x) ∧
    ∀ r, r < (blk4 N mo ra d ((j + o) % N)).length → goalOf s.str ((a + r : Nat) : Int) = if (j + o) % N + 1 ≠ N ∧ mk ((j + o) % N) = true ∧ r < 3 then some ((a + 5 : Nat) : Int) else none
  far : ∀ p : Nat, s.code.length ≤ p → goalOf s.str (p : Int) = none
theorem strs4_goal (N : Nat) (mk : Nat → Bool) (L k p : Nat) : goalOf (strs4 N mk L k) (p : Int) = if k + 1 ≠ N ∧ mk k = true ∧ L ≤ p ∧ p < L + 3 then some ((L + 5 : Nat) : Int) else none := by
  unfold strs4
  by_cases h1 : k + 1 = N
  · rw [if_pos h1, if_neg (fun h => h.1 h1)]
    rfl
  · rw [if_neg h1]
    by_cases h2 : mk k = true
    · rw [if_pos h2]
      unfold goalOf
      dsimp only
      by_cases h3 : L ≤ p ∧ p < L + 3
      · rw [if_pos (by omega), if_pos ⟨h1, h2, h3⟩]
        rfl
      · rw [if_neg (by omega), if_neg (fun h => h3 h.2.2)]
        rfl
    · rw [if_neg h2, if_neg (fun h => h2 h.2.1)]
      rfl
theorem blk4_len {N : Nat} {mo : Nat → Int} {ra : Bool} {d k : Nat} (h : k + 1 ≠ N) : (blk4 N mo ra d k).length = 8 := by
  unfold blk4
  rw [if_neg h]
  rfl
theorem mod_ne {N i j o : Nat} (hij : j < i) (hi : i < N) : (j + o) % N ≠ (i + o) % N := fun e => by
  have := Nat.sub_mod_eq_zero_of_mod_eq e.symm
  rw [show i + o - (j + o) = i - j by omega, Nat.mod_eq_of_lt (by omega)] at this
  omega
theorem inv4_add {N o : Nat} {mk : Nat → Bool} {mo : Nat → Int} {ra : Bool} {d i : Nat} {s : B4} (hi : i < N) (I : Inv4 N o mk mo ra d i s) : Inv4 N o mk mo ra d (i + 1) (add4 N o mk mo ra d s i) := by
  have hk : (i + o) % N < N := Nat.mod_lt _ (by omega)
  refine ⟨by show (s.starts.set _ _).length = N; rw [List.length_set]; exact I.len, fun j hj => ?_, fun p hp => ?_⟩
  · by_cases e : j = i
    · subst e
      refine ⟨s.code.length, ?_, ?_, fun r x hx => ?_, fun r hr => ?_⟩
      · show (s.starts.set _ _)[_]? = _
        rw [List.getElem?_set_self (by rw [I.len]; exact hk)]
      · show _ ≤ (s.code ++ _).length
        rw [List.length_append]
        exact Nat.le_refl _
      · show (s.code ++ _)[_]? = _
        rw [List.getElem?_append_right (by omega), show s.code.length + r - s.code.length = r by omega]
        exact hx
      · show goalOf (s.str ++ _) _ = _
        rw [goalOf_app4, I.far _ (by omega)]
        dsimp only
        rw [strs4_goal]
        by_cases h : (j + o) % N + 1 ≠ N ∧ mk ((j + o) % N) = true ∧ r < 3
        · rw [if_pos h, if_pos ⟨h.1, h.2.1, by omega, by omega⟩]
        · rw [if_neg h, if_neg (fun z => h ⟨z.1, z.2.1, by omega⟩)]
    · obtain ⟨a, h1, h2, h3, h4⟩ := I.blk j (by omega)
      refine ⟨a, ?_, ?_, fun r x hx => ?_, fun r hr => ?_⟩
      · show (s.starts.set _ _)[_]? = _
        rw [List.getElem?_set_ne (fun z => mod_ne (show j < i by omega) hi z.symm)]
        exact h1
      · show _ ≤ (s.code ++ _).length
        rw [List.length_append]
        omega
      · have hr : r < (blk4 N mo ra d ((j + o) % N)).length := (List.getElem?_eq_some_iff.mp hx).1
        show (s.code ++ _)[_]? = _
        rw [List.getElem?_append_left (by omega)]
        exact h3 r x hx
      · show goalOf (s.str ++ _) _ = _
        rw [goalOf_app4, h4 r hr]
        split
        · rename_i g e
          exact e.symm
        · rename_i e
          rw [strs4_goal, if_neg (by omega)]
          exact e.symm
  · have hp : (s.code ++ blk4 N mo ra d ((i + o) % N)).length ≤ p := hp
    rw [List.length_append] at hp
    show goalOf (s.str ++ _) _ = _
    rw [goalOf_app4, I.far p (by omega)]
    dsimp only
    rw [strs4_goal]
    refine if_neg fun h => ?_
    have := blk4_len (mo := mo) (ra := ra) (d := d) h.1
    omega
theorem inv4 (h N o : Nat) (mk : Nat → Bool) (mo : Nat → Int) (ra : Bool) (d : Nat) : ∀ i, i ≤ N → Inv4 N o mk mo ra d i (bld4 h N o mk mo ra d i)
  | 0, _ => ⟨List.length_replicate, fun j hj => absurd hj (Nat.not_lt_zero _), fun _ _ => rfl⟩
  | i + 1, hi => inv4_add (by omega) (inv4 h N o mk mo ra d i (by omega))
theorem mod_hit {N k : Nat} (o : Nat) (hk : k < N) : ∃ j, j < N ∧ (j + o) % N = k := by
  refine ⟨(k + N - o % N) % N, Nat.mod_lt _ (by omega), ?_⟩
  have h1 : o % N < N := Nat.mod_lt _ (by omega)
  rw [Nat.mod_add_mod]
  have h2 := Nat.mod_add_div o N
  rw [show k + N - o % N + o = k + N * (1 + o / N) by rw [Nat.mul_add]; omega, Nat.add_mul_mod_self_left, Nat.mod_eq_of_lt hk]
theorem parts4_ch {h N o : Nat} {mk : Nat → Bool} {mo : Nat → Int} {ra : Bool} {d wide : Nat} (hw : wide ≤ 2) : ∃ S, Ch4 (parts4 h N o mk mo ra d wide) N mk mo ra d wide S (bld4 h N o mk mo ra d N).code.length := by
  have I := inv4 h N o mk mo ra d N (Nat.le_refl _)
  unfold parts4
  generalize bld4 h N o mk mo ra d N = s at I
  have key : ∀ k, ∃ a : Nat, k < N → s.starts[k]? = some (a : Int) ∧ a + (blk4 N mo ra d k).length ≤ s.code.length ∧ (∀ r x, (blk4 N mo ra d k)[r]? = some x → s.code[a + r]? = some x) ∧
      ∀ r, r < (blk4 N mo ra d k).length → goalOf s.str ((a + r : Nat) : Int) = if k + 1 ≠ N ∧ mk k = true ∧ r < 3 then some ((a + 5 : Nat) : Int) else none := fun k => by
    by_cases hk : k < N
    · obtain ⟨j, hj, e⟩ := mod_hit o hk
      have := I.blk j hj
      rw [e] at this
      obtain ⟨a, z⟩ := this
      exact ⟨a, fun _ => z⟩
    · exact ⟨0, fun z => absurd z hk⟩
  obtain ⟨S, hS⟩ : ∃ S : Nat → Nat, ∀ k, k < N → s.starts[k]? = some (S k : Int) ∧ S k + (blk4 N mo ra d k).length ≤ s.code.length ∧ (∀ r x, (blk4 N mo ra d k)[r]? = some x → s.code[S k + r]? = some x) ∧
      ∀ r, r < (blk4 N mo ra d k).length → goalOf s.str ((S k + r : Nat) : Int) = if k + 1 ≠ N ∧ mk k = true ∧ r < 3 then some ((S k + 5 : Nat) : Int) else none := ⟨fun k => Classical.choose (key k), fun k => Classical.choose_spec (key k)⟩
  have inW : ∀ p : Nat, p < s.code.length → goalOf [(0, (s.code.length : Int), (s.code.length : Int))] (p : Int) = some (s.code.length : Int) := fun p hp => by
    unfold goalOf
    dsimp only
    rw [if_pos (by omega)]
  have wg : ∀ p : Nat, p < s.code.length → goalOf (wide4 wide s.code.length s.str) (p : Int) = if wide = 1 then some (s.code.length : Int) else match goalOf s.str (p : Int) with
      | some g => some g
      | none => if wide = 2 then some (s.code.length : Int) else none := fun p hp => by
    unfold wide4
    by_cases h1 : wide = 1
    · rw [if_pos h1, if_pos h1, goalOf_app4, inW p hp]
    · rw [if_neg h1, if_neg h1]
      by_cases h2 : wide = 2
      · rw [if_pos h2, if_pos h2, goalOf_app4, inW p hp]
      · rw [if_neg h2, if_neg h2]
        cases goalOf s.str (p : Int) <;> rfl
  refine ⟨S, rfl, fun k hk => nth_of (hS k hk).1, fun k hk j r hr => nth_of ?_, fun j r hr => nth_of ?_, fun k hk => ?_, fun k hk => ?_, hw⟩
  · have h3 := (hS k hk).2.2.1 j r hr
    show (s.code ++ _)[_]? = _
    rw [List.getElem?_append_left (List.getElem?_eq_some_iff.mp h3).1]
    exact h3
  · show (s.code ++ _)[_]? = _
    rw [List.getElem?_append_right (by omega), show s.code.length + j - s.code.length = j by omega]
    exact hr
  · have hl : (blk4 N mo ra d k).length = 8 := blk4_len (by omega)
    obtain ⟨_, h2, _, h4⟩ := hS k (by omega)
    show goalOf (wide4 wide s.code.length s.str) _ = _
    rw [wg _ (by omega), h4 2 (by omega)]
    by_cases h1 : wide = 1
    · rw [if_pos h1, if_pos h1]
    · rw [if_neg h1, if_neg h1]
      by_cases hm : mk k = true
      · rw [if_pos hm, if_pos ⟨by omega, hm, by omega⟩]
      · rw [if_neg hm, if_neg (fun z => hm z.2.1)]
  · have hl : (blk4 N mo ra d k).length = d + 2 := by
      unfold blk4
      rw [if_pos hk]
      simp
    obtain ⟨_, h2, _, h4⟩ := hS k (by omega)
    show goalOf (wide4 wide s.code.length s.str) _ = _
    have e := h4 (d + 1) (by omega)
    rw [if_neg (fun z => z.1 hk)] at e
    rw [wg _ (by omega), e]
    rcases (by omega : wide = 0 ∨ wide = 1 ∨ wide = 2) with e | e | e <;> subst e <;> rfl
/-- the whole run -/
theorem parts4_run {h N o : Nat} {mk : Nat → Bool} {mo : Nat → Int} {ra : Bool} {d wide : Nat} (hw : wide ≤ 2) (hN : 1 ≤ N) (h12 : N ≤ 12) (hd : d ≤ 2) (g : Int) (t : Nat) :
    ∃ M0, begun (parts4 h N o mk mo ra d wide) g t = some M0 ∧ Ends4 (parts4 h N o mk mo ra d wide) 100 M0 (if t < min N 9 - 1 then ([], .tired, 0) else out4 N mk mo ra g wide) := by
  obtain ⟨S, C⟩ := parts4_ch (h := h) (N := N) (o := o) (mk := mk) (mo := mo) (ra := ra) (d := d) hw
  exact run4 C g hN h12 hd t
/-- how long the code is -/
theorem bld4_len (h N o : Nat) (mk : Nat → Bool) (mo : Nat → Int) (ra : Bool) {d : Nat} (hd : d ≤ 2) : ∀ i, (bld4 h N o mk mo ra d i).code.length ≤ 4 + 8 * i ∧ (bld4 h N o mk mo ra d i).str.length ≤ i ∧ (bld4 h N o mk mo ra d i).starts.length = N
  | 0 => ⟨by show (head4 h).length ≤ _; unfold head4; rw [List.length_drop]; exact Nat.sub_le _ _, Nat.le_refl _, List.length_replicate⟩
  | i + 1 => by
    obtain ⟨h1, h2, h3⟩ := bld4_len h N o mk mo ra hd i
    refine ⟨?_, ?_, ?_⟩
    · show (_ ++ blk4 _ _ _ _ _).length ≤ _
      rw [List.length_append]
      have : (blk4 N mo ra d ((i + o) % N)).length ≤ 8 := by
        unfold blk4
        split
        · simp; omega
        · exact Nat.le_refl _
      omega
    · show (_ ++ strs4 _ _ _ _).length ≤ _
      rw [List.length_append]
      have : (strs4 N mk (bld4 h N o mk mo ra d i).code.length ((i + o) % N)).length ≤ 1 := by
        unfold strs4
        repeat' split
        all_goals simp
      omega
    · show (List.set _ _ _).length = N
      rw [List.length_set]
      exact h3
end Un

set_option maxHeartbeats 400000
namespace U
open PySem PySem.Spec PyProof.Rows L2 Un
/-! ### a base that grows under what one owns -/
section
variable {K : PySem.W.Frag} {B H : Hp} {L : List Cell} {p : Addr} {o : HO} {c : Cell}
theorem Own.more (w : Own B H L) (h : H p = none) : ∃ B', Own B' (upd H p o) L ∧ Same B B' ∧ B' p = some o := by
  have w1 := w.lay (o := o) h
  exact ⟨_, w1.lend, w1.base, less_new w h⟩
theorem Own.grow (w : Own B H L) : ∃ B', Own B' H L ∧ Same B B' ∧ B' = less H L := ⟨_, w.lend, w.base, rfl⟩
theorem Own.give_ (w : Own B H (c :: L)) : ∃ B', Own B' H L ∧ Same B B' ∧ B' c.1 = some c.2 := by
  have w1 : Own B H L := w.slist (List.sublist_cons_self ..)
  exact ⟨_, w1.lend, w1.base, less_given w⟩
end
/-! ### programs as parts -/
inductive Dat where
  | tree (t : Un.Tree)
  | sm (s : Sm)
  | flat (x : V)
  | block (b : List Sm)
def DatAt (K : PySem.W.Frag) (H : Hp) : Dat → V → Prop
  | .tree t, v => TreeAt K H t v
  | .sm s, v => SmAt K H s v
  | .flat x, v => v = x ∧ Flat x
  | .block b, v => BlAt K H b v
theorem DatAt.mono {K : PySem.W.Frag} {H H' : Hp} (s : Same H H') : ∀ {D : Dat} {v : V}, DatAt K H D v → DatAt K H' D v
  | .tree _, _, h => TreeAt.mono s h
  | .sm d, _, h => SmAt.mono s d h
  | .flat _, _, h => h
  | .block _, _, h => BlAt.mono s h
def fS (s : Str) : Dat := .flat (.str s)
def fI (i : Int) : Dat := .flat (.int i)
def partsT : Un.Tree → List Dat
  | .num n => [fS "num", fI n]
  | .box k => [fS "box", fI k]
  | .call f t => [fS "call", fI f, .tree t]
  | .bin o a b => [fS o.str, .tree a, .tree b]
def partsD : Sm → List Dat
  | .set k e => [fS "set", fI k, .tree e]
  | .say e => [fS "say", .tree e]
  | .ife e a b => [fS "if", .tree e, .block a, .block b]
  | .loop e b => [fS "loop", .tree e, .block b]
  | .leave => [fS "leave"]
  | .next => [fS "next"]
  | .give e => [fS "give", .tree e]
  | .raise e => [fS "raise", .tree e]
  | .ctch b n k h => [fS "catch", .block b, .flat (goalV n), fI k, .block h]
  | .endd b l => [fS "end", .block b, .block l]
section
variable {K : PySem.W.Frag} {H : Hp}
theorem fS_at (s : Str) : DatAt K H (fS s) (.str s) := ⟨rfl, .inr (.inl ⟨s, rfl⟩)⟩
theorem fI_at (i : Int) : DatAt K H (fI i) (.int i) := ⟨rfl, .inl ⟨i, rfl⟩⟩
theorem fN_at (n : Option Int) : DatAt K H (.flat (goalV n)) (goalV n) := by
  cases n with
  | none => exact ⟨rfl, .inr (.inr rfl)⟩
  | some n => exact ⟨rfl, .inl ⟨n, rfl⟩⟩
abbrev PsAt (K : PySem.W.Frag) (H : Hp) (xs : List V) (Ds : List Dat) : Prop := All2 (fun x D => DatAt K H D x) xs Ds
theorem tree_parts {t : Un.Tree} {v : V} (h : TreeAt K H t v) : ∃ xs, IsTup K H v xs ∧ PsAt K H xs (partsT t) := by
  cases t with
  | num n => exact ⟨_, h, .cons (fS_at _) (.cons (fI_at _) .nil)⟩
  | box k => exact ⟨_, h, .cons (fS_at _) (.cons (fI_at _) .nil)⟩
  | call f t =>
    obtain ⟨x, h1, h2⟩ := h
    exact ⟨_, h1, .cons (fS_at _) (.cons (fI_at _) (.cons h2 .nil))⟩
  | bin o a b =>
    obtain ⟨x, y, h1, h2, h3⟩ := h
    exact ⟨_, h1, .cons (fS_at _) (.cons h2 (.cons h3 .nil))⟩
theorem sm_parts {s : Sm} {v : V} (h : SmAt K H s v) : ∃ xs, IsTup K H v xs ∧ PsAt K H xs (partsD s) := by
  cases s with
  | set k e =>
    obtain ⟨x, h1, h2⟩ := h
    exact ⟨_, h1, .cons (fS_at _) (.cons (fI_at _) (.cons h2 .nil))⟩
  | say e =>
    obtain ⟨x, h1, h2⟩ := h
    exact ⟨_, h1, .cons (fS_at _) (.cons h2 .nil)⟩
  | give e =>
    obtain ⟨x, h1, h2⟩ := h
    exact ⟨_, h1, .cons (fS_at _) (.cons h2 .nil)⟩
  | raise e =>
    obtain ⟨x, h1, h2⟩ := h
    exact ⟨_, h1, .cons (fS_at _) (.cons h2 .nil)⟩
  | leave => exact ⟨_, h, .cons (fS_at _) .nil⟩
  | next => exact ⟨_, h, .cons (fS_at _) .nil⟩
  | ife e a b =>
    obtain ⟨x, p, q, ps, qs, h1, h2, h3, h4, h5, h6⟩ := h
    exact ⟨_, h1, .cons (fS_at _) (.cons h2 (.cons ⟨p, ps, rfl, h3, h4⟩ (.cons ⟨q, qs, rfl, h5, h6⟩ .nil)))⟩
  | loop e b =>
    obtain ⟨x, p, ps, h1, h2, h3, h4⟩ := h
    exact ⟨_, h1, .cons (fS_at _) (.cons h2 (.cons ⟨p, ps, rfl, h3, h4⟩ .nil))⟩
  | ctch b n k h' =>
    obtain ⟨p, q, ps, qs, h1, h3, h4, h5, h6⟩ := h
    exact ⟨_, h1, .cons (fS_at _) (.cons ⟨p, ps, rfl, h3, h4⟩ (.cons (fN_at _) (.cons (fI_at _) (.cons ⟨q, qs, rfl, h5, h6⟩ .nil))))⟩
  | endd b l =>
    obtain ⟨p, q, ps, qs, h1, h3, h4, h5, h6⟩ := h
    exact ⟨_, h1, .cons (fS_at _) (.cons ⟨p, ps, rfl, h3, h4⟩ (.cons ⟨q, qs, rfl, h5, h6⟩ .nil))⟩
theorem ps_cons {xs : List V} {D : Dat} {Ds : List Dat} (h : PsAt K H xs (D :: Ds)) : ∃ x xr, xs = x :: xr ∧ DatAt K H D x ∧ PsAt K H xr Ds := by
  cases h with
  | cons h1 h2 => exact ⟨_, _, rfl, h1, h2⟩
theorem ps_nil {xs : List V} (h : PsAt K H xs []) : xs = [] := by
  cases h
  rfl
theorem ps_1 {xs : List V} {D : Dat} (h : PsAt K H xs [D]) : ∃ x, xs = [x] ∧ DatAt K H D x := by
  obtain ⟨x, xr, e, h1, h2⟩ := ps_cons h
  rw [ps_nil h2] at e
  exact ⟨x, e, h1⟩
theorem ps_2 {xs : List V} {D E : Dat} (h : PsAt K H xs [D, E]) : ∃ x y, xs = [x, y] ∧ DatAt K H D x ∧ DatAt K H E y := by
  obtain ⟨x, xr, e, h1, h2⟩ := ps_cons h
  obtain ⟨y, e2, h3⟩ := ps_1 h2
  rw [e2] at e
  exact ⟨x, y, e, h1, h3⟩
theorem ps_3 {xs : List V} {D E F : Dat} (h : PsAt K H xs [D, E, F]) : ∃ x y z, xs = [x, y, z] ∧ DatAt K H D x ∧ DatAt K H E y ∧ DatAt K H F z := by
  obtain ⟨x, xr, e, h1, h2⟩ := ps_cons h
  obtain ⟨y, z, e2, h3⟩ := ps_2 h2
  rw [e2] at e
  exact ⟨x, y, z, e, h1, h3⟩
theorem ps_4 {xs : List V} {D E F G : Dat} (h : PsAt K H xs [D, E, F, G]) : ∃ x y z u, xs = [x, y, z, u] ∧ DatAt K H D x ∧ DatAt K H E y ∧ DatAt K H F z ∧ DatAt K H G u := by
  obtain ⟨x, xr, e, h1, h2⟩ := ps_cons h
  obtain ⟨y, z, u, e2, h3⟩ := ps_3 h2
  rw [e2] at e
  exact ⟨x, y, z, u, e, h1, h3⟩
theorem ps_5 {xs : List V} {D E F G J : Dat} (h : PsAt K H xs [D, E, F, G, J]) : ∃ x y z u v, xs = [x, y, z, u, v] ∧ DatAt K H D x ∧ DatAt K H E y ∧ DatAt K H F z ∧ DatAt K H G u ∧ DatAt K H J v := by
  obtain ⟨x, xr, e, h1, h2⟩ := ps_cons h
  obtain ⟨y, z, u, v, e2, h3⟩ := ps_4 h2
  rw [e2] at e
  exact ⟨x, y, z, u, v, e, h1, h3⟩
theorem parts_tree {t : Un.Tree} {v : V} {xs : List V} (h : IsTup K H v xs) (p : PsAt K H xs (partsT t)) : TreeAt K H t v := by
  cases t with
  | num n =>
    obtain ⟨x, y, e, ⟨e1, _⟩, ⟨e2, _⟩⟩ := ps_2 p
    rw [e, e1, e2] at h
    exact h
  | box n =>
    obtain ⟨x, y, e, ⟨e1, _⟩, ⟨e2, _⟩⟩ := ps_2 p
    rw [e, e1, e2] at h
    exact h
  | call f t =>
    obtain ⟨x, y, z, e, ⟨e1, _⟩, ⟨e2, _⟩, h3⟩ := ps_3 p
    rw [e, e1, e2] at h
    exact ⟨z, h, h3⟩
  | bin o a b =>
    obtain ⟨x, y, z, e, ⟨e1, _⟩, h2, h3⟩ := ps_3 p
    rw [e, e1] at h
    exact ⟨y, z, h, h2, h3⟩
theorem parts_sm {s : Sm} {v : V} {xs : List V} (h : IsTup K H v xs) (p : PsAt K H xs (partsD s)) : SmAt K H s v := by
  cases s with
  | set k e =>
    obtain ⟨x, y, z, e, ⟨e1, _⟩, ⟨e2, _⟩, h3⟩ := ps_3 p
    rw [e, e1, e2] at h
    exact ⟨z, h, h3⟩
  | say e =>
    obtain ⟨x, y, e, ⟨e1, _⟩, h3⟩ := ps_2 p
    rw [e, e1] at h
    exact ⟨y, h, h3⟩
  | give e =>
    obtain ⟨x, y, e, ⟨e1, _⟩, h3⟩ := ps_2 p
    rw [e, e1] at h
    exact ⟨y, h, h3⟩
  | raise e =>
    obtain ⟨x, y, e, ⟨e1, _⟩, h3⟩ := ps_2 p
    rw [e, e1] at h
    exact ⟨y, h, h3⟩
  | leave =>
    obtain ⟨x, e, ⟨e1, _⟩⟩ := ps_1 p
    rw [e, e1] at h
    exact h
  | next =>
    obtain ⟨x, e, ⟨e1, _⟩⟩ := ps_1 p
    rw [e, e1] at h
    exact h
  | ife e a b =>
    obtain ⟨x, y, z, u, e, ⟨e1, _⟩, h2, ⟨q1, p1, e3, h3, h4⟩, ⟨q2, p2, e5, h5, h6⟩⟩ := ps_4 p
    rw [e, e1, e3, e5] at h
    exact ⟨y, q1, q2, p1, p2, h, h2, h3, h4, h5, h6⟩
  | loop e b =>
    obtain ⟨x, y, z, e, ⟨e1, _⟩, h2, ⟨q1, p1, e3, h3, h4⟩⟩ := ps_3 p
    rw [e, e1, e3] at h
    exact ⟨y, q1, p1, h, h2, h3, h4⟩
  | ctch b n k h' =>
    obtain ⟨x, y, z, u, w, e, ⟨e1, _⟩, ⟨q1, p1, e3, h3, h4⟩, ⟨e7, _⟩, ⟨e8, _⟩, ⟨q2, p2, e5, h5, h6⟩⟩ := ps_5 p
    rw [e, e1, e3, e5, e7, e8] at h
    exact ⟨q1, q2, p1, p2, h, h3, h4, h5, h6⟩
  | endd b l =>
    obtain ⟨x, y, z, e, ⟨e1, _⟩, ⟨q1, p1, e3, h3, h4⟩, ⟨q2, p2, e5, h5, h6⟩⟩ := ps_3 p
    rw [e, e1, e3, e5] at h
    exact ⟨q1, q2, p1, p2, h, h3, h4, h5, h6⟩
theorem sms_all {b : List Sm} {vs : List V} (h : SmsAt K H b vs) : PsAt K H vs (b.map .sm) := by
  induction b generalizing vs with
  | nil => rw [show vs = [] from h]; exact .nil
  | cons s b ih =>
    obtain ⟨v, vr, e, h1, h2⟩ := h
    rw [e]
    exact .cons h1 (ih h2)
theorem all_sms {b : List Sm} {vs : List V} (h : PsAt K H vs (b.map .sm)) : SmsAt K H b vs := by
  induction b generalizing vs with
  | nil => cases h; rfl
  | cons s b ih =>
    cases h with
    | cons h1 h2 => exact ⟨_, _, rfl, h1, ih h2⟩
end
end U

set_option maxHeartbeats 8000000
namespace U
open PySem PySem.Spec PyProof.Rows L2 Un
local macro_rules | `(tactic| walk_at "w1") => `(tactic| first
  | ((with_reducible refine' w_ixT ?h1 ?h2 ?_); (case h1 => assumption); (case h2 => rfl)))
local macro_rules | `(tactic| walk_at "w1") => `(tactic| first
  | with_reducible refine w_seq ?_
  | with_reducible refine w_asg ?_
  | with_reducible refine w_op ?_
  | ((with_reducible refine' w_var ?h1 ?_); (case h1 => rfl))
  | with_reducible refine w_c ?_
  | with_reducible refine w_name ?_
  | with_reducible refine w_tFd ?_
  | ((with_reducible refine' w_fld ?h1 ?h2 ?_); (case h1 => assumption); (case h2 => rfl))
  | with_reducible refine w_if ?_
  | with_reducible refine w_test ?_
  | with_reducible refine w_eqS ?_
  | with_reducible refine w_eqI ?_
  | with_reducible refine w_neS ?_
  | with_reducible refine w_neI ?_
  | with_reducible refine w_isN ?_
  | with_reducible refine w_isnN ?_
  | with_reducible refine w_bl ?_
  | with_reducible refine w_ret ?_
  | with_reducible refine w_drop ?_
  | with_reducible refine w_next ?_
  | with_reducible refine w_cons ?_
  | with_reducible refine w_nil ?_
  | with_reducible refine w_call ?_
  | with_reducible refine w_cb ?_
  | with_reducible refine w_meth ?_
  | ((with_reducible refine' w_recv ?h1 ?h2 ?_); (case h1 => assumption); (case h2 => rfl))
  | with_reducible refine w_sFd ?_
  | ((with_reducible refine' w_put ?h1 ?h2 ?_); (case h1 => assumption); (case h2 => exact Nat.le_of_ble_eq_true rfl))
  | with_reducible refine w_add ?_
  | with_reducible refine w_sub ?_
  | with_reducible refine w_lt ?_
  | with_reducible refine w_le ?_
  | with_reducible refine w_gt ?_
  | with_reducible refine w_ge ?_
  | with_reducible refine w_bm ?_
  | with_reducible refine w_bm0 ?_
  | ((with_reducible refine' w_ty ?h1 ?_); (case h1 => assumption))
  | with_reducible refine w_tup ?_
  | with_reducible refine w_lst ?_
  | ((with_reducible refine' w_new ?h1 ?_); (case h1 => exact Nat.le_of_ble_eq_true rfl))
  | with_reducible refine w_gsub ?_
  | with_reducible refine w_make ?_
  | with_reducible refine w_lc ?_
  | with_reducible refine w_iList ?_
  | with_reducible refine w_for ?_
  | with_reducible refine w_yes ?_
  | with_reducible refine w_tSl ?_
  | with_reducible refine w_part ?_
  | with_reducible refine w_nopart ?_
  | with_reducible refine w_i ?_
  | with_reducible refine w_rng1 ?_
  | with_reducible refine w_rng2 ?_
  | with_reducible refine w_isiII ?_
  | with_reducible refine w_isiIB ?_
  | with_reducible refine w_isiSS ?_
  | ((with_reducible refine w_mod ?h1 ?_); (case h1 => decide))
  | ((with_reducible refine w_fdC' ?h1 ?h2 ?_); (case h1 => decide); (case h2 => decide))
  | ((with_reducible refine w_mulR ?h1 ?h2 ?_); (case h1 => decide); (case h2 => decide))
  | ((with_reducible refine w_mulL ?h1 ?h2 ?_); (case h1 => decide); (case h2 => decide))
  | ((with_reducible refine w_pow' ?h1 ?h2 ?h3 ?_); (case h1 => decide); (case h2 => decide); (case h3 => decide))
  | with_reducible refine w_andV ?_
  | with_reducible refine w_orV ?_
  | with_reducible refine w_notV ?_
  | with_reducible refine w_B ?_
  | with_reducible refine w_not ?_
  | with_reducible refine w_and ?_
  | with_reducible refine w_or ?_
  | with_reducible refine w_ifx ?_
  | with_reducible refine w_un ?_
  | ((with_reducible refine w_T ?h1 ?_); (case h1 => with_reducible rfl))
  | ((with_reducible refine w_F ?h1 ?_); (case h1 => with_reducible rfl))
  | ((with_reducible refine w_T ?h1 ?_); (case h1 => decide +kernel))
  | ((with_reducible refine w_F ?h1 ?_); (case h1 => decide +kernel)))
local macro_rules | `(tactic| walk_at "w") => `(tactic| repeat walk_at "w1")

def RowsAt (K : PySem.W.Frag) (B : Hp) (vs : List V) (rs : List Rw) : Prop := All2 (IsRow K B) vs rs
def StrsAt (K : PySem.W.Frag) (B : Hp) (vs : List V) (rs : List Stretch) : Prop := All2 (IsStr K B) vs rs
section
variable {K : PySem.W.Frag} {B B' : Hp}
theorem RowsAt.mono {vs : List V} {rs : List Rw} (h : RowsAt K B vs rs) (s : Same B B') : RowsAt K B' vs rs := All2.mono (fun _ _ q => IsTup.mono s q) h
theorem StrsAt.mono {vs : List V} {rs : List Stretch} (h : StrsAt K B vs rs) (s : Same B B') : StrsAt K B' vs rs := All2.mono (fun _ _ q => IsTup.mono s q) h
theorem IsRow.mono {v : V} {r : Rw} (h : IsRow K B v r) (s : Same B B') : IsRow K B' v r := IsTup.mono s h
theorem IsStr.mono {v : V} {r : Stretch} (h : IsStr K B v r) (s : Same B B') : IsStr K B' v r := IsTup.mono s h
theorem RowsAt.len {vs : List V} {rs : List Rw} (h : RowsAt K B vs rs) : vs.length = rs.length := All2.len h
theorem StrsAt.len {vs : List V} {rs : List Stretch} (h : StrsAt K B vs rs) : vs.length = rs.length := All2.len h
theorem RowsAt.app {vs ws : List V} {rs qs : List Rw} (h : RowsAt K B vs rs) (h2 : RowsAt K B ws qs) : RowsAt K B (vs ++ ws) (rs ++ qs) := All2.app h h2
theorem all2_drop {α β : Type} {R : α → β → Prop} : ∀ (n : Nat) {xs : List α} {ys : List β}, All2 R xs ys → All2 R (xs.drop n) (ys.drop n)
  | 0, _, _, h => h
  | n + 1, [], _, h => by cases h; exact .nil
  | n + 1, _ :: _, _, h => by cases h with | cons _ h => exact all2_drop n h
theorem w_rep {H : Hp} {Q : VK} {l : Addr} {xs : List V} {k : Nat} (h : H l = some (.lst xs)) (h0 : xs.length ≤ 8) (h1 : k < 1000)
    (q : ∀ r, H r = none → Q (.ref r) (upd H r (.lst (List.replicate k xs).flatten))) : rRep (.ref l) (.int (k : Nat)) H Q := by
  refine ⟨l, k, xs, rfl, rfl, h, by omega, by omega, ?_, fun p hp => q p hp⟩
  refine Nat.le_trans (Nat.mul_le_mul h0 (show (k : Int).toNat ≤ 1000 by omega)) ?_
  rw [sizeLine_eq]
  decide
theorem rows_same {u : Addr} {r : Rw} (h : IsRow K B (.ref u) r) : ∀ n : Nat, RowsAt K B (List.replicate n (V.ref u)) (List.replicate n r)
  | 0 => .nil
  | n + 1 => .cons h (rows_same h n)
def sp_l_parts (K : PySem.W.Frag) : Sp := fun vs H Q _ => ∃ (N T wide : Nat) (ma mo : Addr) (ra : Bool) (mks : List Bool) (mos : List Int), vs = [.int (N : Nat), .ref ma, .bl ra, .int (wide : Nat), .int (T : Nat), .ref mo] ∧ SqL K H ma (mks.map V.bl) ∧ SqL K H mo (mos.map V.int) ∧
  mks.length = N ∧ mos.length = N ∧ 1 ≤ N ∧ N ≤ 12 ∧ wide ≤ 2 ∧
  ∀ H' r c st sr cs ss P, P = parts4 (4 - T % 3 * 2) N (T / 3) (fun k => mks.getD k false) (fun k => mos.getD k 0) ra (T / 36 % 3) wide → Same H H' → RawAt H' r (.tup [.ref c, .ref st, .ref sr, .int 1]) → RawAt H' c (.lst cs) → RowsAt K H' cs P.code → RawAt H' st (.lst ss) → StrsAt K H' ss P.str →
    RawAt H' sr (.lst (P.starts.map V.int)) → Q (.ref r) H'
theorem p_l_parts (vs : List V) (H : Hp) (Q : VK) (E : XK) (h : sp_l_parts K vs H Q E) : t_l_parts K { nx := fun _ H' => Q .non H', rt := Q } (L2.start n_l_parts vs) H := by
  obtain ⟨N, T, wide, ma, mo, ra, mks, mos, rfl, hma, hmo, lmk, lmo, hN, h12, hw, q⟩ := h
  unfold t_l_parts
  obtain ⟨B, w, s⟩ : ∃ B, Own B H [] ∧ Same H B := ⟨H, Own.nil (Same.refl H), Same.refl H⟩
  obtain ⟨H0, eH0⟩ : ∃ H0, H0 = H := ⟨H, rfl⟩
  rw [← eH0] at hma hmo s q
  clear eH0
  replace hma : LsAt K B ma (mks.map V.bl) := s.seq hma
  replace hmo : LsAt K B mo (mos.map V.int) := s.seq hmo
  walk_at "w"
  refine fun u1 hNew => ?_
  obtain ⟨B, w, sNew, gNew⟩ := w.more (o := .tup ([.str "put", .int 77])) hNew
  have g1 : IsRow K B (.ref u1) (.put 77) := ⟨u1, rfl, SqT.of gNew⟩
  replace s := s.trans sNew
  replace hma := hma.mono sNew
  replace hmo := hmo.mono sNew
  clear sNew hNew gNew
  generalize upd H u1 _ = H at w ⊢
  walk_at "w"
  refine fun u2 hNew => ?_
  obtain ⟨B, w, sNew, gNew⟩ := w.more (o := .tup ([.str "say"])) hNew
  have g2 : IsRow K B (.ref u2) (.say) := ⟨u2, rfl, SqT.of gNew⟩
  replace s := s.trans sNew
  replace hma := hma.mono sNew
  replace hmo := hmo.mono sNew
  replace g1 := g1.mono sNew
  clear sNew hNew gNew
  generalize upd H u2 _ = H at w ⊢
  walk_at "w"
  refine fun u3 hNew => ?_
  obtain ⟨B, w, sNew, gNew⟩ := w.more (o := .tup ([.str "put", .int 78])) hNew
  have g3 : IsRow K B (.ref u3) (.put 78) := ⟨u3, rfl, SqT.of gNew⟩
  replace s := s.trans sNew
  replace hma := hma.mono sNew
  replace hmo := hmo.mono sNew
  replace g1 := g1.mono sNew
  replace g2 := g2.mono sNew
  clear sNew hNew gNew
  generalize upd H u3 _ = H at w ⊢
  walk_at "w"
  refine fun u4 hNew => ?_
  obtain ⟨B, w, sNew, gNew⟩ := w.more (o := .tup ([.str "back"])) hNew
  have g4 : IsRow K B (.ref u4) (.back) := ⟨u4, rfl, SqT.of gNew⟩
  replace s := s.trans sNew
  replace hma := hma.mono sNew
  replace hmo := hmo.mono sNew
  replace g1 := g1.mono sNew
  replace g2 := g2.mono sNew
  replace g3 := g3.mono sNew
  clear sNew hNew gNew
  generalize upd H u4 _ = H at w ⊢
  walk_at "w"
  refine fun u5 h5 => ?_
  obtain ⟨B, w, sNew, g5⟩ := w.more (o := .lst [.ref u1, .ref u2, .ref u3, .ref u4]) h5
  replace g5 : RawAt B u5 (.lst [.ref u1, .ref u2, .ref u3, .ref u4]) := g5
  replace s := s.trans sNew
  replace hma := hma.mono sNew
  replace hmo := hmo.mono sNew
  replace g1 := g1.mono sNew
  replace g2 := g2.mono sNew
  replace g3 := g3.mono sNew
  replace g4 := g4.mono sNew
  clear sNew h5
  generalize upd H u5 _ = H at w ⊢
  walk_at "w"
  obtain ⟨e3, he3⟩ : ∃ e : Nat, e = 4 - T % 3 * 2 := ⟨_, rfl⟩
  have hT3 : (4 : Int) - (T : Int) % 3 * 2 = ((e3 : Nat) : Int) := by omega
  rw [hT3]
  refine w_slL (SqL.of (w.same _ _ g5)) fun cq hcq => ?_
  rw [cut_from]
  have f0 : RowsAt K B (([.ref u1, .ref u2, .ref u3, .ref u4] : List V).drop e3) (head4 e3) := all2_drop e3 (.cons g1 (.cons g2 (.cons g3 (.cons g4 .nil))))
  generalize ([.ref u1, .ref u2, .ref u3, .ref u4] : List V).drop e3 = cvs at f0 ⊢
  clear g1 g2 g3 g4 g5
  obtain ⟨B, w, sNew, gc⟩ := w.more (o := .lst cvs) hcq
  replace gc : RawAt B cq (.lst cvs) := gc
  replace s := s.trans sNew
  replace hma := hma.mono sNew
  replace hmo := hmo.mono sNew
  replace f0 := f0.mono sNew
  clear sNew hcq
  generalize upd H cq _ = H at w ⊢
  rw [← he3] at q
  clear hT3 he3
  walk_at "w"
  refine fun st hst => ?_
  replace w := w.take (o := .lst []) hst
  clear hst
  generalize upd H st (.lst []) = H at w ⊢
  walk_at "w"
  refine fun u6 h6 => ?_
  obtain ⟨B, w, sNew, g6⟩ := w.more (o := .lst [.int 0]) h6
  replace g6 : RawAt B u6 (.lst [.int 0]) := g6
  replace s := s.trans sNew
  replace hma := hma.mono sNew
  replace hmo := hmo.mono sNew
  replace f0 := f0.mono sNew
  replace gc := gc.mono sNew
  clear sNew h6
  generalize upd H u6 _ = H at w ⊢
  walk_at "w"
  refine w_rep (w.same _ _ g6) (Nat.le_of_ble_eq_true rfl) (by omega) fun sr hsr => ?_
  replace w := (w.take (o := .lst (List.replicate N [V.int 0]).flatten) hsr).swp
  clear hsr g6
  generalize upd H sr _ = H at w ⊢
  rw [flat_rep, show List.replicate N (V.int 0) = (List.replicate N (0 : Int)).map V.int by rw [List.map_replicate]] at w
  walk_at "w"
  refine w_r1 (by omega) (by omega) ?_
  rw [Int.toNat_natCast]
  generalize hmk : (fun k => mks.getD k false) = mk at q
  generalize hmf : (fun k => mos.getD k 0) = mf at q
  have hd2 : T / 36 % 3 ≤ 2 := by omega
  generalize hd : T / 36 % 3 = d at q hd2
  generalize ho : T / 3 = o at q
  have eo : (T : Int) / 3 = (o : Int) := by omega
  have ed : (T : Int) / 36 % 3 = (d : Int) := by omega
  have bl := bld4_len e3 N o mk mf ra hd2
  refine for_range (fun i σ H' => ∃ B cq cvs ss x9 x10, Own B H' [(st, .lst ss), (sr, .lst ((bld4 e3 N o mk mf ra d i).starts.map V.int))] ∧ Same H0 B ∧ LsAt K B ma (mks.map V.bl) ∧ LsAt K B mo (mos.map V.int) ∧ RawAt B cq (.lst cvs) ∧ RowsAt K B cvs (bld4 e3 N o mk mf ra d i).code ∧ StrsAt K B ss (bld4 e3 N o mk mf ra d i).str ∧
      σ = [some (.int (N : Nat)), some (.ref ma), some (.bl ra), some (.int (wide : Nat)), some (.int (T : Nat)), some (.ref mo), some (.ref cq), some (.ref st), some (.ref sr), x9, x10])
    ⟨B, cq, cvs, [], _, _, w, s, hma, hmo, gc, f0, .nil, rfl⟩ ?_ ?_
  · clear w s hma hmo gc f0
    rintro i σ H hi ⟨B, cq, cvs, ss, x9, x10, w, s, hma, hmo, gc, fc, fs, rfl⟩
    obtain ⟨bl1, bl2, bl3⟩ := bl i
    rw [bld4]
    generalize bld4 e3 N o mk mf ra d i = b4 at w fc fs bl1 bl2 bl3 ⊢
    have lc := fc.len
    have ls := fs.len
    walk_at "w"
    refine w_mod (by omega) ?_
    rw [eo, show (0 : Int) + (i : Int) + (o : Int) = ((i + o : Nat) : Int) by omega, ← Int.natCast_emod]
    have hk : (i + o) % N < N := Nat.mod_lt _ (by omega)
    unfold add4
    generalize (i + o) % N = k at hk ⊢
    walk_at "w"
    have hcq : H cq = some (.lst cvs) := w.same _ _ gc
    refine w_lenL (SqL.of hcq) ?_
    have hsr := w.ix 1 rfl
    walk_at "w"
    refine w_setL hsr (by omega) (by rw [List.length_map, bl3]; omega) ?_
    rw [lc, Int.toNat_natCast, ← List.map_set]
    replace w := w.set 1 (.lst ((b4.starts.set k (b4.code.length : Int)).map V.int)) rfl
    change Own B _ [(st, .lst ss), (sr, .lst ((b4.starts.set k (b4.code.length : Int)).map V.int))] at w
    clear hsr hcq
    generalize upd H sr _ = H at w ⊢
    walk_at "w"
    refine w_D (fun ck => ?_) (fun ck => ?_)
    · have ek : k + 1 = N := by omega
      unfold blk4 strs4
      rw [if_pos ek, if_pos ek, List.append_nil]
      walk_at "w"
      refine fun u1 hNew => ?_
      obtain ⟨B, w, sNew, gNew⟩ := w.more (o := .tup ([.str "put", .int 9])) hNew
      have g1 : IsRow K B (.ref u1) (.put 9) := ⟨u1, rfl, SqT.of gNew⟩
      replace s := s.trans sNew
      replace hma := hma.mono sNew
      replace hmo := hmo.mono sNew
      replace gc := gc.mono sNew
      replace fc := fc.mono sNew
      replace fs := fs.mono sNew
      clear sNew hNew gNew
      generalize upd H u1 _ = H at w ⊢
      walk_at "w"
      refine fun u2 h2 => ?_
      obtain ⟨B, w, sNew, g2⟩ := w.more (o := .lst [.ref u1]) h2
      replace g2 : RawAt B u2 (.lst [.ref u1]) := g2
      replace s := s.trans sNew
      replace hma := hma.mono sNew
      replace hmo := hmo.mono sNew
      replace gc := gc.mono sNew
      replace fc := fc.mono sNew
      replace fs := fs.mono sNew
      replace g1 := g1.mono sNew
      clear sNew h2
      generalize upd H u2 _ = H at w ⊢
      walk_at "w"
      rw [ed]
      refine w_rep (w.same _ _ g2) (Nat.le_of_ble_eq_true rfl) (by omega) fun u3 h3 => ?_
      rw [flat_rep]
      obtain ⟨B, w, sNew, g3⟩ := w.more (o := .lst (List.replicate d (V.ref u1))) h3
      replace g3 : RawAt B u3 (.lst (List.replicate d (V.ref u1))) := g3
      replace s := s.trans sNew
      replace hma := hma.mono sNew
      replace hmo := hmo.mono sNew
      replace gc := gc.mono sNew
      replace fc := fc.mono sNew
      replace fs := fs.mono sNew
      replace g1 := g1.mono sNew
      clear sNew h3
      generalize upd H u3 _ = H at w ⊢
      have r3 : RowsAt K B (List.replicate d (V.ref u1)) (List.replicate d (.put 9)) := rows_same g1 d
      generalize hr3 : List.replicate d (V.ref u1) = w3 at g3 r3
      have l3 : w3.length = d := by rw [← hr3, List.length_replicate]
      clear g1 g2 hr3
      refine w_cat (w.same _ _ gc) (w.same _ _ g3) (by rw [sizeLine_eq]; omega) fun u4 h4 => ?_
      obtain ⟨B, w, sNew, g4⟩ := w.more (o := .lst (cvs ++ w3)) h4
      replace g4 : RawAt B u4 (.lst (cvs ++ w3)) := g4
      replace s := s.trans sNew
      replace hma := hma.mono sNew
      replace hmo := hmo.mono sNew
      replace fc := fc.mono sNew
      replace fs := fs.mono sNew
      replace r3 := r3.mono sNew
      clear sNew h4
      generalize upd H u4 _ = H at w ⊢
      replace fc := fc.app r3
      clear gc g3 r3
      walk_at "w"
      refine fun u5 hNew => ?_
      obtain ⟨B, w, sNew, gNew⟩ := w.more (o := .tup ([.str "get", .int 0])) hNew
      have g5 : IsRow K B (.ref u5) (.get 0) := ⟨u5, rfl, SqT.of gNew⟩
      replace s := s.trans sNew
      replace hma := hma.mono sNew
      replace hmo := hmo.mono sNew
      replace g4 := g4.mono sNew
      replace fc := fc.mono sNew
      replace fs := fs.mono sNew
      clear sNew hNew gNew
      generalize upd H u5 _ = H at w ⊢
      walk_at "w"
      have fin : ∀ B H u6, Own B H [(st, .lst ss), (sr, .lst ((b4.starts.set k (b4.code.length : Int)).map V.int))] → Same H0 B → LsAt K B ma (mks.map V.bl) → LsAt K B mo (mos.map V.int) → RawAt B u4 (.lst (cvs ++ w3)) → RowsAt K B (cvs ++ w3) (b4.code ++ List.replicate d (.put 9)) → StrsAt K B ss b4.str →
          IsRow K B (.ref u5) (.get 0) → IsRow K B (.ref u6) (if ra then .raise else .back) → [V.ref u5, .ref u6].length ≤ sizeLine ∧ ∀ p, H p = none → (rCat (.ref u4) (.ref p) (upd H p (.lst [.ref u5, .ref u6])) fun v H1 => gName 6 v [some (.int (N : Nat)), some (.ref ma), some (.bl ra), some (.int (wide : Nat)), some (.int (T : Nat)), some (.ref mo), some (.ref cq), some (.ref st), some (.ref sr), some (.int (0 + (i : Int))), some (.int (k : Nat))] H1 fun σ H' => ∃ B cq cvs ss x9 x10, Own B H' [(st, .lst ss), (sr, .lst ((b4.starts.set k (b4.code.length : Int)).map V.int))] ∧ Same H0 B ∧ LsAt K B ma (mks.map V.bl) ∧ LsAt K B mo (mos.map V.int) ∧ RawAt B cq (.lst cvs) ∧ RowsAt K B cvs (b4.code ++ (List.replicate d (.put 9) ++ [.get 0, if ra then .raise else .back])) ∧ StrsAt K B ss b4.str ∧
      σ = [some (.int (N : Nat)), some (.ref ma), some (.bl ra), some (.int (wide : Nat)), some (.int (T : Nat)), some (.ref mo), some (.ref cq), some (.ref st), some (.ref sr), x9, x10]) := by
        clear w s hma hmo g4 fc fs g5
        intro B H u6 w s hma hmo g4 fc fs g5 g6
        refine ⟨by rw [sizeLine_eq]; exact Nat.le_of_ble_eq_true rfl, fun u7 h7 => ?_⟩
        obtain ⟨B, w, sNew, g7⟩ := w.more (o := .lst [.ref u5, .ref u6]) h7
        replace g7 : RawAt B u7 (.lst [.ref u5, .ref u6]) := g7
        replace s := s.trans sNew
        replace hma := hma.mono sNew
        replace hmo := hmo.mono sNew
        replace g4 := g4.mono sNew
        replace fc := fc.mono sNew
        replace fs := fs.mono sNew
        replace g5 := g5.mono sNew
        replace g6 := g6.mono sNew
        clear sNew h7
        generalize upd H u7 _ = H at w ⊢
        refine w_cat (w.same _ _ g4) (w.same _ _ g7) (by rw [sizeLine_eq, List.length_append]; simp; omega) fun u8 h8 => ?_
        obtain ⟨B, w, sNew, g8⟩ := w.more (o := .lst ((cvs ++ w3) ++ [.ref u5, .ref u6])) h8
        replace g8 : RawAt B u8 (.lst ((cvs ++ w3) ++ [.ref u5, .ref u6])) := g8
        replace s := s.trans sNew
        replace hma := hma.mono sNew
        replace hmo := hmo.mono sNew
        replace fc := fc.mono sNew
        replace fs := fs.mono sNew
        replace g5 := g5.mono sNew
        replace g6 := g6.mono sNew
        clear sNew h8
        generalize upd H u8 _ = H at w ⊢
        refine ⟨B, u8, _, ss, _, _, w, s, hma, hmo, g8, ?_, fs, rfl⟩
        rw [← List.append_assoc]
        exact fc.app (.cons g5 (.cons g6 .nil))
      cases ra with
      | true =>
        walk_at "w"
        refine fun u6 hNew => ?_
        obtain ⟨B, w, sNew, gNew⟩ := w.more (o := .tup ([.str "raise"])) hNew
        have g6 : IsRow K B (.ref u6) (.raise) := ⟨u6, rfl, SqT.of gNew⟩
        replace s := s.trans sNew
        replace hma := hma.mono sNew
        replace hmo := hmo.mono sNew
        replace g4 := g4.mono sNew
        replace fc := fc.mono sNew
        replace fs := fs.mono sNew
        replace g5 := g5.mono sNew
        clear sNew hNew gNew
        generalize upd H u6 _ = H at w ⊢
        exact fin B H u6 w s hma hmo g4 fc fs g5 g6
      | false =>
        walk_at "w"
        refine fun u6 hNew => ?_
        obtain ⟨B, w, sNew, gNew⟩ := w.more (o := .tup ([.str "back"])) hNew
        have g6 : IsRow K B (.ref u6) (.back) := ⟨u6, rfl, SqT.of gNew⟩
        replace s := s.trans sNew
        replace hma := hma.mono sNew
        replace hmo := hmo.mono sNew
        replace g4 := g4.mono sNew
        replace fc := fc.mono sNew
        replace fs := fs.mono sNew
        replace g5 := g5.mono sNew
        clear sNew hNew gNew
        generalize upd H u6 _ = H at w ⊢
        exact fin B H u6 w s hma hmo g4 fc fs g5 g6
    · have ek : ¬ k + 1 = N := by omega
      have hmkk : (mks.map V.bl)[k]? = some (.bl (mk k)) := by
        rw [← hmk, List.getElem?_map, List.getElem?_eq_getElem (by omega)]
        simp [List.getD_eq_getElem?_getD, List.getElem?_eq_getElem (show k < mks.length by omega)]
      have hmok : (mos.map V.int)[k]? = some (.int (mf k)) := by
        rw [← hmf, List.getElem?_map, List.getElem?_eq_getElem (by omega)]
        simp [List.getD_eq_getElem?_getD, List.getElem?_eq_getElem (show k < mos.length by omega)]
      with_reducible refine w_cut (fun σ' H' => ∃ B ss', Own B H' [(st, .lst ss'), (sr, .lst ((b4.starts.set k (b4.code.length : Int)).map V.int))] ∧ Same H0 B ∧ LsAt K B ma (mks.map V.bl) ∧ LsAt K B mo (mos.map V.int) ∧ RawAt B cq (.lst cvs) ∧ RowsAt K B cvs b4.code ∧ StrsAt K B ss' (b4.str ++ strs4 N mk b4.code.length k) ∧
        σ' = [some (.int (N : Nat)), some (.ref ma), some (.bl ra), some (.int (wide : Nat)), some (.int (T : Nat)), some (.ref mo), some (.ref cq), some (.ref st), some (.ref sr), some (.int (0 + (i : Int))), some (.int (k : Nat))]) ?_ fun N2 key => ?_
      · clear w s hma hmo gc fc fs ls
        rintro σ' H ⟨B, ss, w, s, hma, hmo, gc, fc, fs, rfl⟩
        unfold blk4
        rw [if_neg ek]
        generalize b4.str ++ strs4 N mk b4.code.length k = S2 at fs ⊢
        walk_at "w"
        refine w_ixL (w.same.seq hmo) (atI_nat hmok) ?_
        walk_at "w"
        refine fun u1 hNew => ?_
        obtain ⟨B, w, sNew, gNew⟩ := w.more (o := .tup ([.str "put", .int (mf k)])) hNew
        have g1 : IsRow K B (.ref u1) (.put (mf k)) := ⟨u1, rfl, SqT.of gNew⟩
        replace s := s.trans sNew
        replace hma := hma.mono sNew
        replace hmo := hmo.mono sNew
        replace gc := gc.mono sNew
        replace fc := fc.mono sNew
        replace fs := fs.mono sNew
        clear sNew hNew gNew
        generalize upd H u1 _ = H at w ⊢
        walk_at "w"
        refine fun u2 hNew => ?_
        obtain ⟨B, w, sNew, gNew⟩ := w.more (o := .tup ([.str "get", .int 0])) hNew
        have g2 : IsRow K B (.ref u2) (.get 0) := ⟨u2, rfl, SqT.of gNew⟩
        replace s := s.trans sNew
        replace hma := hma.mono sNew
        replace hmo := hmo.mono sNew
        replace gc := gc.mono sNew
        replace fc := fc.mono sNew
        replace fs := fs.mono sNew
        replace g1 := g1.mono sNew
        clear sNew hNew gNew
        generalize upd H u2 _ = H at w ⊢
        walk_at "w"
        refine fun u3 hNew => ?_
        obtain ⟨B, w, sNew, gNew⟩ := w.more (o := .tup ([.str "call", .int ((k : Int) + 1)])) hNew
        have g3 : IsRow K B (.ref u3) (.call ((k : Int) + 1)) := ⟨u3, rfl, SqT.of gNew⟩
        replace s := s.trans sNew
        replace hma := hma.mono sNew
        replace hmo := hmo.mono sNew
        replace gc := gc.mono sNew
        replace fc := fc.mono sNew
        replace fs := fs.mono sNew
        replace g1 := g1.mono sNew
        replace g2 := g2.mono sNew
        clear sNew hNew gNew
        generalize upd H u3 _ = H at w ⊢
        walk_at "w"
        refine fun u4 hNew => ?_
        obtain ⟨B, w, sNew, gNew⟩ := w.more (o := .tup ([.str "add"])) hNew
        have g4 : IsRow K B (.ref u4) (.add) := ⟨u4, rfl, SqT.of gNew⟩
        replace s := s.trans sNew
        replace hma := hma.mono sNew
        replace hmo := hmo.mono sNew
        replace gc := gc.mono sNew
        replace fc := fc.mono sNew
        replace fs := fs.mono sNew
        replace g1 := g1.mono sNew
        replace g2 := g2.mono sNew
        replace g3 := g3.mono sNew
        clear sNew hNew gNew
        generalize upd H u4 _ = H at w ⊢
        walk_at "w"
        refine fun u5 hNew => ?_
        obtain ⟨B, w, sNew, gNew⟩ := w.more (o := .tup ([.str "back"])) hNew
        have g5 : IsRow K B (.ref u5) (.back) := ⟨u5, rfl, SqT.of gNew⟩
        replace s := s.trans sNew
        replace hma := hma.mono sNew
        replace hmo := hmo.mono sNew
        replace gc := gc.mono sNew
        replace fc := fc.mono sNew
        replace fs := fs.mono sNew
        replace g1 := g1.mono sNew
        replace g2 := g2.mono sNew
        replace g3 := g3.mono sNew
        replace g4 := g4.mono sNew
        clear sNew hNew gNew
        generalize upd H u5 _ = H at w ⊢
        walk_at "w"
        refine fun l1 h1 => ?_
        obtain ⟨B, w, sNew, gl⟩ := w.more (o := .lst [.ref u1, .ref u2, .ref u3, .ref u4, .ref u5]) h1
        replace gl : RawAt B l1 (.lst [.ref u1, .ref u2, .ref u3, .ref u4, .ref u5]) := gl
        replace s := s.trans sNew
        replace hma := hma.mono sNew
        replace hmo := hmo.mono sNew
        replace gc := gc.mono sNew
        replace fc := fc.mono sNew
        replace fs := fs.mono sNew
        replace g1 := g1.mono sNew
        replace g2 := g2.mono sNew
        replace g3 := g3.mono sNew
        replace g4 := g4.mono sNew
        replace g5 := g5.mono sNew
        clear sNew h1
        generalize upd H l1 _ = H at w ⊢
        refine w_cat (w.same _ _ gc) (w.same _ _ gl) (by rw [sizeLine_eq]; simp; omega) fun c2 hc2 => ?_
        obtain ⟨B, w, sNew, gc2⟩ := w.more (o := .lst (cvs ++ [.ref u1, .ref u2, .ref u3, .ref u4, .ref u5])) hc2
        replace gc2 : RawAt B c2 (.lst (cvs ++ [.ref u1, .ref u2, .ref u3, .ref u4, .ref u5])) := gc2
        replace s := s.trans sNew
        replace hma := hma.mono sNew
        replace hmo := hmo.mono sNew
        replace fc := fc.mono sNew
        replace fs := fs.mono sNew
        replace g1 := g1.mono sNew
        replace g2 := g2.mono sNew
        replace g3 := g3.mono sNew
        replace g4 := g4.mono sNew
        replace g5 := g5.mono sNew
        clear sNew hc2
        generalize upd H c2 _ = H at w ⊢
        have fc2 : RowsAt K B (cvs ++ [.ref u1, .ref u2, .ref u3, .ref u4, .ref u5]) (b4.code ++ [.put (mf k), .get 0, .call ((k : Int) + 1), .add, .back]) := fc.app (.cons g1 (.cons g2 (.cons g3 (.cons g4 (.cons g5 .nil)))))
        clear gl gc g1 g2 g3 g4 g5 fc
        generalize hcv : cvs ++ [V.ref u1, .ref u2, .ref u3, .ref u4, .ref u5] = cvs2 at gc2 fc2 ⊢
        have lcv : cvs2.length ≤ 1000 := by rw [← hcv, List.length_append]; simp; omega
        walk_at "w"
        refine fun v1 hNew => ?_
        obtain ⟨B, w, sNew, gNew⟩ := w.more (o := .tup ([.str "say"])) hNew
        have g1 : IsRow K B (.ref v1) (.say) := ⟨v1, rfl, SqT.of gNew⟩
        replace s := s.trans sNew
        replace hma := hma.mono sNew
        replace hmo := hmo.mono sNew
        replace gc2 := gc2.mono sNew
        replace fc2 := fc2.mono sNew
        replace fs := fs.mono sNew
        clear sNew hNew gNew
        generalize upd H v1 _ = H at w ⊢
        walk_at "w"
        refine fun v2 hNew => ?_
        obtain ⟨B, w, sNew, gNew⟩ := w.more (o := .tup ([.str "put", .int (50 + (k : Int))])) hNew
        have g2 : IsRow K B (.ref v2) (.put (50 + (k : Int))) := ⟨v2, rfl, SqT.of gNew⟩
        replace s := s.trans sNew
        replace hma := hma.mono sNew
        replace hmo := hmo.mono sNew
        replace gc2 := gc2.mono sNew
        replace fc2 := fc2.mono sNew
        replace fs := fs.mono sNew
        replace g1 := g1.mono sNew
        clear sNew hNew gNew
        generalize upd H v2 _ = H at w ⊢
        walk_at "w"
        refine fun v3 hNew => ?_
        obtain ⟨B, w, sNew, gNew⟩ := w.more (o := .tup ([.str "back"])) hNew
        have g3 : IsRow K B (.ref v3) (.back) := ⟨v3, rfl, SqT.of gNew⟩
        replace s := s.trans sNew
        replace hma := hma.mono sNew
        replace hmo := hmo.mono sNew
        replace gc2 := gc2.mono sNew
        replace fc2 := fc2.mono sNew
        replace fs := fs.mono sNew
        replace g1 := g1.mono sNew
        replace g2 := g2.mono sNew
        clear sNew hNew gNew
        generalize upd H v3 _ = H at w ⊢
        walk_at "w"
        refine fun l1 h1 => ?_
        obtain ⟨B, w, sNew, gl⟩ := w.more (o := .lst [.ref v1, .ref v2, .ref v3]) h1
        replace gl : RawAt B l1 (.lst [.ref v1, .ref v2, .ref v3]) := gl
        replace s := s.trans sNew
        replace hma := hma.mono sNew
        replace hmo := hmo.mono sNew
        replace gc2 := gc2.mono sNew
        replace fc2 := fc2.mono sNew
        replace fs := fs.mono sNew
        replace g1 := g1.mono sNew
        replace g2 := g2.mono sNew
        replace g3 := g3.mono sNew
        clear sNew h1
        generalize upd H l1 _ = H at w ⊢
        refine w_cat (w.same _ _ gc2) (w.same _ _ gl) (by rw [sizeLine_eq]; simp; omega) fun c3 hc3 => ?_
        obtain ⟨B, w, sNew, gc3⟩ := w.more (o := .lst (cvs2 ++ [.ref v1, .ref v2, .ref v3])) hc3
        replace gc3 : RawAt B c3 (.lst (cvs2 ++ [.ref v1, .ref v2, .ref v3])) := gc3
        replace s := s.trans sNew
        replace hma := hma.mono sNew
        replace hmo := hmo.mono sNew
        replace fc2 := fc2.mono sNew
        replace fs := fs.mono sNew
        replace g1 := g1.mono sNew
        replace g2 := g2.mono sNew
        replace g3 := g3.mono sNew
        clear sNew hc3
        generalize upd H c3 _ = H at w ⊢
        walk_at "w"
        refine ⟨B, c3, _, ss, _, _, w, s, hma, hmo, gc3, ?_, fs, rfl⟩
        have := fc2.app (.cons g1 (.cons g2 (.cons g3 .nil)))
        rw [List.append_assoc] at this
        exact this
      · walk_at "w"
        refine w_ixL (w.same.seq hma) (atI_nat hmkk) ?_
        walk_at "w"
        refine w_2 (fun hm => ?_) (fun hm => ?_)
        · have hst := w.ix 0 rfl
          have hcq : H cq = some (.lst cvs) := w.same _ _ gc
          walk_at "w"
          refine w_lenL (SqL.of hcq) ?_
          walk_at "w"
          refine w_lenL (SqL.of hcq) ?_
          walk_at "w"
          refine w_lenL (SqL.of hcq) ?_
          walk_at "w"
          rw [lc]
          refine fun u1 h1 => ?_
          clear hst hcq
          obtain ⟨B, w, sNew, g1⟩ := w.more (o := .tup [.int (b4.code.length : Nat), .int ((b4.code.length : Nat) + 3), .int ((b4.code.length : Nat) + 5)]) h1
          replace g1 : RawAt B u1 (.tup [.int (b4.code.length : Nat), .int ((b4.code.length : Nat) + 3), .int ((b4.code.length : Nat) + 5)]) := g1
          replace s := s.trans sNew
          replace hma := hma.mono sNew
          replace hmo := hmo.mono sNew
          replace gc := gc.mono sNew
          replace fc := fc.mono sNew
          replace fs := fs.mono sNew
          clear sNew h1
          generalize upd H u1 _ = H at w ⊢
          have hst := w.ix 0 rfl
          walk_at "w"
          refine w_app hst (lim_lt (by unfold LIM; omega)) ?_
          refine key _ _ ⟨B, ss ++ [.ref u1], w.set 0 (.lst (ss ++ [.ref u1])) rfl, s, hma, hmo, gc, fc, ?_, rfl⟩
          unfold strs4
          rw [if_neg ek, if_pos hm]
          exact All2.app fs (.cons ⟨u1, rfl, SqT.of g1⟩ .nil)
        · walk_at "w"
          refine key _ _ ⟨B, ss, w, s, hma, hmo, gc, fc, ?_, rfl⟩
          unfold strs4
          rw [if_neg ek, if_neg (by rw [hm]; exact Bool.false_ne_true), List.append_nil]
          exact fs
  · clear w s hma hmo gc f0
    rintro σ H ⟨B, cq, cvs, ss, x9, x10, w, s, hma, hmo, gc, fc, fs, rfl⟩
    obtain ⟨bl1, bl2, bl3⟩ := bl N
    have hq := fun H' r c st sr cs ss => q H' r c st sr cs ss _ rfl
    clear q
    unfold parts4 at hq
    generalize bld4 e3 N o mk mf ra d N = b4 at w fc fs bl1 bl2 bl3 hq
    have lc := fc.len
    have ls := fs.len
    obtain ⟨B1, w1, s1, gst⟩ := w.give_
    obtain ⟨B2, w2, s2, gsr⟩ := w1.give_
    replace gst : RawAt B2 st (.lst ss) := s2 _ _ gst
    replace gsr : RawAt B2 sr (.lst (b4.starts.map V.int)) := gsr
    replace s := s.trans (s1.trans s2)
    replace gc := gc.mono (s1.trans s2)
    replace fc := fc.mono (s1.trans s2)
    replace fs := fs.mono (s1.trans s2)
    clear w w1 s1 s2 hma hmo
    generalize B2 = B at *
    have w := w2
    clear w2
    have fin : ∀ B H st ss S2, Own B H [] → Same H0 B → RawAt B cq (.lst cvs) → RowsAt K B cvs b4.code → RawAt B st (.lst ss) → StrsAt K B ss S2 → RawAt B sr (.lst (b4.starts.map V.int)) → S2 = wide4 wide b4.code.length b4.str →
        tRet (tTup (tCons (tOp rCat (tVar 6) (tLst (tCons (tTup (tCons (tC (.str "say")) tNil)) (tCons (tTup (tCons (tC (.str "put")) (tCons (tC (.int 40)) tNil))) (tCons (tTup (tCons (tC (.str "back")) tNil)) tNil))))) (tCons (tVar 7) (tCons (tVar 8) (tCons (tC (.int 1)) tNil))))) { nx := fun _ H' => Q .non H', rt := Q }
          [some (.int (N : Nat)), some (.ref ma), some (.bl ra), some (.int (wide : Nat)), some (.int (T : Nat)), some (.ref mo), some (.ref cq), some (.ref st), some (.ref sr), x9, x10] H := by
      clear w s gc fc gst fs gsr ls
      rintro B H st ss S2 w s gc fc gst fs gsr rfl
      walk_at "w"
      refine fun v1 hNew => ?_
      obtain ⟨B, w, sNew, gNew⟩ := w.more (o := .tup ([.str "say"])) hNew
      have g1 : IsRow K B (.ref v1) (.say) := ⟨v1, rfl, SqT.of gNew⟩
      replace s := s.trans sNew
      replace gc := gc.mono sNew
      replace fc := fc.mono sNew
      replace gst := gst.mono sNew
      replace fs := fs.mono sNew
      replace gsr := gsr.mono sNew
      clear sNew hNew gNew
      generalize upd H v1 _ = H at w ⊢
      walk_at "w"
      refine fun v2 hNew => ?_
      obtain ⟨B, w, sNew, gNew⟩ := w.more (o := .tup ([.str "put", .int 40])) hNew
      have g2 : IsRow K B (.ref v2) (.put 40) := ⟨v2, rfl, SqT.of gNew⟩
      replace s := s.trans sNew
      replace gc := gc.mono sNew
      replace fc := fc.mono sNew
      replace gst := gst.mono sNew
      replace fs := fs.mono sNew
      replace gsr := gsr.mono sNew
      replace g1 := g1.mono sNew
      clear sNew hNew gNew
      generalize upd H v2 _ = H at w ⊢
      walk_at "w"
      refine fun v3 hNew => ?_
      obtain ⟨B, w, sNew, gNew⟩ := w.more (o := .tup ([.str "back"])) hNew
      have g3 : IsRow K B (.ref v3) (.back) := ⟨v3, rfl, SqT.of gNew⟩
      replace s := s.trans sNew
      replace gc := gc.mono sNew
      replace fc := fc.mono sNew
      replace gst := gst.mono sNew
      replace fs := fs.mono sNew
      replace gsr := gsr.mono sNew
      replace g1 := g1.mono sNew
      replace g2 := g2.mono sNew
      clear sNew hNew gNew
      generalize upd H v3 _ = H at w ⊢
      walk_at "w"
      refine fun l1 h1 => ?_
      obtain ⟨B, w, sNew, gl⟩ := w.more (o := .lst [.ref v1, .ref v2, .ref v3]) h1
      replace gl : RawAt B l1 (.lst [.ref v1, .ref v2, .ref v3]) := gl
      replace s := s.trans sNew
      replace gc := gc.mono sNew
      replace fc := fc.mono sNew
      replace gst := gst.mono sNew
      replace fs := fs.mono sNew
      replace gsr := gsr.mono sNew
      replace g1 := g1.mono sNew
      replace g2 := g2.mono sNew
      replace g3 := g3.mono sNew
      clear sNew h1
      generalize upd H l1 _ = H at w ⊢
      refine w_cat (w.same _ _ gc) (w.same _ _ gl) (by rw [sizeLine_eq]; simp; omega) fun c3 hc3 => ?_
      obtain ⟨B, w, sNew, gc3⟩ := w.more (o := .lst (cvs ++ [.ref v1, .ref v2, .ref v3])) hc3
      replace gc3 : RawAt B c3 (.lst (cvs ++ [.ref v1, .ref v2, .ref v3])) := gc3
      replace s := s.trans sNew
      replace fc := fc.mono sNew
      replace gst := gst.mono sNew
      replace fs := fs.mono sNew
      replace gsr := gsr.mono sNew
      replace g1 := g1.mono sNew
      replace g2 := g2.mono sNew
      replace g3 := g3.mono sNew
      clear sNew hc3
      generalize upd H c3 _ = H at w ⊢
      walk_at "w"
      refine fun r hr => ?_
      obtain ⟨B, w, sNew, gr⟩ := w.more (o := .tup [.ref c3, .ref st, .ref sr, .int 1]) hr
      replace gr : RawAt B r (.tup [.ref c3, .ref st, .ref sr, .int 1]) := gr
      replace s := s.trans sNew
      replace gc3 := gc3.mono sNew
      replace fc := fc.mono sNew
      replace gst := gst.mono sNew
      replace fs := fs.mono sNew
      replace gsr := gsr.mono sNew
      replace g1 := g1.mono sNew
      replace g2 := g2.mono sNew
      replace g3 := g3.mono sNew
      clear sNew hr
      generalize upd H r _ = H at w ⊢
      exact hq H r c3 st sr _ ss (s.trans w.same) (w.same _ _ gr) (w.same _ _ gc3) ((fc.app (.cons g1 (.cons g2 (.cons g3 .nil)))).mono w.same) (w.same _ _ gst) (fs.mono w.same) (w.same _ _ gsr)
    have hcq : H cq = some (.lst cvs) := w.same _ _ gc
    generalize tRet (tTup (tCons (tOp rCat (tVar 6) (tLst (tCons (tTup (tCons (tC (.str "say")) tNil)) (tCons (tTup (tCons (tC (.str "put")) (tCons (tC (.int 40)) tNil))) (tCons (tTup (tCons (tC (.str "back")) tNil)) tNil))))) (tCons (tVar 7) (tCons (tVar 8) (tCons (tC (.int 1)) tNil))))) = RET at fin ⊢
    rcases (by omega : wide = 0 ∨ wide = 1 ∨ wide = 2) with e | e | e
    · subst e
      walk_at "w"
      exact fin B H st ss _ w s gc fc gst fs gsr rfl
    · subst e
      walk_at "w"
      refine w_lenL (SqL.of hcq) ?_
      walk_at "w"
      refine w_lenL (SqL.of hcq) ?_
      walk_at "w"
      rw [lc]
      refine fun u1 h1 => ?_
      obtain ⟨B, w, sNew, g1⟩ := w.more (o := .tup [.int 0, .int (b4.code.length : Nat), .int (b4.code.length : Nat)]) h1
      replace g1 : RawAt B u1 (.tup [.int 0, .int (b4.code.length : Nat), .int (b4.code.length : Nat)]) := g1
      replace s := s.trans sNew
      replace gc := gc.mono sNew
      replace fc := fc.mono sNew
      replace gst := gst.mono sNew
      replace fs := fs.mono sNew
      replace gsr := gsr.mono sNew
      clear sNew h1
      generalize upd H u1 _ = H at w ⊢
      walk_at "w"
      refine fun u2 h2 => ?_
      obtain ⟨B, w, sNew, g2⟩ := w.more (o := .lst [.ref u1]) h2
      replace g2 : RawAt B u2 (.lst [.ref u1]) := g2
      replace s := s.trans sNew
      replace gc := gc.mono sNew
      replace fc := fc.mono sNew
      replace gst := gst.mono sNew
      replace fs := fs.mono sNew
      replace gsr := gsr.mono sNew
      replace g1 := g1.mono sNew
      clear sNew h2
      generalize upd H u2 _ = H at w ⊢
      walk_at "w"
      refine w_cat (w.same _ _ g2) (w.same _ _ gst) (by rw [sizeLine_eq]; simp; omega) fun u3 h3 => ?_
      obtain ⟨B, w, sNew, g3⟩ := w.more (o := .lst ([.ref u1] ++ ss)) h3
      replace g3 : RawAt B u3 (.lst ([.ref u1] ++ ss)) := g3
      replace s := s.trans sNew
      replace gc := gc.mono sNew
      replace fc := fc.mono sNew
      replace gst := gst.mono sNew
      replace fs := fs.mono sNew
      replace gsr := gsr.mono sNew
      replace g1 := g1.mono sNew
      clear sNew h3
      generalize upd H u3 _ = H at w ⊢
      walk_at "w"
      exact fin B H u3 _ _ w s gc fc g3 (.cons (show IsStr K B (.ref u1) (0, (b4.code.length : Int), (b4.code.length : Int)) from ⟨u1, rfl, SqT.of g1⟩) fs) gsr rfl
    · subst e
      walk_at "w"
      refine w_lenL (SqL.of hcq) ?_
      walk_at "w"
      refine w_lenL (SqL.of hcq) ?_
      walk_at "w"
      rw [lc]
      refine fun u1 h1 => ?_
      obtain ⟨B, w, sNew, g1⟩ := w.more (o := .tup [.int 0, .int (b4.code.length : Nat), .int (b4.code.length : Nat)]) h1
      replace g1 : RawAt B u1 (.tup [.int 0, .int (b4.code.length : Nat), .int (b4.code.length : Nat)]) := g1
      replace s := s.trans sNew
      replace gc := gc.mono sNew
      replace fc := fc.mono sNew
      replace gst := gst.mono sNew
      replace fs := fs.mono sNew
      replace gsr := gsr.mono sNew
      clear sNew h1
      generalize upd H u1 _ = H at w ⊢
      walk_at "w"
      refine fun u2 h2 => ?_
      obtain ⟨B, w, sNew, g2⟩ := w.more (o := .lst [.ref u1]) h2
      replace g2 : RawAt B u2 (.lst [.ref u1]) := g2
      replace s := s.trans sNew
      replace gc := gc.mono sNew
      replace fc := fc.mono sNew
      replace gst := gst.mono sNew
      replace fs := fs.mono sNew
      replace gsr := gsr.mono sNew
      replace g1 := g1.mono sNew
      clear sNew h2
      generalize upd H u2 _ = H at w ⊢
      refine w_cat (w.same _ _ gst) (w.same _ _ g2) (by rw [sizeLine_eq]; simp; omega) fun u3 h3 => ?_
      obtain ⟨B, w, sNew, g3⟩ := w.more (o := .lst (ss ++ [.ref u1])) h3
      replace g3 : RawAt B u3 (.lst (ss ++ [.ref u1])) := g3
      replace s := s.trans sNew
      replace gc := gc.mono sNew
      replace fc := fc.mono sNew
      replace gst := gst.mono sNew
      replace fs := fs.mono sNew
      replace gsr := gsr.mono sNew
      replace g1 := g1.mono sNew
      clear sNew h3
      generalize upd H u3 _ = H at w ⊢
      walk_at "w"
      exact fin B H u3 _ _ w s gc fc g3 (All2.app fs (.cons (show IsStr K B (.ref u1) (0, (b4.code.length : Int), (b4.code.length : Int)) from ⟨u1, rfl, SqT.of g1⟩) .nil)) gsr rfl
end
end U

set_option maxHeartbeats 8000000
namespace U
open PySem PySem.Spec PyProof.Rows L2 Un
local macro_rules | `(tactic| walk_at "w1") => `(tactic| first
  | ((with_reducible refine' w_ixT ?h1 ?h2 ?_); (case h1 => assumption); (case h2 => rfl)))
local macro_rules | `(tactic| walk_at "w1") => `(tactic| first
  | with_reducible refine w_seq ?_
  | with_reducible refine w_asg ?_
  | with_reducible refine w_op ?_
  | ((with_reducible refine' w_var ?h1 ?_); (case h1 => rfl))
  | with_reducible refine w_c ?_
  | with_reducible refine w_name ?_
  | with_reducible refine w_tFd ?_
  | ((with_reducible refine' w_fld ?h1 ?h2 ?_); (case h1 => assumption); (case h2 => rfl))
  | with_reducible refine w_if ?_
  | with_reducible refine w_test ?_
  | with_reducible refine w_eqS ?_
  | with_reducible refine w_eqI ?_
  | with_reducible refine w_neS ?_
  | with_reducible refine w_neI ?_
  | with_reducible refine w_isN ?_
  | with_reducible refine w_isnN ?_
  | with_reducible refine w_bl ?_
  | with_reducible refine w_ret ?_
  | with_reducible refine w_drop ?_
  | with_reducible refine w_next ?_
  | with_reducible refine w_cons ?_
  | with_reducible refine w_nil ?_
  | with_reducible refine w_call ?_
  | with_reducible refine w_cb ?_
  | with_reducible refine w_meth ?_
  | ((with_reducible refine' w_recv ?h1 ?h2 ?_); (case h1 => assumption); (case h2 => rfl))
  | with_reducible refine w_sFd ?_
  | ((with_reducible refine' w_put ?h1 ?h2 ?_); (case h1 => assumption); (case h2 => exact Nat.le_of_ble_eq_true rfl))
  | with_reducible refine w_add ?_
  | with_reducible refine w_sub ?_
  | with_reducible refine w_lt ?_
  | with_reducible refine w_le ?_
  | with_reducible refine w_gt ?_
  | with_reducible refine w_ge ?_
  | with_reducible refine w_bm ?_
  | with_reducible refine w_bm0 ?_
  | ((with_reducible refine' w_ty ?h1 ?_); (case h1 => assumption))
  | with_reducible refine w_tup ?_
  | with_reducible refine w_lst ?_
  | ((with_reducible refine' w_new ?h1 ?_); (case h1 => exact Nat.le_of_ble_eq_true rfl))
  | with_reducible refine w_gsub ?_
  | with_reducible refine w_make ?_
  | with_reducible refine w_lc ?_
  | with_reducible refine w_iList ?_
  | with_reducible refine w_for ?_
  | with_reducible refine w_yes ?_
  | with_reducible refine w_tSl ?_
  | with_reducible refine w_part ?_
  | with_reducible refine w_nopart ?_
  | with_reducible refine w_i ?_
  | with_reducible refine w_rng1 ?_
  | with_reducible refine w_rng2 ?_
  | with_reducible refine w_isiII ?_
  | with_reducible refine w_isiIB ?_
  | with_reducible refine w_isiSS ?_
  | ((with_reducible refine w_mod ?h1 ?_); (case h1 => decide))
  | ((with_reducible refine w_fdC' ?h1 ?h2 ?_); (case h1 => decide); (case h2 => decide))
  | ((with_reducible refine w_mulR ?h1 ?h2 ?_); (case h1 => decide); (case h2 => decide))
  | ((with_reducible refine w_mulL ?h1 ?h2 ?_); (case h1 => decide); (case h2 => decide))
  | ((with_reducible refine w_pow' ?h1 ?h2 ?h3 ?_); (case h1 => decide); (case h2 => decide); (case h3 => decide))
  | with_reducible refine w_andV ?_
  | with_reducible refine w_orV ?_
  | with_reducible refine w_notV ?_
  | with_reducible refine w_B ?_
  | with_reducible refine w_not ?_
  | with_reducible refine w_and ?_
  | with_reducible refine w_or ?_
  | with_reducible refine w_ifx ?_
  | with_reducible refine w_un ?_
  | ((with_reducible refine w_T ?h1 ?_); (case h1 => with_reducible rfl))
  | ((with_reducible refine w_F ?h1 ?_); (case h1 => with_reducible rfl))
  | ((with_reducible refine w_T ?h1 ?_); (case h1 => decide +kernel))
  | ((with_reducible refine w_F ?h1 ?_); (case h1 => decide +kernel)))
local macro_rules | `(tactic| walk_at "w") => `(tactic| repeat walk_at "w1")

theorem sum_snoc (x : Int) : ∀ xs : List Int, (xs ++ [x]).sum = x + xs.sum
  | [] => by simp
  | y :: xs => by
    rw [List.cons_append, List.sum_cons, sum_snoc x xs, List.sum_cons]
    omega
theorem sum_take (mos : List Int) : ∀ n, n ≤ mos.length → (mos.take n).sum = sum4 (fun k => mos.getD k 0) n
  | 0, _ => by simp [sum4]
  | n + 1, h => by
    have e : mos.take (n + 1) = mos.take n ++ [mos.getD n 0] := by
      rw [List.take_add_one, List.getElem?_eq_getElem (by omega), List.getD_eq_getElem?_getD, List.getElem?_eq_getElem (by omega)]
      rfl
    rw [e, sum_snoc, sum_take mos n (by omega), sum4]
section
variable {K : PySem.W.Frag}
theorem w_sumK {H : Hp} {Q : VK} {a : Addr} {ns : List Int} (h : SqL K H a (ns.map V.int)) (q : Q (.int ns.sum) H) : rSum K [.ref a] H Q := ⟨a, ns, rfl, h, q⟩
theorem w_iRevR {σ : L2.St} {H : Hp} {tr : L2.St → Hp → (Int → Int → Hp → Prop) → Prop} {R : It → Hp → Prop} (h : tr σ H fun a b H1 => -2 ^ 62 ≤ a ∧ a < 2 ^ 62 ∧ -2 ^ 62 ≤ b ∧ b < 2 ^ 62 ∧ R (Itc (a + ↑(b - a).toNat - 1) (-1) (b - a).toNat) H1) : iRevR tr σ H R := h
theorem w_tRg1 {σ : L2.St} {H : Hp} {ta : TE} {Q : Int → Int → Hp → Prop} (h : ta σ H fun x H1 => ∃ n, x = V.int n ∧ Q 0 n H1) : tRg1 ta σ H Q := h
theorem w_min2 {H : Hp} {Q : VK} {i j : Int} (q : Q (.int (if j < i then j else i)) H) : rMin2 [.int i, .int j] H Q := ⟨i, j, rfl, q⟩
def sp_l_due (K : PySem.W.Frag) : Sp := fun vs H Q _ => ∃ (N wide : Nat) (g : Int) (ma mo : Addr) (ra : Bool) (mks : List Bool) (mos : List Int), vs = [.int (N : Nat), .ref ma, .bl ra, .int g, .int (wide : Nat), .ref mo] ∧ SqL K H ma (mks.map V.bl) ∧ SqL K H mo (mos.map V.int) ∧
  mks.length = N ∧ mos.length = N ∧ 1 ≤ N ∧ N ≤ 12 ∧ wide ≤ 2 ∧
  ∀ H' r s o, o = out4 N (fun k => mks.getD k false) (fun k => mos.getD k 0) ra g wide → Same H H' → H' r = some (.tup [.ref s, .str o.2.1.str, .int o.2.2]) → H' s = some (.lst (o.1.map V.int)) → Q (.ref r) H'
theorem p_l_due (vs : List V) (H : Hp) (Q : VK) (E : XK) (h : sp_l_due K vs H Q E) : t_l_due K { nx := fun _ H' => Q .non H', rt := Q } (L2.start n_l_due vs) H := by
  obtain ⟨N, wide, g, ma, mo, ra, mks, mos, rfl, hma, hmo, lmk, lmo, hN, h12, hw, q⟩ := h
  unfold t_l_due
  have hsum := fun n (h : n ≤ N) => sum_take mos n (by omega)
  -- what is given back: said, its word and its number
  have fin : ∀ (H' : Hp) (said : List Int) (w : Ed) (z : Int) (H1 : Hp), out4 N (fun k => mks.getD k false) (fun k => mos.getD k 0) ra g wide = (said, w, z) → Same H H1 → ∀ s, H1 s = some (.lst (said.map V.int)) → ∀ r, H1 r = none → Q (.ref r) (upd H1 r (.tup [.ref s, .str w.str, .int z])) := by
    intro H' said w z H1 e sm s hs r hr
    exact q _ r s _ rfl (sm.trans (same_lay hr)) (by rw [e]; exact upd_same) (by rw [e]; exact same_lay hr _ _ hs)
  have hg : ∀ k, k < N → (mks.map V.bl)[k]? = some (.bl (mks.getD k false)) := fun k hk => by
    rw [List.getElem?_map, List.getElem?_eq_getElem (by omega)]
    simp [List.getD_eq_getElem?_getD, List.getElem?_eq_getElem (show k < mks.length by omega)]
  clear q
  generalize (fun k => mos.getD k 0) = mf at fin hsum
  have summed : ∀ (H1 H2 : Hp) (n : Nat) (c : Int) (said : List Int) (u : Addr), n ≤ N → out4 N (fun k => mks.getD k false) mf ra g wide = (said, .answer, c + sum4 mf n) → Same H H1 → RawAt H1 u (.lst (said.map V.int)) → ∀ (Q2 : VK), (∀ z H3, z = sum4 mf n → Same H1 H3 → Q2 (.int z) H3) → True := fun _ _ _ _ _ _ _ _ _ _ _ _ => trivial
  clear summed
  with_reducible refine w_cut (fun σ' H' => H' = H ∧ ¬ (N ≤ 8 ∧ ra = false) ∧ σ' = [some (.int (N : Nat)), some (.ref ma), some (.bl ra), some (.int g), some (.int (wide : Nat)), some (.ref mo), none, none, none, none]) ?_ fun N2 key => ?_
  · rintro σ' H' ⟨rfl, hn, rfl⟩
    unfold out4 at fin
    simp only [if_neg hn] at fin
    with_reducible refine w_cut (fun σ' H1 => H1 = H' ∧ ∃ m : Int, m = (if 8 < N then 102 else g) ∧ σ' = [some (.int (N : Nat)), some (.ref ma), some (.bl ra), some (.int g), some (.int (wide : Nat)), some (.ref mo), some (.int m), none, none, none]) ?_ fun N2 key => ?_
    · rintro σ' H1 ⟨rfl, m, em, rfl⟩
      rw [← em] at fin
      clear em
      have hmo' : LsAt K H1 mo (mos.map V.int) := hmo
      walk_at "w"
      refine w_min2 ?_
      walk_at "w"
      have etop : (if (8 : Int) < (N : Int) then (8 : Int) else (N : Int)) - 1 = ((min N 8 - 1 : Nat) : Int) := by
        by_cases h : 8 < N
        · rw [if_pos (by omega)]; omega
        · rw [if_neg (by omega)]; omega
      rw [etop]
      have nil1 : ∀ (o : HO) u, H1 u = none → Same H1 (upd H1 u o) := fun o u h => same_lay h
      refine w_D (fun c => ?_) (fun c => ?_)
      · have hw0 : 0 < wide := by omega
        simp only [if_pos hw0] at fin
        with_reducible refine w_cut (fun σ' H2 => H2 = H1 ∧ ∃ b : Bool, b = decide (8 < N ∧ mks.getD 7 false = true ∧ wide = 2) ∧ σ' = [some (.int (N : Nat)), some (.ref ma), some (.bl ra), some (.int g), some (.int (wide : Nat)), some (.ref mo), some (.int m), some (.int ((min N 8 - 1 : Nat) : Int)), some (.bl b), none]) ?_ fun N3 key => ?_
        · rintro σ' H2 ⟨rfl, b, eb, rfl⟩
          have hmo2 := hmo'
          walk_at "w"
          refine fun u1 h1 => ?_
          have s1 := same_lay (o := .lst [.int m]) h1
          have g1 : RawAt (upd H2 u1 (.lst [.int m])) u1 (.lst [.int m]) := upd_same
          replace hmo2 := hmo2.mono s1
          generalize upd H2 u1 (.lst [.int m]) = H3 at s1 g1 hmo2 ⊢
          cases b with
          | true =>
            have hb := of_decide_eq_true eb.symm
            rw [if_pos hb] at fin
            walk_at "w"
            refine w_slL hmo2.seq fun p hp => ?_
            rw [cut_to, ← List.map_take]
            walk_at "w"
            refine w_sumK (SqL.of upd_same) ?_
            rw [hsum _ (by omega)]
            walk_at "w"
            exact fun r hr => fin H2 _ .answer _ _ rfl (s1.trans (same_lay hp)) u1 (same_lay hp _ _ g1) r hr
          | false =>
            have hb := of_decide_eq_false eb.symm
            rw [if_neg hb] at fin
            walk_at "w"
            refine w_slL hmo2.seq fun p hp => ?_
            rw [cut_to, ← List.map_take]
            walk_at "w"
            refine w_sumK (SqL.of upd_same) ?_
            rw [hsum _ (by omega)]
            walk_at "w"
            exact fun r hr => fin H2 _ .answer _ _ rfl (s1.trans (same_lay hp)) u1 (same_lay hp _ _ g1) r hr
        · walk_at "w"
          by_cases h8 : 8 < N
          · refine w_T (decide_eq_true (by omega)) ?_
            walk_at "w"
            refine w_ixL (v := .bl (mks.getD 7 false)) hma (atI_nat (hg 7 (by omega))) ?_
            cases hm : mks.getD 7 false with
            | true =>
              walk_at "w"
              refine key _ _ ⟨rfl, _, ?_, rfl⟩
              by_cases h2 : wide = 2
              · rw [decide_eq_true (show ((wide : Nat) : Int) = 2 by omega), decide_eq_true ⟨h8, hm, h2⟩]
              · rw [decide_eq_false (show ¬ ((wide : Nat) : Int) = 2 by omega), decide_eq_false (fun z => h2 z.2.2)]
            | false =>
              walk_at "w"
              refine key _ _ ⟨rfl, _, ?_, rfl⟩
              rw [decide_eq_false (fun z => by have := z.2.1; rw [hm] at this; cases this)]
          · refine w_F (decide_eq_false (by omega)) ?_
            walk_at "w"
            refine key _ _ ⟨rfl, _, ?_, rfl⟩
            rw [decide_eq_false (fun z => h8 z.1)]
      · have hw0 : ¬ 0 < wide := by omega
        simp only [if_neg hw0] at fin
        walk_at "w"
        with_reducible refine w_iRevR ?_
        with_reducible refine w_tRg1 ?_
        walk_at "w"
        refine w_min2 ?_
        have emin : (if (8 : Int) < (N : Int) - 1 then (8 : Int) else (N : Int) - 1) = ((min (N - 1) 8 : Nat) : Int) := by
          by_cases h : 8 < N - 1
          · rw [if_pos (by omega)]; omega
          · rw [if_neg (by omega)]; omega
        rw [emin]
        have hn8 : min (N - 1) 8 ≤ N - 1 := Nat.min_le_left _ _
        generalize min (N - 1) 8 = n at fin hn8 ⊢
        refine ⟨_, rfl, by omega, by omega, by omega, by omega, ?_⟩
        rw [show ((n : Int) - 0).toNat = n by omega]
        refine for_rangeC (fun i σ H' => H' = H1 ∧ ∃ x9, σ = [some (.int (N : Nat)), some (.ref ma), some (.bl ra), some (.int g), some (.int (wide : Nat)), some (.ref mo), some (.int m), some (.int ((min N 8 - 1 : Nat) : Int)), none, x9] ∧ inner4 (fun k => mks.getD k false) n = inner4 (fun k => mks.getD k false) (n - i)) ⟨rfl, _, rfl, rfl⟩ ?_ ?_
        · rintro i σ H' hi ⟨rfl, x9, rfl, ein⟩
          have hmo2 := hmo'
          rw [show (0 : Int) + (n : Int) - 1 + (i : Int) * -1 = ((n - 1 - i : Nat) : Int) by omega]
          rw [show n - i = (n - 1 - i) + 1 by omega] at ein
          have hkN : n - 1 - i < N := by omega
          generalize hk : n - 1 - i = k at ein hkN ⊢
          rw [show inner4 (fun k => mks.getD k false) (k + 1) = if mks.getD k false = true then some k else inner4 (fun k => mks.getD k false) k from rfl] at ein
          walk_at "w"
          refine w_ixL (v := .bl (mks.getD k false)) hma (atI_nat (hg k hkN)) ?_
          cases hm : mks.getD k false with
          | true =>
            rw [if_pos hm] at ein
            simp only [ein] at fin
            walk_at "w"
            refine fun u1 h1 => ?_
            have s1 := same_lay (o := .lst [.int m]) h1
            have g1 : RawAt (upd H' u1 (.lst [.int m])) u1 (.lst [.int m]) := upd_same
            replace hmo2 := hmo2.mono s1
            generalize upd H' u1 (.lst [.int m]) = H3 at s1 g1 hmo2 ⊢
            walk_at "w"
            refine w_slL hmo2.seq fun p hp => ?_
            rw [cut_to, ← List.map_take]
            walk_at "w"
            refine w_sumK (SqL.of upd_same) ?_
            rw [hsum _ (by omega)]
            walk_at "w"
            exact fun r hr => fin H' _ .answer _ _ rfl (s1.trans (same_lay hp)) u1 (same_lay hp _ _ g1) r hr
          | false =>
            rw [if_neg (by rw [hm]; exact Bool.false_ne_true)] at ein
            walk_at "w"
            refine ⟨rfl, _, rfl, ?_⟩
            rw [ein, show n - (i + 1) = k by omega]
        · rintro σ H' ⟨rfl, x9, rfl, ein⟩
          rw [Nat.sub_self] at ein
          simp only [ein, inner4] at fin
          walk_at "w"
          refine fun u1 h1 => ?_
          have s1 := same_lay (o := .lst []) h1
          have g1 : RawAt (upd H' u1 (.lst [])) u1 (.lst []) := upd_same
          generalize upd H' u1 (.lst []) = H3 at s1 g1 ⊢
          walk_at "w"
          exact fun r hr => fin H' [] .fault _ _ rfl s1 u1 g1 r hr
    · walk_at "w"
      refine w_D (fun c => ?_) (fun c => ?_)
      · walk_at "w"
        exact key _ _ ⟨rfl, _, by rw [if_pos (by omega)], rfl⟩
      · walk_at "w"
        exact key _ _ ⟨rfl, _, by rw [if_neg (by omega)], rfl⟩
  · walk_at "w"
    refine w_D (fun c => ?_) (fun c => ?_)
    · cases ra with
      | true =>
        walk_at "w"
        exact key _ _ ⟨rfl, (fun z => Bool.noConfusion z.2), rfl⟩
      | false =>
        have h8 : N ≤ 8 := by omega
        have e4 : out4 N (fun k => mks.getD k false) mf false g wide = ([], .answer, g + sum4 mf (N - 1)) := by
          unfold out4
          rw [if_pos ⟨h8, rfl⟩]
        walk_at "w"
        refine fun u1 h1 => ?_
        have s1 := same_lay (o := .lst []) h1
        have g1 : RawAt (upd H u1 (.lst [])) u1 (.lst []) := upd_same
        have hmo2 := LsAt.mono hmo s1
        generalize upd H u1 (.lst []) = H3 at s1 g1 hmo2 ⊢
        walk_at "w"
        rw [show (N : Int) - 1 = ((N - 1 : Nat) : Int) by omega]
        refine w_slL hmo2.seq fun p hp => ?_
        rw [cut_to, ← List.map_take]
        walk_at "w"
        refine w_sumK (SqL.of upd_same) ?_
        rw [hsum _ (by omega)]
        walk_at "w"
        exact fun r hr => fin H [] .answer _ _ e4 (s1.trans (same_lay hp)) u1 (same_lay hp _ _ g1) r hr
    · walk_at "w"
      exact key _ _ ⟨rfl, fun z => c (by omega), rfl⟩
end
end U

set_option maxHeartbeats 8000000
namespace U
open PySem PySem.Spec PyProof.Rows L2 Un
local macro_rules | `(tactic| walk_at "w1") => `(tactic| first
  | ((with_reducible refine' w_ixT ?h1 ?h2 ?_); (case h1 => assumption); (case h2 => rfl)))
local macro_rules | `(tactic| walk_at "w1") => `(tactic| first
  | with_reducible refine w_seq ?_
  | with_reducible refine w_asg ?_
  | with_reducible refine w_op ?_
  | ((with_reducible refine' w_var ?h1 ?_); (case h1 => rfl))
  | with_reducible refine w_c ?_
  | with_reducible refine w_name ?_
  | with_reducible refine w_tFd ?_
  | ((with_reducible refine' w_fld ?h1 ?h2 ?_); (case h1 => assumption); (case h2 => rfl))
  | with_reducible refine w_if ?_
  | with_reducible refine w_test ?_
  | with_reducible refine w_eqS ?_
  | with_reducible refine w_eqI ?_
  | with_reducible refine w_neS ?_
  | with_reducible refine w_neI ?_
  | with_reducible refine w_isN ?_
  | with_reducible refine w_isnN ?_
  | with_reducible refine w_bl ?_
  | with_reducible refine w_ret ?_
  | with_reducible refine w_drop ?_
  | with_reducible refine w_next ?_
  | with_reducible refine w_cons ?_
  | with_reducible refine w_nil ?_
  | with_reducible refine w_call ?_
  | with_reducible refine w_cb ?_
  | with_reducible refine w_meth ?_
  | ((with_reducible refine' w_recv ?h1 ?h2 ?_); (case h1 => assumption); (case h2 => rfl))
  | with_reducible refine w_sFd ?_
  | ((with_reducible refine' w_put ?h1 ?h2 ?_); (case h1 => assumption); (case h2 => exact Nat.le_of_ble_eq_true rfl))
  | with_reducible refine w_add ?_
  | with_reducible refine w_sub ?_
  | with_reducible refine w_lt ?_
  | with_reducible refine w_le ?_
  | with_reducible refine w_gt ?_
  | with_reducible refine w_ge ?_
  | with_reducible refine w_bm ?_
  | with_reducible refine w_bm0 ?_
  | ((with_reducible refine' w_ty ?h1 ?_); (case h1 => assumption))
  | with_reducible refine w_tup ?_
  | with_reducible refine w_lst ?_
  | ((with_reducible refine' w_new ?h1 ?_); (case h1 => exact Nat.le_of_ble_eq_true rfl))
  | with_reducible refine w_gsub ?_
  | with_reducible refine w_make ?_
  | with_reducible refine w_lc ?_
  | with_reducible refine w_iList ?_
  | with_reducible refine w_for ?_
  | with_reducible refine w_yes ?_
  | with_reducible refine w_tSl ?_
  | with_reducible refine w_part ?_
  | with_reducible refine w_nopart ?_
  | with_reducible refine w_i ?_
  | with_reducible refine w_rng1 ?_
  | with_reducible refine w_rng2 ?_
  | with_reducible refine w_isiII ?_
  | with_reducible refine w_isiIB ?_
  | with_reducible refine w_isiSS ?_
  | ((with_reducible refine w_mod ?h1 ?_); (case h1 => decide))
  | ((with_reducible refine w_fdC' ?h1 ?h2 ?_); (case h1 => decide); (case h2 => decide))
  | ((with_reducible refine w_mulR ?h1 ?h2 ?_); (case h1 => decide); (case h2 => decide))
  | ((with_reducible refine w_mulL ?h1 ?h2 ?_); (case h1 => decide); (case h2 => decide))
  | ((with_reducible refine w_pow' ?h1 ?h2 ?h3 ?_); (case h1 => decide); (case h2 => decide); (case h3 => decide))
  | with_reducible refine w_andV ?_
  | with_reducible refine w_orV ?_
  | with_reducible refine w_notV ?_
  | with_reducible refine w_B ?_
  | with_reducible refine w_not ?_
  | with_reducible refine w_and ?_
  | with_reducible refine w_or ?_
  | with_reducible refine w_ifx ?_
  | with_reducible refine w_un ?_
  | ((with_reducible refine w_T ?h1 ?_); (case h1 => with_reducible rfl))
  | ((with_reducible refine w_F ?h1 ?_); (case h1 => with_reducible rfl))
  | ((with_reducible refine w_T ?h1 ?_); (case h1 => decide +kernel))
  | ((with_reducible refine w_F ?h1 ?_); (case h1 => decide +kernel)))
local macro_rules | `(tactic| walk_at "w") => `(tactic| repeat walk_at "w1")

theorem range_snoc {α : Type} (f : Nat → α) (i : Nat) : (List.range (i + 1)).map f = (List.range i).map f ++ [f i] := by rw [List.range_succ, List.map_append]; rfl
theorem ints_shaped1 (ns : List Int) : SeqAt.shaped (.list (ns.map PyData.int)) = true := by
  have l := lay_ints ns
  refine shaped_of ?_ ?_
  · simp only [PyData.canLay0, l.1]
  · simp [PyData.depth, PyData.depthAll, l.2]
section
variable {K : PySem.W.Frag}
theorem p_law (vs : List V) (H : Hp) (Q : VK) (E : XK) (h : spLaw K vs H Q E) : t_law K (sp_l_cell_at K) (sp_l_number K) (sp_l_parts K) (sp_run0 K) (sp_l_due K) (sp_l_whole K) { nx := fun _ H' => Q .non H', rt := Q } (L2.start n_law vs) H := by
  obtain ⟨a, ns, rfl, hS, hlen, q⟩ := h
  unfold t_law
  walk_at "w"
  refine ⟨a, ns, 0, rfl, hS, by decide, ?_⟩
  walk_at "w"
  generalize cellAt ns 0 * 48271 % 1000003 = first
  obtain ⟨N, hN⟩ : ∃ n : Nat, 1 + first % 12 = (n : Int) := ⟨(1 + first % 12).toNat, by omega⟩
  have hN1 : 1 ≤ N := by omega
  have hN12 : N ≤ 12 := by omega
  rw [hN]
  refine ⟨a, ns, 1, rfl, hS, by decide, ?_⟩
  walk_at "w"
  refine ⟨_, rfl, ?_⟩
  generalize numberOf (cellAt ns 1) = g
  walk_at "w"
  refine w_r1 (by omega) (by omega) ?_
  rw [show ((N : Nat) : Int).toNat = N by omega]
  refine fun D hD => lc_range (Pv := fun i H' => Own H H' [(D, .lst (((List.range i).map fun k : Nat => decide (cellAt ns (3 + (k : Int)) % 3 = 1)).map V.bl))]) ((Own.nil (Same.refl H)).take (o := .lst []) hD) ?_ ?_
  · intro i H' hi w
    refine ⟨rfl, ?_⟩
    walk_at "w"
    refine ⟨a, ns, 3 + (0 + (i : Int)), rfl, w.same.seq hS, by omega, ?_⟩
    walk_at "w"
    refine ⟨_, w.ix 0 rfl, ?_, ?_⟩
    · rw [List.length_map, List.length_map, List.length_range]
      exact lim_lt (by unfold LIM; omega)
    · rw [range_snoc, List.map_append, show (0 : Int) + (i : Nat) = (i : Nat) by omega]
      exact w.set 0 _ rfl
  intro H1 w
  have lmk : ((List.range N).map fun k : Nat => decide (cellAt ns (3 + (k : Int)) % 3 = 1)).length = N := by rw [List.length_map, List.length_range]
  generalize ((List.range N).map fun k : Nat => decide (cellAt ns (3 + (k : Int)) % 3 = 1)) = mks at w lmk
  have gmk : LsAt K H1 D (mks.map V.bl) := LsAt.of (w.ix 0 rfl)
  replace hS : LsAt K H1 a (ns.map V.int) := w.same.seq hS
  clear w hD
  walk_at "w"
  refine w_r1 (by omega) (by omega) ?_
  rw [show ((N : Nat) : Int).toNat = N by omega]
  refine fun D2 hD2 => lc_range (Pv := fun i H' => Own H1 H' [(D2, .lst (((List.range i).map fun k : Nat => cellAt ns (3 + (k : Int)) / 3 % 40 - 5).map V.int))]) ((Own.nil (Same.refl H1)).take (o := .lst []) hD2) ?_ ?_
  · intro i H' hi w
    refine ⟨rfl, ?_⟩
    walk_at "w"
    refine ⟨a, ns, 3 + (0 + (i : Int)), rfl, w.same.seq hS.seq, by omega, ?_⟩
    walk_at "w"
    refine ⟨_, w.ix 0 rfl, ?_, ?_⟩
    · rw [List.length_map, List.length_map, List.length_range]
      exact lim_lt (by unfold LIM; omega)
    · rw [range_snoc, List.map_append, show (0 : Int) + (i : Nat) = (i : Nat) by omega]
      exact w.set 0 _ rfl
  intro H2 w
  have lmo : ((List.range N).map fun k : Nat => cellAt ns (3 + (k : Int)) / 3 % 40 - 5).length = N := by rw [List.length_map, List.length_range]
  generalize ((List.range N).map fun k : Nat => cellAt ns (3 + (k : Int)) / 3 % 40 - 5) = mos at w lmo
  have gmo : LsAt K H2 D2 (mos.map V.int) := LsAt.of (w.ix 0 rfl)
  replace hS := hS.mono w.same
  replace gmk := gmk.mono w.same
  clear w hD2
  walk_at "w"
  generalize decide (first / 12 % 2 = 1) = ra
  obtain ⟨wide, hw⟩ : ∃ n : Nat, first / 24 % 3 = (n : Int) := ⟨(first / 24 % 3).toNat, by omega⟩
  have hw2 : wide ≤ 2 := by omega
  rw [hw]
  refine ⟨a, ns, 2, rfl, hS.seq, by decide, ?_⟩
  walk_at "w"
  obtain ⟨t, ht⟩ : ∃ n : Nat, cellAt ns 2 % 15 = (n : Int) := ⟨(cellAt ns 2 % 15).toNat, by omega⟩
  have ht15 : t < 15 := by omega
  rw [ht]
  obtain ⟨T, hT⟩ : ∃ n : Nat, first / 72 % 108 = (n : Int) := ⟨(first / 72 % 108).toNat, by omega⟩
  rw [hT]
  refine ⟨N, T, wide, D, D2, ra, mks, mos, rfl, gmk.seq, gmo.seq, lmk, lmo, hN1, hN12, hw2, fun H3 r c st sr cs ss P eP sm g1 gc fc gst fs gsr => ?_⟩
  replace gmk := gmk.mono sm
  replace gmo := gmo.mono sm
  clear sm hS
  have bl := bld4_len (4 - T % 3 * 2) N (T / 3) (fun k => mks.getD k false) (fun k => mos.getD k 0) ra (show T / 36 % 3 ≤ 2 by omega) N
  obtain ⟨M0, hb, n, M, hn, hr, hsd, hed⟩ := parts4_run (h := 4 - T % 3 * 2) (N := N) (o := T / 3) (mk := fun k => mks.getD k false) (mo := fun k => mos.getD k 0) (ra := ra) (d := T / 36 % 3) hw2 hN1 hN12 (by omega) g t
  rw [← eP] at hb hr
  have eb : P.boxes = 1 := by rw [eP]; rfl
  clear eP bl
  generalize ho : (if t < min N 9 - 1 then (([], .tired, 0) : List Int × Ed × Int) else out4 N (fun k => mks.getD k false) (fun k => mos.getD k 0) ra g wide) = o at hsd hed
  have hbd : ∀ j Mj, j < n → rowSteps P j M0 = some Mj → Bd P Mj := fun j Mj hj e => by
    have bn := bnd_steps (bnd_begun hb) e
    exact ⟨by rw [eb]; exact (by decide : (0 : Int) ≤ 1), by rw [eb]; exact (by decide : (1 : Int) < 16000000), bn.1, fun f hf => Nat.lt_of_le_of_lt (bn.2.1 f hf) (by unfold LIM; omega), Nat.lt_of_le_of_lt bn.2.2 (by unfold LIM; omega)⟩
  have gr : SqT K H3 r _ := SqT.of g1
  clear g1
  walk_at "w"
  refine w_listQ (SqL.of gc) fun l1 h1 => ?_
  have s1 := same_lay (o := .lst cs) h1
  have e1 : RawAt (upd H3 l1 (.lst cs)) l1 (.lst cs) := upd_same
  replace gmk := gmk.mono s1
  replace gmo := gmo.mono s1
  replace gr := same_tup s1 gr
  replace fc := fc.mono s1
  replace gst := gst.mono s1
  replace fs := fs.mono s1
  replace gsr := gsr.mono s1
  clear s1 h1 gc
  generalize upd H3 l1 (.lst cs) = H3 at *
  walk_at "w"
  refine w_listQ (SqL.of gst) fun l2 h2 => ?_
  have s1 := same_lay (o := .lst ss) h2
  have e2 : RawAt (upd H3 l2 (.lst ss)) l2 (.lst ss) := upd_same
  replace gmk := gmk.mono s1
  replace gmo := gmo.mono s1
  replace gr := same_tup s1 gr
  replace fc := fc.mono s1
  replace fs := fs.mono s1
  replace gsr := gsr.mono s1
  replace e1 := e1.mono s1
  clear s1 h2 gst
  generalize upd H3 l2 (.lst ss) = H3 at *
  walk_at "w"
  refine w_listQ (SqL.of gsr) fun l3 h3 => ?_
  have s1 := same_lay (o := .lst (P.starts.map V.int)) h3
  have e3 : RawAt (upd H3 l3 (.lst (P.starts.map V.int))) l3 (.lst (P.starts.map V.int)) := upd_same
  replace gmk := gmk.mono s1
  replace gmo := gmo.mono s1
  replace fc := fc.mono s1
  replace fs := fs.mono s1
  replace e1 := e1.mono s1
  replace e2 := e2.mono s1
  clear s1 h3 gsr gr
  generalize upd H3 l3 (.lst (P.starts.map V.int)) = H3 at *
  walk_at "w"
  refine fun l4 h4 => ?_
  have s1 := same_lay (o := .tup [.ref l1, .ref l2, .ref l3, .int 1]) h4
  have e4 : RawAt (upd H3 l4 (.tup [.ref l1, .ref l2, .ref l3, .int 1])) l4 (.tup [.ref l1, .ref l2, .ref l3, .int 1]) := upd_same
  replace gmk := gmk.mono s1
  replace gmo := gmo.mono s1
  replace fc := fc.mono s1
  replace fs := fs.mono s1
  replace e1 := e1.mono s1
  replace e2 := e2.mono s1
  replace e3 := e3.mono s1
  clear s1 h4
  generalize upd H3 l4 _ = H3 at *
  -- the run
  walk_at "w"
  refine ⟨l4, l1, l2, l3, P, g, t, M0, n, M, o.2.1, o.2.2, rfl, by rw [eb]; exact SqT.of e4, ⟨⟨cs, SqL.of e1, fc⟩, ⟨ss, SqL.of e2, fs⟩, SqL.of e3⟩,
    by rw [eb]; exact (by decide : (0 : Int) ≤ 1), by rw [eb]; exact (by decide : (1 : Int) < 16000000), hb, hr, hed, hbd, fun H5 p s sm _ _ hs hp => ?_⟩
  rw [hsd] at hs
  replace gmk := gmk.mono sm
  replace gmo := gmo.mono sm
  replace hs : RawAt H5 s (.lst (o.1.map V.int)) := hs
  replace hp : RawAt H5 p (.tup [.ref s, .str o.2.1.str, .int o.2.2]) := hp
  clear sm e1 e2 e3 e4 fc fs hb hr hed hsd hbd
  walk_at "w"
  refine fun u1 h1 => ?_
  have s1 := same_lay (o := .lst []) h1
  have d1 : RawAt (upd H5 u1 (.lst [])) u1 (.lst []) := upd_same
  replace gmk := gmk.mono s1
  replace gmo := gmo.mono s1
  replace hs := hs.mono s1
  replace hp := hp.mono s1
  clear s1 h1
  generalize upd H5 u1 (.lst []) = H5 at *
  walk_at "w"
  refine fun u2 h2 => ?_
  have s1 := same_lay (o := .tup [.ref u1, .str "tired", .int 0]) h2
  have d2 : RawAt (upd H5 u2 (.tup [.ref u1, .str "tired", .int 0])) u2 (.tup [.ref u1, .str "tired", .int 0]) := upd_same
  replace gmk := gmk.mono s1
  replace gmo := gmo.mono s1
  replace hs := hs.mono s1
  replace hp := hp.mono s1
  replace d1 := d1.mono s1
  clear s1 h2
  generalize upd H5 u2 _ = H5 at *
  with_reducible refine w_name ?_
  with_reducible refine w_cut (fun σ' H' => ∃ r2 s2, RawAt H' r2 (.tup [.ref s2, .str o.2.1.str, .int o.2.2]) ∧ RawAt H' s2 (.lst (o.1.map V.int)) ∧ RawAt H' s (.lst (o.1.map V.int)) ∧ RawAt H' p (.tup [.ref s, .str o.2.1.str, .int o.2.2]) ∧
    σ' = [some (.ref a), some (.int first), some (.int (N : Nat)), some (.int g), some (.ref D), none, some (.ref D2), some (.bl ra), some (.int (wide : Nat)), some (.int (t : Nat)), some (.ref r), some (.ref p), some (.ref r2), none]) ?_ fun N2 key => ?_
  · clear hs hp d1 d2 gmk gmo
    rintro σ' H' ⟨r2, s2, d2, d1, hs, hp, rfl⟩
    have hpT : SqT K H' p _ := SqT.of hp
    walk_at "w"
    refine w_iTT hpT ?_
    walk_at "w"
    refine w_lenT hpT ?_
    walk_at "w"
    refine w_F rfl ?_
    walk_at "w"
    refine w_iLL (SqL.of hs) ?_
    walk_at "w"
    refine w_refL (SqL.of hs) (w_nowhole (SqL.of hs) (Nat.le_of_ble_eq_true rfl) fun D3 hD3 => ?_)
    have s1 := same_lay (o := .lst []) hD3
    have g11 : RawAt (upd H' D3 (.lst [])) D3 (.lst []) := upd_same
    replace d1 := d1.mono s1
    replace d2 := d2.mono s1
    replace hs := hs.mono s1
    replace hp := hp.mono s1
    clear s1 hD3 hpT
    generalize upd H' D3 (.lst []) = H' at d1 d2 hs hp g11 ⊢
    have hpT : SqT K H' p _ := SqT.of hp
    have d2T : SqT K H' r2 _ := SqT.of d2
    walk_at "w"
    refine w_lenL (SqL.of g11) ?_
    walk_at "w"
    refine w_neSame (.lst (SqL.of hs) (dp_ints _)) (.lst (SqL.of d1) (dp_ints _)) (ints_shaped1 _) ?_
    walk_at "w"
    refine ⟨_, rfl, ?_⟩
    walk_at "w"
    refine fun v1 k1 => ?_
    have s1 := same_lay (o := .tup [.str o.2.1.str, .int o.2.2]) k1
    have f1 : RawAt (upd H' v1 (.tup [.str o.2.1.str, .int o.2.2])) v1 (.tup [.str o.2.1.str, .int o.2.2]) := upd_same
    replace d2 := d2.mono s1
    clear s1 k1 hpT d2T g11 hp hs d1
    generalize upd H' v1 _ = H' at d2 f1 ⊢
    have d2T : SqT K H' r2 _ := SqT.of d2
    walk_at "w"
    refine fun v2 k2 => ?_
    have s1 := same_lay (o := .tup [.str o.2.1.str, .int o.2.2]) k2
    have f2 : RawAt (upd H' v2 (.tup [.str o.2.1.str, .int o.2.2])) v2 (.tup [.str o.2.1.str, .int o.2.2]) := upd_same
    replace f1 := f1.mono s1
    clear s1 k2 d2T d2
    generalize upd H' v2 _ = H' at f1 f2 ⊢
    have sh := shaped_of (d := .tuple [.str o.2.1.str, .int o.2.2]) (by
      cases o.2.1 <;> (simp only [PyData.canLay0, PyData.canLayAll0]; decide +kernel)) (by simp [PyData.depth, PyData.depthAll])
    refine w_eqSame (.tup (SqT.of f1) (.cons (.str _) (.cons (.int _) .nil))) (.tup (SqT.of f2) (.cons (.str _) (.cons (.int _) .nil))) sh ?_
    exact q _
  · walk_at "w"
    refine w_min2 ?_
    walk_at "w"
    have emin : (if (9 : Int) < (N : Int) then (9 : Int) else (N : Int)) - 1 = ((min N 9 - 1 : Nat) : Int) := by
      by_cases h : 9 < N
      · rw [if_pos (by omega)]; omega
      · rw [if_neg (by omega)]; omega
    rw [emin]
    refine w_D (fun c => ?_) (fun c => ?_)
    · rw [if_neg (by omega)] at ho
      walk_at "w"
      refine ⟨N, wide, g, D, D2, ra, mks, mos, rfl, gmk.seq, gmo.seq, lmk, lmo, hN1, hN12, hw2, fun H6 r2 s2 o2 eo sm k1 k2 => ?_⟩
      rw [ho] at eo
      subst eo
      walk_at "w"
      exact key _ _ ⟨r2, s2, k1, k2, hs.mono sm, hp.mono sm, rfl⟩
    · rw [if_pos (by omega)] at ho
      subst ho
      walk_at "w"
      exact key _ _ ⟨u2, u1, d2, d1, hs, hp, rfl⟩
end
theorem FnR.vac {Z : Zt} {CX : CXT} {n : Nat} {f : Addr} {fd : FuncData} {ps : List Str} {sp : Sp} (no : ∀ vs H Q E, ¬ sp vs H Q E) : FnR Z CX n f fd ps sp :=
  ⟨fun vs H Q E h => absurd h (no vs H Q E), fun _ _ _ _ _ _ _ _ _ _ _ _ _ h => absurd h (no _ _ _ _)⟩
end U

set_option maxHeartbeats 8000000
namespace Lw
open PySem PySem.Spec PyProof.Rows L2 Un U

local macro_rules | `(tactic| walk_at "len") => `(tactic| (intro vs H Q E h; first
  | (obtain ⟨e, _⟩ := h; exact (congrArg List.length e).trans rfl) | (obtain ⟨_, e, _⟩ := h; exact (congrArg List.length e).trans rfl) | (obtain ⟨_, _, e, _⟩ := h; exact (congrArg List.length e).trans rfl) | (obtain ⟨_, _, _, e, _⟩ := h; exact (congrArg List.length e).trans rfl) | (obtain ⟨_, _, _, _, e, _⟩ := h; exact (congrArg List.length e).trans rfl) | (obtain ⟨_, _, _, _, _, e, _⟩ := h; exact (congrArg List.length e).trans rfl) | (obtain ⟨_, _, _, _, _, _, e, _⟩ := h; exact (congrArg List.length e).trans rfl) | (obtain ⟨_, _, _, _, _, _, _, e, _⟩ := h; exact (congrArg List.length e).trans rfl) | (obtain ⟨_, _, _, _, _, _, _, _, e, _⟩ := h; exact (congrArg List.length e).trans rfl) | (obtain ⟨_, _, _, _, _, _, _, _, _, e, _⟩ := h; exact (congrArg List.length e).trans rfl) | (obtain ⟨_, _, _, _, _, _, _, _, _, _, e, _⟩ := h; exact (congrArg List.length e).trans rfl) | (obtain ⟨_, _, _, _, _, _, _, _, _, _, _, e, _⟩ := h; exact (congrArg List.length e).trans rfl) | (obtain ⟨_, _, _, _, _, _, _, _, _, _, _, _, e, _⟩ := h; exact (congrArg List.length e).trans rfl) | (obtain ⟨_, _, _, _, _, _, _, _, _, _, _, _, _, e, _⟩ := h; exact (congrArg List.length e).trans rfl) | (obtain ⟨_, _, _, _, _, _, _, _, _, _, _, _, _, _, e, _⟩ := h; exact (congrArg List.length e).trans rfl) | (obtain ⟨_, _, _, _, _, _, _, _, _, _, _, _, _, _, _, e, _⟩ := h; exact (congrArg List.length e).trans rfl) | (obtain ⟨_, _, _, _, _, _, _, _, _, _, _, _, _, _, _, _, e, _⟩ := h; exact (congrArg List.length e).trans rfl) | (obtain ⟨_, _, _, _, _, _, _, _, _, _, _, _, _, _, _, _, _, e, _⟩ := h; exact (congrArg List.length e).trans rfl) | (obtain ⟨_, _, _, _, _, _, _, _, _, _, _, _, _, _, _, _, _, _, e, _⟩ := h; exact (congrArg List.length e).trans rfl) | (obtain ⟨_, _, _, _, _, _, _, _, _, _, _, _, _, _, _, _, _, _, _, e, _⟩ := h; exact (congrArg List.length e).trans rfl) | (obtain ⟨_, _, _, _, _, _, _, _, _, _, _, _, _, _, _, _, _, _, _, _, e, _⟩ := h; exact (congrArg List.length e).trans rfl) | (obtain ⟨_, _, _, _, _, _, _, _, _, _, _, _, _, _, _, _, _, _, _, _, _, e, _⟩ := h; exact (congrArg List.length e).trans rfl)))
structure Tx (Z : Zt) : Prop where
  says : He.SaysE fa fn Z.K
  kin : Z.K.In Z.base
  ns : Z.base.Ns mainGlobals Z.mg
  seer : Z.base.NoSeer
  tree : Z.P.given.tree = none
section
variable {Z : Zt}
theorem i_DEEPEST (T : Tx Z) : ∃ t, Z.mg "DEEPEST" = some (.int 8 t) := He.int_ok T.kin T.ns (T.says.fact 0 (f := .int "DEEPEST" 8) rfl)
theorem i_NOUGHT (T : Tx Z) : ∃ t, Z.mg "NOUGHT" = some (.int 101 t) := He.int_ok T.kin T.ns (T.says.fact 1 (f := .int "NOUGHT" 101) rfl)
theorem i_DEEP (T : Tx Z) : ∃ t, Z.mg "DEEP" = some (.int 102 t) := He.int_ok T.kin T.ns (T.says.fact 2 (f := .int "DEEP" 102) rfl)
theorem g_goal_of (T : Tx Z) : Z.mg "goal_of" = some (.ref (He.ga Z.K "goal_of")) := He.glo_ok T.kin T.ns (T.says.fact 3 (f := .glo "goal_of") rfl)
theorem kp_goal_of (T : Tx Z) : PySem.W.keepIn Z.K (.ref (He.ga Z.K "goal_of")) = true := He.keep_ok (T.says.fact 4 (f := .keep "goal_of") rfl)
theorem g_Frame (T : Tx Z) : Z.mg "Frame" = some (.ref (He.ga Z.K "Frame")) := He.glo_ok T.kin T.ns (T.says.fact 5 (f := .glo "Frame") rfl)
theorem cl_Frame (T : Tx Z) : Cls Z.K (He.ga Z.K "Frame") := He.cls_ok (T.says.fact 6 (f := .cls "Frame") rfl)
theorem na_Frame_boxes (T : Tx Z) : NoAttr Z.K (He.ga Z.K "Frame") "boxes" := He.noat_ok (T.says.fact 7 (f := .noat "Frame" "boxes") rfl)
theorem na_Frame_pile (T : Tx Z) : NoAttr Z.K (He.ga Z.K "Frame") "pile" := He.noat_ok (T.says.fact 8 (f := .noat "Frame" "pile") rfl)
theorem na_Frame_place (T : Tx Z) : NoAttr Z.K (He.ga Z.K "Frame") "place" := He.noat_ok (T.says.fact 9 (f := .noat "Frame" "place") rfl)
theorem mk_Frame (T : Tx Z) : Mk Z.K (He.ga Z.K "Frame") (He.ma Z.K (He.ga Z.K "Frame") "__init__") := He.mkr_ok (T.says.fact 10 (f := .mkr "Frame") rfl)
theorem m_Frame_lay (T : Tx Z) : Meth Z.K (He.ga Z.K "Frame") "lay" (He.ma Z.K (He.ga Z.K "Frame") "lay") := He.meth_ok (T.says.fact 11 (f := .meth "Frame" "lay") rfl)
theorem g_Machine (T : Tx Z) : Z.mg "Machine" = some (.ref (He.ga Z.K "Machine")) := He.glo_ok T.kin T.ns (T.says.fact 12 (f := .glo "Machine") rfl)
theorem cl_Machine (T : Tx Z) : Cls Z.K (He.ga Z.K "Machine") := He.cls_ok (T.says.fact 13 (f := .cls "Machine") rfl)
theorem na_Machine_boxes (T : Tx Z) : NoAttr Z.K (He.ga Z.K "Machine") "boxes" := He.noat_ok (T.says.fact 14 (f := .noat "Machine" "boxes") rfl)
theorem na_Machine_code (T : Tx Z) : NoAttr Z.K (He.ga Z.K "Machine") "code" := He.noat_ok (T.says.fact 15 (f := .noat "Machine" "code") rfl)
theorem na_Machine_ended (T : Tx Z) : NoAttr Z.K (He.ga Z.K "Machine") "ended" := He.noat_ok (T.says.fact 16 (f := .noat "Machine" "ended") rfl)
theorem na_Machine_frames (T : Tx Z) : NoAttr Z.K (He.ga Z.K "Machine") "frames" := He.noat_ok (T.says.fact 17 (f := .noat "Machine" "frames") rfl)
theorem na_Machine_said (T : Tx Z) : NoAttr Z.K (He.ga Z.K "Machine") "said" := He.noat_ok (T.says.fact 18 (f := .noat "Machine" "said") rfl)
theorem na_Machine_starts (T : Tx Z) : NoAttr Z.K (He.ga Z.K "Machine") "starts" := He.noat_ok (T.says.fact 19 (f := .noat "Machine" "starts") rfl)
theorem na_Machine_stretches (T : Tx Z) : NoAttr Z.K (He.ga Z.K "Machine") "stretches" := He.noat_ok (T.says.fact 20 (f := .noat "Machine" "stretches") rfl)
theorem na_Machine_turns (T : Tx Z) : NoAttr Z.K (He.ga Z.K "Machine") "turns" := He.noat_ok (T.says.fact 21 (f := .noat "Machine" "turns") rfl)
theorem mk_Machine (T : Tx Z) : Mk Z.K (He.ga Z.K "Machine") (He.ma Z.K (He.ga Z.K "Machine") "__init__") := He.mkr_ok (T.says.fact 22 (f := .mkr "Machine") rfl)
theorem m_Machine_step (T : Tx Z) : Meth Z.K (He.ga Z.K "Machine") "step" (He.ma Z.K (He.ga Z.K "Machine") "step") := He.meth_ok (T.says.fact 23 (f := .meth "Machine" "step") rfl)
theorem m_Machine_taken (T : Tx Z) : Meth Z.K (He.ga Z.K "Machine") "taken" (He.ma Z.K (He.ga Z.K "Machine") "taken") := He.meth_ok (T.says.fact 24 (f := .meth "Machine" "taken") rfl)
theorem m_Machine_move (T : Tx Z) : Meth Z.K (He.ga Z.K "Machine") "move" (He.ma Z.K (He.ga Z.K "Machine") "move") := He.meth_ok (T.says.fact 25 (f := .meth "Machine" "move") rfl)
theorem m_Machine_meet (T : Tx Z) : Meth Z.K (He.ga Z.K "Machine") "meet" (He.ma Z.K (He.ga Z.K "Machine") "meet") := He.meth_ok (T.says.fact 26 (f := .meth "Machine" "meet") rfl)
theorem m_Machine_jump (T : Tx Z) : Meth Z.K (He.ga Z.K "Machine") "jump" (He.ma Z.K (He.ga Z.K "Machine") "jump") := He.meth_ok (T.says.fact 27 (f := .meth "Machine" "jump") rfl)
theorem m_Machine_enter (T : Tx Z) : Meth Z.K (He.ga Z.K "Machine") "enter" (He.ma Z.K (He.ga Z.K "Machine") "enter") := He.meth_ok (T.says.fact 28 (f := .meth "Machine" "enter") rfl)
theorem m_Machine_back (T : Tx Z) : Meth Z.K (He.ga Z.K "Machine") "back" (He.ma Z.K (He.ga Z.K "Machine") "back") := He.meth_ok (T.says.fact 29 (f := .meth "Machine" "back") rfl)
theorem m_Machine_fault (T : Tx Z) : Meth Z.K (He.ga Z.K "Machine") "fault" (He.ma Z.K (He.ga Z.K "Machine") "fault") := He.meth_ok (T.says.fact 30 (f := .meth "Machine" "fault") rfl)
theorem g_run (T : Tx Z) : Z.mg "run" = some (.ref (He.ga Z.K "run")) := He.glo_ok T.kin T.ns (T.says.fact 31 (f := .glo "run") rfl)
theorem kp_run (T : Tx Z) : PySem.W.keepIn Z.K (.ref (He.ga Z.K "run")) = true := He.keep_ok (T.says.fact 32 (f := .keep "run") rfl)
theorem g_l_whole (T : Tx Z) : Z.mg "_law_whole" = some (.ref (He.ga Z.K "_law_whole")) := He.glo_ok T.kin T.ns (T.says.fact 33 (f := .glo "_law_whole") rfl)
theorem kp_l_whole (T : Tx Z) : PySem.W.keepIn Z.K (.ref (He.ga Z.K "_law_whole")) = true := He.keep_ok (T.says.fact 34 (f := .keep "_law_whole") rfl)
theorem g_l_cell_at (T : Tx Z) : Z.mg "_law_cell_at" = some (.ref (He.ga Z.K "_law_cell_at")) := He.glo_ok T.kin T.ns (T.says.fact 35 (f := .glo "_law_cell_at") rfl)
theorem kp_l_cell_at (T : Tx Z) : PySem.W.keepIn Z.K (.ref (He.ga Z.K "_law_cell_at")) = true := He.keep_ok (T.says.fact 36 (f := .keep "_law_cell_at") rfl)
theorem g_l_number (T : Tx Z) : Z.mg "_law_number" = some (.ref (He.ga Z.K "_law_number")) := He.glo_ok T.kin T.ns (T.says.fact 37 (f := .glo "_law_number") rfl)
theorem kp_l_number (T : Tx Z) : PySem.W.keepIn Z.K (.ref (He.ga Z.K "_law_number")) = true := He.keep_ok (T.says.fact 38 (f := .keep "_law_number") rfl)
theorem g_l_parts (T : Tx Z) : Z.mg "_law_parts" = some (.ref (He.ga Z.K "_law_parts")) := He.glo_ok T.kin T.ns (T.says.fact 39 (f := .glo "_law_parts") rfl)
theorem kp_l_parts (T : Tx Z) : PySem.W.keepIn Z.K (.ref (He.ga Z.K "_law_parts")) = true := He.keep_ok (T.says.fact 40 (f := .keep "_law_parts") rfl)
theorem g_l_due (T : Tx Z) : Z.mg "_law_due" = some (.ref (He.ga Z.K "_law_due")) := He.glo_ok T.kin T.ns (T.says.fact 41 (f := .glo "_law_due") rfl)
theorem kp_l_due (T : Tx Z) : PySem.W.keepIn Z.K (.ref (He.ga Z.K "_law_due")) = true := He.keep_ok (T.says.fact 42 (f := .keep "_law_due") rfl)
theorem g_law (T : Tx Z) : Z.mg "law" = some (.ref (He.ga Z.K "law")) := He.glo_ok T.kin T.ns (T.says.fact 43 (f := .glo "law") rfl)
theorem kp_law (T : Tx Z) : PySem.W.keepIn Z.K (.ref (He.ga Z.K "law")) = true := He.keep_ok (T.says.fact 44 (f := .keep "law") rfl)
theorem g_bool (T : Tx Z) : Z.mg "bool" = none := He.free_ok T.kin T.ns (T.says.fact 45 (f := .free "bool") rfl)
theorem g_int (T : Tx Z) : Z.mg "int" = none := He.free_ok T.kin T.ns (T.says.fact 46 (f := .free "int") rfl)
theorem g_isinstance (T : Tx Z) : Z.mg "isinstance" = none := He.free_ok T.kin T.ns (T.says.fact 47 (f := .free "isinstance") rfl)
theorem g_len (T : Tx Z) : Z.mg "len" = none := He.free_ok T.kin T.ns (T.says.fact 48 (f := .free "len") rfl)
theorem g_list (T : Tx Z) : Z.mg "list" = none := He.free_ok T.kin T.ns (T.says.fact 49 (f := .free "list") rfl)
theorem g_min (T : Tx Z) : Z.mg "min" = none := He.free_ok T.kin T.ns (T.says.fact 50 (f := .free "min") rfl)
theorem g_range (T : Tx Z) : Z.mg "range" = none := He.free_ok T.kin T.ns (T.says.fact 51 (f := .free "range") rfl)
theorem g_reversed (T : Tx Z) : Z.mg "reversed" = none := He.free_ok T.kin T.ns (T.says.fact 52 (f := .free "reversed") rfl)
theorem g_str (T : Tx Z) : Z.mg "str" = none := He.free_ok T.kin T.ns (T.says.fact 53 (f := .free "str") rfl)
theorem g_sum (T : Tx Z) : Z.mg "sum" = none := He.free_ok T.kin T.ns (T.says.fact 54 (f := .free "sum") rfl)
theorem g_tuple (T : Tx Z) : Z.mg "tuple" = none := He.free_ok T.kin T.ns (T.says.fact 55 (f := .free "tuple") rfl)
theorem fx_goal_of (T : Tx Z) : ∃ fd, FunE Z.K "goal_of" "goal_of" s_goal_of (He.fAd Z.K ("goal_of", none)) fd := fun_of (T.says.def_ 0 (d := d_goal_of) rfl)
theorem fx_Frame___init__ (T : Tx Z) : ∃ fd, FunE Z.K "__init__" "Frame.__init__" s_Frame___init__ (He.fAd Z.K ("Frame", some "__init__")) fd := fun_of (T.says.def_ 1 (d := d_Frame___init__) rfl)
theorem fx_Frame_lay (T : Tx Z) : ∃ fd, FunE Z.K "lay" "Frame.lay" s_Frame_lay (He.fAd Z.K ("Frame", some "lay")) fd := fun_of (T.says.def_ 2 (d := d_Frame_lay) rfl)
theorem fx_Machine___init__ (T : Tx Z) : ∃ fd, FunE Z.K "__init__" "Machine.__init__" s_Machine___init__ (He.fAd Z.K ("Machine", some "__init__")) fd := fun_of (T.says.def_ 3 (d := d_Machine___init__) rfl)
theorem fx_Machine_step (T : Tx Z) : ∃ fd, FunE Z.K "step" "Machine.step" s_Machine_step (He.fAd Z.K ("Machine", some "step")) fd := fun_of (T.says.def_ 4 (d := d_Machine_step) rfl)
theorem fx_Machine_taken (T : Tx Z) : ∃ fd, FunE Z.K "taken" "Machine.taken" s_Machine_taken (He.fAd Z.K ("Machine", some "taken")) fd := fun_of (T.says.def_ 5 (d := d_Machine_taken) rfl)
theorem fx_Machine_move (T : Tx Z) : ∃ fd, FunE Z.K "move" "Machine.move" s_Machine_move (He.fAd Z.K ("Machine", some "move")) fd := fun_of (T.says.def_ 6 (d := d_Machine_move) rfl)
theorem fx_Machine_meet (T : Tx Z) : ∃ fd, FunE Z.K "meet" "Machine.meet" s_Machine_meet (He.fAd Z.K ("Machine", some "meet")) fd := fun_of (T.says.def_ 7 (d := d_Machine_meet) rfl)
theorem fx_Machine_jump (T : Tx Z) : ∃ fd, FunE Z.K "jump" "Machine.jump" s_Machine_jump (He.fAd Z.K ("Machine", some "jump")) fd := fun_of (T.says.def_ 8 (d := d_Machine_jump) rfl)
theorem fx_Machine_enter (T : Tx Z) : ∃ fd, FunE Z.K "enter" "Machine.enter" s_Machine_enter (He.fAd Z.K ("Machine", some "enter")) fd := fun_of (T.says.def_ 9 (d := d_Machine_enter) rfl)
theorem fx_Machine_back (T : Tx Z) : ∃ fd, FunE Z.K "back" "Machine.back" s_Machine_back (He.fAd Z.K ("Machine", some "back")) fd := fun_of (T.says.def_ 10 (d := d_Machine_back) rfl)
theorem fx_Machine_fault (T : Tx Z) : ∃ fd, FunE Z.K "fault" "Machine.fault" s_Machine_fault (He.fAd Z.K ("Machine", some "fault")) fd := fun_of (T.says.def_ 11 (d := d_Machine_fault) rfl)
theorem fx_run (T : Tx Z) : ∃ fd, FunE Z.K "run" "run" s_run (He.fAd Z.K ("run", none)) fd := fun_of (T.says.def_ 12 (d := d_run) rfl)
theorem fx_l_whole (T : Tx Z) : ∃ fd, FunE Z.K "_law_whole" "_law_whole" s_l_whole (He.fAd Z.K ("_law_whole", none)) fd := fun_of (T.says.def_ 13 (d := d_l_whole) rfl)
theorem fx_l_cell_at (T : Tx Z) : ∃ fd, FunE Z.K "_law_cell_at" "_law_cell_at" s_l_cell_at (He.fAd Z.K ("_law_cell_at", none)) fd := fun_of (T.says.def_ 14 (d := d_l_cell_at) rfl)
theorem fx_l_number (T : Tx Z) : ∃ fd, FunE Z.K "_law_number" "_law_number" s_l_number (He.fAd Z.K ("_law_number", none)) fd := fun_of (T.says.def_ 15 (d := d_l_number) rfl)
theorem fx_l_parts (T : Tx Z) : ∃ fd, FunE Z.K "_law_parts" "_law_parts" s_l_parts (He.fAd Z.K ("_law_parts", none)) fd := fun_of (T.says.def_ 16 (d := d_l_parts) rfl)
theorem fx_l_due (T : Tx Z) : ∃ fd, FunE Z.K "_law_due" "_law_due" s_l_due (He.fAd Z.K ("_law_due", none)) fd := fun_of (T.says.def_ 17 (d := d_l_due) rfl)
theorem fx_law (T : Tx Z) : ∃ fd, FunE Z.K "law" "law" s_law (He.fAd Z.K ("law", none)) fd := fun_of (T.says.def_ 18 (d := d_law) rfl)
end
section
variable {Z : Zt} {n : Nat}
theorem sc_goal_of : FnScope n_goal_of ["stretches", "place"] (defScope s_goal_of) := ⟨rfl, rfl, rfl, by decide +kernel, rfl, by decide +kernel, by decide +kernel⟩
theorem dv_goal_of (T : Tx Z) {sp : Sp} (len : ∀ vs H Q E, sp vs H Q E → vs.length = 2)
    (pure : ∀ (vs : List V) (H : Hp) (Q : VK) (E : XK), sp vs H Q E → t_goal_of Z.K { nx := fun _ H' => Q .non H', rt := Q } (L2.start n_goal_of vs) H) : Cal Z CX0 (n + 1) "goal_of" ["stretches", "place"] sp := by
  obtain ⟨fd, F⟩ := fx_goal_of T
  have B : L2.Binds Z.K fd ["stretches", "place"] [] := F.binds fun _ _ _ _ _ _ us hl => match us, hl with | [_, _], _ => rfl
  refine ⟨⟨_, fd, g_goal_of T, kp_goal_of T, B, mkR (tb := t_goal_of Z.K) F sc_goal_of len (fun cdv A outer s H E hr => ?_) pure⟩⟩
  skip
  exact (pss_cons (ps_for PassesOwn.never rfl (pi_list (pv 0)) (pg_name (i := 2) sc_goal_of.nd rfl (Or.inl rfl)) (pss_one (ps_if (PW.pt (pw_and (pt_cmpR op_leI (pe_ix ix_tup (pv 2) pe_int (fun _ _ => rfl)) (pv 1) (nomark _)) (pw_and1 (pt_cmpR op_ltI (pv 1) (pe_ix ix_tup (pv 2) pe_int (fun _ _ => rfl)) (nomark _))))) (pss_one (ps_ret (pe_ix ix_tup (pv 2) pe_int (fun _ _ => rfl)))) pss_nil)))
    (pss_one (ps_ret pe_non)))
theorem sc_Frame___init__ : FnScope n_Frame___init__ ["self", "place", "boxes", "number"] (defScope s_Frame___init__) := ⟨rfl, rfl, rfl, by decide +kernel, rfl, by decide +kernel, by decide +kernel⟩
theorem dv_Frame___init__ (T : Tx Z) {sp : Sp} (len : ∀ vs H Q E, sp vs H Q E → vs.length = 4)
    (pure : ∀ (vs : List V) (H : Hp) (Q : VK) (E : XK), sp vs H Q E → t_Frame___init__ Z.K { nx := fun _ H' => Q .non H', rt := Q } (L2.start n_Frame___init__ vs) H) : CalN Z CX0 (n + 1) "Frame" (He.ga Z.K "Frame") ["self", "place", "boxes", "number"] sp := by
  obtain ⟨fd, F⟩ := fx_Frame___init__ T
  have B : L2.Binds Z.K fd ["self", "place", "boxes", "number"] [] := F.binds fun _ _ _ _ _ _ us hl => match us, hl with | [_, _, _, _], _ => rfl
  refine ⟨⟨_, fd, mk_Frame T, g_Frame T, B, mkR (tb := t_Frame___init__ Z.K) F sc_Frame___init__ len (fun cdv A outer s H E hr => ?_) pure⟩⟩
  skip
  exact (pss_cons (psfd (cl_Frame T) (na_Frame_place T) (pv 0) (pv 1))
    (pss_cons (psfd (cl_Frame T) (na_Frame_boxes T) (pv 0) (pe_op op_cat (pe_lst (pa_cons (pv 3) pa_nil)) (pe_op op_rep (pe_lst (pa_cons pe_int pa_nil)) (pe_op op_subI (pv 2) pe_int))))
    (pss_one (psfd (cl_Frame T) (na_Frame_pile T) (pv 0) (pe_lst pa_nil)))))
theorem sc_Frame_lay : FnScope n_Frame_lay ["self", "number"] (defScope s_Frame_lay) := ⟨rfl, rfl, rfl, by decide +kernel, rfl, by decide +kernel, by decide +kernel⟩
theorem dv_Frame_lay (T : Tx Z) {sp : Sp} (len : ∀ vs H Q E, sp vs H Q E → vs.length = 2)
    (pure : ∀ (vs : List V) (H : Hp) (Q : VK) (E : XK), sp vs H Q E → t_Frame_lay Z.K { nx := fun _ H' => Q .non H', rt := Q } (L2.start n_Frame_lay vs) H) : CalM Z CX0 (n + 1) (He.ga Z.K "Frame") "lay" ["self", "number"] sp := by
  obtain ⟨fd, F⟩ := fx_Frame_lay T
  have B : L2.Binds Z.K fd ["self", "number"] [] := F.binds fun _ _ _ _ _ _ us hl => match us, hl with | [_, _], _ => rfl
  refine ⟨⟨_, fd, m_Frame_lay T, B, mkR (tb := t_Frame_lay Z.K) F sc_Frame_lay len (fun cdv A outer s H E hr => ?_) pure⟩⟩
  skip
  exact (pss_cons (ps_expr (pe_bm PySem.F.plainAttrs_list PySem.F.slot_list_append PySem.F.type_list_append mt_append (pfd (cl_Frame T) (na_Frame_pile T) (pv 0)) (pa_cons (pv 1) pa_nil)))
    (pss_one (psfd (cl_Frame T) (na_Frame_place T) (pv 0) (pe_op op_addI (pfd (cl_Frame T) (na_Frame_place T) (pv 0)) pe_int))))
theorem sc_Machine___init__ : FnScope n_Machine___init__ ["self", "parts", "number", "turns"] (defScope s_Machine___init__) := ⟨rfl, rfl, rfl, by decide +kernel, rfl, by decide +kernel, by decide +kernel⟩
theorem dv_Machine___init__ (T : Tx Z) {k_Frame___init__ : Nat} {ps_Frame___init__ : List Str} {sp_Frame___init__ : Sp} (c_Frame___init__ : CalN Z CX0 k_Frame___init__ "Frame" (He.ga Z.K "Frame") ps_Frame___init__ sp_Frame___init__) (h_Frame___init__ : k_Frame___init__ + 1 ≤ n) {sp : Sp} (len : ∀ vs H Q E, sp vs H Q E → vs.length = 4)
    (pure : ∀ (vs : List V) (H : Hp) (Q : VK) (E : XK), sp vs H Q E → t_Machine___init__ Z.K sp_Frame___init__ { nx := fun _ H' => Q .non H', rt := Q } (L2.start n_Machine___init__ vs) H) : CalN Z CX0 (n + 1) "Machine" (He.ga Z.K "Machine") ["self", "parts", "number", "turns"] sp := by
  obtain ⟨fd, F⟩ := fx_Machine___init__ T
  have B : L2.Binds Z.K fd ["self", "parts", "number", "turns"] [] := F.binds fun _ _ _ _ _ _ us hl => match us, hl with | [_, _, _, _], _ => rfl
  refine ⟨⟨_, fd, mk_Machine T, g_Machine T, B, mkR (tb := t_Machine___init__ Z.K sp_Frame___init__) F sc_Machine___init__ len (fun cdv A outer s H E hr => ?_) pure⟩⟩
  have r_Frame___init__ := hr.mono h_Frame___init__
  exact (pss_cons (psfd (cl_Machine T) (na_Machine_code T) (pv 0) (pe_ix ix_tup (pv 1) pe_int (fun _ _ => rfl)))
    (pss_cons (psfd (cl_Machine T) (na_Machine_stretches T) (pv 0) (pe_ix ix_tup (pv 1) pe_int (fun _ _ => rfl)))
    (pss_cons (psfd (cl_Machine T) (na_Machine_starts T) (pv 0) (pe_ix ix_tup (pv 1) pe_int (fun _ _ => rfl)))
    (pss_cons (psfd (cl_Machine T) (na_Machine_boxes T) (pv 0) (pe_ix ix_tup (pv 1) pe_int (fun _ _ => rfl)))
    (pss_cons (psfd (cl_Machine T) (na_Machine_turns T) (pv 0) (pv 3))
    (pss_cons (psfd (cl_Machine T) (na_Machine_said T) (pv 0) (pe_lst pa_nil))
    (pss_cons (psfd (cl_Machine T) (na_Machine_ended T) (pv 0) pe_non)
    (pss_one (psfd (cl_Machine T) (na_Machine_frames T) (pv 0) (pe_lst (pa_cons (pmak c_Frame___init__ r_Frame___init__ (by rfl) pass0 (pa_cons (pe_ix ix_list (pfd (cl_Machine T) (na_Machine_starts T) (pv 0)) pe_int (fun _ _ => rfl)) (pa_cons (pfd (cl_Machine T) (na_Machine_boxes T) (pv 0)) (pa_cons (pv 2) pa_nil)))) pa_nil)))))))))))
theorem sc_Machine_step : FnScope n_Machine_step ["self"] (defScope s_Machine_step) := ⟨rfl, rfl, rfl, by decide +kernel, rfl, by decide +kernel, by decide +kernel⟩
theorem dv_Machine_step (T : Tx Z) {k_Machine_meet : Nat} {ps_Machine_meet : List Str} {sp_Machine_meet : Sp} (c_Machine_meet : CalM Z CX0 k_Machine_meet (He.ga Z.K "Machine") "meet" ps_Machine_meet sp_Machine_meet) (h_Machine_meet : k_Machine_meet ≤ n) {k_Machine_move : Nat} {ps_Machine_move : List Str} {sp_Machine_move : Sp} (c_Machine_move : CalM Z CX0 k_Machine_move (He.ga Z.K "Machine") "move" ps_Machine_move sp_Machine_move) (h_Machine_move : k_Machine_move ≤ n) {k_Machine_jump : Nat} {ps_Machine_jump : List Str} {sp_Machine_jump : Sp} (c_Machine_jump : CalM Z CX0 k_Machine_jump (He.ga Z.K "Machine") "jump" ps_Machine_jump sp_Machine_jump) (h_Machine_jump : k_Machine_jump ≤ n) {k_Machine_taken : Nat} {ps_Machine_taken : List Str} {sp_Machine_taken : Sp} (c_Machine_taken : CalM Z CX0 k_Machine_taken (He.ga Z.K "Machine") "taken" ps_Machine_taken sp_Machine_taken) (h_Machine_taken : k_Machine_taken ≤ n) {k_Machine_enter : Nat} {ps_Machine_enter : List Str} {sp_Machine_enter : Sp} (c_Machine_enter : CalM Z CX0 k_Machine_enter (He.ga Z.K "Machine") "enter" ps_Machine_enter sp_Machine_enter) (h_Machine_enter : k_Machine_enter ≤ n) {k_Machine_back : Nat} {ps_Machine_back : List Str} {sp_Machine_back : Sp} (c_Machine_back : CalM Z CX0 k_Machine_back (He.ga Z.K "Machine") "back" ps_Machine_back sp_Machine_back) (h_Machine_back : k_Machine_back ≤ n) {k_Machine_fault : Nat} {ps_Machine_fault : List Str} {sp_Machine_fault : Sp} (c_Machine_fault : CalM Z CX0 k_Machine_fault (He.ga Z.K "Machine") "fault" ps_Machine_fault sp_Machine_fault) (h_Machine_fault : k_Machine_fault ≤ n) {sp : Sp} (len : ∀ vs H Q E, sp vs H Q E → vs.length = 1)
    (pure : ∀ (vs : List V) (H : Hp) (Q : VK) (E : XK), sp vs H Q E → t_Machine_step Z.K sp_Machine_meet sp_Machine_move sp_Machine_jump sp_Machine_taken sp_Machine_enter sp_Machine_back sp_Machine_fault { nx := fun _ H' => Q .non H', rt := Q } (L2.start n_Machine_step vs) H) : CalM Z CX0 (n + 1) (He.ga Z.K "Machine") "step" ["self"] sp := by
  obtain ⟨fd, F⟩ := fx_Machine_step T
  have B : L2.Binds Z.K fd ["self"] [] := F.binds fun _ _ _ _ _ _ us hl => match us, hl with | [_], _ => rfl
  refine ⟨⟨_, fd, m_Machine_step T, B, mkR (tb := t_Machine_step Z.K sp_Machine_meet sp_Machine_move sp_Machine_jump sp_Machine_taken sp_Machine_enter sp_Machine_back sp_Machine_fault) F sc_Machine_step len (fun cdv A outer s H E hr => ?_) pure⟩⟩
  have r_Machine_meet := hr.mono h_Machine_meet
  have r_Machine_move := hr.mono h_Machine_move
  have r_Machine_jump := hr.mono h_Machine_jump
  have r_Machine_taken := hr.mono h_Machine_taken
  have r_Machine_enter := hr.mono h_Machine_enter
  have r_Machine_back := hr.mono h_Machine_back
  have r_Machine_fault := hr.mono h_Machine_fault
  exact (pss_cons (ps_set (i := 1) sc_Machine_step.nd rfl (Or.inl rfl) (pe_ix ix_list (pfd (cl_Machine T) (na_Machine_frames T) (pv 0)) (pe_op op_subI (pe_callB call_lenQ (by rfl) (g_len T) PySem.boot_len (pa_cons (pfd (cl_Machine T) (na_Machine_frames T) (pv 0)) pa_nil)) pe_int) (fun _ _ => rfl)))
    (pss_cons (ps_set (i := 2) sc_Machine_step.nd rfl (Or.inl rfl) (pe_ix ix_list (pfd (cl_Machine T) (na_Machine_code T) (pv 0)) (pfd (cl_Frame T) (na_Frame_place T) (pv 1)) (fun _ _ => rfl)))
    (pss_cons (ps_set (i := 3) sc_Machine_step.nd rfl (Or.inl rfl) (pe_ix ix_tup (pv 2) pe_int (fun _ _ => rfl)))
    (pss_one (ps_if (pt_cmpR op_in_seq (pv 3) (pe_tup (pa_cons pe_str (pa_cons pe_str (pa_cons pe_str (pa_cons pe_str pa_nil))))) (by rfl)) (pss_one (ps_expr (pmet (pv 0) (cl_Machine T) c_Machine_meet r_Machine_meet pass0 (pa_cons (pv 1) (pa_cons (pv 3) pa_nil))))) (pss_one (ps_if (pt_cmpR op_in_seq (pv 3) (pe_tup (pa_cons pe_str (pa_cons pe_str (pa_cons pe_str (pa_cons pe_str pa_nil))))) (by rfl)) (pss_one (ps_expr (pmet (pv 0) (cl_Machine T) c_Machine_move r_Machine_move pass0 (pa_cons (pv 1) (pa_cons (pv 2) pa_nil))))) (pss_one (ps_if (pt_cmpR op_in_seq (pv 3) (pe_tup (pa_cons pe_str (pa_cons pe_str (pa_cons pe_str pa_nil)))) (by rfl)) (pss_one (ps_expr (pmet (pv 0) (cl_Machine T) c_Machine_jump r_Machine_jump pass0 (pa_cons (pv 1) (pa_cons (pv 2) pa_nil))))) (pss_one (ps_if (pt_cmpR op_eq (pv 3) pe_str (nomark _)) (pss_one (ps_if (pt_val (pmet0 (pv 0) (cl_Machine T) c_Machine_taken r_Machine_taken pass0)) (pss_one (psfd (cl_Frame T) (na_Frame_place T) (pv 1) (pe_op op_addI (pfd (cl_Frame T) (na_Frame_place T) (pv 1)) pe_int))) pss_nil)) (pss_one (ps_if (pt_cmpR op_eq (pv 3) pe_str (nomark _)) (pss_one (ps_expr (pmet (pv 0) (cl_Machine T) c_Machine_enter r_Machine_enter pass0 (pa_cons (pe_ix ix_tup (pv 2) pe_int (fun _ _ => rfl)) (pa_cons (pe_bm0 PySem.F.plainAttrs_list PySem.F.slot_list_pop PySem.F.type_list_pop mt_pop (pfd (cl_Frame T) (na_Frame_pile T) (pv 1))) pa_nil))))) (pss_one (ps_if (pt_cmpR op_eq (pv 3) pe_str (nomark _)) (pss_one (ps_expr (pmet (pv 0) (cl_Machine T) c_Machine_back r_Machine_back pass0 (pa_cons (pe_bm0 PySem.F.plainAttrs_list PySem.F.slot_list_pop PySem.F.type_list_pop mt_pop (pfd (cl_Frame T) (na_Frame_pile T) (pv 1))) pa_nil)))) (pss_one (ps_expr (pmet (pv 0) (cl_Machine T) c_Machine_fault r_Machine_fault pass0 (pa_cons (pe_bm0 PySem.F.plainAttrs_list PySem.F.slot_list_pop PySem.F.type_list_pop mt_pop (pfd (cl_Frame T) (na_Frame_pile T) (pv 1))) pa_nil)))))))))))))))))))
theorem sc_Machine_taken : FnScope n_Machine_taken ["self"] (defScope s_Machine_taken) := ⟨rfl, rfl, rfl, by decide +kernel, rfl, by decide +kernel, by decide +kernel⟩
theorem dv_Machine_taken (T : Tx Z) {sp : Sp} (len : ∀ vs H Q E, sp vs H Q E → vs.length = 1)
    (pure : ∀ (vs : List V) (H : Hp) (Q : VK) (E : XK), sp vs H Q E → t_Machine_taken Z.K { nx := fun _ H' => Q .non H', rt := Q } (L2.start n_Machine_taken vs) H) : CalM Z CX0 (n + 1) (He.ga Z.K "Machine") "taken" ["self"] sp := by
  obtain ⟨fd, F⟩ := fx_Machine_taken T
  have B : L2.Binds Z.K fd ["self"] [] := F.binds fun _ _ _ _ _ _ us hl => match us, hl with | [_], _ => rfl
  refine ⟨⟨_, fd, m_Machine_taken T, B, mkR (tb := t_Machine_taken Z.K) F sc_Machine_taken len (fun cdv A outer s H E hr => ?_) pure⟩⟩
  skip
  exact (pss_cons (ps_if (pt_cmpR op_eq (pfd (cl_Machine T) (na_Machine_turns T) (pv 0)) pe_int (nomark _)) (pss_cons (psfd (cl_Machine T) (na_Machine_ended T) (pv 0) (pe_tup (pa_cons pe_str (pa_cons pe_int pa_nil))))
    (pss_one (ps_ret pe_bl))) pss_nil)
    (pss_cons (psfd (cl_Machine T) (na_Machine_turns T) (pv 0) (pe_op op_subI (pfd (cl_Machine T) (na_Machine_turns T) (pv 0)) pe_int))
    (pss_one (ps_ret pe_bl))))
theorem sc_Machine_move : FnScope n_Machine_move ["self", "frame", "row"] (defScope s_Machine_move) := ⟨rfl, rfl, rfl, by decide +kernel, rfl, by decide +kernel, by decide +kernel⟩
theorem dv_Machine_move (T : Tx Z) {k_Frame_lay : Nat} {ps_Frame_lay : List Str} {sp_Frame_lay : Sp} (c_Frame_lay : CalM Z CX0 k_Frame_lay (He.ga Z.K "Frame") "lay" ps_Frame_lay sp_Frame_lay) (h_Frame_lay : k_Frame_lay ≤ n) {sp : Sp} (len : ∀ vs H Q E, sp vs H Q E → vs.length = 3)
    (pure : ∀ (vs : List V) (H : Hp) (Q : VK) (E : XK), sp vs H Q E → t_Machine_move Z.K sp_Frame_lay { nx := fun _ H' => Q .non H', rt := Q } (L2.start n_Machine_move vs) H) : CalM Z CX0 (n + 1) (He.ga Z.K "Machine") "move" ["self", "frame", "row"] sp := by
  obtain ⟨fd, F⟩ := fx_Machine_move T
  have B : L2.Binds Z.K fd ["self", "frame", "row"] [] := F.binds fun _ _ _ _ _ _ us hl => match us, hl with | [_, _, _], _ => rfl
  refine ⟨⟨_, fd, m_Machine_move T, B, mkR (tb := t_Machine_move Z.K sp_Frame_lay) F sc_Machine_move len (fun cdv A outer s H E hr => ?_) pure⟩⟩
  have r_Frame_lay := hr.mono h_Frame_lay
  exact (pss_cons (ps_if (pt_cmpR op_eq (pe_ix ix_tup (pv 2) pe_int (fun _ _ => rfl)) pe_str (nomark _)) (pss_cons (ps_expr (pmet (pv 1) (cl_Frame T) c_Frame_lay r_Frame_lay pass0 (pa_cons (pe_ix ix_tup (pv 2) pe_int (fun _ _ => rfl)) pa_nil)))
    (pss_one ps_retN)) pss_nil)
    (pss_cons (ps_if (pt_cmpR op_eq (pe_ix ix_tup (pv 2) pe_int (fun _ _ => rfl)) pe_str (nomark _)) (pss_cons (ps_expr (pmet (pv 1) (cl_Frame T) c_Frame_lay r_Frame_lay pass0 (pa_cons (pe_ix ix_list (pfd (cl_Frame T) (na_Frame_boxes T) (pv 1)) (pe_ix ix_tup (pv 2) pe_int (fun _ _ => rfl)) (fun _ _ => rfl)) pa_nil)))
    (pss_one ps_retN)) pss_nil)
    (pss_cons (ps_set (i := 3) sc_Machine_move.nd rfl (Or.inl rfl) (pe_bm0 PySem.F.plainAttrs_list PySem.F.slot_list_pop PySem.F.type_list_pop mt_pop (pfd (cl_Frame T) (na_Frame_pile T) (pv 1))))
    (pss_cons (ps_if (pt_cmpR op_eq (pe_ix ix_tup (pv 2) pe_int (fun _ _ => rfl)) pe_str (nomark _)) (pss_one (ps_asg (pv 3) (pg_sub (pfd (cl_Frame T) (na_Frame_boxes T) (pv 1)) (pe_ix ix_tup (pv 2) pe_int (fun _ _ => rfl)) set_list))) (pss_one (ps_expr (pe_bm PySem.F.plainAttrs_list PySem.F.slot_list_append PySem.F.type_list_append mt_append (pfd (cl_Machine T) (na_Machine_said T) (pv 0)) (pa_cons (pv 3) pa_nil)))))
    (pss_one (psfd (cl_Frame T) (na_Frame_place T) (pv 1) (pe_op op_addI (pfd (cl_Frame T) (na_Frame_place T) (pv 1)) pe_int)))))))
theorem sc_Machine_meet : FnScope n_Machine_meet ["self", "frame", "word"] (defScope s_Machine_meet) := ⟨rfl, rfl, rfl, by decide +kernel, rfl, by decide +kernel, by decide +kernel⟩
theorem dv_Machine_meet (T : Tx Z) {k_Frame_lay : Nat} {ps_Frame_lay : List Str} {sp_Frame_lay : Sp} (c_Frame_lay : CalM Z CX0 k_Frame_lay (He.ga Z.K "Frame") "lay" ps_Frame_lay sp_Frame_lay) (h_Frame_lay : k_Frame_lay ≤ n) {k_Machine_fault : Nat} {ps_Machine_fault : List Str} {sp_Machine_fault : Sp} (c_Machine_fault : CalM Z CX0 k_Machine_fault (He.ga Z.K "Machine") "fault" ps_Machine_fault sp_Machine_fault) (h_Machine_fault : k_Machine_fault ≤ n) {sp : Sp} (len : ∀ vs H Q E, sp vs H Q E → vs.length = 3)
    (pure : ∀ (vs : List V) (H : Hp) (Q : VK) (E : XK), sp vs H Q E → t_Machine_meet Z.K sp_Frame_lay sp_Machine_fault { nx := fun _ H' => Q .non H', rt := Q } (L2.start n_Machine_meet vs) H) : CalM Z CX0 (n + 1) (He.ga Z.K "Machine") "meet" ["self", "frame", "word"] sp := by
  obtain ⟨fd, F⟩ := fx_Machine_meet T
  have B : L2.Binds Z.K fd ["self", "frame", "word"] [] := F.binds fun _ _ _ _ _ _ us hl => match us, hl with | [_, _, _], _ => rfl
  refine ⟨⟨_, fd, m_Machine_meet T, B, mkR (tb := t_Machine_meet Z.K sp_Frame_lay sp_Machine_fault) F sc_Machine_meet len (fun cdv A outer s H E hr => ?_) pure⟩⟩
  have r_Frame_lay := hr.mono h_Frame_lay
  have r_Machine_fault := hr.mono h_Machine_fault
  exact (pss_cons (ps_set (i := 3) sc_Machine_meet.nd rfl (Or.inl rfl) (pe_bm0 PySem.F.plainAttrs_list PySem.F.slot_list_pop PySem.F.type_list_pop mt_pop (pfd (cl_Frame T) (na_Frame_pile T) (pv 1))))
    (pss_cons (ps_set (i := 4) sc_Machine_meet.nd rfl (Or.inl rfl) (pe_bm0 PySem.F.plainAttrs_list PySem.F.slot_list_pop PySem.F.type_list_pop mt_pop (pfd (cl_Frame T) (na_Frame_pile T) (pv 1))))
    (pss_one (ps_if (pt_cmpR op_eq (pv 2) pe_str (nomark _)) (pss_one (ps_expr (pmet (pv 1) (cl_Frame T) c_Frame_lay r_Frame_lay pass0 (pa_cons (pe_op op_addI (pv 4) (pv 3)) pa_nil)))) (pss_one (ps_if (pt_cmpR op_eq (pv 2) pe_str (nomark _)) (pss_one (ps_expr (pmet (pv 1) (cl_Frame T) c_Frame_lay r_Frame_lay pass0 (pa_cons (pe_op op_subI (pv 4) (pv 3)) pa_nil)))) (pss_one (ps_if (pt_cmpR op_eq (pv 2) pe_str (nomark _)) (pss_one (ps_expr (pmet (pv 1) (cl_Frame T) c_Frame_lay r_Frame_lay pass0 (pa_cons (pe_ifExp (pt_cmpR op_ltI (pv 4) (pv 3) (nomark _)) pe_int pe_int) pa_nil)))) (pss_one (ps_if (pt_cmpR op_eq (pv 3) pe_int (nomark _)) (pss_one (ps_expr (pmet (pv 0) (cl_Machine T) c_Machine_fault r_Machine_fault pass0 (pa_cons (pe_glob (by rfl) (i_NOUGHT T).choose_spec ⟨_, rfl⟩) pa_nil)))) (pss_one (ps_expr (pmet (pv 1) (cl_Frame T) c_Frame_lay r_Frame_lay pass0 (pa_cons (pe_op (op_fdZ T.seer T.tree rfl rfl rfl hr) (pv 4) (pv 3)) pa_nil))))))))))))))
theorem sc_Machine_jump : FnScope n_Machine_jump ["self", "frame", "row"] (defScope s_Machine_jump) := ⟨rfl, rfl, rfl, by decide +kernel, rfl, by decide +kernel, by decide +kernel⟩
theorem dv_Machine_jump (T : Tx Z) {sp : Sp} (len : ∀ vs H Q E, sp vs H Q E → vs.length = 3)
    (pure : ∀ (vs : List V) (H : Hp) (Q : VK) (E : XK), sp vs H Q E → t_Machine_jump Z.K { nx := fun _ H' => Q .non H', rt := Q } (L2.start n_Machine_jump vs) H) : CalM Z CX0 (n + 1) (He.ga Z.K "Machine") "jump" ["self", "frame", "row"] sp := by
  obtain ⟨fd, F⟩ := fx_Machine_jump T
  have B : L2.Binds Z.K fd ["self", "frame", "row"] [] := F.binds fun _ _ _ _ _ _ us hl => match us, hl with | [_, _, _], _ => rfl
  refine ⟨⟨_, fd, m_Machine_jump T, B, mkR (tb := t_Machine_jump Z.K) F sc_Machine_jump len (fun cdv A outer s H E hr => ?_) pure⟩⟩
  skip
  exact (pss_one (ps_if (pt_cmpR op_eq (pe_ix ix_tup (pv 2) pe_int (fun _ _ => rfl)) pe_str (nomark _)) (pss_one (psfd (cl_Frame T) (na_Frame_place T) (pv 1) (pe_ix ix_list (pfd (cl_Frame T) (na_Frame_boxes T) (pv 1)) (pe_ix ix_tup (pv 2) pe_int (fun _ _ => rfl)) (fun _ _ => rfl)))) (pss_one (ps_if (PW.pt (pw_or (pt_cmpR op_eq (pe_ix ix_tup (pv 2) pe_int (fun _ _ => rfl)) pe_str (nomark _)) (pw_or1 (pt_cmpR op_eq (pe_bm0 PySem.F.plainAttrs_list PySem.F.slot_list_pop PySem.F.type_list_pop mt_pop (pfd (cl_Frame T) (na_Frame_pile T) (pv 1))) pe_int (nomark _))))) (pss_one (psfd (cl_Frame T) (na_Frame_place T) (pv 1) (pe_ix ix_tup (pv 2) pe_int (fun _ _ => rfl)))) (pss_one (psfd (cl_Frame T) (na_Frame_place T) (pv 1) (pe_op op_addI (pfd (cl_Frame T) (na_Frame_place T) (pv 1)) pe_int)))))))
theorem sc_Machine_enter : FnScope n_Machine_enter ["self", "number", "given"] (defScope s_Machine_enter) := ⟨rfl, rfl, rfl, by decide +kernel, rfl, by decide +kernel, by decide +kernel⟩
theorem dv_Machine_enter (T : Tx Z) {k_Machine_taken : Nat} {ps_Machine_taken : List Str} {sp_Machine_taken : Sp} (c_Machine_taken : CalM Z CX0 k_Machine_taken (He.ga Z.K "Machine") "taken" ps_Machine_taken sp_Machine_taken) (h_Machine_taken : k_Machine_taken ≤ n) {k_Machine_fault : Nat} {ps_Machine_fault : List Str} {sp_Machine_fault : Sp} (c_Machine_fault : CalM Z CX0 k_Machine_fault (He.ga Z.K "Machine") "fault" ps_Machine_fault sp_Machine_fault) (h_Machine_fault : k_Machine_fault ≤ n) {k_Frame___init__ : Nat} {ps_Frame___init__ : List Str} {sp_Frame___init__ : Sp} (c_Frame___init__ : CalN Z CX0 k_Frame___init__ "Frame" (He.ga Z.K "Frame") ps_Frame___init__ sp_Frame___init__) (h_Frame___init__ : k_Frame___init__ + 1 ≤ n) {sp : Sp} (len : ∀ vs H Q E, sp vs H Q E → vs.length = 3)
    (pure : ∀ (vs : List V) (H : Hp) (Q : VK) (E : XK), sp vs H Q E → t_Machine_enter Z.K sp_Machine_taken sp_Machine_fault sp_Frame___init__ { nx := fun _ H' => Q .non H', rt := Q } (L2.start n_Machine_enter vs) H) : CalM Z CX0 (n + 1) (He.ga Z.K "Machine") "enter" ["self", "number", "given"] sp := by
  obtain ⟨fd, F⟩ := fx_Machine_enter T
  have B : L2.Binds Z.K fd ["self", "number", "given"] [] := F.binds fun _ _ _ _ _ _ us hl => match us, hl with | [_, _, _], _ => rfl
  refine ⟨⟨_, fd, m_Machine_enter T, B, mkR (tb := t_Machine_enter Z.K sp_Machine_taken sp_Machine_fault sp_Frame___init__) F sc_Machine_enter len (fun cdv A outer s H E hr => ?_) pure⟩⟩
  have r_Machine_taken := hr.mono h_Machine_taken
  have r_Machine_fault := hr.mono h_Machine_fault
  have r_Frame___init__ := hr.mono h_Frame___init__
  exact (pss_cons (ps_if (pt_not (pt_val (pmet0 (pv 0) (cl_Machine T) c_Machine_taken r_Machine_taken pass0))) (pss_one ps_retN) pss_nil)
    (pss_one (ps_if (pt_cmpR op_eq (pe_callB call_lenQ (by rfl) (g_len T) PySem.boot_len (pa_cons (pfd (cl_Machine T) (na_Machine_frames T) (pv 0)) pa_nil)) (pe_glob (by rfl) (i_DEEPEST T).choose_spec ⟨_, rfl⟩) (nomark _)) (pss_one (ps_expr (pmet (pv 0) (cl_Machine T) c_Machine_fault r_Machine_fault pass0 (pa_cons (pe_glob (by rfl) (i_DEEP T).choose_spec ⟨_, rfl⟩) pa_nil)))) (pss_one (ps_expr (pe_bm PySem.F.plainAttrs_list PySem.F.slot_list_append PySem.F.type_list_append mt_append (pfd (cl_Machine T) (na_Machine_frames T) (pv 0)) (pa_cons (pmak c_Frame___init__ r_Frame___init__ (by rfl) pass0 (pa_cons (pe_ix ix_list (pfd (cl_Machine T) (na_Machine_starts T) (pv 0)) (pv 1) (fun _ _ => rfl)) (pa_cons (pfd (cl_Machine T) (na_Machine_boxes T) (pv 0)) (pa_cons (pv 2) pa_nil)))) pa_nil)))))))
theorem sc_Machine_back : FnScope n_Machine_back ["self", "given"] (defScope s_Machine_back) := ⟨rfl, rfl, rfl, by decide +kernel, rfl, by decide +kernel, by decide +kernel⟩
theorem dv_Machine_back (T : Tx Z) {k_Frame_lay : Nat} {ps_Frame_lay : List Str} {sp_Frame_lay : Sp} (c_Frame_lay : CalM Z CX0 k_Frame_lay (He.ga Z.K "Frame") "lay" ps_Frame_lay sp_Frame_lay) (h_Frame_lay : k_Frame_lay ≤ n) {sp : Sp} (len : ∀ vs H Q E, sp vs H Q E → vs.length = 2)
    (pure : ∀ (vs : List V) (H : Hp) (Q : VK) (E : XK), sp vs H Q E → t_Machine_back Z.K sp_Frame_lay { nx := fun _ H' => Q .non H', rt := Q } (L2.start n_Machine_back vs) H) : CalM Z CX0 (n + 1) (He.ga Z.K "Machine") "back" ["self", "given"] sp := by
  obtain ⟨fd, F⟩ := fx_Machine_back T
  have B : L2.Binds Z.K fd ["self", "given"] [] := F.binds fun _ _ _ _ _ _ us hl => match us, hl with | [_, _], _ => rfl
  refine ⟨⟨_, fd, m_Machine_back T, B, mkR (tb := t_Machine_back Z.K sp_Frame_lay) F sc_Machine_back len (fun cdv A outer s H E hr => ?_) pure⟩⟩
  have r_Frame_lay := hr.mono h_Frame_lay
  exact (pss_cons (ps_expr (pe_bm0 PySem.F.plainAttrs_list PySem.F.slot_list_pop PySem.F.type_list_pop mt_pop (pfd (cl_Machine T) (na_Machine_frames T) (pv 0))))
    (pss_one (ps_if (pt_cmpR op_eq (pe_callB call_lenQ (by rfl) (g_len T) PySem.boot_len (pa_cons (pfd (cl_Machine T) (na_Machine_frames T) (pv 0)) pa_nil)) pe_int (nomark _)) (pss_one (psfd (cl_Machine T) (na_Machine_ended T) (pv 0) (pe_tup (pa_cons pe_str (pa_cons (pv 1) pa_nil))))) (pss_one (ps_expr (pmet (pe_ix ix_list (pfd (cl_Machine T) (na_Machine_frames T) (pv 0)) (pe_op op_subI (pe_callB call_lenQ (by rfl) (g_len T) PySem.boot_len (pa_cons (pfd (cl_Machine T) (na_Machine_frames T) (pv 0)) pa_nil)) pe_int) (fun _ _ => rfl)) (cl_Frame T) c_Frame_lay r_Frame_lay pass0 (pa_cons (pv 1) pa_nil)))))))
theorem sc_Machine_fault : FnScope n_Machine_fault ["self", "number"] (defScope s_Machine_fault) := ⟨rfl, rfl, rfl, by decide +kernel, rfl, by decide +kernel, by decide +kernel⟩
theorem dv_Machine_fault (T : Tx Z) {k_goal_of : Nat} {ps_goal_of : List Str} {sp_goal_of : Sp} (c_goal_of : Cal Z CX0 k_goal_of "goal_of" ps_goal_of sp_goal_of) (h_goal_of : k_goal_of ≤ n) {sp : Sp} (len : ∀ vs H Q E, sp vs H Q E → vs.length = 2)
    (pure : ∀ (vs : List V) (H : Hp) (Q : VK) (E : XK), sp vs H Q E → t_Machine_fault Z.K sp_goal_of { nx := fun _ H' => Q .non H', rt := Q } (L2.start n_Machine_fault vs) H) : CalM Z CX0 (n + 1) (He.ga Z.K "Machine") "fault" ["self", "number"] sp := by
  obtain ⟨fd, F⟩ := fx_Machine_fault T
  have B : L2.Binds Z.K fd ["self", "number"] [] := F.binds fun _ _ _ _ _ _ us hl => match us, hl with | [_, _], _ => rfl
  refine ⟨⟨_, fd, m_Machine_fault T, B, mkR (tb := t_Machine_fault Z.K sp_goal_of) F sc_Machine_fault len (fun cdv A outer s H E hr => ?_) pure⟩⟩
  have r_goal_of := hr.mono h_goal_of
  exact (pss_cons (ps_while PassesOwn.never (pt_cmpR op_gtI (pe_callB call_lenQ (by rfl) (g_len T) PySem.boot_len (pa_cons (pfd (cl_Machine T) (na_Machine_frames T) (pv 0)) pa_nil)) pe_int (nomark _)) (pss_cons (ps_set (i := 2) sc_Machine_fault.nd rfl (Or.inl rfl) (pe_ix ix_list (pfd (cl_Machine T) (na_Machine_frames T) (pv 0)) (pe_op op_subI (pe_callB call_lenQ (by rfl) (g_len T) PySem.boot_len (pa_cons (pfd (cl_Machine T) (na_Machine_frames T) (pv 0)) pa_nil)) pe_int) (fun _ _ => rfl)))
    (pss_cons (ps_set (i := 3) sc_Machine_fault.nd rfl (Or.inl rfl) (pcal c_goal_of r_goal_of (by rfl) pass0 (pa_cons (pfd (cl_Machine T) (na_Machine_stretches T) (pv 0)) (pa_cons (pfd (cl_Frame T) (na_Frame_place T) (pv 2)) pa_nil))))
    (pss_cons (ps_if (pt_cmpR op_isNotNo (pv 3) pe_non (nomark _)) (pss_cons (psfd (cl_Frame T) (na_Frame_pile T) (pv 2) (pe_lst (pa_cons (pv 1) pa_nil)))
    (pss_cons (psfd (cl_Frame T) (na_Frame_place T) (pv 2) (pv 3))
    (pss_one ps_retN))) pss_nil)
    (pss_one (ps_expr (pe_bm0 PySem.F.plainAttrs_list PySem.F.slot_list_pop PySem.F.type_list_pop mt_pop (pfd (cl_Machine T) (na_Machine_frames T) (pv 0)))))))))
    (pss_one (psfd (cl_Machine T) (na_Machine_ended T) (pv 0) (pe_tup (pa_cons pe_str (pa_cons (pv 1) pa_nil))))))
theorem sc_run : FnScope n_run ["parts", "number", "turns"] (defScope s_run) := ⟨rfl, rfl, rfl, by decide +kernel, rfl, by decide +kernel, by decide +kernel⟩
theorem vac_run (T : Tx Z) {sp : Sp} (no : ∀ vs H Q E, ¬ sp vs H Q E) : Cal Z CX0 n "run" ["parts", "number", "turns"] sp := by
  obtain ⟨fd, F⟩ := fx_run T
  have B : L2.Binds Z.K fd ["parts", "number", "turns"] [] := F.binds fun _ _ _ _ _ _ us hl => match us, hl with | [_, _, _], _ => rfl
  exact ⟨⟨_, fd, g_run T, kp_run T, B, FnR.vac no⟩⟩
theorem dv_run (T : Tx Z) {k_Machine___init__ : Nat} {ps_Machine___init__ : List Str} {sp_Machine___init__ : Sp} (c_Machine___init__ : CalN Z CX0 k_Machine___init__ "Machine" (He.ga Z.K "Machine") ps_Machine___init__ sp_Machine___init__) (h_Machine___init__ : k_Machine___init__ + 1 ≤ n) {k_Machine_step : Nat} {ps_Machine_step : List Str} {sp_Machine_step : Sp} (c_Machine_step : CalM Z CX0 k_Machine_step (He.ga Z.K "Machine") "step" ps_Machine_step sp_Machine_step) (h_Machine_step : k_Machine_step ≤ n) {sp : Sp} (len : ∀ vs H Q E, sp vs H Q E → vs.length = 3)
    (pure : ∀ (vs : List V) (H : Hp) (Q : VK) (E : XK), sp vs H Q E → t_run Z.K sp_Machine___init__ sp_Machine_step { nx := fun _ H' => Q .non H', rt := Q } (L2.start n_run vs) H) : Cal Z CX0 (n + 1) "run" ["parts", "number", "turns"] sp := by
  obtain ⟨fd, F⟩ := fx_run T
  have B : L2.Binds Z.K fd ["parts", "number", "turns"] [] := F.binds fun _ _ _ _ _ _ us hl => match us, hl with | [_, _, _], _ => rfl
  refine ⟨⟨_, fd, g_run T, kp_run T, B, mkR (tb := t_run Z.K sp_Machine___init__ sp_Machine_step) F sc_run len (fun cdv A outer s H E hr => ?_) pure⟩⟩
  have r_Machine___init__ := hr.mono h_Machine___init__
  have r_Machine_step := hr.mono h_Machine_step
  exact (pss_cons (ps_set (i := 3) sc_run.nd rfl (Or.inl rfl) (pmak c_Machine___init__ r_Machine___init__ (by rfl) pass0 (pa_cons (pv 0) (pa_cons (pv 1) (pa_cons (pv 2) pa_nil)))))
    (pss_cons (ps_while PassesOwn.never (pt_cmpR op_isNo (pfd (cl_Machine T) (na_Machine_ended T) (pv 3)) pe_non (nomark _)) (pss_one (ps_expr (pmet0 (pv 3) (cl_Machine T) c_Machine_step r_Machine_step pass0))))
    (pss_one (ps_ret (pe_tup (pa_cons (pfd (cl_Machine T) (na_Machine_said T) (pv 3)) (pa_cons (pe_ix ix_tup (pfd (cl_Machine T) (na_Machine_ended T) (pv 3)) pe_int (fun _ _ => rfl)) (pa_cons (pe_ix ix_tup (pfd (cl_Machine T) (na_Machine_ended T) (pv 3)) pe_int (fun _ _ => rfl)) pa_nil))))))))
theorem sc_l_whole : FnScope n_l_whole ["_law_found"] (defScope s_l_whole) := ⟨rfl, rfl, rfl, by decide +kernel, rfl, by decide +kernel, by decide +kernel⟩
theorem dv_l_whole (T : Tx Z) {sp : Sp} (len : ∀ vs H Q E, sp vs H Q E → vs.length = 1)
    (pure : ∀ (vs : List V) (H : Hp) (Q : VK) (E : XK), sp vs H Q E → t_l_whole Z.K { nx := fun _ H' => Q .non H', rt := Q } (L2.start n_l_whole vs) H) : Cal Z CX0 (n + 1) "_law_whole" ["_law_found"] sp := by
  obtain ⟨fd, F⟩ := fx_l_whole T
  have B : L2.Binds Z.K fd ["_law_found"] [] := F.binds fun _ _ _ _ _ _ us hl => match us, hl with | [_], _ => rfl
  refine ⟨⟨_, fd, g_l_whole T, kp_l_whole T, B, mkR (tb := t_l_whole Z.K) F sc_l_whole len (fun cdv A outer s H E hr => ?_) pure⟩⟩
  skip
  exact (pss_one (ps_ret (pe_and (pe_callB call_isi (by rfl) (g_isinstance T) (by decide +kernel) (pa_cons (pv 0) (pa_cons (pe_bltn (v := .ty "int") (by rfl) (g_int T) (by decide +kernel) rfl) pa_nil))) (pe_one (pe_not (pe_callB call_isi (by rfl) (g_isinstance T) (by decide +kernel) (pa_cons (pv 0) (pa_cons (pe_bltn (v := .ty "bool") (by rfl) (g_bool T) (by decide +kernel) rfl) pa_nil))))))))
theorem sc_l_cell_at : FnScope n_l_cell_at ["_law_script", "_law_k"] (defScope s_l_cell_at) := ⟨rfl, rfl, rfl, by decide +kernel, rfl, by decide +kernel, by decide +kernel⟩
theorem dv_l_cell_at (T : Tx Z) {sp : Sp} (len : ∀ vs H Q E, sp vs H Q E → vs.length = 2)
    (pure : ∀ (vs : List V) (H : Hp) (Q : VK) (E : XK), sp vs H Q E → t_l_cell_at Z.K { nx := fun _ H' => Q .non H', rt := Q } (L2.start n_l_cell_at vs) H) : Cal Z CX0 (n + 1) "_law_cell_at" ["_law_script", "_law_k"] sp := by
  obtain ⟨fd, F⟩ := fx_l_cell_at T
  have B : L2.Binds Z.K fd ["_law_script", "_law_k"] [] := F.binds fun _ _ _ _ _ _ us hl => match us, hl with | [_, _], _ => rfl
  refine ⟨⟨_, fd, g_l_cell_at T, kp_l_cell_at T, B, mkR (tb := t_l_cell_at Z.K) F sc_l_cell_at len (fun cdv A outer s H E hr => ?_) pure⟩⟩
  skip
  exact (pss_cons (ps_if (pt_cmpR op_ltI (pv 1) (pe_callB call_lenQ (by rfl) (g_len T) PySem.boot_len (pa_cons (pv 0) pa_nil)) (nomark _)) (pss_one (ps_ret (pe_ix ix_list (pv 0) (pv 1) (fun _ _ => rfl)))) pss_nil)
    (pss_one (ps_ret pe_int)))
theorem sc_l_number : FnScope n_l_number ["_law_cell"] (defScope s_l_number) := ⟨rfl, rfl, rfl, by decide +kernel, rfl, by decide +kernel, by decide +kernel⟩
theorem dv_l_number (T : Tx Z) {sp : Sp} (len : ∀ vs H Q E, sp vs H Q E → vs.length = 1)
    (pure : ∀ (vs : List V) (H : Hp) (Q : VK) (E : XK), sp vs H Q E → t_l_number Z.K { nx := fun _ H' => Q .non H', rt := Q } (L2.start n_l_number vs) H) : Cal Z CX0 (n + 1) "_law_number" ["_law_cell"] sp := by
  obtain ⟨fd, F⟩ := fx_l_number T
  have B : L2.Binds Z.K fd ["_law_cell"] [] := F.binds fun _ _ _ _ _ _ us hl => match us, hl with | [_], _ => rfl
  refine ⟨⟨_, fd, g_l_number T, kp_l_number T, B, mkR (tb := t_l_number Z.K) F sc_l_number len (fun cdv A outer s H E hr => ?_) pure⟩⟩
  skip
  exact (pss_cons (ps_if (pt_cmpR op_eq (pe_op op_modP (pv 0) pe_int) pe_int (nomark _)) (pss_one (ps_ret (pe_op op_subI (pe_op op_modP (pe_op op_fdC (pv 0) pe_int) (pe_op op_powI pe_int pe_int)) (pe_op op_mulI pe_int (pe_op op_powI pe_int pe_int))))) pss_nil)
    (pss_one (ps_ret (pe_op op_subI (pe_op op_modP (pe_op op_fdC (pv 0) pe_int) pe_int) pe_int))))
theorem sc_l_parts : FnScope n_l_parts ["_law_many", "_law_marks", "_law_raises", "_law_wide", "_law_turn", "_law_more"] (defScope s_l_parts) := ⟨rfl, rfl, rfl, by decide +kernel, rfl, by decide +kernel, by decide +kernel⟩
theorem dv_l_parts (T : Tx Z) {sp : Sp} (len : ∀ vs H Q E, sp vs H Q E → vs.length = 6)
    (pure : ∀ (vs : List V) (H : Hp) (Q : VK) (E : XK), sp vs H Q E → t_l_parts Z.K { nx := fun _ H' => Q .non H', rt := Q } (L2.start n_l_parts vs) H) : Cal Z CX0 (n + 1) "_law_parts" ["_law_many", "_law_marks", "_law_raises", "_law_wide", "_law_turn", "_law_more"] sp := by
  obtain ⟨fd, F⟩ := fx_l_parts T
  have B : L2.Binds Z.K fd ["_law_many", "_law_marks", "_law_raises", "_law_wide", "_law_turn", "_law_more"] [] := F.binds fun _ _ _ _ _ _ us hl => match us, hl with | [_, _, _, _, _, _], _ => rfl
  refine ⟨⟨_, fd, g_l_parts T, kp_l_parts T, B, mkR (tb := t_l_parts Z.K) F sc_l_parts len (fun cdv A outer s H E hr => ?_) pure⟩⟩
  skip
  exact (pss_cons (ps_set (i := 6) sc_l_parts.nd rfl (Or.inl rfl) (pe_slice sl_list (pe_lst (pa_cons (pe_tup (pa_cons pe_str (pa_cons pe_int pa_nil))) (pa_cons (pe_tup (pa_cons pe_str pa_nil)) (pa_cons (pe_tup (pa_cons pe_str (pa_cons pe_int pa_nil))) (pa_cons (pe_tup (pa_cons pe_str pa_nil)) pa_nil))))) (po_some (pe_op op_subI pe_int (pe_op op_mulI (pe_op op_modP (pv 4) pe_int) pe_int))) po_none))
    (pss_cons (ps_set (i := 7) sc_l_parts.nd rfl (Or.inl rfl) (pe_lst pa_nil))
    (pss_cons (ps_set (i := 8) sc_l_parts.nd rfl (Or.inl rfl) (pe_op op_rep (pe_lst (pa_cons pe_int pa_nil)) (pv 0)))
    (pss_cons (ps_for PassesOwn.never rfl (pi_range1 (by rfl) (g_range T) (pa_cons (pv 0) pa_nil)) (pg_name (i := 9) sc_l_parts.nd rfl (Or.inl rfl)) (pss_cons (ps_set (i := 10) sc_l_parts.nd rfl (Or.inl rfl) (pe_op op_modP (pe_op op_addI (pv 9) (pe_op op_fdC (pv 4) pe_int)) (pv 0)))
    (pss_cons (ps_asg (pe_callB call_lenQ (by rfl) (g_len T) PySem.boot_len (pa_cons (pv 6) pa_nil)) (pg_sub (pv 8) (pv 10) set_list))
    (pss_one (ps_if (pt_cmpR op_eq (pv 10) (pe_op op_subI (pv 0) pe_int) (nomark _)) (pss_one (ps_set (i := 6) sc_l_parts.nd rfl (Or.inl rfl) (pe_op op_cat (pe_op op_cat (pv 6) (pe_op op_rep (pe_lst (pa_cons (pe_tup (pa_cons pe_str (pa_cons pe_int pa_nil))) pa_nil)) (pe_op op_modP (pe_op op_fdC (pv 4) pe_int) pe_int))) (pe_lst (pa_cons (pe_tup (pa_cons pe_str (pa_cons pe_int pa_nil))) (pa_cons (pe_ifExp (pt_val (pv 2)) (pe_tup (pa_cons pe_str pa_nil)) (pe_tup (pa_cons pe_str pa_nil))) pa_nil)))))) (pss_cons (ps_if (pt_val (pe_ix ix_list (pv 1) (pv 10) (fun _ _ => rfl))) (pss_one (ps_expr (pe_bm PySem.F.plainAttrs_list PySem.F.slot_list_append PySem.F.type_list_append mt_append (pv 7) (pa_cons (pe_tup (pa_cons (pe_callB call_lenQ (by rfl) (g_len T) PySem.boot_len (pa_cons (pv 6) pa_nil)) (pa_cons (pe_op op_addI (pe_callB call_lenQ (by rfl) (g_len T) PySem.boot_len (pa_cons (pv 6) pa_nil)) pe_int) (pa_cons (pe_op op_addI (pe_callB call_lenQ (by rfl) (g_len T) PySem.boot_len (pa_cons (pv 6) pa_nil)) pe_int) pa_nil)))) pa_nil)))) pss_nil)
    (pss_cons (ps_set (i := 6) sc_l_parts.nd rfl (Or.inl rfl) (pe_op op_cat (pv 6) (pe_lst (pa_cons (pe_tup (pa_cons pe_str (pa_cons (pe_ix ix_list (pv 5) (pv 10) (fun _ _ => rfl)) pa_nil))) (pa_cons (pe_tup (pa_cons pe_str (pa_cons pe_int pa_nil))) (pa_cons (pe_tup (pa_cons pe_str (pa_cons (pe_op op_addI (pv 10) pe_int) pa_nil))) (pa_cons (pe_tup (pa_cons pe_str pa_nil)) (pa_cons (pe_tup (pa_cons pe_str pa_nil)) pa_nil))))))))
    (pss_one (ps_set (i := 6) sc_l_parts.nd rfl (Or.inl rfl) (pe_op op_cat (pv 6) (pe_lst (pa_cons (pe_tup (pa_cons pe_str pa_nil)) (pa_cons (pe_tup (pa_cons pe_str (pa_cons (pe_op op_addI pe_int (pv 10)) pa_nil))) (pa_cons (pe_tup (pa_cons pe_str pa_nil)) pa_nil))))))))))))))
    (pss_cons (ps_if (pt_cmpR op_eq (pv 3) pe_int (nomark _)) (pss_one (ps_set (i := 7) sc_l_parts.nd rfl (Or.inl rfl) (pe_op op_cat (pe_lst (pa_cons (pe_tup (pa_cons pe_int (pa_cons (pe_callB call_lenQ (by rfl) (g_len T) PySem.boot_len (pa_cons (pv 6) pa_nil)) (pa_cons (pe_callB call_lenQ (by rfl) (g_len T) PySem.boot_len (pa_cons (pv 6) pa_nil)) pa_nil)))) pa_nil)) (pv 7)))) pss_nil)
    (pss_cons (ps_if (pt_cmpR op_eq (pv 3) pe_int (nomark _)) (pss_one (ps_set (i := 7) sc_l_parts.nd rfl (Or.inl rfl) (pe_op op_cat (pv 7) (pe_lst (pa_cons (pe_tup (pa_cons pe_int (pa_cons (pe_callB call_lenQ (by rfl) (g_len T) PySem.boot_len (pa_cons (pv 6) pa_nil)) (pa_cons (pe_callB call_lenQ (by rfl) (g_len T) PySem.boot_len (pa_cons (pv 6) pa_nil)) pa_nil)))) pa_nil))))) pss_nil)
    (pss_one (ps_ret (pe_tup (pa_cons (pe_op op_cat (pv 6) (pe_lst (pa_cons (pe_tup (pa_cons pe_str pa_nil)) (pa_cons (pe_tup (pa_cons pe_str (pa_cons pe_int pa_nil))) (pa_cons (pe_tup (pa_cons pe_str pa_nil)) pa_nil))))) (pa_cons (pv 7) (pa_cons (pv 8) (pa_cons pe_int pa_nil)))))))))))))
theorem sc_l_due : FnScope n_l_due ["_law_many", "_law_marks", "_law_raises", "_law_given", "_law_wide", "_law_more"] (defScope s_l_due) := ⟨rfl, rfl, rfl, by decide +kernel, rfl, by decide +kernel, by decide +kernel⟩
theorem dv_l_due (T : Tx Z) {sp : Sp} (len : ∀ vs H Q E, sp vs H Q E → vs.length = 6)
    (pure : ∀ (vs : List V) (H : Hp) (Q : VK) (E : XK), sp vs H Q E → t_l_due Z.K { nx := fun _ H' => Q .non H', rt := Q } (L2.start n_l_due vs) H) : Cal Z CX0 (n + 1) "_law_due" ["_law_many", "_law_marks", "_law_raises", "_law_given", "_law_wide", "_law_more"] sp := by
  obtain ⟨fd, F⟩ := fx_l_due T
  have B : L2.Binds Z.K fd ["_law_many", "_law_marks", "_law_raises", "_law_given", "_law_wide", "_law_more"] [] := F.binds fun _ _ _ _ _ _ us hl => match us, hl with | [_, _, _, _, _, _], _ => rfl
  refine ⟨⟨_, fd, g_l_due T, kp_l_due T, B, mkR (tb := t_l_due Z.K) F sc_l_due len (fun cdv A outer s H E hr => ?_) pure⟩⟩
  skip
  exact (pss_cons (ps_if (PW.pt (pw_and (pt_cmpR op_leI (pv 0) pe_int (nomark _)) (pw_and1 (pt_not (pt_val (pv 2)))))) (pss_one (ps_ret (pe_tup (pa_cons (pe_lst pa_nil) (pa_cons pe_str (pa_cons (pe_op op_addI (pv 3) (pe_callB (cr_sum rfl) (by rfl) (g_sum T) (by decide +kernel) (pa_cons (pe_slice sl_list (pv 5) po_none (po_some (pe_op op_subI (pv 0) pe_int))) pa_nil))) pa_nil)))))) pss_nil)
    (pss_cons (ps_set (i := 6) sc_l_due.nd rfl (Or.inl rfl) (pe_ifExp (pt_cmpR op_gtI (pv 0) pe_int (nomark _)) pe_int (pv 3)))
    (pss_cons (ps_set (i := 7) sc_l_due.nd rfl (Or.inl rfl) (pe_op op_subI (pe_callB (call_min2Q rfl) (by rfl) (g_min T) (by decide +kernel) (pa_cons (pv 0) (pa_cons pe_int pa_nil))) pe_int))
    (pss_cons (ps_if (pt_cmpR op_gtI (pv 4) pe_int (nomark _)) (pss_cons (ps_set (i := 8) sc_l_due.nd rfl (Or.inl rfl) (pe_and (pe_cmpR op_gtI (pv 0) pe_int (nomark _)) (pe_and (pe_ix ix_list (pv 1) pe_int (fun _ _ => rfl)) (pe_one (pe_cmpR op_eq (pv 4) pe_int (nomark _))))))
    (pss_one (ps_ret (pe_tup (pa_cons (pe_lst (pa_cons (pv 6) pa_nil)) (pa_cons pe_str (pa_cons (pe_op op_addI (pe_ifExp (pt_val (pv 8)) pe_int pe_int) (pe_callB (cr_sum rfl) (by rfl) (g_sum T) (by decide +kernel) (pa_cons (pe_slice sl_list (pv 5) po_none (po_some (pv 7))) pa_nil))) pa_nil))))))) pss_nil)
    (pss_cons (ps_for PassesOwn.never rfl (pi_revR (by rfl) (g_reversed T) (prg_1 (by rfl) (g_range T) (pe_callB (call_min2Q rfl) (by rfl) (g_min T) (by decide +kernel) (pa_cons (pe_op op_subI (pv 0) pe_int) (pa_cons pe_int pa_nil))))) (pg_name (i := 9) sc_l_due.nd rfl (Or.inl rfl)) (pss_one (ps_if (pt_val (pe_ix ix_list (pv 1) (pv 9) (fun _ _ => rfl))) (pss_one (ps_ret (pe_tup (pa_cons (pe_lst (pa_cons (pv 6) pa_nil)) (pa_cons pe_str (pa_cons (pe_op op_addI (pe_op op_addI pe_int (pv 9)) (pe_callB (cr_sum rfl) (by rfl) (g_sum T) (by decide +kernel) (pa_cons (pe_slice sl_list (pv 5) po_none (po_some (pv 9))) pa_nil))) pa_nil)))))) pss_nil)))
    (pss_one (ps_ret (pe_tup (pa_cons (pe_lst pa_nil) (pa_cons pe_str (pa_cons (pv 6) pa_nil)))))))))))
theorem sc_law : FnScope n_law ["_law_script"] (defScope s_law) := ⟨rfl, rfl, rfl, by decide +kernel, rfl, by decide +kernel, by decide +kernel⟩
theorem dv_law (T : Tx Z) {k_l_cell_at : Nat} {ps_l_cell_at : List Str} {sp_l_cell_at : Sp} (c_l_cell_at : Cal Z CX0 k_l_cell_at "_law_cell_at" ps_l_cell_at sp_l_cell_at) (h_l_cell_at : k_l_cell_at ≤ n) {k_l_number : Nat} {ps_l_number : List Str} {sp_l_number : Sp} (c_l_number : Cal Z CX0 k_l_number "_law_number" ps_l_number sp_l_number) (h_l_number : k_l_number ≤ n) {k_l_parts : Nat} {ps_l_parts : List Str} {sp_l_parts : Sp} (c_l_parts : Cal Z CX0 k_l_parts "_law_parts" ps_l_parts sp_l_parts) (h_l_parts : k_l_parts ≤ n) {k_run : Nat} {ps_run : List Str} {sp_run : Sp} (c_run : Cal Z CX0 k_run "run" ps_run sp_run) (h_run : k_run ≤ n) {k_l_due : Nat} {ps_l_due : List Str} {sp_l_due : Sp} (c_l_due : Cal Z CX0 k_l_due "_law_due" ps_l_due sp_l_due) (h_l_due : k_l_due ≤ n) {k_l_whole : Nat} {ps_l_whole : List Str} {sp_l_whole : Sp} (c_l_whole : Cal Z CX0 k_l_whole "_law_whole" ps_l_whole sp_l_whole) (h_l_whole : k_l_whole ≤ n) {sp : Sp} {fd : FuncData} (F : FunE Z.K "law" "law" s_law (He.fAd Z.K ("law", none)) fd) (len : ∀ vs H Q E, sp vs H Q E → vs.length = 1)
    (pure : ∀ (vs : List V) (H : Hp) (Q : VK) (E : XK), sp vs H Q E → t_law Z.K sp_l_cell_at sp_l_number sp_l_parts sp_run sp_l_due sp_l_whole { nx := fun _ H' => Q .non H', rt := Q } (L2.start n_law vs) H) : FnR Z CX0 (n + 1) (He.ga Z.K "law") fd ["_law_script"] sp := by
  refine mkR (tb := t_law Z.K sp_l_cell_at sp_l_number sp_l_parts sp_run sp_l_due sp_l_whole) F sc_law len (fun cdv A outer s H E hr => ?_) pure
  have r_l_cell_at := hr.mono h_l_cell_at
  have r_l_number := hr.mono h_l_number
  have r_l_parts := hr.mono h_l_parts
  have r_run := hr.mono h_run
  have r_l_due := hr.mono h_l_due
  have r_l_whole := hr.mono h_l_whole
  exact (pss_cons (ps_set (i := 1) sc_law.nd rfl (Or.inl rfl) (pe_op op_modP (pe_op op_mulI (pcal c_l_cell_at r_l_cell_at (by rfl) pass0 (pa_cons (pv 0) (pa_cons pe_int pa_nil))) pe_int) pe_int))
    (pss_cons (ps_set (i := 2) sc_law.nd rfl (Or.inl rfl) (pe_op op_addI pe_int (pe_op op_modP (pv 1) pe_int)))
    (pss_cons (ps_set (i := 3) sc_law.nd rfl (Or.inl rfl) (pcal c_l_number r_l_number (by rfl) pass0 (pa_cons (pcal c_l_cell_at r_l_cell_at (by rfl) pass0 (pa_cons (pv 0) (pa_cons pe_int pa_nil))) pa_nil)))
    (pss_cons (ps_setLc (i := 4) (own := [("_law_k", 5)]) (g := (gName 5)) (tt := tYes) rfl sc_law.nd rfl rfl (sw_true rfl rfl rfl (by decide +kernel)) (pi_range1 (by rfl) (g_range T) (pa_cons (pv 2) pa_nil)) (blkOk_by (N := ["_law_script", "_law_first", "_law_many", "_law_given", "_law_marks", "_law_k", "_law_more", "_law_raises", "_law_wide", "_law_turns", "_law_parts_here", "_law_found", "_law_due_here", "_law_x"]) (sc := defScope s_law) (by decide +kernel)) (fun _ _ _ _ _ => pg_name (i := 5) sc_law.nd rfl (Or.inl rfl)) (fun _ _ _ _ _ => pts_nil) (fun _ _ _ _ _ => (pe_cmpR op_eq (pe_op op_modP (pcal c_l_cell_at r_l_cell_at (by rfl) pass0 (pa_cons (pv 0) (pa_cons (pe_op op_addI pe_int (pv 5)) pa_nil))) pe_int) pe_int (nomark _))))
    (pss_cons (ps_setLc (i := 6) (own := [("_law_k", 5)]) (g := (gName 5)) (tt := tYes) rfl sc_law.nd rfl rfl (sw_true rfl rfl rfl (by decide +kernel)) (pi_range1 (by rfl) (g_range T) (pa_cons (pv 2) pa_nil)) (blkOk_by (N := ["_law_script", "_law_first", "_law_many", "_law_given", "_law_marks", "_law_k", "_law_more", "_law_raises", "_law_wide", "_law_turns", "_law_parts_here", "_law_found", "_law_due_here", "_law_x"]) (sc := defScope s_law) (by decide +kernel)) (fun _ _ _ _ _ => pg_name (i := 5) sc_law.nd rfl (Or.inl rfl)) (fun _ _ _ _ _ => pts_nil) (fun _ _ _ _ _ => (pe_op op_subI (pe_op op_modP (pe_op op_fdC (pcal c_l_cell_at r_l_cell_at (by rfl) pass0 (pa_cons (pv 0) (pa_cons (pe_op op_addI pe_int (pv 5)) pa_nil))) pe_int) pe_int) pe_int)))
    (pss_cons (ps_set (i := 7) sc_law.nd rfl (Or.inl rfl) (pe_cmpR op_eq (pe_op op_modP (pe_op op_fdC (pv 1) pe_int) pe_int) pe_int (nomark _)))
    (pss_cons (ps_set (i := 8) sc_law.nd rfl (Or.inl rfl) (pe_op op_modP (pe_op op_fdC (pv 1) pe_int) pe_int))
    (pss_cons (ps_set (i := 9) sc_law.nd rfl (Or.inl rfl) (pe_op op_modP (pcal c_l_cell_at r_l_cell_at (by rfl) pass0 (pa_cons (pv 0) (pa_cons pe_int pa_nil))) pe_int))
    (pss_cons (ps_set (i := 10) sc_law.nd rfl (Or.inl rfl) (pcal c_l_parts r_l_parts (by rfl) pass0 (pa_cons (pv 2) (pa_cons (pv 4) (pa_cons (pv 7) (pa_cons (pv 8) (pa_cons (pe_op op_modP (pe_op op_fdC (pv 1) pe_int) pe_int) (pa_cons (pv 6) pa_nil))))))))
    (pss_cons (ps_set (i := 11) sc_law.nd rfl (Or.inl rfl) (pcal c_run r_run (by rfl) pass0 (pa_cons (pe_tup (pa_cons (pe_callTy call_listQ (by rfl) (g_list T) (by decide +kernel) (pa_cons (pe_ix ix_tup (pv 10) pe_int (fun _ _ => rfl)) pa_nil)) (pa_cons (pe_callTy call_listQ (by rfl) (g_list T) (by decide +kernel) (pa_cons (pe_ix ix_tup (pv 10) pe_int (fun _ _ => rfl)) pa_nil)) (pa_cons (pe_callTy call_listQ (by rfl) (g_list T) (by decide +kernel) (pa_cons (pe_ix ix_tup (pv 10) pe_int (fun _ _ => rfl)) pa_nil)) (pa_cons pe_int pa_nil))))) (pa_cons (pv 3) (pa_cons (pv 9) pa_nil)))))
    (pss_cons (ps_set (i := 12) sc_law.nd rfl (Or.inl rfl) (pe_tup (pa_cons (pe_lst pa_nil) (pa_cons pe_str (pa_cons pe_int pa_nil)))))
    (pss_cons (ps_if (pt_cmpR op_geI (pv 9) (pe_op op_subI (pe_callB (call_min2Q rfl) (by rfl) (g_min T) (by decide +kernel) (pa_cons (pv 2) (pa_cons pe_int pa_nil))) pe_int) (nomark _)) (pss_one (ps_set (i := 12) sc_law.nd rfl (Or.inl rfl) (pcal c_l_due r_l_due (by rfl) pass0 (pa_cons (pv 2) (pa_cons (pv 4) (pa_cons (pv 7) (pa_cons (pv 3) (pa_cons (pv 8) (pa_cons (pv 6) pa_nil))))))))) pss_nil)
    (pss_cons (ps_if (PW.pt (pw_or (pt_cmpR op_ne (pe_glob (by rfl) (i_DEEPEST T).choose_spec ⟨_, rfl⟩) pe_int (nomark _)) (pw_or (pt_cmpR op_ne (pe_glob (by rfl) (i_DEEP T).choose_spec ⟨_, rfl⟩) pe_int (nomark _)) (pw_or (pt_not (pt_val (pe_callB call_isi (by rfl) (g_isinstance T) (by decide +kernel) (pa_cons (pv 11) (pa_cons (pe_bltn (v := .ty "tuple") (by rfl) (g_tuple T) (by decide +kernel) rfl) pa_nil))))) (pw_or1 (pt_cmpR op_ne (pe_callB call_lenQ (by rfl) (g_len T) PySem.boot_len (pa_cons (pv 11) pa_nil)) pe_int (nomark _))))))) (pss_one (ps_ret pe_bl)) pss_nil)
    (pss_cons (ps_if (PW.pt (pw_or (pt_not (pt_val (pe_callB call_isi (by rfl) (g_isinstance T) (by decide +kernel) (pa_cons (pe_ix ix_tup (pv 11) pe_int (fun _ _ => rfl)) (pa_cons (pe_bltn (v := .ty "list") (by rfl) (g_list T) (by decide +kernel) rfl) pa_nil))))) (pw_or (pt_cmpR op_gtI (pe_callB call_lenQ (by rfl) (g_len T) PySem.boot_len (pa_cons (pe_lc (own := [("_law_x", 13)]) (g := (gName 13)) (tt := (tNot (tB (tCall sp_l_whole [] E0 (tCons (tVar 13) tNil))))) rfl sc_law.nd (pi_list (pe_ix ix_tup (pv 11) pe_int (fun _ _ => rfl))) (blkOk_by (N := ["_law_script", "_law_first", "_law_many", "_law_given", "_law_marks", "_law_k", "_law_more", "_law_raises", "_law_wide", "_law_turns", "_law_parts_here", "_law_found", "_law_due_here", "_law_x"]) (sc := defScope s_law) (by decide +kernel)) (fun _ _ _ _ _ => pg_name (i := 13) sc_law.nd rfl (Or.inl rfl)) (fun _ _ _ _ _ => pts_one (pt_not (pt_val (pcal c_l_whole r_l_whole (by rfl) pass0 (pa_cons (pv 13) pa_nil))))) (fun _ _ _ _ _ => (pv 13))) pa_nil)) pe_int (nomark _)) (pw_or1 (pt_cmpR (op_neD hr.hu) (pe_ix ix_tup (pv 11) pe_int (fun _ _ => rfl)) (pe_ix ix_tup (pv 12) pe_int (fun _ _ => rfl)) (nomark _)))))) (pss_one (ps_ret pe_bl)) pss_nil)
    (pss_one (ps_ret (pe_and (pe_callB call_isi (by rfl) (g_isinstance T) (by decide +kernel) (pa_cons (pe_ix ix_tup (pv 11) pe_int (fun _ _ => rfl)) (pa_cons (pe_bltn (v := .ty "str") (by rfl) (g_str T) (by decide +kernel) rfl) pa_nil))) (pe_and (pcal c_l_whole r_l_whole (by rfl) pass0 (pa_cons (pe_ix ix_tup (pv 11) pe_int (fun _ _ => rfl)) pa_nil)) (pe_one (pe_cmpR (op_eqD hr.hu) (pe_tup (pa_cons (pe_ix ix_tup (pv 11) pe_int (fun _ _ => rfl)) (pa_cons (pe_ix ix_tup (pv 11) pe_int (fun _ _ => rfl)) pa_nil))) (pe_tup (pa_cons (pe_ix ix_tup (pv 12) pe_int (fun _ _ => rfl)) (pa_cons (pe_ix ix_tup (pv 12) pe_int (fun _ _ => rfl)) pa_nil))) (nomark _)))))))))))))))))))))
end
section
variable {Z : Zt}
theorem ok_goal_of (T : Tx Z) : Cal Z CX0 1 "goal_of" ["stretches", "place"] (sp_goal_of Z.K) := dv_goal_of (n := 0) T (by walk_at "len") p_goal_of
theorem ok_Frame___init__ (T : Tx Z) : CalN Z CX0 1 "Frame" (He.ga Z.K "Frame") ["self", "place", "boxes", "number"] (sp_Frame___init__ Z.K) := dv_Frame___init__ (n := 0) T (by walk_at "len") p_Frame___init__
theorem ok_Frame_lay (T : Tx Z) : CalM Z CX0 1 (He.ga Z.K "Frame") "lay" ["self", "number"] (sp_Frame_lay Z.K) := dv_Frame_lay (n := 0) T (by walk_at "len") p_Frame_lay
theorem ok_Machine___init__ (T : Tx Z) : CalN Z CX0 3 "Machine" (He.ga Z.K "Machine") ["self", "parts", "number", "turns"] (sp_Machine___init__ Z.K) := dv_Machine___init__ (n := 2) T (ok_Frame___init__ T) (by decide) (by walk_at "len") p_Machine___init__
theorem ok_Machine_taken (T : Tx Z) : CalM Z CX0 1 (He.ga Z.K "Machine") "taken" ["self"] (sp_Machine_taken Z.K) := dv_Machine_taken (n := 0) T (by walk_at "len") p_Machine_taken
theorem ok_Machine_move (T : Tx Z) : CalM Z CX0 2 (He.ga Z.K "Machine") "move" ["self", "frame", "row"] (sp_Machine_move Z.K) := dv_Machine_move (n := 1) T (ok_Frame_lay T) (by decide) (by walk_at "len") p_Machine_move
theorem ok_Machine_jump (T : Tx Z) : CalM Z CX0 1 (He.ga Z.K "Machine") "jump" ["self", "frame", "row"] (sp_Machine_jump Z.K) := dv_Machine_jump (n := 0) T (by walk_at "len") p_Machine_jump
theorem ok_Machine_back (T : Tx Z) : CalM Z CX0 2 (He.ga Z.K "Machine") "back" ["self", "given"] (sp_Machine_back Z.K) := dv_Machine_back (n := 1) T (ok_Frame_lay T) (by decide) (by walk_at "len") p_Machine_back
theorem ok_Machine_fault (T : Tx Z) : CalM Z CX0 2 (He.ga Z.K "Machine") "fault" ["self", "number"] (sp_Machine_fault Z.K) := dv_Machine_fault (n := 1) T (ok_goal_of T) (by decide) (by walk_at "len") p_Machine_fault
theorem ok_Machine_meet (T : Tx Z) : CalM Z CX0 3 (He.ga Z.K "Machine") "meet" ["self", "frame", "word"] (sp_Machine_meet Z.K) := dv_Machine_meet (n := 2) T (ok_Frame_lay T) (by decide) (ok_Machine_fault T) (by decide) (by walk_at "len") p_Machine_meet
theorem ok_Machine_enter (T : Tx Z) : CalM Z CX0 3 (He.ga Z.K "Machine") "enter" ["self", "number", "given"] (sp_Machine_enter Z.K) := dv_Machine_enter (n := 2) T (ok_Machine_taken T) (by decide) (ok_Machine_fault T) (by decide) (ok_Frame___init__ T) (by decide) (by walk_at "len") p_Machine_enter
theorem ok_Machine_step (T : Tx Z) : CalM Z CX0 4 (He.ga Z.K "Machine") "step" ["self"] (sp_Machine_step Z.K) := dv_Machine_step (n := 3) T (ok_Machine_meet T) (by decide) (ok_Machine_move T) (by decide) (ok_Machine_jump T) (by decide) (ok_Machine_taken T) (by decide) (ok_Machine_enter T) (by decide) (ok_Machine_back T) (by decide) (ok_Machine_fault T) (by decide) (by walk_at "len") p_Machine_step
theorem ok_run (T : Tx Z) : Cal Z CX0 40 "run" ["parts", "number", "turns"] (sp_run0 Z.K) := dv_run (n := 39) T (ok_Machine___init__ T) (by decide) (ok_Machine_step T) (by decide) (by walk_at "len") p_run0
theorem ok_l_whole (T : Tx Z) : Cal Z CX0 1 "_law_whole" ["_law_found"] (sp_l_whole Z.K) := dv_l_whole (n := 0) T (by walk_at "len") p_l_whole
theorem ok_l_cell_at (T : Tx Z) : Cal Z CX0 1 "_law_cell_at" ["_law_script", "_law_k"] (sp_l_cell_at Z.K) := dv_l_cell_at (n := 0) T (by walk_at "len") p_l_cell_at
theorem ok_l_number (T : Tx Z) : Cal Z CX0 1 "_law_number" ["_law_cell"] (sp_l_number Z.K) := dv_l_number (n := 0) T (by walk_at "len") p_l_number
theorem ok_l_parts (T : Tx Z) : Cal Z CX0 1 "_law_parts" ["_law_many", "_law_marks", "_law_raises", "_law_wide", "_law_turn", "_law_more"] (sp_l_parts Z.K) := dv_l_parts (n := 0) T (by walk_at "len") p_l_parts
theorem ok_l_due (T : Tx Z) : Cal Z CX0 1 "_law_due" ["_law_many", "_law_marks", "_law_raises", "_law_given", "_law_wide", "_law_more"] (sp_l_due Z.K) := dv_l_due (n := 0) T (by walk_at "len") p_l_due
theorem ok_law (T : Tx Z) {fd : FuncData} (F : FunE Z.K "law" "law" s_law (He.fAd Z.K ("law", none)) fd) : FnR Z CX0 41 (He.ga Z.K "law") fd ["_law_script"] (spLaw Z.K) := dv_law (n := 40) T (ok_l_cell_at T) (by decide) (ok_l_number T) (by decide) (ok_l_parts T) (by decide) (ok_run T) (by decide) (ok_l_due T) (by decide) (ok_l_whole T) (by decide) F (by walk_at "len") p_law
end

theorem g_law0 {K : PySem.W.Frag} {h : Heap} {mg : Str → Option Value} (KX : K.In h) (G : h.Ns mainGlobals mg) (c : He.SaysE fa fn K) : mg "law" = some (.ref (He.ga K "law")) := He.glo_ok KX G (c.fact 43 (f := .glo "law") rfl)


theorem fin {w : World} {K : PySem.W.Frag} {h : Heap} {mg : Str → Option Value} (KX : K.In h) (G : h.Ns mainGlobals mg) (c : He.SaysE fa fn K) {fl : Addr} (hmg : mg "law" = some (.ref fl)) :
    ∃ (K : PySem.W.Frag) (fd : FuncData) (sp : Sp), K.In h ∧ (∀ (s : Shared) (u : Value), BindsTo s fd ⟨[u], []⟩ [("_law_script", u)]) ∧
      (∀ (H : Hp) (a : Addr) (ns : List Int), ns.length ≤ 63 → Only H → SqL K H a (ns.map V.int) → sp [.ref a] H (fun v _ => v = .bl true) fun _ _ _ => False) ∧
      ∀ base : Heap, K.In base → base.Ns mainGlobals mg → base.NoSeer → U.FnR ⟨(PySem.Challenge.rw_unwind_k04_faults_go_out).prog, w, K, mg, base⟩ CX0 41 fl fd ["_law_script"] sp := by
  have e0 := hmg.symm.trans (g_law0 KX G c)
  cases e0
  obtain ⟨fd, F⟩ := fun_of (Z := ⟨PySem.Challenge.pw_unwind_k04_faults_go_out, w, K, mg, h⟩) (f := He.fAd K ("law", none)) (x := "law") (qual := "law") (st := s_law) (c.def_ 18 (d := d_law) rfl)
  refine ⟨K, fd, spLaw K, KX, fun s u => ?_, fun H a ns hl _ hS => ⟨a, ns, rfl, hS, hl, fun _ => rfl⟩, fun base KB GB NB => ?_⟩
  · obtain ⟨oc, od, kV, doc, pm, an, cdv, ct, osl, rfl, _, _⟩ := F.ex
    exact .of_eq rfl
  · have T : Tx ⟨(PySem.Challenge.rw_unwind_k04_faults_go_out).prog, w, K, mg, base⟩ := ⟨c, KB, GB, NB, rfl⟩
    exact ok_law T F


end Lw
open PySem PySem.W PySem.Calls PyProof.Rows
set_option maxRecDepth 100000 in
set_option maxHeartbeats 0 in
theorem PySem.Challenge.cw_unwind_k04_faults_go_out_holds : PySem.Challenge.rw_unwind_k04_faults_go_out.Holds := by
  w_on; o_law
  refine HandSHeadRun.head_any (r := OpenLaw.row PySem.Challenge.rw_unwind_k04_faults_go_out) (q := view (OpenLaw.row PySem.Challenge.rw_unwind_k04_faults_go_out).prog [14]) (H := Lw.hk) (ob := Lw.ob) (M := 30000) (loose := Lw.loose) (d := HandSHeadRun.topDef (OpenLaw.row PySem.Challenge.rw_unwind_k04_faults_go_out).prog 14) (kwd := []) Lw.ob_eq
    (by kernel_rfl) (fun s => by kernel_rfl) Lw.run (by kernel_rfl) (by kernel_rfl) (by kernel_rfl) (by rfl) (by first | assumption | decide +kernel) (by decide +kernel) ⟨rfl, rfl, rfl, rfl, rfl, by decide +kernel⟩ ?hw ?hc
  case hw => w_witness2
  case hc =>
    refine U.walkU (l := PySem.Challenge.rw_unwind_k04_faults_go_out) (n := 41) (x := "_law_script") rfl (by kernel_rfl) (by decide +kernel) (by decide) ?F
    intro w mg fa h Y G hmg0
    obtain ⟨K, KX, c⟩ := Y
    have e : (HandSHeadRun.topDef (OpenLaw.row PySem.Challenge.rw_unwind_k04_faults_go_out).prog 14).name = ("law" : PySem.Str) := by kernel_rfl
    have hmg : mg ("law" : PySem.Str) = some (.ref fa) := by
      rw [← e]
      exact hmg0
    exact Lw.fin (w := w) KX G c hmg


