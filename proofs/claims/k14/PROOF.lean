import PyProof.Rows.All
import Wide.All
import OpenK.AllK
import Wide.FinOn
import HandS.ForMost
import HandS.IsInst
import HandS.HeadHook1
import PyProof.NoPylong
import HandS.Head0
import HandS.Head1
import HandS.Head2
import HandS.HeadEnd
import HandS.Small
import HandS.Rev
import PySem.Challenge.RW_unwind_k14_whole_code_by_hand
set_option Elab.async false
set_option linter.all false
set_option maxRecDepth 100000
set_option maxHeartbeats 8000000
namespace Lw
open PySem PySem.Spec PyProof.Rows L2
/-! ### the text by places -/
def top (i : Nat) : Stmt := PySem.Challenge.pw_unwind_k14_whole_code_by_hand.main.body.getD i (.Pass ⟨0, 0, 0, 0⟩)
abbrev s_goal_of : Stmt := top 4
abbrev s_Frame___init__ : Stmt := inClass (top 5) 0
abbrev s_Frame_lay : Stmt := inClass (top 5) 1
abbrev s_Machine___init__ : Stmt := inClass (top 6) 0
abbrev s_Machine_step : Stmt := inClass (top 6) 1
abbrev s_Machine_taken : Stmt := inClass (top 6) 2
abbrev s_Machine_move : Stmt := inClass (top 6) 3
abbrev s_Machine_meet : Stmt := inClass (top 6) 4
abbrev s_Machine_jump : Stmt := inClass (top 6) 5
abbrev s_Machine_enter : Stmt := inClass (top 6) 6
abbrev s_Machine_back : Stmt := inClass (top 6) 7
abbrev s_Machine_fault : Stmt := inClass (top 6) 8
abbrev s_run : Stmt := top 7
abbrev s_l_whole : Stmt := top 9
abbrev s_l_cell_at : Stmt := top 10
abbrev s_l_number : Stmt := top 11
abbrev s_l_size : Stmt := top 12
abbrev s_l_group : Stmt := top 13
abbrev s_l_places : Stmt := top 14
abbrev s_l_code : Stmt := top 15
abbrev s_l_goals : Stmt := top 16
abbrev s_l_stretches : Stmt := top 17
abbrev s_l_drawn : Stmt := top 18
abbrev s_l_is : Stmt := top 19
abbrev s_l_goal : Stmt := top 20
abbrev s_l_fault : Stmt := top 21
abbrev s_l_turn : Stmt := top 22
abbrev s_l_two : Stmt := top 23
abbrev s_l_called : Stmt := top 24
abbrev s_l_given : Stmt := top 25
abbrev s_l_plain : Stmt := top 26
abbrev s_l_step : Stmt := top 27
abbrev s_l_gone : Stmt := top 28
abbrev s_law : Stmt := top 29
/-! ### what the head tells -/
def d_goal_of : He.FnD := ⟨("goal_of", none), "goal_of", "goal_of", defArgs s_goal_of, defBody s_goal_of, defScope s_goal_of⟩
def d_Frame___init__ : He.FnD := ⟨("Frame", some "__init__"), "__init__", "Frame.__init__", defArgs s_Frame___init__, defBody s_Frame___init__, defScope s_Frame___init__⟩
def d_Frame_lay : He.FnD := ⟨("Frame", some "lay"), "lay", "Frame.lay", defArgs s_Frame_lay, defBody s_Frame_lay, defScope s_Frame_lay⟩
def d_Machine___init__ : He.FnD := ⟨("Machine", some "__init__"), "__init__", "Machine.__init__", defArgs s_Machine___init__, defBody s_Machine___init__, defScope s_Machine___init__⟩
def d_Machine_step : He.FnD := ⟨("Machine", some "step"), "step", "Machine.step", defArgs s_Machine_step, defBody s_Machine_step, defScope s_Machine_step⟩
def d_Machine_taken : He.FnD := ⟨("Machine", some "taken"), "taken", "Machine.taken", defArgs s_Machine_taken, defBody s_Machine_taken, defScope s_Machine_taken⟩
def d_Machine_move : He.FnD := ⟨("Machine", some "move"), "move", "Machine.move", defArgs s_Machine_move, defBody s_Machine_move, defScope s_Machine_move⟩
def d_Machine_meet : He.FnD := ⟨("Machine", some "meet"), "meet", "Machine.meet", defArgs s_Machine_meet, defBody s_Machine_meet, defScope s_Machine_meet⟩
def d_Machine_jump : He.FnD := ⟨("Machine", some "jump"), "jump", "Machine.jump", defArgs s_Machine_jump, defBody s_Machine_jump, defScope s_Machine_jump⟩
def d_Machine_enter : He.FnD := ⟨("Machine", some "enter"), "enter", "Machine.enter", defArgs s_Machine_enter, defBody s_Machine_enter, defScope s_Machine_enter⟩
def d_Machine_back : He.FnD := ⟨("Machine", some "back"), "back", "Machine.back", defArgs s_Machine_back, defBody s_Machine_back, defScope s_Machine_back⟩
def d_Machine_fault : He.FnD := ⟨("Machine", some "fault"), "fault", "Machine.fault", defArgs s_Machine_fault, defBody s_Machine_fault, defScope s_Machine_fault⟩
def d_run : He.FnD := ⟨("run", none), "run", "run", defArgs s_run, defBody s_run, defScope s_run⟩
def d_l_whole : He.FnD := ⟨("_law_whole", none), "_law_whole", "_law_whole", defArgs s_l_whole, defBody s_l_whole, defScope s_l_whole⟩
def d_l_cell_at : He.FnD := ⟨("_law_cell_at", none), "_law_cell_at", "_law_cell_at", defArgs s_l_cell_at, defBody s_l_cell_at, defScope s_l_cell_at⟩
def d_l_number : He.FnD := ⟨("_law_number", none), "_law_number", "_law_number", defArgs s_l_number, defBody s_l_number, defScope s_l_number⟩
def d_l_size : He.FnD := ⟨("_law_size", none), "_law_size", "_law_size", defArgs s_l_size, defBody s_l_size, defScope s_l_size⟩
def d_l_group : He.FnD := ⟨("_law_group", none), "_law_group", "_law_group", defArgs s_l_group, defBody s_l_group, defScope s_l_group⟩
def d_l_places : He.FnD := ⟨("_law_places", none), "_law_places", "_law_places", defArgs s_l_places, defBody s_l_places, defScope s_l_places⟩
def d_l_code : He.FnD := ⟨("_law_code", none), "_law_code", "_law_code", defArgs s_l_code, defBody s_l_code, defScope s_l_code⟩
def d_l_goals : He.FnD := ⟨("_law_goals", none), "_law_goals", "_law_goals", defArgs s_l_goals, defBody s_l_goals, defScope s_l_goals⟩
def d_l_stretches : He.FnD := ⟨("_law_stretches", none), "_law_stretches", "_law_stretches", defArgs s_l_stretches, defBody s_l_stretches, defScope s_l_stretches⟩
def d_l_drawn : He.FnD := ⟨("_law_drawn", none), "_law_drawn", "_law_drawn", defArgs s_l_drawn, defBody s_l_drawn, defScope s_l_drawn⟩
def d_l_is : He.FnD := ⟨("_law_is", none), "_law_is", "_law_is", defArgs s_l_is, defBody s_l_is, defScope s_l_is⟩
def d_l_goal : He.FnD := ⟨("_law_goal", none), "_law_goal", "_law_goal", defArgs s_l_goal, defBody s_l_goal, defScope s_l_goal⟩
def d_l_fault : He.FnD := ⟨("_law_fault", none), "_law_fault", "_law_fault", defArgs s_l_fault, defBody s_l_fault, defScope s_l_fault⟩
def d_l_turn : He.FnD := ⟨("_law_turn", none), "_law_turn", "_law_turn", defArgs s_l_turn, defBody s_l_turn, defScope s_l_turn⟩
def d_l_two : He.FnD := ⟨("_law_two", none), "_law_two", "_law_two", defArgs s_l_two, defBody s_l_two, defScope s_l_two⟩
def d_l_called : He.FnD := ⟨("_law_called", none), "_law_called", "_law_called", defArgs s_l_called, defBody s_l_called, defScope s_l_called⟩
def d_l_given : He.FnD := ⟨("_law_given", none), "_law_given", "_law_given", defArgs s_l_given, defBody s_l_given, defScope s_l_given⟩
def d_l_plain : He.FnD := ⟨("_law_plain", none), "_law_plain", "_law_plain", defArgs s_l_plain, defBody s_l_plain, defScope s_l_plain⟩
def d_l_step : He.FnD := ⟨("_law_step", none), "_law_step", "_law_step", defArgs s_l_step, defBody s_l_step, defScope s_l_step⟩
def d_l_gone : He.FnD := ⟨("_law_gone", none), "_law_gone", "_law_gone", defArgs s_l_gone, defBody s_l_gone, defScope s_l_gone⟩
def d_law : He.FnD := ⟨("law", none), "law", "law", defArgs s_law, defBody s_law, defScope s_law⟩
def fn : List He.FnD := ([d_goal_of, d_Frame___init__, d_Frame_lay, d_Machine___init__, d_Machine_step, d_Machine_taken, d_Machine_move, d_Machine_meet, d_Machine_jump, d_Machine_enter, d_Machine_back, d_Machine_fault, d_run, d_l_whole, d_l_cell_at, d_l_number, d_l_size, d_l_group, d_l_places, d_l_code, d_l_goals, d_l_stretches, d_l_drawn, d_l_is, d_l_goal, d_l_fault, d_l_turn, d_l_two, d_l_called, d_l_given] : List He.FnD) ++ ([d_l_plain, d_l_step, d_l_gone, d_law] : List He.FnD)
def fa : List He.Fa := ([.int "DEEPEST" 8, .int "NOUGHT" 101, .int "DEEP" 102, .glo "goal_of", .keep "goal_of", .glo "Frame", .cls "Frame", .noat "Frame" "boxes", .noat "Frame" "pile", .noat "Frame" "place", .mkr "Frame", .meth "Frame" "lay", .glo "Machine", .cls "Machine", .noat "Machine" "boxes", .noat "Machine" "code", .noat "Machine" "ended", .noat "Machine" "frames", .noat "Machine" "said", .noat "Machine" "starts", .noat "Machine" "stretches", .noat "Machine" "turns", .mkr "Machine", .meth "Machine" "step", .meth "Machine" "taken", .meth "Machine" "move", .meth "Machine" "meet", .meth "Machine" "jump", .meth "Machine" "enter", .meth "Machine" "back"] : List He.Fa) ++ ([.meth "Machine" "fault", .glo "run", .keep "run", .glo "_law_whole", .keep "_law_whole", .glo "_law_cell_at", .keep "_law_cell_at", .glo "_law_number", .keep "_law_number", .glo "_law_size", .keep "_law_size", .glo "_law_group", .keep "_law_group", .glo "_law_places", .keep "_law_places", .glo "_law_code", .keep "_law_code", .glo "_law_goals", .keep "_law_goals", .glo "_law_stretches", .keep "_law_stretches", .glo "_law_drawn", .keep "_law_drawn", .glo "_law_is", .keep "_law_is", .glo "_law_goal", .keep "_law_goal", .glo "_law_fault", .keep "_law_fault", .glo "_law_turn"] : List He.Fa) ++ ([.keep "_law_turn", .glo "_law_two", .keep "_law_two", .glo "_law_called", .keep "_law_called", .glo "_law_given", .keep "_law_given", .glo "_law_plain", .keep "_law_plain", .glo "_law_step", .keep "_law_step", .glo "_law_gone", .keep "_law_gone", .glo "law", .keep "law", .free "bool", .free "enumerate", .free "int", .free "isinstance", .free "len", .free "list", .free "max", .free "min", .free "range", .free "str", .free "tuple"] : List He.Fa)
def loose : List PySem.Str := (["DEEPEST", "NOUGHT", "DEEP", "goal_of", "Frame", "Machine", "run", "_law_whole", "_law_cell_at", "_law_number", "_law_size", "_law_group", "_law_places", "_law_code", "_law_goals", "_law_stretches", "_law_drawn", "_law_is", "_law_goal", "_law_fault", "_law_turn", "_law_two", "_law_called", "_law_given", "_law_plain", "_law_step", "_law_gone"] : List PySem.Str)

abbrev R : PySem.W.OpenRow := PySem.W.OpenLaw.row PySem.Challenge.rw_unwind_k14_whole_code_by_hand
abbrev hk : PySem.W.Hook := He.hookE 5 fa fn
def ob (s : PySem.W.SharedT) : He.Al := He.obsG 5 fa fn (HandSHeadRun.getT s)
theorem ob_eq (s : PySem.W.SharedT) : ob s = hk.obs s.abs := He.obsG_eq (HandSHeadRun.getT_eq s)
theorem run (w : World) : HandSHeadRun.RunEq R (PySem.W.view R.prog [29]) hk ob 30000 loose w := by
  intro os
  kernel_rfl

end Lw

set_option maxHeartbeats 4000000
namespace U
open PySem PySem.Spec PyProof.Rows L2

/-! ### room: one frame a level -/
structure Rm (n : Nat) (A : Around) : Prop where
  noh : A.handled = none
  fr : A.depth + n + 105 < recursionLimit
  cu : A.units + 4 * n + 400 < cLine
theorem Rm.mono {m n : Nat} {A : Around} (r : Rm n A) (h : m ≤ n) : Rm m A :=
  ⟨r.noh, by have q := r.fr; omega, by have q := r.cu; omega⟩
theorem Rm.down {n : Nat} {A : Around} (r : Rm (n + 1) A) (env : Env) : Rm n (A.deeper env) := by
  refine ⟨r.noh, ?_, ?_⟩
  · have q := r.fr
    show A.depth + 1 + n + 105 < _
    omega
  · have q := r.cu
    show A.units + 3 + 4 * n + 400 < _
    omega
theorem Rm.mk_ {n : Nat} {A : Around} (r : Rm (n + 1) A) (C : Addr) (us : List Value) (kw : List (Str × Value)) :
    Rm n (A.under (.builtin "type.__call__" ⟨.ref C :: us, kw⟩)) := by
  refine ⟨r.noh, ?_, ?_⟩
  · have q := r.fr
    rw [make_depth]
    omega
  · have q := r.cu
    rw [make_units]
    omega
theorem Rm.rm {n : Nat} {A : Around} (r : Rm n A) : Room 6 A :=
  ⟨r.noh, by have q := r.fr; omega, by have q := r.cu; omega⟩
theorem Rm.dep {n : Nat} {A : Around} (r : Rm n A) : A.depth < recursionLimit := by
  have q := r.fr
  omega
theorem Rm.hu {n : Nat} {A : Around} (r : Rm n A) : A.units + 64 < cLine := by
  have q := r.cu
  omega

/-! ### the surroundings of a text -/
structure Zt where
  P : Program
  w : World
  K : PySem.W.Frag
  mg : Str → Option Value
  base : Heap

/-- a def that keeps its promise wherever n more frames have room -/
structure FnR (Z : Zt) (CX : CXT) (n : Nat) (f : Addr) (fd : FuncData) (ps : List Str) (sp : Sp) : Prop where
  len : ∀ vs H Q E, sp vs H Q E → vs.length = ps.length
  run : ∀ (A : Around) (outer : List Env) (s : Shared) (H : Hp) (args : Args) (us : List Value) (vs : List V) (Q : VK) (E : XK),
    Rm n A → Env0 Z.P Z.w Z.K Z.mg Z.base A outer s H → BindsTo s fd args (ps.zip us) → Vals vs us → sp vs H Q E →
      codeAny (model Z.P Z.w) A (.call (.ref f) args) (CR CX outer Z.P Z.w H s Q E) s

theorem FnR.up {Z : Zt} {CX : CXT} {m n : Nat} {f : Addr} {fd : FuncData} {ps : List Str} {sp : Sp} (F : FnR Z CX m f fd ps sp) (h : m ≤ n) : FnR Z CX n f fd ps sp :=
  ⟨F.len, fun A outer s H args us vs Q E hr => F.run A outer s H args us vs Q E (hr.mono h)⟩

theorem FnR.toOk {Z : Zt} {CX : CXT} {n : Nat} {f : Addr} {fd : FuncData} {ps : List Str} {sp : Sp} (F : FnR Z CX n f fd ps sp) (h : n ≤ 500) :
    FnOk Z.P Z.w Z.K Z.mg Z.base CX 231 f fd ps sp := by
  refine ⟨F.len, fun A outer s H args us vs Q E hr => F.run A outer s H args us vs Q E ⟨hr.hd, ?_, ?_⟩⟩
  · have q := hr.dp
    omega
  · have q := hr.un
    omega

section
variable {X : Cx} {CX : CXT} {n : Nat} {f C : Addr} {fd : FuncData} {ps : List Str} {sp : Sp} {E : XK}

theorem runR {pins : List (Addr × Obj)} {σ : L2.St} {H : Hp} {s : Shared} {Q : VK} {us : List Value} {vs : List V} (F : FnR ⟨X.prog, X.w, X.K, X.mg, X.base⟩ CX n f fd ps sp) (hr : Rm n X.A)
    (hb : L2.Binds X.K fd ps []) (hx : Passes CX X E) (I : Inv X pins σ H s) (r : Vals vs us) (h : sp vs H Q E) :
    wpAny (model X.prog X.w) X.A (call (.ref f) us) (EP X pins σ Q) X.xe s := by
  have hlen : (us ++ []).length = ps.length := by
    rw [List.append_nil, ← r.length]
    exact F.len _ _ _ _ h
  have hbind := hb s us I.kIn hlen
  rw [List.append_nil] at hbind
  refine wpAny_call (codeAny_mono (F.run X.A X.stack s H ⟨us, []⟩ us vs Q E hr I.env0 hbind r h) fun res s' hq => ?_)
  match res, hq with
  | .error e, hq => exact hx pins σ H s e s' I hq
  | .ok (.ret u), hq => exact I.after hq
  | .ok .next, hq => exact hq.elim
  | .ok .brk, hq => exact hq.elim
  | .ok .cont, hq => exact hq.elim

theorem runMk {pins : List (Addr × Obj)} {σ : L2.St} {H : Hp} {s : Shared} {Q : VK} {us : List Value} {vs : List V} (M : Mk X.K C f) (F : FnR ⟨X.prog, X.w, X.K, X.mg, X.base⟩ CX n f fd ps sp) (hr : Rm (n + 1) X.A)
    (hb : L2.Binds X.K fd ps []) (hx : Passes CX X E) (I : Inv X pins σ H s) (r : Vals vs us)
    (h : ∀ x dx, H x = none → H dx = none → dx ≠ x → sp (.ref x :: (vs ++ [])) (upd (upd H dx (.own x)) x (.ins C dx [])) (fun v H2 => v = .non ∧ Q (.ref x) H2) E) :
    wpAny (model X.prog X.w) X.A (call (.ref C) us) (EP X pins σ Q) X.xe s := by
  have h1 := h (s.heap.objs.size + 1) s.heap.objs.size (I.hok.fresh (Nat.le_succ _)) (I.hok.fresh (Nat.le_refl _)) (Nat.ne_of_lt (Nat.lt_succ_self _))
  rw [List.append_nil] at h1
  have J := Inv.made (C := C) I
  have rr : Vals (V.ref (s.heap.objs.size + 1) :: vs) (Value.ref (s.heap.objs.size + 1) :: us) := .cons rfl r
  have hlen : ((Value.ref (s.heap.objs.size + 1) :: us) ++ []).length = ps.length := by
    rw [List.append_nil, ← rr.length]
    exact F.len _ _ _ _ h1
  have hbind := hb (Shared.mk _ _ _ _ _) (Value.ref (s.heap.objs.size + 1) :: us) J.kIn hlen
  rw [List.append_nil] at hbind
  refine wpAny_call (make_map (f := f) I.kIn M.makes M.init (beq_iff_eq.mp M.fn) (codeAny_mono (F.run _ X.stack _ _ ⟨Value.ref (s.heap.objs.size + 1) :: us, []⟩ _ _ _ E (hr.mk_ C us [])
    (J.env0.make C us []) hbind rr h1) fun res s' hq => ?_))
  match res, hq with
  | .error e, hq => exact hx pins σ _ _ e s' J hq
  | .ok (.ret u), hq =>
    obtain ⟨v, H', I3, rv, ev, q3⟩ := J.after hq
    subst ev
    exact ⟨rv, ⟨V.ref (s.heap.objs.size + 1), H', I3, rfl, q3⟩⟩
  | .ok .next, hq => exact hq.elim
  | .ok .brk, hq => exact hq.elim
  | .ok .cont, hq => exact hq.elim
end
end U

set_option maxHeartbeats 4000000
namespace U
open PySem PySem.Spec PyProof.Rows L2

/-! ### what may be called by name, as a method, as a class -/
structure Cal (Z : Zt) (CX : CXT) (n : Nat) (x : Str) (ps : List Str) (sp : Sp) : Prop where
  ex : ∃ f fd, Z.mg x = some (.ref f) ∧ PySem.W.keepIn Z.K (.ref f) = true ∧ L2.Binds Z.K fd ps [] ∧ FnR Z CX n f fd ps sp
structure CalM (Z : Zt) (CX : CXT) (n : Nat) (C : Addr) (m : Str) (ps : List Str) (sp : Sp) : Prop where
  ex : ∃ f fd, Meth Z.K C m f ∧ L2.Binds Z.K fd ps [] ∧ FnR Z CX n f fd ps sp
structure CalN (Z : Zt) (CX : CXT) (n : Nat) (x : Str) (C : Addr) (ps : List Str) (sp : Sp) : Prop where
  ex : ∃ f fd, Mk Z.K C f ∧ Z.mg x = some (.ref C) ∧ L2.Binds Z.K fd ps [] ∧ FnR Z CX n f fd ps sp

theorem Cal.up {Z : Zt} {CX : CXT} {m n : Nat} {x : Str} {ps : List Str} {sp : Sp} (c : Cal Z CX m x ps sp) (h : m ≤ n) : Cal Z CX n x ps sp := by
  obtain ⟨f, fd, h1, h2, h3, h4⟩ := c.ex
  exact ⟨f, fd, h1, h2, h3, h4.up h⟩
theorem CalM.up {Z : Zt} {CX : CXT} {m n : Nat} {C : Addr} {x : Str} {ps : List Str} {sp : Sp} (c : CalM Z CX m C x ps sp) (h : m ≤ n) : CalM Z CX n C x ps sp := by
  obtain ⟨f, fd, h1, h3, h4⟩ := c.ex
  exact ⟨f, fd, h1, h3, h4.up h⟩
theorem CalN.up {Z : Zt} {CX : CXT} {m n : Nat} {C : Addr} {x : Str} {ps : List Str} {sp : Sp} (c : CalN Z CX m x C ps sp) (h : m ≤ n) : CalN Z CX n x C ps sp := by
  obtain ⟨f, fd, h1, h2, h3, h4⟩ := c.ex
  exact ⟨f, fd, h1, h2, h3, h4.up h⟩

section
variable {X : Cx} {CX : CXT} {n : Nat} {C : Addr} {ps : List Str} {sp : Sp} {E : XK} {x m : Str} {p pos apos : Pos} {e o : Expr} {es : List Expr} {ta : TE} {t : TA}

theorem pcal (c : Cal ⟨X.prog, X.w, X.K, X.mg, X.base⟩ CX n x ps sp) (hr : Rm n X.A) (hg : Gl X x) (hx : Passes CX X E) (ha : PA X (e :: es) t)
    (hdb : (x == ("__debug__" : Str)) = false := by decide) (he : starEach (e :: es) X.env = (false, eval e X.env) :: starEach es X.env := by rfl)
    (hpl : (backTo pos (starEach es X.env)).any (·.1) = false := by rfl) : PE X (.Call (.Name x p) (e :: es) [] pos) (tCall sp [] E t) := by
  obtain ⟨f, fd, hm, hk, hb, F⟩ := c.ex
  constructor
  intro pins s σ H Q I h
  apply wpAny_Call_Name_kw
  apply ld_glob I hg hm _ hdb
  refine PySem.W.callWith_K (h₀ := X.base) I.ok.mod.kin hk ?_ he hpl
  refine thn (ha.run pos pins s σ H _ I h) ?_
  rintro us s1 ⟨vs, H1, I1, r, q⟩
  refine ⟨I1.kIn, ?_⟩
  have q' : sp (vs ++ []) H1 Q E := q
  rw [List.append_nil] at q'
  exact runR F hr hb hx I1 r q'

theorem pcal0 (c : Cal ⟨X.prog, X.w, X.K, X.mg, X.base⟩ CX n x ps sp) (hr : Rm n X.A) (hg : Gl X x) (hx : Passes CX X E)
    (hdb : (x == ("__debug__" : Str)) = false := by decide) : PE X (.Call (.Name x p) [] [] pos) (tCall sp [] E tNil) := by
  obtain ⟨f, fd, hm, hk, hb, F⟩ := c.ex
  constructor
  intro pins s σ H Q I h
  apply wpAny_Call_Name_kw
  apply ld_glob I hg hm _ hdb
  exact PySem.W.callWith_K0 I.kIn hk (runR (us := []) F hr hb hx I .nil h)

theorem pmet {pl : Sem Bool} (he : PE X o ta) (cl : Cls X.K C) (c : CalM ⟨X.prog, X.w, X.K, X.mg, X.base⟩ CX n C m ps sp) (hr : Rm n X.A) (hx : Passes CX X E) (ha : PA X (e :: es) t)
    (hst : starEach (e :: es) X.env = (false, eval e X.env) :: starEach es X.env := by rfl) (hpl : (backTo pos (starEach es X.env)).any (·.1) = false := by rfl)
    (ht : eval (.Call (.Attribute o m apos) (e :: es) [] pos) X.env = (do
      let ov ← eval o X.env; standAt apos.atName
      let (f, first) ← holding [ov] (getMethod ov m pl)
      callWith pos f first (backTo pos (starEach (e :: es) X.env)) (backToKw pos (keywordEach [] X.env))) := by rfl) :
    PE X (.Call (.Attribute o m apos) (e :: es) [] pos) (tMeth C m sp [] E ta t) := by
  obtain ⟨f, fd, hm, hb, F⟩ := c.ex
  constructor
  intro pins s σ H Q I h
  refine PySem.W.methodCall_KW (pl := pl) (thn (he.run pins s σ H _ I h) ?_) ht
  rintro u s1 ⟨y, H1, I1, ry, a, dx, fs, ey, ea, l, q⟩
  subst ey
  obtain rfl : u = Value.ref a := ry
  refine getmeth_ok I1 ea cl hm l ?_
  refine PySem.W.callWith_K (first := [.ref a]) (h₀ := X.base) I.ok.mod.kin hm.kp (thn (ha.run pos pins s1 σ H1 _ I1 q) ?_) hst hpl
  rintro us s2 ⟨vs, H2, I2, r, q2⟩
  refine ⟨I2.kIn, ?_⟩
  have q' : sp (.ref a :: (vs ++ [])) H2 Q E := q2
  rw [List.append_nil] at q'
  exact runR (us := .ref a :: us) (vs := .ref a :: vs) F hr hb hx I2 (.cons rfl r) q'

theorem pmet0 {pl : Sem Bool} (he : PE X o ta) (cl : Cls X.K C) (c : CalM ⟨X.prog, X.w, X.K, X.mg, X.base⟩ CX n C m ps sp) (hr : Rm n X.A) (hx : Passes CX X E)
    (ht : eval (.Call (.Attribute o m apos) [] [] pos) X.env = (do
      let ov ← eval o X.env; standAt apos.atName
      let (f, first) ← holding [ov] (getMethod ov m pl)
      callWith pos f first (backTo pos (starEach [] X.env)) (backToKw pos (keywordEach [] X.env))) := by rfl) :
    PE X (.Call (.Attribute o m apos) [] [] pos) (tMeth C m sp [] E ta tNil) := by
  obtain ⟨f, fd, hm, hb, F⟩ := c.ex
  constructor
  intro pins s σ H Q I h
  refine PySem.W.methodCall_KW (pl := pl) (thn (he.run pins s σ H _ I h) ?_) ht
  rintro u s1 ⟨y, H1, I1, ry, a, dx, fs, ey, ea, l, q⟩
  subst ey
  obtain rfl : u = Value.ref a := ry
  refine getmeth_ok I1 ea cl hm l ?_
  exact PySem.W.callWith_K0 (first := [.ref a]) I1.kIn hm.kp (runR (us := [.ref a]) (vs := [.ref a]) F hr hb hx I1 (.cons rfl .nil) q)

theorem pmak (c : CalN ⟨X.prog, X.w, X.K, X.mg, X.base⟩ CX n x C ps sp) (hr : Rm (n + 1) X.A) (hg : Gl X x) (hx : Passes CX X E) (ha : PA X (e :: es) t)
    (hdb : (x == ("__debug__" : Str)) = false := by decide) (he : starEach (e :: es) X.env = (false, eval e X.env) :: starEach es X.env := by rfl)
    (hpl : (backTo pos (starEach es X.env)).any (·.1) = false := by rfl) : PE X (.Call (.Name x p) (e :: es) [] pos) (tMake C sp [] E t) := by
  obtain ⟨f, fd, M, hm, hb, F⟩ := c.ex
  constructor
  intro pins s σ H Q I h
  apply wpAny_Call_Name_kw
  apply ld_glob I hg hm _ hdb
  refine PySem.W.callWith_K (h₀ := X.base) I.ok.mod.kin M.kp ?_ he hpl
  refine thn (ha.run pos pins s σ H _ I h) ?_
  rintro us s1 ⟨vs, H1, I1, r, q⟩
  exact ⟨I1.kIn, runMk M F hr hb hx I1 r q⟩

theorem pmak0 (c : CalN ⟨X.prog, X.w, X.K, X.mg, X.base⟩ CX n x C ps sp) (hr : Rm (n + 1) X.A) (hg : Gl X x) (hx : Passes CX X E)
    (hdb : (x == ("__debug__" : Str)) = false := by decide) : PE X (.Call (.Name x p) [] [] pos) (tMake C sp [] E tNil) := by
  obtain ⟨f, fd, M, hm, hb, F⟩ := c.ex
  constructor
  intro pins s σ H Q I h
  apply wpAny_Call_Name_kw
  apply ld_glob I hg hm _ hdb
  exact PySem.W.callWith_K0 I.kIn M.kp (runMk (us := []) M F hr hb hx I .nil h)

/-- // by any number but 0, in a def's own frame -/
def rFd : R2 := fun x y H Q => ∃ i j, x = .int i ∧ y = .int j ∧ j ≠ 0 ∧ Q (.int (i.fdiv j)) H
end

/-! ### a def by its body -/
structure FunE (K : PySem.W.Frag) (x qual : Str) (st : Stmt) (f : Addr) (fd : FuncData) : Prop where
  ex : ∃ (oc : Value) (od : Option Addr) (kV doc pm : Value) (an : Option Addr) (cdv ct : Value) (osl : Array (Option Value)),
    fd = PySem.W.fnOf x qual (defArgs st) (defBody st) (defScope st) .none kV doc pm an cdv ct ∧ K.lookup f = some ⟨oc, od, .func fd, osl⟩ ∧ PySem.W.codeIn K cdv qual = true
theorem FunE.binds {K : PySem.W.Frag} {x qual : Str} {st : Stmt} {f : Addr} {fd : FuncData} {ps : List Str} (F : FunE K x qual st f fd)
    (h : ∀ (kV doc pm : Value) (an : Option Addr) (cdv ct : Value) (us : List Value), us.length = ps.length → bindArgs (PySem.W.fnOf x qual (defArgs st) (defBody st) (defScope st) .none kV doc pm an cdv ct) ⟨us, []⟩ = pure (ps.zip us)) : L2.Binds K fd ps [] := by
  obtain ⟨oc, od, kV, doc, pm, an, cdv, ct, osl, rfl, lk, hcd⟩ := F.ex
  exact .all (h kV doc pm an cdv ct)
section
variable {Z : Zt} {x qual : Str} {st : Stmt} {f : Addr} {fd : FuncData} {N ps : List Str} {n : Nat} {sp : Sp}
theorem mkR0 {CX : CXT} (F : FunE Z.K x qual st f fd) (S : FnScope N ps (defScope st)) (len : ∀ vs H Q E, sp vs H Q E → vs.length = ps.length)
    (hbody : ∀ (cdv : Value) (A : Around) (outer : List Env) (s : Shared) (H : Hp) (vs : List V) (Q : VK) (E : XK), Rm n (A.deeper (envOfC qual (defScope st) s.heap.objs.size f cdv)) → sp vs H Q E →
      ∃ t, PSs (cxOf CX Z.P Z.w Z.K Z.mg Z.base N qual (defScope st) f cdv A outer s H E) (defBody st) t ∧ t { nx := fun _ H' => Q .non H', rt := Q } (start N vs) H) :
    FnR Z CX (n + 1) f fd ps sp := by
  obtain ⟨oc, od, kV, doc, pm, an, cdv, ct, osl, rfl, lk, hcd⟩ := F.ex
  refine ⟨len, fun A outer s H args us vs Q E hr e0 hb r hsp => ?_⟩
  have hl := len _ _ _ _ hsp
  have kx : Z.K.In s.heap := e0.mod.kin.keeps fun b o e => (e0.bs b o e).1
  have nl : s.heap.NoLimit := e0.mod.nolimit.keeps fun b o e => (e0.bs b o e).1
  refine codeAny_call_function hr.dep (kx _ _ lk) rfl S.co S.gen rfl (PySem.W.codeRec_of kx hcd) (hb _ _ _ _ ?_)
  refine wpAny_newFunctionEnv_cells S.kind ?_ ?_
  · rintro ⟨y, v⟩ hy
    rcases S.par y (List.of_mem_zip hy).1 with q | q
    · exact .inl q
    · exact .inr ⟨q, PySem.W.cellsFrom_some _ _ _ (.inl q)⟩
  · intro env he s1 hin
    subst he
    refine ⟨nl.keeps hin.toInCall.keep, codeAny_func ?_⟩
    obtain ⟨t, ht, hq⟩ := hbody cdv A outer s H vs Q E (hr.down _) hsp
    have I := inv_start (CX := CX) (E := E) S hr.noh e0 hl r hin
    refine wpAny_mono (ht.run [] s1 (start N vs) H _ I hq) ?_ fun e s' hs => hs
    intro fl s' hs
    match fl, hs with
    | .ret u, hs =>
      obtain ⟨v, σ', H', J, rv, q⟩ := hs
      exact ⟨v, H', J.os, J.bare, J.base, J.hok, rv, q⟩
    | .next, hs =>
      obtain ⟨σ', H', J, q⟩ := hs
      exact ⟨V.non, H', J.os, J.bare, J.base, J.hok, rfl, q⟩
    | .brk, hs =>
      obtain ⟨_, _, _, q⟩ := hs
      exact q.elim
    | .cont, hs =>
      obtain ⟨_, _, _, q⟩ := hs
      exact q.elim

/-- nothing leaves it by an exception -/
theorem mkR {tb : TS} (F : FunE Z.K x qual st f fd) (S : FnScope N ps (defScope st)) (len : ∀ vs H Q E, sp vs H Q E → vs.length = ps.length)
    (hbody : ∀ (cdv : Value) (A : Around) (outer : List Env) (s : Shared) (H : Hp) (E : XK), Rm n (A.deeper (envOfC qual (defScope st) s.heap.objs.size f cdv)) →
      PSs (cxOf CX0 Z.P Z.w Z.K Z.mg Z.base N qual (defScope st) f cdv A outer s H E).nox (defBody st) tb)
    (pure : ∀ (vs : List V) (H : Hp) (Q : VK) (E : XK), sp vs H Q E → tb { nx := fun _ H' => Q .non H', rt := Q } (start N vs) H) :
    FnR Z CX0 (n + 1) f fd ps sp :=
  mkR0 F S len fun cdv A outer s H vs Q E hr h => ⟨tb, (hbody cdv A outer s H E hr).nox, pure vs H Q E h⟩

theorem fun_of (F : ∃ oc od osl kV doc pm an cdv ct, Z.K.lookup f = some ⟨oc, od, .func (PySem.W.fnOf x qual (defArgs st) (defBody st) (defScope st) .none kV doc pm an cdv ct), osl⟩ ∧ PySem.W.codeIn Z.K cdv qual = true) :
    ∃ fd, FunE Z.K x qual st f fd := by
  obtain ⟨oc, od, osl, kV, doc, pm, an, cdv, ct, h1, h2⟩ := F
  exact ⟨_, ⟨oc, od, kV, doc, pm, an, cdv, ct, osl, rfl, h1, h2⟩⟩
end
end U

set_option maxHeartbeats 4000000
namespace U
open PySem PySem.Spec PyProof.Rows L2

/-! ### // by any number but 0 -/
theorem op_fdZ {X : Cx} {m : Nat} (hN : X.base.NoSeer) (ht : X.prog.given.tree = none) (hst : X.stack = X.env :: X.outer) (hgn : X.env.scope.isGenerator = false) (hco : X.env.scope.isCoroutine = false)
    (hr : Rm m X.A) : OpR X (binaryOp .FloorDiv) rFd := by
  intro pins s σ H x y v u Q I rx ry h
  obtain ⟨i, j, rfl, rfl, hj, q⟩ := h
  obtain ⟨t, rfl⟩ := rx
  obtain ⟨t', rfl⟩ := ry
  refine floordiv_int hj ?_ (.inr (PylongRoom.of I.nolimit ?_ ?_))
  · exact ⟨.int (i.fdiv j), H, I.tok _, ⟨_, rfl⟩, q⟩
  · have z := hr.fr
    have e : Builtin.pylongFrames = 100 := rfl
    omega
  · exact SeerAt.of (hN.keeps I.bk) ht (by rw [I.ok.frames, hst]) hgn hco I.ok.blt I.ok.glob

/-! ### the law's call -/
def scriptAt (a : Addr) (vs : List Value) (ns : List Int) : Hp := fun b => if b = a then some (.frz { cls := .type "list", data := .seq vs.toArray } (.lst (ns.map V.int))) else none

theorem callU {P : Program} {w : World} {K : PySem.W.Frag} {mg mb : Str → Option Value} {n : Nat} {fa a : Addr} {fd : FuncData} {x : Str} {sp : Sp} {s : Shared} {vs : List Value} {ns : List Int}
    (kx : K.In s.heap) (hns : s.heap.Ns mainGlobals mg) (hb : s.heap.Ns builtinsNs mb) (hbb : ∀ x : Str, x ≠ "__name__" → mb x = bootBuiltins x) (hlim : s.heap.NoLimit) (hsee : s.heap.NoSeer) (hg : s.gens = #[])
    (ha : s.heap.get? a = some { cls := .type "list", data := .seq vs.toArray }) (hi : IntsAre vs ns) (hl : ns.length ≤ sizeLine) (hr : Rm n callerA)
    (F : ∀ base : Heap, K.In base → base.Ns mainGlobals mg → base.NoSeer → FnR ⟨P, w, K, mg, base⟩ CX0 n fa fd [x] sp) (hbind : ∀ (s : Shared) (u : Value), BindsTo s fd ⟨[u], []⟩ [(x, u)])
    (hsp : ∀ H : Hp, Only H → SqL K H a (ns.map V.int) → sp [.ref a] H (fun v _ => v = .bl true) fun _ _ _ => False) :
    codeAny (model P w) callerA (.call (.ref fa) ⟨[.ref a], []⟩) (fun r s' => r = .ok (.ret (.bool true)) ∧ OldK s.heap s'.heap ∧ s'.os = s.os ∧ AllBare s'.gens) s := by
  have rv := vals_ints hi
  have main : ∀ H : Hp, Only H → SqL K H a (ns.map V.int) → HOk P w H s.heap → (∀ b, H b ≠ none → b = a) → (H a ≠ none → K.lookup a = none) →
      codeAny (model P w) callerA (.call (.ref fa) ⟨[.ref a], []⟩) (fun r s' => r = .ok (.ret (.bool true)) ∧ OldK s.heap s'.heap ∧ s'.os = s.os ∧ AllBare s'.gens) s := by
    intro H hO hS hok only notK
    have free : ∀ {b : Addr} {o : Obj}, s.heap.get? b = some o → (∀ n', o.data ≠ .seq vs.toArray n') → H b = none := by
      intro b o e d
      by_cases z : H b = none
      · exact z
      · have eb := only b z
        subst eb
        rw [ha] at e
        cases e
        exact absurd rfl (d _)
    have freeD : ∀ {b : Addr} {o : Obj} {es : Array DictEntry} {ep : Nat}, s.heap.get? b = some o → o.data = .dict es ep → H b = none := by
      intro b o es ep e d
      refine free e fun n' z => ?_
      rw [d] at z
      cases z
    have ns' : ∀ {b : Addr} {m : Str → Option Value}, s.heap.Ns b m → (hidT s.heap H).Ns b m := by
      rintro b m ⟨o, es, ep, e, d, r⟩
      exact ⟨o, es, ep, hidT_get e (freeD e d), d, r⟩
    have kb : K.In (hidT s.heap H) := by
      intro b o e
      refine hidT_get (kx b o e) ?_
      by_cases z : H b = none
      · exact z
      · have eb := only b z
        subst eb
        rw [notK z] at e
        cases e
    have seer : (hidT s.heap H).NoSeer := by
      obtain ⟨mc, c1, c2⟩ := hsee.statics
      obtain ⟨mm, m1, m2⟩ := hsee.mods
      obtain ⟨m3, m4, m5⟩ := hsee.imp
      obtain ⟨mg', bm, ob, g1, g2, g3, g4, g5⟩ := hsee.main
      refine ⟨⟨mc, ns' c1, c2⟩, ⟨mm, ns' m1, m2⟩, ⟨m3, ns' m4, m5⟩, ⟨mg', bm, ob, ns' g1, g2, hidT_get g3 ?_, g4, g5⟩⟩
      by_cases z : H bm = none
      · exact z
      · have eb := only bm z
        subst eb
        rw [ha] at g3
        injection g3 with g3
        rw [← g3] at g4
        simp at g4
    have md : Mod K mg (hidT s.heap H) := by
      obtain ⟨mc, l1, l2⟩ := hlim
      exact ⟨kb, ns' hns, ⟨mb, ns' hb, hbb⟩, ⟨mc, ns' l1, l2⟩⟩
    have e0 : Env0 P w K mg (hidT s.heap H) callerA [] s H :=
      ⟨rfl, md, fun b o e => of_hidT e, Nat.le_of_eq (hidT_size _ _), trivial, fun b hb => (by cases hb), hok, .of_eq hg⟩
    refine codeAny_mono ((F _ kb (ns' hns) seer).run callerA [] s H ⟨[.ref a], []⟩ [.ref a] [.ref a] _ _ hr e0 (hbind s (.ref a)) (.cons rfl .nil) (hsp H hO hS)) ?_
    intro r s' h
    match r, h with
    | .error e, h => exact h.elim
    | .ok .next, h => exact h.elim
    | .ok .brk, h => exact h.elim
    | .ok .cont, h => exact h.elim
    | .ok (.ret u), h =>
      obtain ⟨v, H', os, bare, un, hok', r', q⟩ := h
      have qv : v = .bl true := q
      subst qv
      obtain rfl : u = Value.bool true := r'
      refine ⟨rfl, OldK.of_keep ?_, os, bare⟩
      intro b o e
      rcases hO b with z | ⟨ob, xs, z⟩
      · exact un.keep b o e z (fun k => by cases k) (fun k => by cases k)
      · obtain ⟨e1, _⟩ := hok b _ z
        obtain ⟨e2, _⟩ := hok' b _ (un.frzs b ob _ z)
        rw [e] at e1
        cases e1
        exact e2
  cases hk : K.lookup a with
  | some o =>
    have e := kx a o hk
    rw [ha] at e
    cases e
    refine main (fun _ => none) (fun _ => .inl rfl) (.inr ⟨_, vs.toArray, _, hk, rfl, rfl, rfl, ?_, ?_⟩) (fun b u z => by cases z) (fun b z => absurd rfl z) fun z => absurd rfl z
    · rw [List.size_toArray, hi.length]
      exact hl
    · simpa using rv
  | none =>
    have at_a : scriptAt a vs ns a = some (.frz { cls := .type "list", data := .seq vs.toArray } (.lst (ns.map V.int))) := if_pos rfl
    have off : ∀ b, b ≠ a → scriptAt a vs ns b = none := fun b hb => if_neg hb
    refine main (scriptAt a vs ns) (fun b => ?_) (.inl (.inr ⟨_, at_a⟩)) (fun b u z => ?_) (fun b z => ?_) fun _ => hk
    · by_cases hb : b = a
      · subst hb
        exact .inr ⟨_, _, at_a⟩
      · exact .inl (off b hb)
    · by_cases hb : b = a
      · subst hb
        rw [at_a] at z
        cases z
        exact ⟨ha, by rw [List.length_map]; exact hl, vs, _, rv, ha⟩
      · rw [off b hb] at z
        cases z
    · by_cases hb : b = a
      · exact hb
      · exact absurd (off b hb) z

/-- the end of a law's row -/
theorem walkU {l : PySem.W.OpenLaw} {n : Nat} {q : Program} {loose : List Str} {XP : (Str → Option Value) → Heap → Prop} {YP : World → Heap → Prop} {d : DefRec} {x : Str}
    (hm : l.most = some 63) (hdf : d.params.defaults = []) (him : importsNone q = true) (hn : n ≤ 500)
    (F : ∀ (w : World) (mg : Str → Option Value) (fa : Addr) (h : Heap), YP w h → h.Ns mainGlobals mg → mg d.name = some (.ref fa) →
      ∃ (K : PySem.W.Frag) (fd : FuncData) (sp : Sp), K.In h ∧ (∀ (s : Shared) (u : Value), BindsTo s fd ⟨[u], []⟩ [(x, u)]) ∧
        (∀ (H : Hp) (a : Addr) (ns : List Int), ns.length ≤ 63 → Only H → SqL K H a (ns.map V.int) → sp [.ref a] H (fun v _ => v = .bl true) fun _ _ _ => False) ∧
        ∀ base : Heap, K.In base → base.Ns mainGlobals mg → base.NoSeer → FnR ⟨l.prog, w, K, mg, base⟩ CX0 n fa fd [x] sp) :
    PySem.W.WalkO q loose XP YP l.row.toRowW d [] (fun f vs => PySem.call f vs) := by
  refine Att.attach_call hm hdf ?_
  intro w s₀ s mg mb fa o pm cd doc a vs ns G Y ho hd hcd hmg hobj hints hlen hg
  obtain ⟨K, fd, sp, kx, hb, hsp, hF⟩ := F w mg fa _ Y G.T.g hmg
  have room : Rm n callerA := by
    refine ⟨rfl, ?_, ?_⟩
    · show 1 + claimMargin + n + 105 < recursionLimit
      have e1 : claimMargin = 300 := rfl
      have e2 : recursionLimit = 1000 := rfl
      omega
    · show 4 + 4 * n + 400 < cLine
      have e1 : cLine = 9900 := rfl
      omega
  exact callU kx G.T.g G.T.b G.T.builtins G.T.nolimit (G.T.seer him) hg hobj hints (Nat.le_trans hlen (by decide)) room hF hb fun H hO hS => hsp H a ns hlen hO hS
end U

set_option maxHeartbeats 4000000
namespace U
open PySem PySem.Spec PyProof.Rows L2

/-! ### operators by name -/
def rAddI : R2 := rI0 fun i j => .int (i + j)
def rSubI : R2 := rI0 fun i j => .int (i - j)
def rMulI : R2 := rI CMul fun i j => .int (i * j)
def rFdC : R2 := rI CDiv fun i j => .int (i / j)
def rModP : R2 := rI (fun _ j => 0 < j) fun i j => .int (i % j)
def rPowI : R2 := rI CPow fun i j => .int (i ^ j.toNat)
def rLtI : R2 := rI0 fun i j => .bl (decide (i < j))
def rLeI : R2 := rI0 fun i j => .bl (decide (i ≤ j))
def rGtI : R2 := rI0 fun i j => .bl (decide (j < i))
def rGeI : R2 := rI0 fun i j => .bl (decide (j ≤ i))
def rIsNo : R2 := fun x y H Q => y = .non ∧ Q (.bl (decide (x = .non))) H
def rIsNotNo : R2 := fun x y H Q => y = .non ∧ Q (.bl (!decide (x = .non))) H
section
variable {X : Cx}
theorem op_addI : OpR X (binaryOp .Add) rAddI := op_add
theorem op_subI : OpR X (binaryOp .Sub) rSubI := op_sub
theorem op_mulI : OpR X (binaryOp .Mult) rMulI := op_mul
theorem op_fdC : OpR X (binaryOp .FloorDiv) rFdC := op_fdiv
theorem op_modP : OpR X (binaryOp .Mod) rModP := op_mod
theorem op_powI : OpR X (binaryOp .Pow) rPowI := op_pow
theorem op_ltI : OpR X (compareOp .Lt) rLtI := op_lt
theorem op_leI : OpR X (compareOp .LtE) rLeI := op_le
theorem op_gtI : OpR X (compareOp .Gt) rGtI := op_gt
theorem op_geI : OpR X (compareOp .GtE) rGeI := op_ge
theorem op_isNo : OpR X (compareOp .Is) rIsNo := op_isN
theorem op_isNotNo : OpR X (compareOp .IsNot) rIsNotNo := op_notN
end
def rLenQ (K : PySem.W.Frag) : List V → Hp → VK → Prop := fun xs H Q => ∃ p ys, xs = [.ref p] ∧ (SqL K H p ys ∨ SqT K H p ys) ∧ Q (.int ys.length) H
theorem call_lenQ {X : Cx} : CallR X (.builtin "len") (rLenQ X.K) := call_len_seq
def rListQ (K : PySem.W.Frag) : List V → Hp → VK → Prop := fun xs H Q => ∃ p ys, xs = [.ref p] ∧ (SqL K H p ys ∨ SqT K H p ys) ∧ ∀ l, H l = none → Q (.ref l) (upd H l (.lst ys))
theorem call_listQ {X : Cx} : CallR X (.type "list") (rListQ X.K) := call_list_of
def rIntB : List V → Hp → VK → Prop := fun xs H Q => ∃ k, xs = [.bl k] ∧ Q (.int (if k then 1 else 0)) H
theorem call_intB {X : Cx} : CallR X (.type "int") rIntB := by
  intro pins s σ H xs us Q I r h
  exact call_int1 pins s σ H xs us Q I r (.inr h)
def rMax2 : List V → Hp → VK → Prop := fun xs H Q => ∃ i j, xs = [.int i, .int j] ∧ Q (.int (if j > i then j else i)) H
theorem call_max2Q {X : Cx} (hc : X.calm = true) : CallR X (.builtin "max") rMax2 := call_max2 hc
def rMin2 : List V → Hp → VK → Prop := fun xs H Q => ∃ i j, xs = [.int i, .int j] ∧ Q (.int (if j < i then j else i)) H
theorem call_min2Q {X : Cx} (hc : X.calm = true) : CallR X (.builtin "min") rMin2 := call_min2 hc

/-! ### attributes of an instance whose class is known -/
def tFd (C : Addr) (f : Str) (ta : TE) : TE := fun σ H Q => ta σ H fun x H1 => ∃ a dx fs v, x = .ref a ∧ H1 a = some (.ins C dx fs) ∧ fs.lookup f = some v ∧ Q v H1
def sFd (C : Addr) (f : Str) (ta tv : TE) : TS := fun D σ H => tv σ H fun y H1 => ta σ H1 fun x H2 => ∃ a dx fs, x = .ref a ∧ H2 a = some (.ins C dx fs) ∧ fs.length < 1000 ∧
  D.nx σ (upd H2 a (.ins C dx (putF f y fs)))
section
variable {X : Cx} {o e value : Expr} {f : Str} {pos pos' : Pos} {ta tv : TE} {C : Addr}
theorem pfd (cl : Cls X.K C) (na : NoAttr X.K C f) (he : PE X e ta) (hb : attributeBase e f X.env (eval e X.env) = eval e X.env := by rfl) : PE X (.Attribute e f pos) (tFd C f ta) := by
  constructor
  intro pins s σ H Q I h
  refine attr_of hb (thn (he.run pins s σ H _ I h) ?_)
  rintro u s1 ⟨x, H1, I1, rx, a, dx, fs, v, ex, ea, l, q⟩
  subst ex
  obtain rfl : u = Value.ref a := rx
  exact getattr_ok I1 ea cl na l fun u' s2 I2 ru => ⟨v, H1, I2, ru, q⟩
theorem psfd (cl : Cls X.K C) (na : NoAttr X.K C f) (ha : PE X o ta) (hv : PE X value tv) (hs : swapsWith value (some (.Attribute o f pos')) pos.line X.env = pure false := by rfl) :
    PS X (.Assign [.Attribute o f pos'] value pos) (sFd C f ta tv) := by
  constructor
  intro pins s σ H D I h
  refine plainObj_wpAny_Assign_Attribute (thn (hv.run pins s σ H _ I h) ?_) hs
  rintro u s1 ⟨y, H1, I1, ry, q⟩
  refine thn (ha.run pins s1 σ H1 _ I1 q) ?_
  rintro ov s2 ⟨x, H2, I2, rx, a, dx, fs, ex, ea, l, q2⟩
  subst ex
  obtain rfl : ov = Value.ref a := rx
  exact setattr_ok I2 ea cl na l ry fun s3 I3 => ⟨σ, _, I3, q2⟩
end

/-! ### reading, one construct at a time -/
section
variable {K : PySem.W.Frag} {σ : L2.St} {H : Hp} {Q : VK} {D : Ends} {ta tb te tv : TE} {t u : TS} {c c' : TT} {v x y : V} {i j : Int} {k : Nat} {a p l C dx : Addr} {xs ys : List V} {fs : List (Str × V)} {f m : Str} {QT : Bool → Hp → Prop} {QA : List V → Hp → Prop} {tr : TA}
theorem w_seq (h : t { D with nx := u D } σ H) : tSeq t u D σ H := h
theorem w_next (h : D.nx σ H) : tNext D σ H := h
theorem w_asg {g : TG} (h : te σ H fun x H1 => g x σ H1 D.nx) : tAsg te g D σ H := h
theorem w_name {QS : L2.St → Hp → Prop} (h : QS (σ.set k (some v)) H) : gName k v σ H QS := h
theorem w_ret (h : te σ H D.rt) : tRet te D σ H := h
theorem w_drop (h : te σ H fun _ H1 => D.nx σ H1) : tDrop te D σ H := h
theorem w_if (h : c σ H fun b H1 => if b = true then t D σ H1 else u D σ H1) : tIfS c t u D σ H := h
theorem w_var (h : σ[k]? = some (some v)) (q : Q v H) : tVar k σ H Q := ⟨v, h, q⟩
theorem w_c (q : Q v H) : tC v σ H Q := q
theorem w_op {r : R2} (h : ta σ H fun x H1 => tb σ H1 fun y H2 => r x y H2 Q) : tOp r ta tb σ H Q := h
theorem w_un {r : V → Hp → VK → Prop} (h : ta σ H fun x H1 => r x H1 Q) : tUn r ta σ H Q := h
theorem w_test (h : te σ H fun x H1 => ∃ k, x = .bl k ∧ QT k H1) : tTest te σ H QT := h
theorem w_B (h : te σ H fun x H1 => ∃ k, x = .bl k ∧ QT k H1) : tB te σ H QT := h
theorem w_bl {b : Bool} {P : Bool → Prop} (h : P b) : ∃ k, V.bl b = .bl k ∧ P k := ⟨b, rfl, h⟩
theorem w_not (h : c σ H fun b H1 => QT (!b) H1) : tNot c σ H QT := h
theorem w_and (h : c σ H fun b H1 => if b = true then c' σ H1 QT else QT false H1) : tAnd c c' σ H QT := h
theorem w_or (h : c σ H fun b H1 => if b = true then QT true H1 else c' σ H1 QT) : tOr c c' σ H QT := h
theorem w_ifx (h : c σ H fun b H1 => if b = true then ta σ H1 Q else tb σ H1 Q) : tIf c ta tb σ H Q := h
theorem w_andV (h : ta σ H fun x H1 => ∃ c, x = .bl c ∧ if c = true then tb σ H1 Q else Q (.bl false) H1) : tAndV ta tb σ H Q := h
theorem w_orV (h : ta σ H fun x H1 => ∃ c, x = .bl c ∧ if c = true then Q (.bl true) H1 else tb σ H1 Q) : tOrV ta tb σ H Q := h
theorem w_notV (h : ta σ H fun x H1 => ∃ c, x = .bl c ∧ Q (.bl (!c)) H1) : tNotV ta σ H Q := h
theorem w_add (q : Q (.int (i + j)) H) : rAddI (.int i) (.int j) H Q := ⟨i, j, rfl, rfl, q⟩
theorem w_sub (q : Q (.int (i - j)) H) : rSubI (.int i) (.int j) H Q := ⟨i, j, rfl, rfl, q⟩
theorem w_mul (h : CMul i j) (q : Q (.int (i * j)) H) : rMulI (.int i) (.int j) H Q := ⟨i, j, rfl, rfl, h, q⟩
theorem w_fdC (h : CDiv i j) (q : Q (.int (i / j)) H) : rFdC (.int i) (.int j) H Q := ⟨i, j, rfl, rfl, h, q⟩
theorem w_fd (h : j ≠ 0) (q : Q (.int (i.fdiv j)) H) : rFd (.int i) (.int j) H Q := ⟨i, j, rfl, rfl, h, q⟩
theorem w_mod (h : 0 < j) (q : Q (.int (i % j)) H) : rModP (.int i) (.int j) H Q := ⟨i, j, rfl, rfl, h, q⟩
theorem w_pow (h : CPow i j) (q : Q (.int (i ^ j.toNat)) H) : rPowI (.int i) (.int j) H Q := ⟨i, j, rfl, rfl, h, q⟩
theorem w_lt (q : Q (.bl (decide (i < j))) H) : rLtI (.int i) (.int j) H Q := ⟨i, j, rfl, rfl, q⟩
theorem w_le (q : Q (.bl (decide (i ≤ j))) H) : rLeI (.int i) (.int j) H Q := ⟨i, j, rfl, rfl, q⟩
theorem w_gt (q : Q (.bl (decide (j < i))) H) : rGtI (.int i) (.int j) H Q := ⟨i, j, rfl, rfl, q⟩
theorem w_ge (q : Q (.bl (decide (j ≤ i))) H) : rGeI (.int i) (.int j) H Q := ⟨i, j, rfl, rfl, q⟩
theorem w_eqI (q : Q (.bl (decide (i = j))) H) : rEq (.int i) (.int j) H Q := ⟨rfl, by
  have e : decide (V.int i = V.int j) = decide (i = j) := by
    by_cases h : i = j
    · rw [decide_eq_true h, decide_eq_true (congrArg V.int h)]
    · rw [decide_eq_false h, decide_eq_false fun z => h (V.int.inj z)]
  rw [e]; exact q⟩
theorem w_neI (q : Q (.bl (!decide (i = j))) H) : rNe (.int i) (.int j) H Q := ⟨rfl, by
  have e : decide (V.int i = V.int j) = decide (i = j) := by
    by_cases h : i = j
    · rw [decide_eq_true h, decide_eq_true (congrArg V.int h)]
    · rw [decide_eq_false h, decide_eq_false fun z => h (V.int.inj z)]
  rw [e]; exact q⟩
theorem w_eqS {s z : Str} (q : Q (.bl (decide (s = z))) H) : rEq (.str s) (.str z) H Q := ⟨rfl, by
  have e : decide (V.str s = V.str z) = decide (s = z) := by
    by_cases h : s = z
    · rw [decide_eq_true h, decide_eq_true (congrArg V.str h)]
    · rw [decide_eq_false h, decide_eq_false fun z => h (V.str.inj z)]
  rw [e]; exact q⟩
theorem w_neS {s z : Str} (q : Q (.bl (!decide (s = z))) H) : rNe (.str s) (.str z) H Q := ⟨rfl, by
  have e : decide (V.str s = V.str z) = decide (s = z) := by
    by_cases h : s = z
    · rw [decide_eq_true h, decide_eq_true (congrArg V.str h)]
    · rw [decide_eq_false h, decide_eq_false fun z => h (V.str.inj z)]
  rw [e]; exact q⟩
theorem w_isN (q : Q (.bl (decide (x = .non))) H) : rIsNo x .non H Q := ⟨rfl, q⟩
theorem w_isnN (q : Q (.bl (!decide (x = .non))) H) : rIsNotNo x .non H Q := ⟨rfl, q⟩
theorem w_ixL (h : SqL K H p xs) (ha : atI xs i = some v) (q : Q v H) : rIxL K (.ref p) (.int i) H Q := ⟨p, xs, i, v, rfl, rfl, h, ha, q⟩
theorem w_ixT (h : SqT K H p xs) (ha : atI xs i = some v) (q : Q v H) : rIxT K (.ref p) (.int i) H Q := ⟨p, xs, i, v, rfl, rfl, h, ha, q⟩
theorem w_tFd (h : ta σ H fun x H1 => ∃ a dx fs v, x = .ref a ∧ H1 a = some (.ins C dx fs) ∧ fs.lookup f = some v ∧ Q v H1) : tFd C f ta σ H Q := h
theorem w_fld {P : V → Prop} (h : H a = some (.ins C dx fs)) (l : fs.lookup f = some v) (q : P v) : ∃ a' dx' fs' v', V.ref a = .ref a' ∧ H a' = some (.ins C dx' fs') ∧ fs'.lookup f = some v' ∧ P v' := ⟨a, dx, fs, v, rfl, h, l, q⟩
theorem w_sFd (h : tv σ H fun y H1 => ta σ H1 fun x H2 => ∃ a dx fs, x = .ref a ∧ H2 a = some (.ins C dx fs) ∧ fs.length < 1000 ∧ D.nx σ (upd H2 a (.ins C dx (putF f y fs)))) : sFd C f ta tv D σ H := h
theorem w_put {P : List (Str × V) → Addr → Addr → Prop} (h : H a = some (.ins C dx fs)) (n : fs.length < 1000) (q : P fs dx a) : ∃ a' dx' fs', V.ref a = .ref a' ∧ H a' = some (.ins C dx' fs') ∧ fs'.length < 1000 ∧ P fs' dx' a' := ⟨a, dx, fs, rfl, h, n, q⟩
theorem w_nil (h : QA [] H) : tNil σ H QA := h
theorem w_cons (h : ta σ H fun x H1 => tr σ H1 fun xs H2 => QA (x :: xs) H2) : tCons ta tr σ H QA := h
theorem w_tup (h : tr σ H fun xs H1 => xs.length ≤ sizeLine ∧ ∀ p, H1 p = none → Q (.ref p) (upd H1 p (.tup xs))) : tTup tr σ H Q := h
theorem w_lst (h : tr σ H fun xs H1 => xs.length ≤ sizeLine ∧ ∀ p, H1 p = none → Q (.ref p) (upd H1 p (.lst xs))) : tLst tr σ H Q := h
theorem w_call {sp : Sp} {E : XK} (h : tr σ H fun vs H1 => sp (vs ++ []) H1 Q E) : tCall sp [] E tr σ H Q := h
theorem w_meth {sp : Sp} {E : XK} (h : ta σ H fun x H1 => ∃ a dx fs, x = .ref a ∧ H1 a = some (.ins C dx fs) ∧ fs.lookup m = none ∧ tr σ H1 fun vs H2 => sp (x :: (vs ++ [])) H2 Q E) : tMeth C m sp [] E ta tr σ H Q := h
theorem w_recv {P : Addr → Prop} (h : H a = some (.ins C dx fs)) (l : fs.lookup m = none) (q : P a) : ∃ a' dx' fs', V.ref a = .ref a' ∧ H a' = some (.ins C dx' fs') ∧ fs'.lookup m = none ∧ P a' := ⟨a, dx, fs, rfl, h, l, q⟩
theorem w_cb {r : List V → Hp → VK → Prop} (h : tr σ H fun vs H1 => r vs H1 Q) : tCB r tr σ H Q := h
theorem w_lenL (h : SqL K H p xs) (q : Q (.int xs.length) H) : rLenQ K [.ref p] H Q := ⟨p, xs, rfl, .inl h, q⟩
theorem w_lenT (h : SqT K H p xs) (q : Q (.int xs.length) H) : rLenQ K [.ref p] H Q := ⟨p, xs, rfl, .inr h, q⟩
theorem w_bm {r : V → List V → Hp → VK → Prop} (h : ta σ H fun x H1 => tyV K "list" x H1 ∧ tr σ H1 fun xs H2 => r x xs H2 Q) : tBM K "list" r ta tr σ H Q := h
theorem w_bm0 {r : V → List V → Hp → VK → Prop} (h : ta σ H fun x H1 => tyV K "list" x H1 ∧ r x [] H1 Q) : tBM0 K "list" r ta σ H Q := h
theorem w_ty {B : Prop} (h : H p = some (.lst xs)) (q : B) : tyV K "list" (.ref p) H ∧ B := ⟨.inl ⟨rfl, xs, SqL.of h⟩, q⟩
theorem w_app (h : H p = some (.lst xs)) (n : xs.length < sizeLine) (q : Q .non (upd H p (.lst (xs ++ [v])))) : rAppend (.ref p) [v] H Q := ⟨p, xs, v, rfl, rfl, h, n, q⟩
theorem w_pop (h : H p = some (.lst xs)) (e : xs[xs.length - 1]? = some v) (q : Q v (upd H p (.lst xs.dropLast))) : rPop (.ref p) [] H Q := ⟨p, xs, v, rfl, rfl, h, e, q⟩
theorem w_popB {P : List V} (h : H p = some (.lst (P ++ [v]))) (q : Q v (upd H p (.lst P))) : rPop (.ref p) [] H Q :=
  w_pop (v := v) h (by simp) (by rw [List.dropLast_concat]; exact q)
theorem w_T {A B : Prop} {b : Bool} (e : b = true) (h : A) : if b = true then A else B := by rw [if_pos e]; exact h
theorem w_F {A B : Prop} {b : Bool} (e : b = false) (h : B) : if b = true then A else B := by rw [e]; exact iteF h
theorem w_2 {A B : Prop} {b : Bool} (h1 : b = true → A) (h2 : b = false → B) : if b = true then A else B := by
  cases b
  · exact iteF (h2 rfl)
  · exact iteT (h1 rfl)
theorem w_D {A B p : Prop} [Decidable p] (h1 : p → A) (h2 : ¬p → B) : if decide p = true then A else B := by
  by_cases h : p
  · rw [decide_eq_true h]; exact iteT (h1 h)
  · rw [decide_eq_false h]; exact iteF (h2 h)
theorem w_ND {A B p : Prop} [Decidable p] (h1 : p → B) (h2 : ¬p → A) : if (!decide p) = true then A else B := by
  by_cases h : p
  · rw [decide_eq_true h]; exact iteF (h1 h)
  · rw [decide_eq_false h]; exact iteT (h2 h)
end
end U

set_option maxHeartbeats 4000000
namespace U
open PySem PySem.Spec PyProof.Rows L2

/-! ### cells that one owns, over a heap that stands -/
abbrev Cell := Addr × HO
def ads (L : List Cell) : List Addr := L.map (·.1)
structure Own (H0 H : Hp) (L : List Cell) : Prop where
  at_ : ∀ p ∈ L, H p.1 = some p.2
  nd : (ads L).Nodup
  new : ∀ a ∈ ads L, H0 a = none
  same : Same H0 H
/-- the heap without the cells L -/
def less (H : Hp) (L : List Cell) : Hp := fun a => if a ∈ ads L then none else H a
theorem less_off {H : Hp} {L : List Cell} {a : Addr} (h : a ∉ ads L) : less H L a = H a := if_neg h
theorem less_on {H : Hp} {L : List Cell} {a : Addr} (h : a ∈ ads L) : less H L a = none := if_pos h
theorem ads_append (L R : List Cell) : ads (L ++ R) = ads L ++ ads R := List.map_append
theorem mem_ads {L : List Cell} {p : Cell} (h : p ∈ L) : p.1 ∈ ads L := List.mem_map_of_mem h
theorem Own.get {H0 H : Hp} {L : List Cell} {a : Addr} {o : HO} (w : Own H0 H L) (h : (a, o) ∈ L) : H a = some o := w.at_ _ h
theorem Own.perm {H0 H : Hp} {L L' : List Cell} (w : Own H0 H L) (p : L.Perm L') : Own H0 H L' := by
  refine ⟨fun x hx => w.at_ x (p.mem_iff.mpr hx), ?_, fun a ha => w.new a ((p.map _).mem_iff.mpr ha), w.same⟩
  exact (List.Perm.nodup_iff (p.map fun x : Cell => x.1)).mp w.nd
theorem Own.sub {H0 H : Hp} {L R : List Cell} (w : Own H0 H (L ++ R)) : Own H0 H L := by
  refine ⟨fun x hx => w.at_ x (List.mem_append_left _ hx), ?_, fun a ha => w.new a ?_, w.same⟩
  · have := w.nd
    rw [ads_append] at this
    exact (List.nodup_append.mp this).1
  · rw [ads_append]
    exact List.mem_append_left _ ha
theorem Own.nil {H0 H : Hp} (s : Same H0 H) : Own H0 H [] := ⟨fun _ h => (by cases h), List.nodup_nil, fun _ h => (by cases h), s⟩
/-- the cell at a is written -/
theorem Own.put {H0 H : Hp} {L R : List Cell} {a : Addr} {o o' : HO} (w : Own H0 H (L ++ (a, o) :: R)) : Own H0 (upd H a o') (L ++ (a, o') :: R) := by
  have e : ads (L ++ (a, o') :: R) = ads (L ++ (a, o) :: R) := by simp [ads]
  have nd : (ads (L ++ (a, o') :: R)).Nodup := by rw [e]; exact w.nd
  refine ⟨fun p hp => ?_, nd, by rw [e]; exact w.new, fun b u hb => ?_⟩
  · by_cases ha : p.1 = a
    · have hp2 : p = (a, o') := by
        rw [ads, List.map_append, List.map_cons] at nd
        rcases List.mem_append.mp hp with h | h
        · exact absurd rfl ((List.nodup_append.mp nd).2.2 p.1 (List.mem_map_of_mem h) a (by simp) |> fun z => by rw [ha] at z; exact z)
        · rcases List.mem_cons.mp h with h | h
          · exact h
          · have q := (List.nodup_cons.mp (List.nodup_append.mp nd).2.1).1
            exact absurd (show a ∈ R.map (·.1) by rw [← ha]; exact List.mem_map_of_mem (f := fun x : Cell => x.1) h) q
      rw [hp2]; exact upd_same
    · rw [upd_ne ha]
      refine w.at_ p ?_
      rcases List.mem_append.mp hp with h | h
      · exact List.mem_append_left _ h
      · rcases List.mem_cons.mp h with h | h
        · rw [h] at ha; exact absurd rfl ha
        · exact List.mem_append_right _ (List.mem_cons_of_mem _ h)
  · have hn : H0 a = none := w.new a (by simp [ads])
    rw [upd_ne (ne_of_none hb hn)]
    exact w.same b u hb
/-- something new is laid and not owned -/
theorem Own.lay {H0 H : Hp} {L : List Cell} {a : Addr} {o : HO} (w : Own H0 H L) (h : H a = none) : Own H0 (upd H a o) L := by
  refine ⟨fun p hp => ?_, w.nd, w.new, fun b u hb => ?_⟩
  · rw [upd_ne (ne_of_none (w.at_ p hp) h)]; exact w.at_ p hp
  · rw [upd_ne (ne_of_none (w.same b u hb) h)]; exact w.same b u hb
/-- something new is laid and owned -/
theorem Own.take {H0 H : Hp} {L : List Cell} {a : Addr} {o : HO} (w : Own H0 H L) (h : H a = none) : Own H0 (upd H a o) ((a, o) :: L) := by
  refine ⟨fun p hp => ?_, ?_, fun b hb => ?_, (w.lay h).same⟩
  · rcases List.mem_cons.mp hp with h1 | h1
    · rw [h1]; exact upd_same
    · exact (w.lay h).at_ p h1
  · refine List.nodup_cons.mpr ⟨fun hm => ?_, w.nd⟩
    obtain ⟨p, hp, e⟩ := List.mem_map.mp hm
    have q := w.at_ p hp
    rw [e, h] at q
    cases q
  · rcases List.mem_cons.mp hb with h1 | h1
    · rw [h1]
      cases e : H0 a with
      | none => rfl
      | some u =>
        have := w.same a u e
        rw [h] at this
        cases this
    · exact w.new b h1
/-- cells are dropped -/
theorem Own.drop {H0 H : Hp} {L R : List Cell} (w : Own H0 H (L ++ R)) : Own H0 H R := by
  have p : (L ++ R).Perm (R ++ L) := List.perm_append_comm
  exact (w.perm p).sub
/-- what stood stands below -/
theorem Own.base {H0 H : Hp} {L : List Cell} (w : Own H0 H L) : Same H0 (less H L) := fun b u hb => by
  have : b ∉ ads L := fun hm => by
    rw [w.new b hm] at hb
    cases hb
  rw [less_off this]
  exact w.same b u hb
/-- a callee's own: the cells L out of L ++ R -/
theorem Own.lend {H0 H : Hp} {L : List Cell} (w : Own H0 H L) : Own (less H L) H L := by
  refine ⟨w.at_, w.nd, fun a ha => less_on ha, fun b u hb => ?_⟩
  by_cases h : b ∈ ads L
  · rw [less_on h] at hb; cases hb
  · rw [less_off h] at hb; exact hb
/-- .. and back -/
theorem Own.back {H0 H H' : Hp} {L R L' : List Cell} (w : Own H0 H (L ++ R)) (w' : Own (less H L) H' L') : Own H0 H' (L' ++ R) := by
  have hs : Same H0 (less H L) := w.sub.base
  have nd := w.nd
  rw [ads_append] at nd
  have dis := (List.nodup_append.mp nd).2.2
  have offL : ∀ p ∈ R, p.1 ∉ ads L := fun p hp hm => dis _ hm _ (mem_ads hp) rfl
  have atR : ∀ p ∈ R, less H L p.1 = some p.2 := fun p hp => by
    rw [less_off (offL p hp)]
    exact w.at_ p (List.mem_append_right _ hp)
  refine ⟨fun p hp => ?_, ?_, fun a ha => ?_, hs.trans w'.same⟩
  · rcases List.mem_append.mp hp with h | h
    · exact w'.at_ p h
    · exact w'.same _ _ (atR p h)
  · rw [ads_append]
    refine List.nodup_append.mpr ⟨w'.nd, (List.nodup_append.mp nd).2.1, fun a ha b hb e => ?_⟩
    obtain ⟨p, hp, e2⟩ := List.mem_map.mp hb
    have q := w'.new a ha
    rw [e, ← e2, atR p hp] at q
    cases q
  · rw [ads_append] at ha
    rcases List.mem_append.mp ha with h | h
    · have q := w'.new a h
      cases e : H0 a with
      | none => rfl
      | some u =>
        rw [hs a u e] at q
        cases q
    · exact w.new a (by rw [ads_append]; exact List.mem_append_right _ h)
/-- a callee that has nothing of its own -/
theorem Own.kept {H0 H H' : Hp} {L : List Cell} (w : Own H0 H L) (s : Same H H') : Own H0 H' L :=
  ⟨fun p hp => s _ _ (w.at_ p hp), w.nd, w.new, w.same.trans s⟩
theorem same_lay {H : Hp} {p : Addr} {o : HO} (h : H p = none) : Same H (upd H p o) := fun b u e => by
  rw [upd_ne (ne_of_none e h)]
  exact e
theorem same_tup {K : PySem.W.Frag} {H H' : Hp} {a : Addr} {xs : List V} (e : Same H H') (h : SqT K H a xs) : SqT K H' a xs := by
  rcases h with (h | ⟨o, h⟩) | h
  · exact .inl (.inl (e _ _ h))
  · exact .inl (.inr ⟨o, e _ _ h⟩)
  · exact .inr h

theorem Own.set {H0 H : Hp} {L : List Cell} {a : Addr} {o : HO} (w : Own H0 H L) (i : Nat) (o' : HO) (h : L[i]? = some (a, o)) : Own H0 (upd H a o') (L.set i (a, o')) := by
  obtain ⟨hi, e⟩ := List.getElem?_eq_some_iff.mp h
  have e1 : L = L.take i ++ (a, o) :: L.drop (i + 1) := by
    rw [← e]
    rw [List.getElem_cons_drop, List.take_append_drop]
  have e2 : L.set i (a, o') = L.take i ++ (a, o') :: L.drop (i + 1) := by rw [List.set_eq_take_append_cons_drop, if_pos hi]
  rw [e2]
  rw [e1] at w
  exact w.put
theorem Own.ix {H0 H : Hp} {L : List Cell} {a : Addr} {o : HO} (w : Own H0 H L) (i : Nat) (h : L[i]? = some (a, o)) : H a = some o := w.get (List.mem_of_getElem? h)
theorem Own.slist {H0 H : Hp} {L L' : List Cell} (w : Own H0 H L) (s : L'.Sublist L) : Own H0 H L' :=
  ⟨fun p hp => w.at_ p (s.subset hp), List.Nodup.sublist (s.map fun x : Cell => x.1) w.nd, fun a ha => w.new a ((s.map fun x : Cell => x.1).subset ha), w.same⟩
/-- the cell at place i is given up -/
theorem Own.del {H0 H : Hp} {L : List Cell} (w : Own H0 H L) (i : Nat) : Own H0 H (L.eraseIdx i) := w.slist (List.eraseIdx_sublist ..)
/-- the first cell takes the i-th one's place -/
theorem Own.repl {H0 H : Hp} {L : List Cell} {c : Cell} (w : Own H0 H (c :: L)) (i : Nat) (hi : i < L.length) : Own H0 H (L.set i c) := by
  have e1 : L = L.take i ++ L[i] :: L.drop (i + 1) := by rw [List.getElem_cons_drop, List.take_append_drop]
  have e2 : L.set i c = L.take i ++ c :: L.drop (i + 1) := by rw [List.set_eq_take_append_cons_drop, if_pos hi]
  have p : (c :: L).Perm (L[i] :: L.set i c) := by
    rw [e2]
    refine List.Perm.trans (l₂ := c :: L[i] :: (L.take i ++ L.drop (i + 1))) (.cons _ ?_) ((List.Perm.swap _ _ _).trans (.cons _ List.perm_middle.symm))
    exact List.Perm.trans (List.Perm.of_eq e1) List.perm_middle
  exact (w.perm p).slist (List.sublist_cons_self ..)
theorem Own.lend1 {H0 H : Hp} {c : Cell} {L : List Cell} (w : Own H0 H (c :: L)) : Own (less H [c]) H [c] := (Own.sub (L := [c]) w).lend
/-- three new ones go behind the three ahead -/
theorem Own.rot3 {H0 H : Hp} {a b c x y z : Cell} {L : List Cell} (w : Own H0 H (a :: b :: c :: x :: y :: z :: L)) : Own H0 H (x :: y :: z :: a :: b :: c :: L) := by
  refine w.perm ?_
  have p : ([a, b, c] ++ [x, y, z] : List Cell).Perm ([x, y, z] ++ [a, b, c]) := List.perm_append_comm
  exact p.append_right L
theorem w_make {σ : L2.St} {H : Hp} {C : Addr} {sp : Sp} {E : XK} {tr : TA} {Q : VK} (h : tr σ H fun vs H1 => ∀ x dx, H1 x = none → H1 dx = none → dx ≠ x →
    sp (.ref x :: (vs ++ [])) (upd (upd H1 dx (.own x)) x (.ins C dx [])) (fun v H2 => v = .non ∧ Q (.ref x) H2) E) : tMake C sp [] E tr σ H Q := h
theorem w_inT {K : PySem.W.Frag} {H : Hp} {Q : VK} {x : V} {p : Addr} {xs : List V} (h : SqT K H p xs) (hx : flatV x = true) (ha : xs.all flatV = true) (q : Q (.bl (inV x xs)) H) : rIn K false x (.ref p) H Q :=
  ⟨p, xs, rfl, .inr h, hx, ha, q⟩
theorem w_gsub {σ : L2.St} {H : Hp} {v : V} {to ti : TE} {r : TSet} {QS : L2.St → Hp → Prop} (h : to σ H fun o H1 => ti σ H1 fun i H2 => r o i v H2 fun H3 => QS σ H3) : gSub to ti r v σ H QS := h
theorem w_setL {H : Hp} {p : Addr} {xs : List V} {k : Int} {v : V} {Q : Hp → Prop} (h : H p = some (.lst xs)) (h0 : 0 ≤ k) (h1 : k < xs.length) (q : Q (upd H p (.lst (xs.set k.toNat v)))) : rSetL (.ref p) (.int k) v H Q := by
  refine ⟨p, xs, k, k.toNat, rfl, rfl, h, ?_, q⟩
  unfold ixN
  rw [if_pos h0, if_pos h1]
theorem len_ok {n : Nat} (h : n ≤ 100) : n ≤ sizeLine := Nat.le_trans h (by rw [sizeLine_eq]; decide)
theorem w_new {xs : List V} {B : Prop} (h : xs.length ≤ 100) (q : B) : xs.length ≤ sizeLine ∧ B := ⟨len_ok h, q⟩
/-- x in a written tuple -/
theorem w_memb {K : PySem.W.Frag} {σ : L2.St} {H : Hp} {k : Nat} {x : V} {xs : List V} {ta : TA} {QT : Bool → Hp → Prop} (hv : σ[k]? = some (some x)) (ht : ∀ (H : Hp) (QA : List V → Hp → Prop), QA xs H → ta σ H QA)
    (hx : flatV x = true) (ha : xs.all flatV = true) (hl : xs.length ≤ sizeLine) (q : ∀ p, H p = none → QT (inV x xs) (upd H p (.tup xs))) : tTest (tOp (rIn K false) (tVar k) (tTup ta)) σ H QT := by
  refine ⟨x, hv, ht _ _ ⟨hl, fun p hp => ⟨p, xs, rfl, .inr (SqT.of upd_same), hx, ha, inV x xs, rfl, q p hp⟩⟩⟩

theorem w_cat {H : Hp} {Q : VK} {l p : Addr} {xs ys : List V} (h : H l = some (.lst xs)) (h' : H p = some (.lst ys)) (n : xs.length + ys.length ≤ sizeLine)
    (q : ∀ r, H r = none → Q (.ref r) (upd H r (.lst (xs ++ ys)))) : rCat (.ref l) (.ref p) H Q := ⟨l, p, xs, ys, rfl, rfl, h, h', n, q⟩
theorem flat_rep (v : V) : ∀ n : Nat, (List.replicate n [v]).flatten = List.replicate n v
  | 0 => rfl
  | n + 1 => by rw [List.replicate_succ, List.flatten_cons, flat_rep v n]; rfl
theorem w_rep1 {H : Hp} {Q : VK} {l : Addr} {v : V} {k : Int} (h : H l = some (.lst [v])) (h0 : -1000 ≤ k) (h1 : k < 16000000)
    (q : ∀ r, H r = none → Q (.ref r) (upd H r (.lst (List.replicate k.toNat v)))) : rRep (.ref l) (.int k) H Q := by
  refine ⟨l, k, [v], rfl, rfl, h, by omega, by omega, ?_, fun p hp => ?_⟩
  · rw [sizeLine_eq]
    show 1 * k.toNat ≤ _
    omega
  · rw [flat_rep]
    exact q p hp

/-! ### places in lists -/
theorem atI_ok {α : Type} {xs : List α} {i : Int} {v : α} (h0 : 0 ≤ i) (h : xs[i.toNat]? = some v) : atI xs i = some v := by
  have e : i = ((i.toNat : Nat) : Int) := by omega
  rw [e]
  exact atI_nat h
theorem atI_end {α : Type} {xs : List α} {v : α} {n : Int} (h : n = ((xs ++ [v]).length : Int) - 1) : atI (xs ++ [v]) n = some v := by
  have e : n = ((xs.length : Nat) : Int) := by
    rw [List.length_append] at h
    simp at h
    omega
  rw [e]
  exact atI_nat (by simp)
end U

set_option maxHeartbeats 4000000
namespace U
open PySem PySem.Spec PyProof.Rows L2
section
variable {K : PySem.W.Frag} {σ : L2.St} {H : Hp} {Q : VK} {D : Ends} {ta tb te tv : TE} {v x y : V} {i j : Int} {k : Nat} {a p l C dx : Addr} {xs ys : List V} {QO : Option Int → Hp → Prop} {tr : TA} {R : It → Hp → Prop} {lo hi : Option Int}
theorem w_lc {wi : TI} {g : TG} {tt : TT} {n : List Nat} (h : wi σ H fun J H1 => ∀ D, H1 D = none → ∃ W : Nat → Nat → Hp → Prop, (∃ m, W 0 m (upd H1 D (.lst []))) ∧ ∀ i m H, W i m H →
    (J.stop i H ∧ Q (.ref D) H) ∨ (J.go i H ∧ ∃ Nx : Hp → Prop, (∀ H', Nx H' → ∃ m', m' < m ∧ W (i + 1) m' H') ∧ ∀ x H', J.yld i H x H' → g x (wipe σ n) H' fun σ2 H2 => wipe σ2 n = wipe σ n ∧ tt σ2 H2 fun b H3 =>
    if b = true then te σ2 H3 fun y H4 => ∃ acc, H4 D = some (.lst acc) ∧ acc.length < sizeLine ∧ Nx (upd H4 D (.lst (acc ++ [y]))) else Nx H3)) : tLc wi g tt te n σ H Q := h
theorem w_for {wi : TI} {g : TG} {tb : TS} (h : wi σ H fun J H1 => ∃ W : Nat → Nat → L2.St → Hp → Prop, (∃ m, W 0 m σ H1) ∧ ∀ i m σ H, W i m σ H →
    (J.stop i H ∧ D.nx σ H) ∨ (J.go i H ∧ ∃ N : L2.St → Hp → Prop, (∀ σ' H', N σ' H' → ∃ m', m' < m ∧ W (i + 1) m' σ' H') ∧ ∀ x H', J.yld i H x H' → g x σ H' fun σ2 H2 => tb { D with nx := N, ct := N, bk := D.nx } σ2 H2)) : tFor wi g tb D σ H := h
theorem w_yes {QT : Bool → Hp → Prop} (h : QT true H) : tYes σ H QT := h
theorem w_iList (h : te σ H fun x H1 => ∃ a, x = .ref a ∧ (∃ xs, SqL K H1 a xs) ∧ R (Itl K a) H1) : iList K te σ H R := h
theorem w_refL {P : Addr → Prop} (h : SqL K H a xs) (q : P a) : ∃ a', V.ref a = .ref a' ∧ (∃ xs, SqL K H a' xs) ∧ P a' := ⟨a, rfl, ⟨xs, h⟩, q⟩
theorem w_tSl {r : V → Option Int → Option Int → Hp → VK → Prop} {tl th : TO} (h : te σ H fun x H1 => tl σ H1 fun l H2 => th σ H2 fun u H3 => r x l u H3 Q) : tSl r te tl th σ H Q := h
theorem w_part (h : te σ H fun x H1 => ∃ i, x = .int i ∧ QO (some i) H1) : tPart te σ H QO := h
theorem w_nopart (h : QO none H) : tNoPart σ H QO := h
theorem w_i {P : Int → Prop} (h : P i) : ∃ j, V.int i = .int j ∧ P j := ⟨i, rfl, h⟩
theorem w_slL (h : SqL K H a xs) (q : ∀ p, H p = none → Q (.ref p) (upd H p (.lst (cutV xs lo hi)))) : rSlL K (.ref a) lo hi H Q := ⟨a, xs, rfl, h, q⟩
theorem w_rng1 (h : tr σ H fun vs H1 => ∃ j : Int, vs = [.int j] ∧ -(2 ^ 62) ≤ j ∧ j < 2 ^ 62 ∧ R (Itr 0 j.toNat) H1) : iRng1 tr σ H R := h
theorem w_rng2 (h : tr σ H fun vs H1 => ∃ i j : Int, vs = [.int i, .int j] ∧ (-(2 ^ 62) ≤ i ∧ i < 2 ^ 62 ∧ -(2 ^ 62) ≤ j ∧ j < 2 ^ 62) ∧ R (Itr i (j - i).toNat) H1) : iRng2 tr σ H R := h
theorem w_r1 {P : Int → Prop} (h0 : -1000000 ≤ i) (h1 : i < 100000000) (q : P i) : ∃ j : Int, [V.int i] = [.int j] ∧ -(2 ^ 62) ≤ j ∧ j < 2 ^ 62 ∧ P j := ⟨i, rfl, by omega, by omega, q⟩
theorem w_listQ (h : SqL K H p xs) (q : ∀ l, H l = none → Q (.ref l) (upd H l (.lst xs))) : rListQ K [.ref p] H Q := ⟨p, xs, rfl, .inl h, q⟩
theorem w_isiII (q : Q (.bl true) H) : rIsi K [.int i, .ty "int"] H Q := ⟨_, _, _, _, true, rfl, .ty _, .base (.int i), kit_ty (by decide +kernel), q⟩
theorem w_isiIB (q : Q (.bl false) H) : rIsi K [.int i, .ty "bool"] H Q := ⟨_, _, _, _, false, rfl, .ty _, .base (.int i), kit_ty (by decide +kernel), q⟩
theorem w_isiTT (h : H a = some (.tup xs)) (q : Q (.bl true) H) : rIsi K [.ref a, .ty "tuple"] H Q := ⟨_, _, _, _, true, rfl, .ty _, .base (.tup h), kit_ty (by decide +kernel), q⟩
theorem w_isiLL (h : H a = some (.lst xs)) (q : Q (.bl true) H) : rIsi K [.ref a, .ty "list"] H Q := ⟨_, _, _, _, true, rfl, .ty _, .base (.lst h), kit_ty (by decide +kernel), q⟩
theorem w_isiSS {s : Str} (q : Q (.bl true) H) : rIsi K [.str s, .ty "str"] H Q := ⟨_, _, _, _, true, rfl, .ty _, .base (.str s), kit_ty (by decide +kernel), q⟩
theorem w_neD {d e : PyData} (h1 : Dp K H x d) (h2 : Dp K H y e) (s1 : SeqAt.shaped d = true) (s2 : SeqAt.shaped e = true) (q : Q (.bl (!PyData.eqv d e)) H) : rNeD K x y H Q := ⟨d, e, h1, h2, s1, s2, q⟩
theorem w_eqD {d e : PyData} (h1 : Dp K H x d) (h2 : Dp K H y e) (s1 : SeqAt.shaped d = true) (s2 : SeqAt.shaped e = true) (q : Q (.bl (PyData.eqv d e)) H) : rEqD K x y H Q := ⟨d, e, h1, h2, s1, s2, q⟩
theorem w_orV1 {A B : Prop} {b : Bool} (h1 : b = true → A) (h2 : b = false → B) : ∃ c, V.bl b = .bl c ∧ if c = true then A else B := ⟨b, rfl, w_2 h1 h2⟩
theorem w_fdC' (h0 : 0 < j) (h1 : j < 1073741824) (q : Q (.int (i / j)) H) : rFdC (.int i) (.int j) H Q := w_fdC ⟨h0, h1⟩ q
theorem w_mulR (h0 : -(2 ^ 64) < j) (h1 : j < 2 ^ 64) (q : Q (.int (i * j)) H) : rMulI (.int i) (.int j) H Q := w_mul (.inr ⟨h0, h1⟩) q
theorem w_mulL (h0 : -(2 ^ 64) < i) (h1 : i < 2 ^ 64) (q : Q (.int (i * j)) H) : rMulI (.int i) (.int j) H Q := w_mul (.inl ⟨h0, h1⟩) q
theorem w_pow' (h0 : 0 ≤ j) (h1 : j ≤ 1000000) (h2 : i.natAbs < 2 ^ 64) (q : Q (.int (i ^ j.toNat)) H) : rPowI (.int i) (.int j) H Q := w_pow ⟨h0, h1, h2⟩ q
end
/-- a tuple stands while a list is written -/
theorem tup_put {K : PySem.W.Frag} {H : Hp} {D a : Addr} {ys xs : List V} {o : HO} (hD : H D = some (.lst ys)) (h : SqT K H a xs) : SqT K (upd H D o) a xs := by
  rcases h with (h | ⟨ob, h⟩) | h
  · exact .inl (.inl (by rw [upd_ne (ne_of h hD (by intro z; cases z))]; exact h))
  · exact .inl (.inr ⟨ob, by rw [upd_ne (ne_of h hD (by intro z; cases z))]; exact h⟩)
  · exact .inr h
theorem cut_from (xs : List V) (k : Nat) : cutV xs (some (k : Int)) none = xs.drop k := by
  unfold cutV
  rw [HT.sIx_nat, HT.sIx_none, List.take_of_length_le (by rw [List.length_drop]; omega)]
  by_cases h : k ≤ xs.length
  · rw [Nat.min_eq_left h]
  · rw [Nat.min_eq_right (by omega), List.drop_eq_nil_of_le (Nat.le_refl _), List.drop_eq_nil_of_le (by omega)]
theorem cut_to (xs : List V) (k : Nat) : cutV xs none (some (k : Int)) = xs.take k := by
  unfold cutV
  rw [HT.sIx_nat, HT.sIx_none, List.drop_zero, Nat.sub_zero]
  by_cases h : k ≤ xs.length
  · rw [Nat.min_eq_left h]
  · rw [Nat.min_eq_right (by omega), List.take_of_length_le (Nat.le_refl _), List.take_of_length_le (by omega)]
theorem w_cut {t u : TS} {D : Ends} {σ : L2.St} {H : Hp} (P : L2.St → Hp → Prop) (key : ∀ σ' H', P σ' H' → u D σ' H') (main : ∀ N : L2.St → Hp → Prop, (∀ σ' H', P σ' H' → N σ' H') → t { D with nx := N } σ H) : tSeq t u D σ H := main _ key
theorem pick2 (x : Int) (u v : V) : atI [u, v] (x % 2) = some (if x % 2 = 0 then u else v) := by
  rcases (by omega : x % 2 = 0 ∨ x % 2 = 1) with h | h <;> rw [h] <;> rfl
theorem same_sym {H H' : Hp} {p : Addr} (s : Same H H') (h : H' p = none) : H p = none := Same.free s h
/-- the law's own promise -/
def spLaw (K : PySem.W.Frag) : Sp := fun vs H Q _ => ∃ (a : Addr) (ns : List Int), vs = [.ref a] ∧ SqL K H a (ns.map V.int) ∧ ns.length ≤ 63 ∧ ∀ H', Q (.bl true) H'
inductive All2 {α β : Type} (R : α → β → Prop) : List α → List β → Prop
  | nil : All2 R [] []
  | cons {a b as bs} : R a b → All2 R as bs → All2 R (a :: as) (b :: bs)
theorem All2.len {α β : Type} {R : α → β → Prop} {as : List α} {bs : List β} (h : All2 R as bs) : as.length = bs.length := by
  induction h with
  | nil => rfl
  | cons _ _ ih => simp [ih]
theorem All2.get {α β : Type} {R : α → β → Prop} {as : List α} {bs : List β} (h : All2 R as bs) : ∀ {i : Nat} {b : β}, bs[i]? = some b → ∃ a, as[i]? = some a ∧ R a b := by
  induction h with
  | nil => intro i b e; simp at e
  | cons r _ ih =>
    intro i b e
    cases i with
    | zero =>
      simp at e
      exact ⟨_, rfl, e ▸ r⟩
    | succ i =>
      obtain ⟨a, h1, h2⟩ := ih (i := i) (b := b) (by simpa using e)
      exact ⟨a, by simpa using h1, h2⟩
theorem All2.mono {α β : Type} {R R' : α → β → Prop} (f : ∀ a b, R a b → R' a b) {as : List α} {bs : List β} (h : All2 R as bs) : All2 R' as bs := by
  induction h with
  | nil => exact .nil
  | cons r _ ih => exact .cons (f _ _ r) ih
theorem All2.app {α β : Type} {R : α → β → Prop} {as as' : List α} {bs bs' : List β} (h : All2 R as bs) (h' : All2 R as' bs') : All2 R (as ++ as') (bs ++ bs') := by
  induction h with
  | nil => exact h'
  | cons r _ ih => exact .cons r ih
theorem All2.snoc {α β : Type} {R : α → β → Prop} {as : List α} {bs : List β} {a : α} {b : β} (h : All2 R as bs) (r : R a b) : All2 R (as ++ [a]) (bs ++ [b]) := h.app (.cons r .nil)
theorem All2.drop {α β : Type} {R : α → β → Prop} {as : List α} {bs : List β} (h : All2 R as bs) : ∀ (i : Nat) {a : α}, as[i]? = some a → ∃ b, R a b ∧ bs.drop i = b :: bs.drop (i + 1) := by
  induction h with
  | nil => intro i a e; simp at e
  | cons r _ ih =>
    intro i a e
    cases i with
    | zero =>
      simp at e
      exact ⟨_, e ▸ r, rfl⟩
    | succ i =>
      obtain ⟨b, h1, h2⟩ := ih i (a := a) (by simpa using e)
      exact ⟨b, h1, by simpa using h2⟩
theorem take_map_snoc {α β : Type} (f : α → β) {xs : List α} {i : Nat} {x : α} (h : xs[i]? = some x) : (xs.take (i + 1)).map f = (xs.take i).map f ++ [f x] := by
  rw [List.take_add_one, h, List.map_append]
  rfl
end U

namespace U
open PySem PySem.Spec PyProof.Rows L2
/-! readings of the defs -/
def t_l_whole (K : PySem.W.Frag) : TS :=
  (tRet (tAndV (tCB (rIsi K) (tCons (tVar 0) (tCons (tC (.ty "int")) tNil))) (tNotV (tCB (rIsi K) (tCons (tVar 0) (tCons (tC (.ty "bool")) tNil))))))
def n_l_whole : List Str := ["_law_found"]
def t_l_cell_at (K : PySem.W.Frag) : TS :=
  (tSeq (tIfS (tTest (tOp rLtI (tVar 1) (tCB (rLenQ K) (tCons (tVar 0) tNil)))) (tRet (tOp (rIxL K) (tVar 0) (tVar 1))) tNext)
    (tRet (tC (.int 0))))
def n_l_cell_at : List Str := ["_law_script", "_law_k"]
def t_l_number (K : PySem.W.Frag) : TS :=
  (tSeq (tIfS (tTest (tOp rEq (tOp rModP (tVar 0) (tC (.int 5))) (tC (.int 4)))) (tRet (tOp rSubI (tOp rModP (tOp rFdC (tVar 0) (tC (.int 5))) (tOp rPowI (tC (.int 10)) (tC (.int 30)))) (tOp rMulI (tC (.int 5)) (tOp rPowI (tC (.int 10)) (tC (.int 29)))))) tNext)
    (tRet (tOp rSubI (tOp rModP (tOp rFdC (tVar 0) (tC (.int 5))) (tC (.int 8))) (tC (.int 2)))))
def n_l_number : List Str := ["_law_cell"]
end U

set_option maxHeartbeats 4000000
namespace U
open PySem PySem.Spec PyProof.Rows L2
local macro_rules | `(tactic| walk_at "w1") => `(tactic| first
  | with_reducible refine w_seq ?_
  | with_reducible refine w_asg ?_
  | with_reducible refine w_op ?_
  | ((with_reducible refine' w_var ?h1 ?_); (case h1 => rfl))
  | with_reducible refine w_c ?_
  | with_reducible refine w_name ?_
  | with_reducible refine w_tFd ?_
  | ((with_reducible refine' w_fld ?h1 ?h2 ?_); (case h1 => assumption); (case h2 => rfl))
  | with_reducible refine w_if ?_
  | with_reducible refine w_test ?_
  | with_reducible refine w_eqS ?_
  | with_reducible refine w_eqI ?_
  | with_reducible refine w_neS ?_
  | with_reducible refine w_neI ?_
  | with_reducible refine w_isN ?_
  | with_reducible refine w_isnN ?_
  | with_reducible refine w_bl ?_
  | with_reducible refine w_ret ?_
  | with_reducible refine w_drop ?_
  | with_reducible refine w_next ?_
  | with_reducible refine w_cons ?_
  | with_reducible refine w_nil ?_
  | with_reducible refine w_call ?_
  | with_reducible refine w_cb ?_
  | with_reducible refine w_meth ?_
  | ((with_reducible refine' w_recv ?h1 ?h2 ?_); (case h1 => assumption); (case h2 => rfl))
  | with_reducible refine w_sFd ?_
  | ((with_reducible refine' w_put ?h1 ?h2 ?_); (case h1 => assumption); (case h2 => exact Nat.le_of_ble_eq_true rfl))
  | with_reducible refine w_add ?_
  | with_reducible refine w_sub ?_
  | with_reducible refine w_lt ?_
  | with_reducible refine w_le ?_
  | with_reducible refine w_gt ?_
  | with_reducible refine w_ge ?_
  | with_reducible refine w_bm ?_
  | with_reducible refine w_bm0 ?_
  | ((with_reducible refine' w_ty ?h1 ?_); (case h1 => assumption))
  | with_reducible refine w_tup ?_
  | with_reducible refine w_lst ?_
  | ((with_reducible refine' w_new ?h1 ?_); (case h1 => exact Nat.le_of_ble_eq_true rfl))
  | with_reducible refine w_gsub ?_
  | with_reducible refine w_make ?_
  | with_reducible refine w_lc ?_
  | with_reducible refine w_iList ?_
  | with_reducible refine w_for ?_
  | with_reducible refine w_yes ?_
  | with_reducible refine w_tSl ?_
  | with_reducible refine w_part ?_
  | with_reducible refine w_nopart ?_
  | with_reducible refine w_i ?_
  | with_reducible refine w_rng1 ?_
  | with_reducible refine w_rng2 ?_
  | with_reducible refine w_isiII ?_
  | with_reducible refine w_isiIB ?_
  | with_reducible refine w_isiSS ?_
  | ((with_reducible refine w_mod ?h1 ?_); (case h1 => decide))
  | ((with_reducible refine w_fdC' ?h1 ?h2 ?_); (case h1 => decide); (case h2 => decide))
  | ((with_reducible refine w_mulR ?h1 ?h2 ?_); (case h1 => decide); (case h2 => decide))
  | ((with_reducible refine w_mulL ?h1 ?h2 ?_); (case h1 => decide); (case h2 => decide))
  | ((with_reducible refine w_pow' ?h1 ?h2 ?h3 ?_); (case h1 => decide); (case h2 => decide); (case h3 => decide))
  | with_reducible refine w_andV ?_
  | with_reducible refine w_orV ?_
  | with_reducible refine w_notV ?_
  | with_reducible refine w_B ?_
  | with_reducible refine w_not ?_
  | with_reducible refine w_and ?_
  | with_reducible refine w_or ?_
  | with_reducible refine w_ifx ?_
  | with_reducible refine w_un ?_
  | ((with_reducible refine w_T ?h1 ?_); (case h1 => with_reducible rfl))
  | ((with_reducible refine w_F ?h1 ?_); (case h1 => with_reducible rfl))
  | ((with_reducible refine w_T ?h1 ?_); (case h1 => decide +kernel))
  | ((with_reducible refine w_F ?h1 ?_); (case h1 => decide +kernel)))
local macro_rules | `(tactic| walk_at "w") => `(tactic| repeat walk_at "w1")

/-! ### the cell of a script, a whole number, a drawn number -/
def cellAt (ns : List Int) (k : Int) : Int := ns.getD k.toNat 0
def sp_l_cell_at (K : PySem.W.Frag) : Sp := fun vs H Q _ => ∃ a ns k, vs = [.ref a, .int k] ∧ SqL K H a (ns.map V.int) ∧ 0 ≤ k ∧ Q (.int (cellAt ns k)) H
theorem p_l_cell_at {K : PySem.W.Frag} (vs : List V) (H : Hp) (Q : VK) (E : XK) (h : sp_l_cell_at K vs H Q E) : t_l_cell_at K { nx := fun _ H' => Q .non H', rt := Q } (L2.start n_l_cell_at vs) H := by
  obtain ⟨a, ns, k, rfl, hS, h0, q⟩ := h
  unfold t_l_cell_at
  walk_at "w"
  refine w_lenL hS ?_
  walk_at "w"
  refine w_D (fun c => ?_) (fun c => ?_) <;> rw [List.length_map] at c
  · walk_at "w"
    refine w_ixL (v := .int (cellAt ns k)) hS (atI_ok h0 ?_) ?_
    · rw [List.getElem?_map, cellAt, List.getD_eq_getElem?_getD, List.getElem?_eq_getElem (by omega)]
      rfl
    · exact q
  · walk_at "w"
    have e : cellAt ns k = 0 := by
      rw [cellAt, List.getD_eq_getElem?_getD, List.getElem?_eq_none (by omega)]
      rfl
    rw [e] at q
    exact q
def sp_l_whole (K : PySem.W.Frag) : Sp := fun vs H Q _ => ∃ i, vs = [.int i] ∧ Q (.bl true) H
theorem p_l_whole {K : PySem.W.Frag} (vs : List V) (H : Hp) (Q : VK) (E : XK) (h : sp_l_whole K vs H Q E) : t_l_whole K { nx := fun _ H' => Q .non H', rt := Q } (L2.start n_l_whole vs) H := by
  obtain ⟨i, rfl, q⟩ := h
  unfold t_l_whole
  walk_at "w"
  exact q
def numberOf (c : Int) : Int := if c % 5 = 4 then c / 5 % 1000000000000000000000000000000 - 500000000000000000000000000000 else c / 5 % 8 - 2
def sp_l_number (K : PySem.W.Frag) : Sp := fun vs H Q _ => ∃ c, vs = [.int c] ∧ Q (.int (numberOf c)) H
theorem p_l_number {K : PySem.W.Frag} (vs : List V) (H : Hp) (Q : VK) (E : XK) (h : sp_l_number K vs H Q E) : t_l_number K { nx := fun _ H' => Q .non H', rt := Q } (L2.start n_l_number vs) H := by
  obtain ⟨c, rfl, q⟩ := h
  unfold t_l_number
  walk_at "w"
  refine w_D (fun h => ?_) (fun h => ?_)
  · walk_at "w"
    rw [numberOf, if_pos h] at q
    exact q
  · walk_at "w"
    rw [numberOf, if_neg h] at q
    exact q
/-- [x for x in found if not whole(x)] is empty -/
theorem w_nowhole {K : PySem.W.Frag} {σ : L2.St} {H : Hp} {s : Addr} {ns : List Int} {k : Nat} {Q : Addr → Hp → Prop} (hS : SqL K H s (ns.map V.int)) (hk : k < σ.length) (q : ∀ D, H D = none → Q D (upd H D (.lst []))) :
    ∀ D, H D = none → ∃ W : Nat → Nat → Hp → Prop, (∃ m, W 0 m (upd H D (.lst []))) ∧ ∀ i m H, W i m H →
      ((Itl K s).stop i H ∧ Q D H) ∨ ((Itl K s).go i H ∧ ∃ Nx : Hp → Prop, (∀ H', Nx H' → ∃ m', m' < m ∧ W (i + 1) m' H') ∧ ∀ x H', (Itl K s).yld i H x H' → gName k x (wipe σ [k]) H' fun σ2 H2 => wipe σ2 [k] = wipe σ [k] ∧
        tNot (tB (tCall (sp_l_whole K) [] E0 (tCons (tVar k) tNil))) σ2 H2 fun b H3 => if b = true then tVar k σ2 H3 fun y H4 => ∃ acc, H4 D = some (.lst acc) ∧ acc.length < sizeLine ∧ Nx (upd H4 D (.lst (acc ++ [y]))) else Nx H3) := by
  intro D hD
  refine lc_list (xs := ns.map V.int) (fun i H' => H' = upd H D (.lst [])) rfl (fun i H' _ e => e ▸ (same_lay hD).seq hS) ?_ (fun H' e => e ▸ q D hD)
  rintro i x H' hx rfl
  rw [List.getElem?_map] at hx
  cases hz : ns[i]? with
  | none => rw [hz] at hx; cases hx
  | some z =>
  rw [hz] at hx
  cases hx
  refine ⟨?_, ?_⟩
  · simp only [wipe, List.set_set]
  · walk_at "w"
    refine w_var (v := .int z) ?_ ?_
    · simp [wipe, hk]
    walk_at "w"
    refine ⟨z, rfl, ?_⟩
    walk_at "w"
    rfl
theorem dp_ints {K : PySem.W.Frag} {H : Hp} : ∀ ns : List Int, DpAll K H (ns.map V.int) (ns.map PyData.int)
  | [] => .nil
  | n :: ns => .cons (.int n) (dp_ints ns)
theorem lay_ints : ∀ ns : List Int, PyData.canLayAll0 (ns.map PyData.int) = true ∧ PyData.depthAll (ns.map PyData.int) = 0
  | [] => ⟨rfl, rfl⟩
  | n :: ns => by
    have ih := lay_ints ns
    exact ⟨by simp [PyData.canLayAll0, PyData.canLay0, ih.1], by simp [PyData.depthAll, PyData.depth, ih.2]⟩
theorem shaped_of {d : PyData} (h : d.canLay0 = true) (hd : d.depth ≤ 64) : SeqAt.shaped d = true := by
  unfold SeqAt.shaped
  rw [Bool.and_eq_true]
  exact ⟨h, decide_eq_true hd⟩
theorem shaped_ints (ns : List Int) : SeqAt.shaped (.list (ns.map PyData.int)) = true := by
  have h := lay_ints ns
  exact shaped_of (by simp [PyData.canLay0, h.1]) (by simp [PyData.depth, h.2])
theorem eqv_self {d : PyData} (h : SeqAt.shaped d = true) : PyData.eqv d d = true := SeqAt.eqv_refl _ (SeqAt.canLay_of_shaped h)
/-- the same data twice -/
theorem w_neSame {K : PySem.W.Frag} {H : Hp} {Q : VK} {x y : V} {d : PyData} (h1 : Dp K H x d) (h2 : Dp K H y d) (s : SeqAt.shaped d = true) (q : Q (.bl false) H) : rNeD K x y H Q := by
  refine w_neD h1 h2 s s ?_
  rw [eqv_self s]
  exact q
theorem w_eqSame {K : PySem.W.Frag} {H : Hp} {Q : VK} {x y : V} {d : PyData} (h1 : Dp K H x d) (h2 : Dp K H y d) (s : SeqAt.shaped d = true) (q : Q (.bl true) H) : rEqD K x y H Q := by
  refine w_eqD h1 h2 s s ?_
  rw [eqv_self s]
  exact q
end U

set_option maxHeartbeats 4000000
namespace U
open PySem PySem.Spec PyProof.Rows L2
/-! ### tuple(..), isinstance by what stands -/
def rTupQ (K : PySem.W.Frag) : List V → Hp → VK → Prop := fun xs H Q => ∃ p ys, xs = [.ref p] ∧ ((SqL K H p ys ∧ ∀ l, H l = none → Q (.ref l) (upd H l (.tup ys))) ∨ (SqT K H p ys ∧ Q (.ref p) H))
theorem call_tupQ {X : Cx} : CallR X (.type "tuple") (rTupQ X.K) := call_tuple_of
section
variable {K : PySem.W.Frag} {H : Hp} {Q : VK} {a : Addr} {xs : List V} {b : Bool}
theorem w_tupQ {p : Addr} (h : SqL K H p xs) (q : ∀ l, H l = none → Q (.ref l) (upd H l (.tup xs))) : rTupQ K [.ref p] H Q := ⟨p, xs, rfl, .inl ⟨h, q⟩⟩
theorem tyT (h : SqT K H a xs) : TyX K H (.ref a) (.type "tuple") := by
  rcases h with (h | ⟨o, h⟩) | ⟨o, _, _, h, c, _⟩
  · exact .base (.tup h)
  · exact .fTuple h
  · exact .kTuple h c
theorem tyL (h : SqL K H a xs) : TyX K H (.ref a) (.type "list") := by
  rcases h with (h | ⟨o, h⟩) | ⟨o, _, _, h, c, _⟩
  · exact .base (.lst h)
  · exact .base (.frz h)
  · exact .kList h c
theorem w_isi {x : V} {t : Value} {s : String} (ty : TyX K H x t) (e : PySem.W.kitOne K t (.type s) = some b) (q : Q (.bl b) H) : rIsi K [x, .ty s] H Q := ⟨_, _, _, _, b, rfl, .ty _, ty, e, q⟩
theorem w_iTT (h : SqT K H a xs) (q : Q (.bl true) H) : rIsi K [.ref a, .ty "tuple"] H Q := w_isi (tyT h) (kit_ty (by decide +kernel)) q
theorem w_iTL (h : SqT K H a xs) (q : Q (.bl false) H) : rIsi K [.ref a, .ty "list"] H Q := w_isi (tyT h) (kit_ty (by decide +kernel)) q
theorem w_iLL (h : SqL K H a xs) (q : Q (.bl true) H) : rIsi K [.ref a, .ty "list"] H Q := w_isi (tyL h) (kit_ty (by decide +kernel)) q
theorem w_iLT (h : SqL K H a xs) (q : Q (.bl false) H) : rIsi K [.ref a, .ty "tuple"] H Q := w_isi (tyL h) (kit_ty (by decide +kernel)) q
/-- a number, a text, None -/
def Flat (x : V) : Prop := (∃ i, x = .int i) ∨ (∃ s, x = .str s) ∨ x = .non
theorem w_iF {x : V} {s : String} (h : Flat x) (hs : s = "tuple" ∨ s = "list") (q : Q (.bl false) H) : rIsi K [x, .ty s] H Q := by
  rcases h with ⟨i, rfl⟩ | ⟨y, rfl⟩ | rfl <;> rcases hs with rfl | rfl
  · exact w_isi (.base (.int i)) (kit_ty (by decide +kernel)) q
  · exact w_isi (.base (.int i)) (kit_ty (by decide +kernel)) q
  · exact w_isi (.base (.str y)) (kit_ty (by decide +kernel)) q
  · exact w_isi (.base (.str y)) (kit_ty (by decide +kernel)) q
  · exact w_isi (.base .non) (kit_ty (by decide +kernel)) q
  · exact w_isi (.base .non) (kit_ty (by decide +kernel)) q
end
end U

set_option maxHeartbeats 4000000
namespace U
open PySem PySem.Spec PyProof.Rows L2
/-! ### a list's slice with a step -/
def pickIx (lo hi st : Option Int) (n : Nat) : List Nat := sliceRange (sliceBounds lo hi st n).1 (sliceBounds lo hi st n).2.1 (sliceBounds lo hi st n).2.2
def stepV (xs : List V) (lo hi st : Option Int) : List V := (pickIx lo hi st xs.length).filterMap (xs[·]?)
theorem vals_pick {xs : List V} {its : List Value} (h : Vals xs its) : ∀ js : List Nat, Vals (js.filterMap (xs[·]?)) (js.filterMap (its[·]?))
  | [] => by
    have := h.take 0
    simpa using this
  | j :: js => by
    have ih := vals_pick h js
    rcases Nat.lt_or_ge j xs.length with z | z
    · have z2 : j < its.length := by rw [← h.length]; exact z
      rw [List.filterMap_cons, List.getElem?_eq_getElem z, List.filterMap_cons, List.getElem?_eq_getElem z2]
      have one : Vals [xs[j]] [its[j]] := by
        have := (h.drop j).take 1
        rw [List.drop_eq_getElem_cons z, List.drop_eq_getElem_cons z2] at this
        exact this
      exact .cons (by cases one with | cons r _ => exact r) ih
    · have z2 : its.length ≤ j := by rw [← h.length]; exact z
      rw [List.filterMap_cons, List.getElem?_eq_none z, List.filterMap_cons, List.getElem?_eq_none z2]
      exact ih
section
variable {X : Cx} {e a b c : Expr} {te : TE} {tl th ts : TO} {lo hi st : Option Expr} {pos p2 : Pos}
def rSlK (K : PySem.W.Frag) : V → Option Int → Option Int → Option Int → Hp → VK → Prop := fun x lo hi st H Q => ∃ a xs, x = .ref a ∧ SqL K H a xs ∧ st ≠ some 0 ∧ (stepV xs lo hi st).length ≤ sizeLine ∧ ∀ p, H p = none → Q (.ref p) (upd H p (.lst (stepV xs lo hi st)))
def tSlK (K : PySem.W.Frag) (te : TE) (tl th ts : TO) : TE := fun σ H Q => te σ H fun x H1 => tl σ H1 fun l H2 => th σ H2 fun u H3 => ts σ H3 fun s H4 => rSlK K x l u s H4 Q
theorem pe_sliceK (he : PE X e te) (hl : PO X lo tl) (hu : PO X hi th) (hs : PO X (some c) ts) : PE X (.Subscript e (.Slice lo hi (some c) p2) pos) (tSlK X.K te tl th ts) := by
  refine ⟨fun pins s σ H Q I h => ?_⟩
  refine Subscript_ (thn (he.run pins s σ H _ I h) fun v s1 ⟨x, H1, I1, r1, q1⟩ => ?_)
  refine wpAny_Slice (thn (hl.run pins s1 σ H1 _ I1 q1) fun vl s2 ⟨l, H2, I2, pl, q2⟩ => thn (hu.run pins s2 σ H2 _ I2 q2) fun vu s3 ⟨u, H3, I3, pu, q3⟩ => thn (hs.run pins s3 σ H3 _ I3 q3) fun vs s4 ⟨w, H4, I4, ps, q4⟩ => ?_)
  have I5 : Inv X pins σ H4 { s4 with heap := s4.heap.push { cls := .type "slice", data := .fields #[vl, vu, vs] } } := I4.kept (t' := s4.toks) fun b ob q => Heap.get?_push_of_some _ q
  obtain ⟨a, xs, rfl, hx, hw, hsz, q⟩ := q4
  cases r1
  obtain ⟨its, r, ht, hz⟩ := I5.list hx
  have hlen := r.length
  show wpAny (model X.prog X.w) X.A (subscriptTail e (.Slice lo hi (some c) p2) _ (.ref s4.heap.objs.size)) (EP X pins σ Q) X.xe _
  refine tail_any (ops := [.ref a, .ref s4.heap.objs.size]) ht.isList.typeIs slot_list_getitem.lookup ?_ (by with_unfolding_all rfl)
  refine wpAny_getItem_list_slice ht.isList (Heap.IsSliceOf.new ..) pl pu ps hw ?_ (by rw [List.size_toArray] <;> omega)
  have rp := vals_pick r (pickIx l u w xs.length)
  have e : slicePick its.toArray l u w = ((pickIx l u w xs.length).filterMap (its[·]?)).toArray := by
    unfold slicePick pickIx
    rw [List.size_toArray, hlen]
    simp
  rw [e]
  refine ⟨.ref _, _, I5.laid (t' := s4.toks) (o := .lst (stepV xs l u w)) (fun b ob q => Heap.get?_push_of_some _ q) (Nat.le_refl _) ?_, rfl, q _ (I5.hok.fresh (Nat.le_refl _))⟩
  exact ⟨hsz, _, 0, rp, Heap.get?_push_size _ rfl⟩
end
end U

namespace U
open PySem PySem.Spec PyProof.Rows L2
/-! readings of the defs -/
def t_check_box (K : PySem.W.Frag) : TS :=
  (tIfS (tOr (tTest (tOp rLtI (tVar 0) (tC (.int 0)))) (tTest (tOp rGeI (tVar 0) (tC (.int 4))))) tNever tNext)
def n_check_box : List Str := ["number"]
def t_check_tree (K : PySem.W.Frag) (sp_check_box sp_check_tree : Sp) : TS :=
  (tSeq (tIfS (tTest (tOp rGtI (tVar 2) (tC (.int 6)))) tNever tNext)
    (tIfS (tTest (tOp rEq (tOp (rIxT K) (tVar 0) (tC (.int 0))) (tC (.str "box")))) (tDrop (tCall sp_check_box [] E0 (tCons (tOp (rIxT K) (tVar 0) (tC (.int 1))) tNil))) (tIfS (tTest (tOp rEq (tOp (rIxT K) (tVar 0) (tC (.int 0))) (tC (.str "call")))) (tSeq (tIfS (tOr (tTest (tOp rLtI (tOp (rIxT K) (tVar 0) (tC (.int 1))) (tC (.int 0)))) (tTest (tOp rGeI (tOp (rIxT K) (tVar 0) (tC (.int 1))) (tVar 1)))) tNever tNext)
    (tDrop (tCall sp_check_tree [] E0 (tCons (tOp (rIxT K) (tVar 0) (tC (.int 2))) (tCons (tVar 1) (tCons (tOp rAddI (tVar 2) (tC (.int 1))) tNil)))))) (tIfS (tTest (tOp rNe (tOp (rIxT K) (tVar 0) (tC (.int 0))) (tC (.str "num")))) (tSeq (tDrop (tCall sp_check_tree [] E0 (tCons (tOp (rIxT K) (tVar 0) (tC (.int 1))) (tCons (tVar 1) (tCons (tOp rAddI (tVar 2) (tC (.int 1))) tNil)))))
    (tDrop (tCall sp_check_tree [] E0 (tCons (tOp (rIxT K) (tVar 0) (tC (.int 2))) (tCons (tVar 1) (tCons (tOp rAddI (tVar 2) (tC (.int 1))) tNil)))))) tNext))))
def n_check_tree : List Str := ["tree", "count", "deep"]
def t_check_block (K : PySem.W.Frag) (sp_check_row : Sp) : TS :=
  (tSeq (tIfS (tTest (tOp rGtI (tVar 3) (tC (.int 8)))) tNever tNext)
    (tFor (iList K (tVar 0)) (gName 4) (tDrop (tCall sp_check_row [] E0 (tCons (tVar 4) (tCons (tVar 1) (tCons (tVar 2) (tCons (tVar 3) tNil))))))))
def n_check_block : List Str := ["block", "count", "loops", "deep", "row"]
def t_check_row (K : PySem.W.Frag) (sp_check_box sp_check_tree sp_check_block : Sp) : TS :=
  (tSeq (tAsg (tOp (rIxT K) (tVar 0) (tC (.int 0))) (gName 4))
    (tIfS (tOr (tTest (tOp rEq (tVar 4) (tC (.str "leave")))) (tTest (tOp rEq (tVar 4) (tC (.str "next"))))) (tIfS (tTest (tOp rEq (tVar 2) (tC (.int 0)))) tNever tNext) (tIfS (tTest (tOp rEq (tVar 4) (tC (.str "set")))) (tSeq (tDrop (tCall sp_check_box [] E0 (tCons (tOp (rIxT K) (tVar 0) (tC (.int 1))) tNil)))
    (tDrop (tCall sp_check_tree [] E0 (tCons (tOp (rIxT K) (tVar 0) (tC (.int 2))) (tCons (tVar 1) (tCons (tC (.int 1)) tNil)))))) (tIfS (tTest (tOp rEq (tVar 4) (tC (.str "if")))) (tSeq (tDrop (tCall sp_check_tree [] E0 (tCons (tOp (rIxT K) (tVar 0) (tC (.int 1))) (tCons (tVar 1) (tCons (tC (.int 1)) tNil)))))
    (tSeq (tDrop (tCall sp_check_block [] E0 (tCons (tOp (rIxT K) (tVar 0) (tC (.int 2))) (tCons (tVar 1) (tCons (tVar 2) (tCons (tOp rAddI (tVar 3) (tC (.int 1))) tNil))))))
    (tDrop (tCall sp_check_block [] E0 (tCons (tOp (rIxT K) (tVar 0) (tC (.int 3))) (tCons (tVar 1) (tCons (tVar 2) (tCons (tOp rAddI (tVar 3) (tC (.int 1))) tNil)))))))) (tIfS (tTest (tOp rEq (tVar 4) (tC (.str "loop")))) (tSeq (tDrop (tCall sp_check_tree [] E0 (tCons (tOp (rIxT K) (tVar 0) (tC (.int 1))) (tCons (tVar 1) (tCons (tC (.int 1)) tNil)))))
    (tDrop (tCall sp_check_block [] E0 (tCons (tOp (rIxT K) (tVar 0) (tC (.int 2))) (tCons (tVar 1) (tCons (tOp rAddI (tVar 2) (tC (.int 1))) (tCons (tOp rAddI (tVar 3) (tC (.int 1))) tNil))))))) (tIfS (tTest (tOp rEq (tVar 4) (tC (.str "catch")))) (tSeq (tDrop (tCall sp_check_block [] E0 (tCons (tOp (rIxT K) (tVar 0) (tC (.int 1))) (tCons (tVar 1) (tCons (tVar 2) (tCons (tOp rAddI (tVar 3) (tC (.int 1))) tNil))))))
    (tSeq (tDrop (tCall sp_check_box [] E0 (tCons (tOp (rIxT K) (tVar 0) (tC (.int 3))) tNil)))
    (tDrop (tCall sp_check_block [] E0 (tCons (tOp (rIxT K) (tVar 0) (tC (.int 4))) (tCons (tVar 1) (tCons (tVar 2) (tCons (tOp rAddI (tVar 3) (tC (.int 1))) tNil)))))))) (tIfS (tTest (tOp rEq (tVar 4) (tC (.str "end")))) (tSeq (tDrop (tCall sp_check_block [] E0 (tCons (tOp (rIxT K) (tVar 0) (tC (.int 1))) (tCons (tVar 1) (tCons (tVar 2) (tCons (tOp rAddI (tVar 3) (tC (.int 1))) tNil))))))
    (tDrop (tCall sp_check_block [] E0 (tCons (tOp (rIxT K) (tVar 0) (tC (.int 2))) (tCons (tVar 1) (tCons (tVar 2) (tCons (tOp rAddI (tVar 3) (tC (.int 1))) tNil))))))) (tDrop (tCall sp_check_tree [] E0 (tCons (tOp (rIxT K) (tVar 0) (tC (.int 1))) (tCons (tVar 1) (tCons (tC (.int 1)) tNil))))))))))))
def n_check_row : List Str := ["row", "count", "loops", "deep", "word"]
def t_checked (K : PySem.W.Frag) (sp_check_block : Sp) : TS :=
  (tSeq (tIfS (tTest (tOp rEq (tCB (rLenQ K) (tCons (tVar 0) tNil)) (tC (.int 0)))) tNever tNext)
    (tFor (iList K (tVar 0)) (gName 1) (tDrop (tCall sp_check_block [] E0 (tCons (tVar 1) (tCons (tCB (rLenQ K) (tCons (tVar 0) tNil)) (tCons (tC (.int 0)) (tCons (tC (.int 1)) tNil))))))))
def n_checked : List Str := ["program", "block"]
end U

namespace U
open PySem PySem.Spec PyProof.Rows L2
/-! readings of the defs -/
def t_World___init__ (K : PySem.W.Frag) : TS :=
  (tSeq (sFd (He.ga K "World") "program" (tVar 0) (tVar 1))
    (tSeq (sFd (He.ga K "World") "said" (tVar 0) (tLst tNil))
    (tSeq (sFd (He.ga K "World") "turns" (tVar 0) (tVar 2))
    (sFd (He.ga K "World") "deep" (tVar 0) (tC (.int 0))))))
def n_World___init__ : List Str := ["self", "program", "turns"]
def t_World_taken (K : PySem.W.Frag) : TS :=
  (tSeq (tIfS (tTest (tOp rEq (tFd (He.ga K "World") "turns" (tVar 0)) (tC (.int 0)))) (tRet (tC (.bl false))) tNext)
    (tSeq (sFd (He.ga K "World") "turns" (tVar 0) (tOp rSubI (tFd (He.ga K "World") "turns" (tVar 0)) (tC (.int 1))))
    (tRet (tC (.bl true)))))
def n_World_taken : List Str := ["self"]
def t_joined (K : PySem.W.Frag) : TS :=
  (tSeq (tIfS (tTest (tOp rEq (tVar 0) (tC (.str "add")))) (tRet (tTup (tCons (tC (.str "value")) (tCons (tOp rAddI (tVar 1) (tVar 2)) tNil)))) tNext)
    (tSeq (tIfS (tTest (tOp rEq (tVar 0) (tC (.str "sub")))) (tRet (tTup (tCons (tC (.str "value")) (tCons (tOp rSubI (tVar 1) (tVar 2)) tNil)))) tNext)
    (tSeq (tIfS (tTest (tOp rEq (tVar 0) (tC (.str "less")))) (tRet (tTup (tCons (tC (.str "value")) (tCons (tIf (tTest (tOp rLtI (tVar 1) (tVar 2))) (tC (.int 1)) (tC (.int 0))) tNil)))) tNext)
    (tSeq (tIfS (tTest (tOp rEq (tVar 2) (tC (.int 0)))) (tRet (tTup (tCons (tC (.str "fault")) (tCons (tC (.int 101)) tNil)))) tNext)
    (tRet (tTup (tCons (tC (.str "value")) (tCons (tOp rFd (tVar 1) (tVar 2)) tNil))))))))
def n_joined : List Str := ["word", "one", "other"]
def t_reckoned (K : PySem.W.Frag) (sp_reckoned sp_called sp_joined : Sp) : TS :=
  (tSeq (tAsg (tOp (rIxT K) (tVar 0) (tC (.int 0))) (gName 3))
    (tSeq (tIfS (tTest (tOp rEq (tVar 3) (tC (.str "num")))) (tRet (tTup (tCons (tC (.str "value")) (tCons (tOp (rIxT K) (tVar 0) (tC (.int 1))) tNil)))) tNext)
    (tSeq (tIfS (tTest (tOp rEq (tVar 3) (tC (.str "box")))) (tRet (tTup (tCons (tC (.str "value")) (tCons (tOp (rIxL K) (tVar 1) (tOp (rIxT K) (tVar 0) (tC (.int 1)))) tNil)))) tNext)
    (tSeq (tIfS (tTest (tOp rEq (tVar 3) (tC (.str "call")))) (tSeq (tAsg (tCall sp_reckoned [] E0 (tCons (tOp (rIxT K) (tVar 0) (tC (.int 2))) (tCons (tVar 1) (tCons (tVar 2) tNil)))) (gName 4))
    (tSeq (tIfS (tTest (tOp rNe (tOp (rIxT K) (tVar 4) (tC (.int 0))) (tC (.str "value")))) (tRet (tVar 4)) tNext)
    (tRet (tCall sp_called [] E0 (tCons (tOp (rIxT K) (tVar 0) (tC (.int 1))) (tCons (tOp (rIxT K) (tVar 4) (tC (.int 1))) (tCons (tVar 2) tNil))))))) tNext)
    (tSeq (tAsg (tCall sp_reckoned [] E0 (tCons (tOp (rIxT K) (tVar 0) (tC (.int 1))) (tCons (tVar 1) (tCons (tVar 2) tNil)))) (gName 5))
    (tSeq (tIfS (tTest (tOp rNe (tOp (rIxT K) (tVar 5) (tC (.int 0))) (tC (.str "value")))) (tRet (tVar 5)) tNext)
    (tSeq (tAsg (tCall sp_reckoned [] E0 (tCons (tOp (rIxT K) (tVar 0) (tC (.int 2))) (tCons (tVar 1) (tCons (tVar 2) tNil)))) (gName 6))
    (tSeq (tIfS (tTest (tOp rNe (tOp (rIxT K) (tVar 6) (tC (.int 0))) (tC (.str "value")))) (tRet (tVar 6)) tNext)
    (tRet (tCall sp_joined [] E0 (tCons (tVar 3) (tCons (tOp (rIxT K) (tVar 5) (tC (.int 1))) (tCons (tOp (rIxT K) (tVar 6) (tC (.int 1))) tNil)))))))))))))
def n_reckoned : List Str := ["tree", "boxes", "world", "word", "found", "one", "other"]
def t_called (K : PySem.W.Frag) (sp_World_taken sp_entered : Sp) : TS :=
  (tSeq (tIfS (tNot (tB (tMeth (He.ga K "World") "taken" sp_World_taken [] E0 (tVar 2) tNil))) (tRet (tTup (tCons (tC (.str "tired")) (tCons (tC (.int 0)) tNil)))) tNext)
    (tSeq (tIfS (tTest (tOp rEq (tFd (He.ga K "World") "deep" (tVar 2)) (tC (.int 8)))) (tRet (tTup (tCons (tC (.str "fault")) (tCons (tC (.int 102)) tNil)))) tNext)
    (tRet (tCall sp_entered [] E0 (tCons (tVar 0) (tCons (tVar 1) (tCons (tVar 2) tNil)))))))
def n_called : List Str := ["number", "given", "world"]
def t_entered (K : PySem.W.Frag) (sp_block_done : Sp) : TS :=
  (tSeq (sFd (He.ga K "World") "deep" (tVar 2) (tOp rAddI (tFd (He.ga K "World") "deep" (tVar 2)) (tC (.int 1))))
    (tSeq (tAsg (tCall sp_block_done [] E0 (tCons (tOp (rIxL K) (tFd (He.ga K "World") "program" (tVar 2)) (tVar 0)) (tCons (tOp rCat (tLst (tCons (tVar 1) tNil)) (tOp rRep (tLst (tCons (tC (.int 0)) tNil)) (tOp rSubI (tC (.int 4)) (tC (.int 1))))) (tCons (tVar 2) tNil)))) (gName 3))
    (tSeq (sFd (He.ga K "World") "deep" (tVar 2) (tOp rSubI (tFd (He.ga K "World") "deep" (tVar 2)) (tC (.int 1))))
    (tSeq (tIfS (tTest (tOp rEq (tOp (rIxT K) (tVar 3) (tC (.int 0))) (tC (.str "on")))) (tRet (tTup (tCons (tC (.str "value")) (tCons (tC (.int 0)) tNil)))) tNext)
    (tSeq (tIfS (tTest (tOp rEq (tOp (rIxT K) (tVar 3) (tC (.int 0))) (tC (.str "give")))) (tRet (tTup (tCons (tC (.str "value")) (tCons (tOp (rIxT K) (tVar 3) (tC (.int 1))) tNil)))) tNext)
    (tRet (tVar 3)))))))
def n_entered : List Str := ["number", "given", "world", "found"]
def t_block_done (K : PySem.W.Frag) (sp_row_done : Sp) : TS :=
  (tSeq (tFor (iList K (tVar 0)) (gName 3) (tSeq (tAsg (tCall sp_row_done [] E0 (tCons (tVar 3) (tCons (tVar 1) (tCons (tVar 2) tNil)))) (gName 4))
    (tIfS (tTest (tOp rNe (tOp (rIxT K) (tVar 4) (tC (.int 0))) (tC (.str "on")))) (tRet (tVar 4)) tNext)))
    (tRet (tTup (tCons (tC (.str "on")) (tCons (tC (.int 0)) tNil)))))
def n_block_done : List Str := ["block", "boxes", "world", "row", "found"]
def t_row_done (K : PySem.W.Frag) (sp_loop_done sp_catch_done sp_end_done sp_reckoned sp_block_done : Sp) : TS :=
  (tSeq (tAsg (tOp (rIxT K) (tVar 0) (tC (.int 0))) (gName 3))
    (tSeq (tIfS (tOr (tTest (tOp rEq (tVar 3) (tC (.str "leave")))) (tTest (tOp rEq (tVar 3) (tC (.str "next"))))) (tRet (tTup (tCons (tVar 3) (tCons (tC (.int 0)) tNil)))) tNext)
    (tSeq (tIfS (tTest (tOp rEq (tVar 3) (tC (.str "loop")))) (tRet (tCall sp_loop_done [] E0 (tCons (tVar 0) (tCons (tVar 1) (tCons (tVar 2) tNil))))) tNext)
    (tSeq (tIfS (tTest (tOp rEq (tVar 3) (tC (.str "catch")))) (tRet (tCall sp_catch_done [] E0 (tCons (tVar 0) (tCons (tVar 1) (tCons (tVar 2) tNil))))) tNext)
    (tSeq (tIfS (tTest (tOp rEq (tVar 3) (tC (.str "end")))) (tRet (tCall sp_end_done [] E0 (tCons (tVar 0) (tCons (tVar 1) (tCons (tVar 2) tNil))))) tNext)
    (tSeq (tAsg (tCall sp_reckoned [] E0 (tCons (tIf (tTest (tOp rEq (tVar 3) (tC (.str "set")))) (tOp (rIxT K) (tVar 0) (tC (.int 2))) (tOp (rIxT K) (tVar 0) (tC (.int 1)))) (tCons (tVar 1) (tCons (tVar 2) tNil)))) (gName 4))
    (tSeq (tIfS (tTest (tOp rNe (tOp (rIxT K) (tVar 4) (tC (.int 0))) (tC (.str "value")))) (tRet (tVar 4)) tNext)
    (tSeq (tIfS (tTest (tOp rEq (tVar 3) (tC (.str "if")))) (tRet (tCall sp_block_done [] E0 (tCons (tIf (tTest (tOp rEq (tOp (rIxT K) (tVar 4) (tC (.int 1))) (tC (.int 0)))) (tOp (rIxT K) (tVar 0) (tC (.int 3))) (tOp (rIxT K) (tVar 0) (tC (.int 2)))) (tCons (tVar 1) (tCons (tVar 2) tNil))))) tNext)
    (tSeq (tIfS (tTest (tOp rEq (tVar 3) (tC (.str "give")))) (tRet (tTup (tCons (tC (.str "give")) (tCons (tOp (rIxT K) (tVar 4) (tC (.int 1))) tNil)))) tNext)
    (tSeq (tIfS (tTest (tOp rEq (tVar 3) (tC (.str "raise")))) (tRet (tTup (tCons (tC (.str "fault")) (tCons (tOp (rIxT K) (tVar 4) (tC (.int 1))) tNil)))) tNext)
    (tSeq (tIfS (tTest (tOp rEq (tVar 3) (tC (.str "set")))) (tAsg (tOp (rIxT K) (tVar 4) (tC (.int 1))) (gSub (tVar 1) (tOp (rIxT K) (tVar 0) (tC (.int 1))) rSetL)) (tDrop (tBM K "list" rAppend (tFd (He.ga K "World") "said" (tVar 2)) (tCons (tOp (rIxT K) (tVar 4) (tC (.int 1))) tNil))))
    (tRet (tTup (tCons (tC (.str "on")) (tCons (tC (.int 0)) tNil)))))))))))))))
def n_row_done : List Str := ["row", "boxes", "world", "word", "found"]
def t_loop_done (K : PySem.W.Frag) (sp_World_taken sp_reckoned sp_block_done : Sp) : TS :=
  (tSeq (tWhile (tB (tMeth (He.ga K "World") "taken" sp_World_taken [] E0 (tVar 2) tNil)) (tSeq (tAsg (tCall sp_reckoned [] E0 (tCons (tOp (rIxT K) (tVar 0) (tC (.int 1))) (tCons (tVar 1) (tCons (tVar 2) tNil)))) (gName 3))
    (tSeq (tIfS (tTest (tOp rNe (tOp (rIxT K) (tVar 3) (tC (.int 0))) (tC (.str "value")))) (tRet (tVar 3)) tNext)
    (tSeq (tIfS (tTest (tOp rEq (tOp (rIxT K) (tVar 3) (tC (.int 1))) (tC (.int 0)))) (tRet (tTup (tCons (tC (.str "on")) (tCons (tC (.int 0)) tNil)))) tNext)
    (tSeq (tAsg (tCall sp_block_done [] E0 (tCons (tOp (rIxT K) (tVar 0) (tC (.int 2))) (tCons (tVar 1) (tCons (tVar 2) tNil)))) (gName 3))
    (tSeq (tIfS (tTest (tOp rEq (tOp (rIxT K) (tVar 3) (tC (.int 0))) (tC (.str "leave")))) (tRet (tTup (tCons (tC (.str "on")) (tCons (tC (.int 0)) tNil)))) tNext)
    (tIfS (tAnd (tTest (tOp rNe (tOp (rIxT K) (tVar 3) (tC (.int 0))) (tC (.str "on")))) (tTest (tOp rNe (tOp (rIxT K) (tVar 3) (tC (.int 0))) (tC (.str "next"))))) (tRet (tVar 3)) tNext)))))))
    (tRet (tTup (tCons (tC (.str "tired")) (tCons (tC (.int 0)) tNil)))))
def n_loop_done : List Str := ["row", "boxes", "world", "found"]
def t_catch_done (K : PySem.W.Frag) (sp_block_done : Sp) : TS :=
  (tSeq (tAsg (tCall sp_block_done [] E0 (tCons (tOp (rIxT K) (tVar 0) (tC (.int 1))) (tCons (tVar 1) (tCons (tVar 2) tNil)))) (gName 3))
    (tSeq (tIfS (tTest (tOp rNe (tOp (rIxT K) (tVar 3) (tC (.int 0))) (tC (.str "fault")))) (tRet (tVar 3)) tNext)
    (tSeq (tIfS (tAnd (tTest (tOp rIsNotNo (tOp (rIxT K) (tVar 0) (tC (.int 2))) (tC .non))) (tTest (tOp rNe (tOp (rIxT K) (tVar 3) (tC (.int 1))) (tOp (rIxT K) (tVar 0) (tC (.int 2)))))) (tRet (tVar 3)) tNext)
    (tSeq (tAsg (tOp (rIxT K) (tVar 3) (tC (.int 1))) (gSub (tVar 1) (tOp (rIxT K) (tVar 0) (tC (.int 3))) rSetL))
    (tRet (tCall sp_block_done [] E0 (tCons (tOp (rIxT K) (tVar 0) (tC (.int 4))) (tCons (tVar 1) (tCons (tVar 2) tNil)))))))))
def n_catch_done : List Str := ["row", "boxes", "world", "found"]
def t_end_done (K : PySem.W.Frag) (sp_block_done : Sp) : TS :=
  (tSeq (tAsg (tCall sp_block_done [] E0 (tCons (tOp (rIxT K) (tVar 0) (tC (.int 1))) (tCons (tVar 1) (tCons (tVar 2) tNil)))) (gName 3))
    (tSeq (tIfS (tTest (tOp rEq (tOp (rIxT K) (tVar 3) (tC (.int 0))) (tC (.str "tired")))) (tRet (tVar 3)) tNext)
    (tSeq (tAsg (tCall sp_block_done [] E0 (tCons (tOp (rIxT K) (tVar 0) (tC (.int 2))) (tCons (tVar 1) (tCons (tVar 2) tNil)))) (gName 4))
    (tSeq (tIfS (tTest (tOp rNe (tOp (rIxT K) (tVar 4) (tC (.int 0))) (tC (.str "on")))) (tRet (tVar 4)) tNext)
    (tRet (tVar 3))))))
def n_end_done : List Str := ["row", "boxes", "world", "found", "last"]
def t_told (K : PySem.W.Frag) (sp_checked sp_World___init__ sp_entered : Sp) : TS :=
  (tSeq (tDrop (tCall sp_checked [] E0 (tCons (tVar 0) tNil)))
    (tSeq (tAsg (tMake (He.ga K "World") sp_World___init__ [] E0 (tCons (tVar 0) (tCons (tVar 2) tNil))) (gName 3))
    (tSeq (tAsg (tCall sp_entered [] E0 (tCons (tC (.int 0)) (tCons (tVar 1) (tCons (tVar 3) tNil)))) (gName 4))
    (tSeq (tAsg (tIf (tTest (tOp rEq (tOp (rIxT K) (tVar 4) (tC (.int 0))) (tC (.str "value")))) (tC (.str "answer")) (tOp (rIxT K) (tVar 4) (tC (.int 0)))) (gName 5))
    (tRet (tTup (tCons (tFd (He.ga K "World") "said" (tVar 3)) (tCons (tVar 5) (tCons (tOp (rIxT K) (tVar 4) (tC (.int 1))) tNil)))))))))
def n_told : List Str := ["program", "number", "turns", "world", "found", "word"]
end U

/-! programs and what they tell, in plain Lean -/
namespace Un
open PySem

inductive Op where
  | add | sub | less | share
  deriving DecidableEq, Repr
def Op.str : Op → Str
  | .add => "add"
  | .sub => "sub"
  | .less => "less"
  | .share => "share"
inductive Tree where
  | num (n : Int)
  | box (k : Int)
  | call (f : Int) (t : Tree)
  | bin (o : Op) (a b : Tree)
  deriving DecidableEq, Repr
inductive Sm where
  | set (k : Int) (e : Tree)
  | say (e : Tree)
  | ife (e : Tree) (a b : List Sm)
  | loop (e : Tree) (b : List Sm)
  | leave
  | next
  | give (e : Tree)
  | raise (e : Tree)
  | ctch (b : List Sm) (n : Option Int) (k : Int) (h : List Sm)
  | endd (b l : List Sm)

def at? {α : Type} (xs : List α) (i : Int) : Option α := if 0 ≤ i then xs[i.toNat]? else none

/-! ### what is well formed -/
def Tree.ok (count : Nat) : Nat → Tree → Bool
  | 0, _ => false
  | _ + 1, .num _ => true
  | _ + 1, .box k => decide (0 ≤ k ∧ k < 4)
  | d + 1, .call f t => decide (0 ≤ f ∧ f < count) && t.ok count d
  | d + 1, .bin _ a b => a.ok count d && b.ok count d
mutual
def Sm.ok (count : Nat) (loops : Bool) : Nat → Sm → Bool
  | _, .set k e => decide (0 ≤ k ∧ k < 4) && e.ok count 6
  | _, .say e => e.ok count 6
  | 0, .ife _ _ _ => false
  | d + 1, .ife e a b => e.ok count 6 && (oks count loops d a && oks count loops d b)
  | 0, .loop _ _ => false
  | d + 1, .loop e b => e.ok count 6 && oks count true d b
  | _, .leave => loops
  | _, .next => loops
  | _, .give e => e.ok count 6
  | _, .raise e => e.ok count 6
  | 0, .ctch _ _ _ _ => false
  | d + 1, .ctch b _ k h => oks count loops d b && (decide (0 ≤ k ∧ k < 4) && oks count loops d h)
  | 0, .endd _ _ => false
  | d + 1, .endd b l => oks count loops d b && oks count loops d l
def oks (count : Nat) (loops : Bool) : Nat → List Sm → Bool
  | _, [] => true
  | d, s :: r => s.ok count loops d && oks count loops d r
end
/-- a program that is not refused: d more blocks within a function's own (7) -/
def okProg (P : List (List Sm)) : Bool := decide (0 < P.length) && P.all (oks P.length false 7)

/-! ### what it tells -/
structure Wd where
  said : List Int
  turns : Nat
  deep : Nat
inductive Wy where
  | value | fault | tired | on | leave | next | give
  deriving DecidableEq, Repr
def Wy.str : Wy → Str
  | .value => "value"
  | .fault => "fault"
  | .tired => "tired"
  | .on => "on"
  | .leave => "leave"
  | .next => "next"
  | .give => "give"
abbrev Res := Wy × Int
def joinT (o : Op) (a b : Int) : Res := match o with
  | .add => (.value, a + b)
  | .sub => (.value, a - b)
  | .less => (.value, if a < b then 1 else 0)
  | .share => if b = 0 then (.fault, 101) else (.value, a.fdiv b)
/-- the defs that call one another, at a level -/
structure Ev where
  tree : Tree → List Int → Wd → Option (Res × Wd)
  call : Int → Int → Wd → Option (Res × Wd)
  enter : Int → Int → Wd → Option (Res × Wd)
  block : List Sm → List Int → Wd → Option (Res × List Int × Wd)
  row : Sm → List Int → Wd → Option (Res × List Int × Wd)
  loop : Tree → List Sm → List Int → Wd → Option (Res × List Int × Wd)
  ctch : List Sm → Option Int → Int → List Sm → List Int → Wd → Option (Res × List Int × Wd)
  endd : List Sm → List Sm → List Int → Wd → Option (Res × List Int × Wd)
def Ev.no : Ev := ⟨fun _ _ _ => none, fun _ _ _ => none, fun _ _ _ => none, fun _ _ _ => none, fun _ _ _ => none, fun _ _ _ _ => none, fun _ _ _ _ _ _ => none, fun _ _ _ _ => none⟩
def treeS (E : Ev) (t : Tree) (bx : List Int) (w : Wd) : Option (Res × Wd) := match t with
  | .num n => some ((.value, n), w)
  | .box k => (at? bx k).map fun v => ((.value, v), w)
  | .call f t => match E.tree t bx w with
    | some ((.value, v), w1) => E.call f v w1
    | r => r
  | .bin o a b => match E.tree a bx w with
    | some ((.value, x), w1) => match E.tree b bx w1 with
      | some ((.value, y), w2) => some (joinT o x y, w2)
      | r => r
    | r => r
def callS (E : Ev) (f v : Int) (w : Wd) : Option (Res × Wd) :=
  if w.turns = 0 then some ((.tired, 0), w)
  else if w.deep = 8 then some ((.fault, 102), { w with turns := w.turns - 1 })
  else E.enter f v { w with turns := w.turns - 1 }
def outOf : Res → Res
  | (.on, _) => (.value, 0)
  | (.give, v) => (.value, v)
  | r => r
def enterS (P : List (List Sm)) (E : Ev) (f v : Int) (w : Wd) : Option (Res × Wd) := match at? P f with
  | none => none
  | some b => (E.block b [v, 0, 0, 0] { w with deep := w.deep + 1 }).map fun r => (outOf r.1, { r.2.2 with deep := r.2.2.deep - 1 })
def blockS (E : Ev) : List Sm → List Int → Wd → Option (Res × List Int × Wd)
  | [], bx, w => some ((.on, 0), bx, w)
  | s :: b, bx, w => match E.row s bx w with
    | some ((.on, _), bx1, w1) => blockS E b bx1 w1
    | r => r
/-- the value of e, and on with it -/
def thenT (E : Ev) (e : Tree) (bx : List Int) (w : Wd) (k : Int → Wd → Option (Res × List Int × Wd)) : Option (Res × List Int × Wd) := match E.tree e bx w with
  | some ((.value, v), w1) => k v w1
  | some (r, w1) => some (r, bx, w1)
  | none => none
def rowS (E : Ev) (s : Sm) (bx : List Int) (w : Wd) : Option (Res × List Int × Wd) := match s with
  | .leave => some ((.leave, 0), bx, w)
  | .next => some ((.next, 0), bx, w)
  | .loop e b => E.loop e b bx w
  | .ctch b n k h => E.ctch b n k h bx w
  | .endd b l => E.endd b l bx w
  | .ife e a b => thenT E e bx w fun v w1 => E.block (if v = 0 then b else a) bx w1
  | .give e => thenT E e bx w fun v w1 => some ((.give, v), bx, w1)
  | .raise e => thenT E e bx w fun v w1 => some ((.fault, v), bx, w1)
  | .set k e => thenT E e bx w fun v w1 => if 0 ≤ k ∧ k < bx.length then some ((.on, 0), bx.set k.toNat v, w1) else none
  | .say e => thenT E e bx w fun v w1 => some ((.on, 0), bx, { w1 with said := w1.said ++ [v] })
def loopGo (E : Ev) (e : Tree) (b : List Sm) : Nat → List Int → Wd → Option (Res × List Int × Wd)
  | 0, _, _ => none
  | c + 1, bx, w =>
    if w.turns = 0 then some ((.tired, 0), bx, w)
    else thenT E e bx { w with turns := w.turns - 1 } fun v w1 =>
      if v = 0 then some ((.on, 0), bx, w1)
      else match E.block b bx w1 with
        | some ((.leave, _), bx2, w2) => some ((.on, 0), bx2, w2)
        | some ((.on, _), bx2, w2) => loopGo E e b c bx2 w2
        | some ((.next, _), bx2, w2) => loopGo E e b c bx2 w2
        | r => r
def loopS (E : Ev) (e : Tree) (b : List Sm) (bx : List Int) (w : Wd) : Option (Res × List Int × Wd) := loopGo E e b (w.turns + 1) bx w
def ctchS (E : Ev) (b : List Sm) (n : Option Int) (k : Int) (h : List Sm) (bx : List Int) (w : Wd) : Option (Res × List Int × Wd) := match E.block b bx w with
  | some ((.fault, v), bx1, w1) => if n ≠ none ∧ some v ≠ n then some ((.fault, v), bx1, w1) else if 0 ≤ k ∧ k < bx1.length then E.block h (bx1.set k.toNat v) w1 else none
  | r => r
def endS (E : Ev) (b l : List Sm) (bx : List Int) (w : Wd) : Option (Res × List Int × Wd) := match E.block b bx w with
  | some ((.tired, v), bx1, w1) => some ((.tired, v), bx1, w1)
  | some (r, bx1, w1) => match E.block l bx1 w1 with
    | some ((.on, _), bx2, w2) => some (r, bx2, w2)
    | r2 => r2
  | none => none
def ev (P : List (List Sm)) : Nat → Ev
  | 0 => Ev.no
  | n + 1 => ⟨treeS (ev P n), callS (ev P n), enterS P (ev P n), blockS (ev P n), rowS (ev P n), loopS (ev P n), ctchS (ev P n), endS (ev P n)⟩
end Un

/-! what grows and what stays along an evaluation -/
namespace Un
open PySem
structure Le (w w' : Wd) : Prop where
  said : w.said <+: w'.said
  turns : w'.turns ≤ w.turns
  deep : w'.deep = w.deep
theorem Le.refl (w : Wd) : Le w w := ⟨List.prefix_refl _, Nat.le_refl _, rfl⟩
theorem Le.trans {a b c : Wd} (h : Le a b) (k : Le b c) : Le a c := ⟨h.said.trans k.said, Nat.le_trans k.turns h.turns, k.deep.trans h.deep⟩
theorem Le.turn {w w' : Wd} {t : Nat} (ht : t ≤ w.turns) (h : Le { w with turns := t } w') : Le w w' := ⟨h.said, Nat.le_trans h.turns ht, h.deep⟩
theorem Le.len {w w' : Wd} (h : Le w w') : w.said.length ≤ w'.said.length := h.said.length_le
structure Good (E : Ev) : Prop where
  tree : ∀ {t bx w r w'}, E.tree t bx w = some (r, w') → Le w w'
  call : ∀ {f v w r w'}, E.call f v w = some (r, w') → Le w w'
  enter : ∀ {f v w r w'}, E.enter f v w = some (r, w') → Le w w'
  block : ∀ {b bx w r bx' w'}, E.block b bx w = some (r, bx', w') → Le w w' ∧ bx'.length = bx.length
  row : ∀ {s bx w r bx' w'}, E.row s bx w = some (r, bx', w') → Le w w' ∧ bx'.length = bx.length
  loop : ∀ {e b bx w r bx' w'}, E.loop e b bx w = some (r, bx', w') → Le w w' ∧ bx'.length = bx.length
  ctch : ∀ {b n k h bx w r bx' w'}, E.ctch b n k h bx w = some (r, bx', w') → Le w w' ∧ bx'.length = bx.length
  endd : ∀ {b l bx w r bx' w'}, E.endd b l bx w = some (r, bx', w') → Le w w' ∧ bx'.length = bx.length
theorem good_no : Good Ev.no :=
  by constructor <;> (intros; rename_i h; cases h)
theorem thenT_good {E : Ev} (G : Good E) {e : Tree} {bx : List Int} {w : Wd} {k : Int → Wd → Option (Res × List Int × Wd)} {r : Res} {bx' : List Int} {w' : Wd} (h : thenT E e bx w k = some (r, bx', w'))
    (hk : ∀ v w1, k v w1 = some (r, bx', w') → Le w1 w' ∧ bx'.length = bx.length) : Le w w' ∧ bx'.length = bx.length := by
  unfold thenT at h
  split at h
  · rename_i v w1 he
    have q := hk _ _ h
    exact ⟨(G.tree he).trans q.1, q.2⟩
  · rename_i r1 w1 _ he
    cases h
    exact ⟨G.tree he, rfl⟩
  · cases h
theorem loopGo_good {E : Ev} (G : Good E) (e : Tree) (b : List Sm) : ∀ (c : Nat) {bx : List Int} {w : Wd} {r : Res} {bx' : List Int} {w' : Wd}, loopGo E e b c bx w = some (r, bx', w') → Le w w' ∧ bx'.length = bx.length
  | 0, _, _, _, _, _, h => by cases h
  | c + 1, bx, w, r, bx', w', h => by
    unfold loopGo at h
    split at h
    · cases h
      exact ⟨Le.refl _, rfl⟩
    · have q := thenT_good G h fun v w1 hk => by
        split at hk
        · cases hk
          exact ⟨Le.refl _, rfl⟩
        · split at hk
          · rename_i hb
            cases hk
            exact G.block hb
          · rename_i hb
            have i := G.block hb
            have j := loopGo_good G e b c hk
            exact ⟨i.1.trans j.1, j.2.trans i.2⟩
          · rename_i hb
            have i := G.block hb
            have j := loopGo_good G e b c hk
            exact ⟨i.1.trans j.1, j.2.trans i.2⟩
          · exact G.block hk
      exact ⟨q.1.turn (by omega), q.2⟩
theorem blockS_good {E : Ev} (G : Good E) : ∀ (b : List Sm) {bx : List Int} {w : Wd} {r : Res} {bx' : List Int} {w' : Wd}, blockS E b bx w = some (r, bx', w') → Le w w' ∧ bx'.length = bx.length
  | [], _, _, _, _, _, h => by
    cases h
    exact ⟨Le.refl _, rfl⟩
  | s :: b, bx, w, r, bx', w', h => by
    unfold blockS at h
    split at h
    · rename_i hr
      have i := G.row hr
      have j := blockS_good G b h
      exact ⟨i.1.trans j.1, j.2.trans i.2⟩
    · exact G.row h
theorem good_ev (P : List (List Sm)) : ∀ n, Good (ev P n)
  | 0 => good_no
  | n + 1 => by
    have G := good_ev P n
    refine ⟨?_, ?_, ?_, fun h => blockS_good G _ h, ?_, fun h => loopGo_good G _ _ _ h, ?_, ?_⟩
    · intro t bx w r w' h
      have h : treeS (ev P n) t bx w = some (r, w') := h
      unfold treeS at h
      cases t with
      | num n => cases h; exact Le.refl _
      | box k =>
        dsimp only at h
        cases hv : at? bx k with
        | none => rw [hv] at h; cases h
        | some v => rw [hv] at h; cases h; exact Le.refl _
      | call f t =>
        dsimp only at h
        split at h
        · rename_i he
          exact (G.tree he).trans (G.call h)
        · exact G.tree h
      | bin o a b =>
        dsimp only at h
        split at h
        · rename_i ha
          split at h
          · rename_i hb
            cases h
            exact (G.tree ha).trans (G.tree hb)
          · exact (G.tree ha).trans (G.tree h)
        · exact G.tree h
    · intro f v w r w' h
      have h : callS (ev P n) f v w = some (r, w') := h
      unfold callS at h
      split at h
      · cases h; exact Le.refl _
      · split at h
        · cases h
          exact ⟨List.prefix_refl _, by dsimp only; omega, rfl⟩
        · exact (G.enter h).turn (by omega)
    · intro f v w r w' h
      have h : enterS P (ev P n) f v w = some (r, w') := h
      unfold enterS at h
      split at h
      · cases h
      · cases hb : (ev P n).block _ [v, 0, 0, 0] { w with deep := w.deep + 1 } with
        | none => rw [hb] at h; cases h
        | some x =>
          obtain ⟨r1, bx1, w1⟩ := x
          rw [hb] at h
          cases h
          have i := (G.block hb).1
          exact ⟨i.said, i.turns, by have := i.deep; dsimp only at this ⊢; omega⟩
    · intro s bx w r bx' w' h
      have h : rowS (ev P n) s bx w = some (r, bx', w') := h
      unfold rowS at h
      cases s with
      | leave => cases h; exact ⟨Le.refl _, rfl⟩
      | next => cases h; exact ⟨Le.refl _, rfl⟩
      | loop e b => exact G.loop h
      | ctch b n k h' => exact G.ctch h
      | endd b l => exact G.endd h
      | ife e a b => exact thenT_good G h fun v w1 hk => G.block hk
      | give e => exact thenT_good G h fun v w1 hk => by cases hk; exact ⟨Le.refl _, rfl⟩
      | raise e => exact thenT_good G h fun v w1 hk => by cases hk; exact ⟨Le.refl _, rfl⟩
      | set k e =>
        exact thenT_good G h fun v w1 hk => by
          split at hk
          · cases hk
            exact ⟨Le.refl _, by simp⟩
          · cases hk
      | say e =>
        exact thenT_good G h fun v w1 hk => by
          cases hk
          exact ⟨⟨List.prefix_append _ _, Nat.le_refl _, rfl⟩, rfl⟩
    · intro b m k h' bx w r bx' w' h
      have h : ctchS (ev P n) b m k h' bx w = some (r, bx', w') := h
      unfold ctchS at h
      split at h
      · rename_i hb
        have i := G.block hb
        split at h
        · cases h
          exact i
        · split at h
          · have j := G.block h
            exact ⟨i.1.trans j.1, by rw [j.2, List.length_set, i.2]⟩
          · cases h
      · exact G.block h
    · intro b l bx w r bx' w' h
      have h : endS (ev P n) b l bx w = some (r, bx', w') := h
      unfold endS at h
      split at h
      · rename_i hb
        cases h
        exact G.block hb
      · rename_i hb
        have i := G.block hb
        split at h
        · rename_i hl
          cases h
          have j := G.block hl
          exact ⟨i.1.trans j.1, j.2.trans i.2⟩
        · have j := G.block h
          exact ⟨i.1.trans j.1, j.2.trans i.2⟩
      · cases h
end Un

namespace U
open PySem PySem.Spec PyProof.Rows L2
/-! readings of the defs -/
def t_goal_of (K : PySem.W.Frag) : TS :=
  (tSeq (tFor (iList K (tVar 0)) (gName 2) (tIfS (tAnd (tTest (tOp rLeI (tOp (rIxT K) (tVar 2) (tC (.int 0))) (tVar 1))) (tTest (tOp rLtI (tVar 1) (tOp (rIxT K) (tVar 2) (tC (.int 1)))))) (tRet (tOp (rIxT K) (tVar 2) (tC (.int 2)))) tNext))
    (tRet (tC .non)))
def n_goal_of : List Str := ["stretches", "place", "row"]
def t_Frame___init__ (K : PySem.W.Frag) : TS :=
  (tSeq (sFd (He.ga K "Frame") "place" (tVar 0) (tVar 1))
    (tSeq (sFd (He.ga K "Frame") "boxes" (tVar 0) (tOp rCat (tLst (tCons (tVar 3) tNil)) (tOp rRep (tLst (tCons (tC (.int 0)) tNil)) (tOp rSubI (tVar 2) (tC (.int 1))))))
    (sFd (He.ga K "Frame") "pile" (tVar 0) (tLst tNil))))
def n_Frame___init__ : List Str := ["self", "place", "boxes", "number"]
def t_Frame_lay (K : PySem.W.Frag) : TS :=
  (tSeq (tDrop (tBM K "list" rAppend (tFd (He.ga K "Frame") "pile" (tVar 0)) (tCons (tVar 1) tNil)))
    (sFd (He.ga K "Frame") "place" (tVar 0) (tOp rAddI (tFd (He.ga K "Frame") "place" (tVar 0)) (tC (.int 1)))))
def n_Frame_lay : List Str := ["self", "number"]
def t_Machine___init__ (K : PySem.W.Frag) (sp_Frame___init__ : Sp) : TS :=
  (tSeq (sFd (He.ga K "Machine") "code" (tVar 0) (tOp (rIxT K) (tVar 1) (tC (.int 0))))
    (tSeq (sFd (He.ga K "Machine") "stretches" (tVar 0) (tOp (rIxT K) (tVar 1) (tC (.int 1))))
    (tSeq (sFd (He.ga K "Machine") "starts" (tVar 0) (tOp (rIxT K) (tVar 1) (tC (.int 2))))
    (tSeq (sFd (He.ga K "Machine") "boxes" (tVar 0) (tOp (rIxT K) (tVar 1) (tC (.int 3))))
    (tSeq (sFd (He.ga K "Machine") "turns" (tVar 0) (tVar 3))
    (tSeq (sFd (He.ga K "Machine") "said" (tVar 0) (tLst tNil))
    (tSeq (sFd (He.ga K "Machine") "ended" (tVar 0) (tC .non))
    (sFd (He.ga K "Machine") "frames" (tVar 0) (tLst (tCons (tMake (He.ga K "Frame") sp_Frame___init__ [] E0 (tCons (tOp (rIxL K) (tFd (He.ga K "Machine") "starts" (tVar 0)) (tC (.int 0))) (tCons (tFd (He.ga K "Machine") "boxes" (tVar 0)) (tCons (tVar 2) tNil)))) tNil))))))))))
def n_Machine___init__ : List Str := ["self", "parts", "number", "turns"]
def t_Machine_step (K : PySem.W.Frag) (sp_Machine_meet sp_Machine_move sp_Machine_jump sp_Machine_taken sp_Machine_enter sp_Machine_back sp_Machine_fault : Sp) : TS :=
  (tSeq (tAsg (tOp (rIxL K) (tFd (He.ga K "Machine") "frames" (tVar 0)) (tOp rSubI (tCB (rLenQ K) (tCons (tFd (He.ga K "Machine") "frames" (tVar 0)) tNil)) (tC (.int 1)))) (gName 1))
    (tSeq (tAsg (tOp (rIxL K) (tFd (He.ga K "Machine") "code" (tVar 0)) (tFd (He.ga K "Frame") "place" (tVar 1))) (gName 2))
    (tSeq (tAsg (tOp (rIxT K) (tVar 2) (tC (.int 0))) (gName 3))
    (tIfS (tTest (tOp (rIn K false) (tVar 3) (tTup (tCons (tC (.str "add")) (tCons (tC (.str "sub")) (tCons (tC (.str "less")) (tCons (tC (.str "share")) tNil))))))) (tDrop (tMeth (He.ga K "Machine") "meet" sp_Machine_meet [] E0 (tVar 0) (tCons (tVar 1) (tCons (tVar 3) tNil)))) (tIfS (tTest (tOp (rIn K false) (tVar 3) (tTup (tCons (tC (.str "put")) (tCons (tC (.str "get")) (tCons (tC (.str "set")) (tCons (tC (.str "say")) tNil))))))) (tDrop (tMeth (He.ga K "Machine") "move" sp_Machine_move [] E0 (tVar 0) (tCons (tVar 1) (tCons (tVar 2) tNil)))) (tIfS (tTest (tOp (rIn K false) (tVar 3) (tTup (tCons (tC (.str "go")) (tCons (tC (.str "nought")) (tCons (tC (.str "on")) tNil)))))) (tDrop (tMeth (He.ga K "Machine") "jump" sp_Machine_jump [] E0 (tVar 0) (tCons (tVar 1) (tCons (tVar 2) tNil)))) (tIfS (tTest (tOp rEq (tVar 3) (tC (.str "turn")))) (tIfS (tB (tMeth (He.ga K "Machine") "taken" sp_Machine_taken [] E0 (tVar 0) tNil)) (sFd (He.ga K "Frame") "place" (tVar 1) (tOp rAddI (tFd (He.ga K "Frame") "place" (tVar 1)) (tC (.int 1)))) tNext) (tIfS (tTest (tOp rEq (tVar 3) (tC (.str "call")))) (tDrop (tMeth (He.ga K "Machine") "enter" sp_Machine_enter [] E0 (tVar 0) (tCons (tOp (rIxT K) (tVar 2) (tC (.int 1))) (tCons (tBM0 K "list" rPop (tFd (He.ga K "Frame") "pile" (tVar 1))) tNil)))) (tIfS (tTest (tOp rEq (tVar 3) (tC (.str "back")))) (tDrop (tMeth (He.ga K "Machine") "back" sp_Machine_back [] E0 (tVar 0) (tCons (tBM0 K "list" rPop (tFd (He.ga K "Frame") "pile" (tVar 1))) tNil))) (tDrop (tMeth (He.ga K "Machine") "fault" sp_Machine_fault [] E0 (tVar 0) (tCons (tBM0 K "list" rPop (tFd (He.ga K "Frame") "pile" (tVar 1))) tNil))))))))))))
def n_Machine_step : List Str := ["self", "frame", "row", "word"]
def t_Machine_taken (K : PySem.W.Frag) : TS :=
  (tSeq (tIfS (tTest (tOp rEq (tFd (He.ga K "Machine") "turns" (tVar 0)) (tC (.int 0)))) (tSeq (sFd (He.ga K "Machine") "ended" (tVar 0) (tTup (tCons (tC (.str "tired")) (tCons (tC (.int 0)) tNil))))
    (tRet (tC (.bl false)))) tNext)
    (tSeq (sFd (He.ga K "Machine") "turns" (tVar 0) (tOp rSubI (tFd (He.ga K "Machine") "turns" (tVar 0)) (tC (.int 1))))
    (tRet (tC (.bl true)))))
def n_Machine_taken : List Str := ["self"]
def t_Machine_move (K : PySem.W.Frag) (sp_Frame_lay : Sp) : TS :=
  (tSeq (tIfS (tTest (tOp rEq (tOp (rIxT K) (tVar 2) (tC (.int 0))) (tC (.str "put")))) (tSeq (tDrop (tMeth (He.ga K "Frame") "lay" sp_Frame_lay [] E0 (tVar 1) (tCons (tOp (rIxT K) (tVar 2) (tC (.int 1))) tNil)))
    tRetN) tNext)
    (tSeq (tIfS (tTest (tOp rEq (tOp (rIxT K) (tVar 2) (tC (.int 0))) (tC (.str "get")))) (tSeq (tDrop (tMeth (He.ga K "Frame") "lay" sp_Frame_lay [] E0 (tVar 1) (tCons (tOp (rIxL K) (tFd (He.ga K "Frame") "boxes" (tVar 1)) (tOp (rIxT K) (tVar 2) (tC (.int 1)))) tNil)))
    tRetN) tNext)
    (tSeq (tAsg (tBM0 K "list" rPop (tFd (He.ga K "Frame") "pile" (tVar 1))) (gName 3))
    (tSeq (tIfS (tTest (tOp rEq (tOp (rIxT K) (tVar 2) (tC (.int 0))) (tC (.str "set")))) (tAsg (tVar 3) (gSub (tFd (He.ga K "Frame") "boxes" (tVar 1)) (tOp (rIxT K) (tVar 2) (tC (.int 1))) rSetL)) (tDrop (tBM K "list" rAppend (tFd (He.ga K "Machine") "said" (tVar 0)) (tCons (tVar 3) tNil))))
    (sFd (He.ga K "Frame") "place" (tVar 1) (tOp rAddI (tFd (He.ga K "Frame") "place" (tVar 1)) (tC (.int 1))))))))
def n_Machine_move : List Str := ["self", "frame", "row", "number"]
def t_Machine_meet (K : PySem.W.Frag) (sp_Frame_lay sp_Machine_fault : Sp) : TS :=
  (tSeq (tAsg (tBM0 K "list" rPop (tFd (He.ga K "Frame") "pile" (tVar 1))) (gName 3))
    (tSeq (tAsg (tBM0 K "list" rPop (tFd (He.ga K "Frame") "pile" (tVar 1))) (gName 4))
    (tIfS (tTest (tOp rEq (tVar 2) (tC (.str "add")))) (tDrop (tMeth (He.ga K "Frame") "lay" sp_Frame_lay [] E0 (tVar 1) (tCons (tOp rAddI (tVar 4) (tVar 3)) tNil))) (tIfS (tTest (tOp rEq (tVar 2) (tC (.str "sub")))) (tDrop (tMeth (He.ga K "Frame") "lay" sp_Frame_lay [] E0 (tVar 1) (tCons (tOp rSubI (tVar 4) (tVar 3)) tNil))) (tIfS (tTest (tOp rEq (tVar 2) (tC (.str "less")))) (tDrop (tMeth (He.ga K "Frame") "lay" sp_Frame_lay [] E0 (tVar 1) (tCons (tIf (tTest (tOp rLtI (tVar 4) (tVar 3))) (tC (.int 1)) (tC (.int 0))) tNil))) (tIfS (tTest (tOp rEq (tVar 3) (tC (.int 0)))) (tDrop (tMeth (He.ga K "Machine") "fault" sp_Machine_fault [] E0 (tVar 0) (tCons (tC (.int 101)) tNil))) (tDrop (tMeth (He.ga K "Frame") "lay" sp_Frame_lay [] E0 (tVar 1) (tCons (tOp rFd (tVar 4) (tVar 3)) tNil)))))))))
def n_Machine_meet : List Str := ["self", "frame", "word", "other", "one"]
def t_Machine_jump (K : PySem.W.Frag) : TS :=
  (tIfS (tTest (tOp rEq (tOp (rIxT K) (tVar 2) (tC (.int 0))) (tC (.str "on")))) (sFd (He.ga K "Frame") "place" (tVar 1) (tOp (rIxL K) (tFd (He.ga K "Frame") "boxes" (tVar 1)) (tOp (rIxT K) (tVar 2) (tC (.int 1))))) (tIfS (tOr (tTest (tOp rEq (tOp (rIxT K) (tVar 2) (tC (.int 0))) (tC (.str "go")))) (tTest (tOp rEq (tBM0 K "list" rPop (tFd (He.ga K "Frame") "pile" (tVar 1))) (tC (.int 0))))) (sFd (He.ga K "Frame") "place" (tVar 1) (tOp (rIxT K) (tVar 2) (tC (.int 1)))) (sFd (He.ga K "Frame") "place" (tVar 1) (tOp rAddI (tFd (He.ga K "Frame") "place" (tVar 1)) (tC (.int 1))))))
def n_Machine_jump : List Str := ["self", "frame", "row"]
def t_Machine_enter (K : PySem.W.Frag) (sp_Machine_taken sp_Machine_fault sp_Frame___init__ : Sp) : TS :=
  (tSeq (tIfS (tNot (tB (tMeth (He.ga K "Machine") "taken" sp_Machine_taken [] E0 (tVar 0) tNil))) tRetN tNext)
    (tIfS (tTest (tOp rEq (tCB (rLenQ K) (tCons (tFd (He.ga K "Machine") "frames" (tVar 0)) tNil)) (tC (.int 8)))) (tDrop (tMeth (He.ga K "Machine") "fault" sp_Machine_fault [] E0 (tVar 0) (tCons (tC (.int 102)) tNil))) (tDrop (tBM K "list" rAppend (tFd (He.ga K "Machine") "frames" (tVar 0)) (tCons (tMake (He.ga K "Frame") sp_Frame___init__ [] E0 (tCons (tOp (rIxL K) (tFd (He.ga K "Machine") "starts" (tVar 0)) (tVar 1)) (tCons (tFd (He.ga K "Machine") "boxes" (tVar 0)) (tCons (tVar 2) tNil)))) tNil)))))
def n_Machine_enter : List Str := ["self", "number", "given"]
def t_Machine_back (K : PySem.W.Frag) (sp_Frame_lay : Sp) : TS :=
  (tSeq (tDrop (tBM0 K "list" rPop (tFd (He.ga K "Machine") "frames" (tVar 0))))
    (tIfS (tTest (tOp rEq (tCB (rLenQ K) (tCons (tFd (He.ga K "Machine") "frames" (tVar 0)) tNil)) (tC (.int 0)))) (sFd (He.ga K "Machine") "ended" (tVar 0) (tTup (tCons (tC (.str "answer")) (tCons (tVar 1) tNil)))) (tDrop (tMeth (He.ga K "Frame") "lay" sp_Frame_lay [] E0 (tOp (rIxL K) (tFd (He.ga K "Machine") "frames" (tVar 0)) (tOp rSubI (tCB (rLenQ K) (tCons (tFd (He.ga K "Machine") "frames" (tVar 0)) tNil)) (tC (.int 1)))) (tCons (tVar 1) tNil)))))
def n_Machine_back : List Str := ["self", "given"]
def t_Machine_fault (K : PySem.W.Frag) (sp_goal_of : Sp) : TS :=
  (tSeq (tWhile (tTest (tOp rGtI (tCB (rLenQ K) (tCons (tFd (He.ga K "Machine") "frames" (tVar 0)) tNil)) (tC (.int 0)))) (tSeq (tAsg (tOp (rIxL K) (tFd (He.ga K "Machine") "frames" (tVar 0)) (tOp rSubI (tCB (rLenQ K) (tCons (tFd (He.ga K "Machine") "frames" (tVar 0)) tNil)) (tC (.int 1)))) (gName 2))
    (tSeq (tAsg (tCall sp_goal_of [] E0 (tCons (tFd (He.ga K "Machine") "stretches" (tVar 0)) (tCons (tFd (He.ga K "Frame") "place" (tVar 2)) tNil))) (gName 3))
    (tSeq (tIfS (tTest (tOp rIsNotNo (tVar 3) (tC .non))) (tSeq (sFd (He.ga K "Frame") "pile" (tVar 2) (tLst (tCons (tVar 1) tNil)))
    (tSeq (sFd (He.ga K "Frame") "place" (tVar 2) (tVar 3))
    tRetN)) tNext)
    (tDrop (tBM0 K "list" rPop (tFd (He.ga K "Machine") "frames" (tVar 0))))))))
    (sFd (He.ga K "Machine") "ended" (tVar 0) (tTup (tCons (tC (.str "fault")) (tCons (tVar 1) tNil)))))
def n_Machine_fault : List Str := ["self", "number", "frame", "goal"]
def t_run (K : PySem.W.Frag) (sp_Machine___init__ sp_Machine_step : Sp) : TS :=
  (tSeq (tAsg (tMake (He.ga K "Machine") sp_Machine___init__ [] E0 (tCons (tVar 0) (tCons (tVar 1) (tCons (tVar 2) tNil)))) (gName 3))
    (tSeq (tWhile (tTest (tOp rIsNo (tFd (He.ga K "Machine") "ended" (tVar 3)) (tC .non))) (tDrop (tMeth (He.ga K "Machine") "step" sp_Machine_step [] E0 (tVar 3) tNil)))
    (tRet (tTup (tCons (tFd (He.ga K "Machine") "said" (tVar 3)) (tCons (tOp (rIxT K) (tFd (He.ga K "Machine") "ended" (tVar 3)) (tC (.int 0))) (tCons (tOp (rIxT K) (tFd (He.ga K "Machine") "ended" (tVar 3)) (tC (.int 1))) tNil)))))))
def n_run : List Str := ["parts", "number", "turns", "machine"]
end U

/-! the machine, in plain Lean -/
namespace Un
open PySem

inductive Rw where
  | put (n : Int) | get (k : Int) | set (k : Int) | say | add | sub | less | share | go (p : Int) | nought (p : Int) | on (k : Int) | turn | call (f : Int) | back | raise
  deriving DecidableEq, Repr

abbrev Stretch := Int × Int × Int
structure Parts where
  code : List Rw
  str : List Stretch
  starts : List Int
  boxes : Int

structure Fr where
  place : Int
  boxes : List Int
  pile : List Int

inductive Ed where
  | answer | fault | tired
  deriving DecidableEq, Repr
def Ed.str : Ed → Str
  | .answer => "answer"
  | .fault => "fault"
  | .tired => "tired"

structure Mc where
  frames : List Fr
  said : List Int
  turns : Nat
  ended : Option (Ed × Int)

def nth {α : Type} (xs : List α) (i : Int) : Option α := if 0 ≤ i then xs[i.toNat]? else none
def goalOf : List Stretch → Int → Option Int
  | [], _ => none
  | s :: r, p => if s.1 ≤ p ∧ p < s.2.1 then some s.2.2 else goalOf r p
def Fr.lay (f : Fr) (n : Int) : Fr := { f with pile := n :: f.pile, place := f.place + 1 }
def faultF (S : List Stretch) (n : Int) : List Fr → List Fr
  | [] => []
  | f :: r => match goalOf S f.place with
    | some g => { f with pile := [n], place := g } :: r
    | none => faultF S n r
def Mc.fault (P : Parts) (m : Mc) (n : Int) : Mc := match faultF P.str n m.frames with
  | [] => { m with frames := [], ended := some (.fault, n) }
  | f :: r => { m with frames := f :: r }
def Mc.tired (m : Mc) : Mc := { m with ended := some (.tired, 0) }
def newBoxes (nb given : Int) : List Int := given :: List.replicate (nb - 1).toNat 0
def Mc.enter (P : Parts) (m : Mc) (g v : Int) : Option Mc :=
  if m.turns = 0 then some m.tired
  else if m.frames.length = 8 then some (({ m with turns := m.turns - 1 } : Mc).fault P 102)
  else (nth P.starts g).map fun s => { m with turns := m.turns - 1, frames := ⟨s, newBoxes P.boxes v, []⟩ :: m.frames }
def Mc.back (m : Mc) (v : Int) : Mc := match m.frames with
  | [] => m
  | [_] => { m with frames := [], ended := some (.answer, v) }
  | _ :: g :: r => { m with frames := g.lay v :: r }
/-- a number laid or taken -/
def moveRw (row : Rw) (f : Fr) (r : List Fr) (m : Mc) : Option Mc := match row with
  | .put n => some { m with frames := f.lay n :: r }
  | .get k => (nth f.boxes k).map fun v => { m with frames := f.lay v :: r }
  | .set k => match f.pile with
    | v :: p => if 0 ≤ k ∧ k < f.boxes.length then some { m with frames := ⟨f.place + 1, f.boxes.set k.toNat v, p⟩ :: r } else none
    | [] => none
  | .say => match f.pile with
    | v :: p => some { m with said := m.said ++ [v], frames := ⟨f.place + 1, f.boxes, p⟩ :: r }
    | [] => none
  | _ => none
/-- two numbers joined -/
def meetRw (P : Parts) (row : Rw) (f : Fr) (r : List Fr) (m : Mc) : Option Mc := match f.pile with
  | b :: a :: p => match row with
    | .add => some { m with frames := (⟨f.place, f.boxes, p⟩ : Fr).lay (a + b) :: r }
    | .sub => some { m with frames := (⟨f.place, f.boxes, p⟩ : Fr).lay (a - b) :: r }
    | .less => some { m with frames := (⟨f.place, f.boxes, p⟩ : Fr).lay (if a < b then 1 else 0) :: r }
    | .share => if b = 0 then some (({ m with frames := ⟨f.place, f.boxes, p⟩ :: r } : Mc).fault P 101) else some { m with frames := (⟨f.place, f.boxes, p⟩ : Fr).lay (a.fdiv b) :: r }
    | _ => none
  | _ => none
/-- on at another place -/
def jumpRw (row : Rw) (f : Fr) (r : List Fr) (m : Mc) : Option Mc := match row with
  | .go p => some { m with frames := { f with place := p } :: r }
  | .nought p => match f.pile with
    | v :: q => some { m with frames := ⟨if v = 0 then p else f.place + 1, f.boxes, q⟩ :: r }
    | [] => none
  | .on k => (nth f.boxes k).map fun v => { m with frames := { f with place := v } :: r }
  | _ => none
/-- one row, the innermost frame f, those around r -/
def stepRw (P : Parts) (row : Rw) (f : Fr) (r : List Fr) (m : Mc) : Option Mc := match row with
  | .put n => moveRw (.put n) f r m
  | .get k => moveRw (.get k) f r m
  | .set k => moveRw (.set k) f r m
  | .say => moveRw .say f r m
  | .add => meetRw P .add f r m
  | .sub => meetRw P .sub f r m
  | .less => meetRw P .less f r m
  | .share => meetRw P .share f r m
  | .go p => jumpRw (.go p) f r m
  | .nought p => jumpRw (.nought p) f r m
  | .on k => jumpRw (.on k) f r m
  | .turn => if m.turns = 0 then some m.tired else some { m with turns := m.turns - 1, frames := { f with place := f.place + 1 } :: r }
  | .call g => match f.pile with
    | v :: q => ({ m with frames := { f with pile := q } :: r } : Mc).enter P g v
    | [] => none
  | .back => match f.pile with
    | v :: q => some (({ m with frames := { f with pile := q } :: r } : Mc).back v)
    | [] => none
  | .raise => match f.pile with
    | v :: q => some (({ m with frames := { f with pile := q } :: r } : Mc).fault P v)
    | [] => none
def rowStep (P : Parts) (m : Mc) : Option Mc := match m.frames with
  | [] => none
  | f :: r => match nth P.code f.place with
    | none => none
    | some row => stepRw P row f r m
def begun (P : Parts) (number : Int) (turns : Nat) : Option Mc := (nth P.starts 0).map fun s => ⟨[⟨s, newBoxes P.boxes number, []⟩], [], turns, none⟩
/-- k rows, none behind the end -/
def rowSteps (P : Parts) : Nat → Mc → Option Mc
  | 0, m => some m
  | k + 1, m => if m.ended.isSome then none else (rowStep P m).bind (rowSteps P k)
end Un

set_option maxHeartbeats 4000000
namespace U
open PySem PySem.Spec PyProof.Rows L2 Un
local macro_rules | `(tactic| walk_at "w1") => `(tactic| first
  | with_reducible refine w_seq ?_
  | with_reducible refine w_asg ?_
  | with_reducible refine w_op ?_
  | ((with_reducible refine' w_var ?h1 ?_); (case h1 => rfl))
  | with_reducible refine w_c ?_
  | with_reducible refine w_name ?_
  | with_reducible refine w_tFd ?_
  | ((with_reducible refine' w_fld ?h1 ?h2 ?_); (case h1 => assumption); (case h2 => rfl))
  | with_reducible refine w_if ?_
  | with_reducible refine w_test ?_
  | with_reducible refine w_eqS ?_
  | with_reducible refine w_eqI ?_
  | with_reducible refine w_neS ?_
  | with_reducible refine w_neI ?_
  | with_reducible refine w_isN ?_
  | with_reducible refine w_isnN ?_
  | with_reducible refine w_bl ?_
  | with_reducible refine w_ret ?_
  | with_reducible refine w_drop ?_
  | with_reducible refine w_next ?_
  | with_reducible refine w_cons ?_
  | with_reducible refine w_nil ?_
  | with_reducible refine w_call ?_
  | with_reducible refine w_cb ?_
  | with_reducible refine w_meth ?_
  | ((with_reducible refine' w_recv ?h1 ?h2 ?_); (case h1 => assumption); (case h2 => rfl))
  | with_reducible refine w_sFd ?_
  | ((with_reducible refine' w_put ?h1 ?h2 ?_); (case h1 => assumption); (case h2 => exact Nat.le_of_ble_eq_true rfl))
  | with_reducible refine w_add ?_
  | with_reducible refine w_sub ?_
  | with_reducible refine w_lt ?_
  | with_reducible refine w_le ?_
  | with_reducible refine w_gt ?_
  | with_reducible refine w_ge ?_
  | with_reducible refine w_bm ?_
  | with_reducible refine w_bm0 ?_
  | ((with_reducible refine' w_ty ?h1 ?_); (case h1 => assumption))
  | with_reducible refine w_tup ?_
  | with_reducible refine w_lst ?_
  | ((with_reducible refine' w_new ?h1 ?_); (case h1 => exact Nat.le_of_ble_eq_true rfl))
  | with_reducible refine w_gsub ?_
  | with_reducible refine w_make ?_
  | with_reducible refine w_lc ?_
  | with_reducible refine w_iList ?_
  | with_reducible refine w_for ?_
  | with_reducible refine w_yes ?_
  | with_reducible refine w_tSl ?_
  | with_reducible refine w_part ?_
  | with_reducible refine w_nopart ?_
  | with_reducible refine w_i ?_
  | with_reducible refine w_rng1 ?_
  | with_reducible refine w_rng2 ?_
  | with_reducible refine w_isiII ?_
  | with_reducible refine w_isiIB ?_
  | with_reducible refine w_isiSS ?_
  | ((with_reducible refine w_mod ?h1 ?_); (case h1 => decide))
  | ((with_reducible refine w_fdC' ?h1 ?h2 ?_); (case h1 => decide); (case h2 => decide))
  | ((with_reducible refine w_mulR ?h1 ?h2 ?_); (case h1 => decide); (case h2 => decide))
  | ((with_reducible refine w_mulL ?h1 ?h2 ?_); (case h1 => decide); (case h2 => decide))
  | ((with_reducible refine w_pow' ?h1 ?h2 ?h3 ?_); (case h1 => decide); (case h2 => decide); (case h3 => decide))
  | with_reducible refine w_andV ?_
  | with_reducible refine w_orV ?_
  | with_reducible refine w_notV ?_
  | with_reducible refine w_B ?_
  | with_reducible refine w_not ?_
  | with_reducible refine w_and ?_
  | with_reducible refine w_or ?_
  | with_reducible refine w_ifx ?_
  | with_reducible refine w_un ?_
  | ((with_reducible refine w_T ?h1 ?_); (case h1 => with_reducible rfl))
  | ((with_reducible refine w_F ?h1 ?_); (case h1 => with_reducible rfl))
  | ((with_reducible refine w_T ?h1 ?_); (case h1 => decide +kernel))
  | ((with_reducible refine w_F ?h1 ?_); (case h1 => decide +kernel)))
local macro_rules | `(tactic| walk_at "w") => `(tactic| repeat walk_at "w1")

/-! ### what stands where -/
def words : Rw → List V
  | .put n => [.str "put", .int n]
  | .get k => [.str "get", .int k]
  | .set k => [.str "set", .int k]
  | .say => [.str "say"]
  | .add => [.str "add"]
  | .sub => [.str "sub"]
  | .less => [.str "less"]
  | .share => [.str "share"]
  | .go p => [.str "go", .int p]
  | .nought p => [.str "nought", .int p]
  | .on k => [.str "on", .int k]
  | .turn => [.str "turn"]
  | .call f => [.str "call", .int f]
  | .back => [.str "back"]
  | .raise => [.str "raise"]
def IsTup (K : PySem.W.Frag) (H : Hp) (v : V) (xs : List V) : Prop := ∃ a, v = .ref a ∧ SqT K H a xs
def IsRow (K : PySem.W.Frag) (H : Hp) (v : V) (r : Rw) : Prop := IsTup K H v (words r)
def IsStr (K : PySem.W.Frag) (H : Hp) (v : V) (s : Stretch) : Prop := IsTup K H v [.int s.1, .int s.2.1, .int s.2.2]
theorem IsTup.mono {K : PySem.W.Frag} {H H' : Hp} {v : V} {xs : List V} (s : Same H H') (h : IsTup K H v xs) : IsTup K H' v xs := by
  obtain ⟨a, e, h⟩ := h
  exact ⟨a, e, same_tup s h⟩
/-- the code, the stretches and the starts stand at c, st, sr -/
structure PartsIn (K : PySem.W.Frag) (H : Hp) (c st sr : Addr) (P : Parts) : Prop where
  code : ∃ vs, SqL K H c vs ∧ All2 (IsRow K H) vs P.code
  str : ∃ vs, SqL K H st vs ∧ All2 (IsStr K H) vs P.str
  starts : SqL K H sr (P.starts.map V.int)
theorem PartsIn.mono {K : PySem.W.Frag} {H H' : Hp} {c st sr : Addr} {P : Parts} (s : Same H H') (h : PartsIn K H c st sr P) : PartsIn K H' c st sr P := by
  obtain ⟨⟨v1, a1, b1⟩, ⟨v2, a2, b2⟩, h3⟩ := h
  exact ⟨⟨v1, s.seq a1, b1.mono fun _ _ q => q.mono s⟩, ⟨v2, s.seq a2, b2.mono fun _ _ q => q.mono s⟩, s.seq h3⟩

/-! ### goal_of -/
def goalV : Option Int → V
  | none => .non
  | some g => .int g
def sp_goal_of (K : PySem.W.Frag) : Sp := fun vs H Q _ => ∃ a ss S p, vs = [.ref a, .int p] ∧ SqL K H a ss ∧ All2 (IsStr K H) ss S ∧ Q (goalV (goalOf S p)) H
theorem p_goal_of {K : PySem.W.Frag} (vs : List V) (H : Hp) (Q : VK) (E : XK) (h : sp_goal_of K vs H Q E) : t_goal_of K { nx := fun _ H' => Q .non H', rt := Q } (start n_goal_of vs) H := by
  obtain ⟨a, ss, S, p, rfl, hS, hR, q⟩ := h
  refine w_seq ⟨_, rfl, a, rfl, ⟨_, hS⟩, for_list (xs := ss) (fun i σ H' => H' = H ∧ goalOf (S.drop i) p = goalOf S p ∧ ∃ x, σ = [some (.ref a), some (.int p), x])
    ⟨rfl, rfl, _, rfl⟩ (fun i σ H' _ h => h.1 ▸ hS) ?_ ?_⟩
  · rintro i x σ H' hx ⟨rfl, hg, y, rfl⟩
    obtain ⟨s, ⟨b, rfl, hb⟩, hd⟩ := hR.drop i hx
    rw [hd] at hg
    walk_at "w"
    refine w_ixT hb rfl ?_
    walk_at "w"
    refine w_D (fun c1 => ?_) (fun c1 => ?_)
    · walk_at "w"
      refine w_ixT hb rfl ?_
      walk_at "w"
      refine w_D (fun c2 => ?_) (fun c2 => ?_)
      · walk_at "w"
        refine w_ixT hb rfl ?_
        have e : goalOf S p = some s.2.2 := by
          rw [← hg, goalOf, if_pos ⟨c1, c2⟩]
        rw [e] at q
        exact q
      · walk_at "w"
        refine ⟨rfl, ?_, _, rfl⟩
        rw [← hg, goalOf, if_neg (fun z => c2 z.2)]
    · walk_at "w"
      refine ⟨rfl, ?_, _, rfl⟩
      rw [← hg, goalOf, if_neg (fun z => c1 z.1)]
  · rintro σ H' ⟨rfl, hg, y, rfl⟩
    rw [hR.len, List.drop_length] at hg
    rw [← hg] at q
    walk_at "w"
    exact q

/-! ### frames and the machine -/
def frF (p : Int) (b q : Addr) : List (Str × V) := [("place", .int p), ("boxes", .ref b), ("pile", .ref q)]
def mcF (c st sr : Addr) (nb t : Int) (s : Addr) (e : V) (l : Addr) : List (Str × V) :=
  [("code", .ref c), ("stretches", .ref st), ("starts", .ref sr), ("boxes", .int nb), ("turns", .int t), ("said", .ref s), ("ended", e), ("frames", .ref l)]
def pileV : List Int → List V
  | [] => []
  | n :: p => pileV p ++ [.int n]
structure FA where
  a : Addr
  dx : Addr
  b : Addr
  q : Addr
def refsV : List FA → List V
  | [] => []
  | x :: xs => refsV xs ++ [.ref x.a]
def frsCells (K : PySem.W.Frag) : List FA → List Fr → List Cell
  | x :: xs, f :: fs => (x.a, .ins (He.ga K "Frame") x.dx (frF f.place x.b x.q)) :: (x.b, .lst (f.boxes.map V.int)) :: (x.q, .lst (pileV f.pile)) :: frsCells K xs fs
  | _, _ => []
/-- where the machine at m stands: c, st, sr its parts' lists -/
structure Wh where
  m : Addr
  c : Addr
  st : Addr
  sr : Addr
structure Ad where
  dx : Addr
  l : Addr
  s : Addr
  fas : List FA
def mcCells (K : PySem.W.Frag) (w : Wh) (nb : Int) (d : Ad) (e : V) (M : Mc) : List Cell :=
  (w.m, .ins (He.ga K "Machine") d.dx (mcF w.c w.st w.sr nb M.turns d.s e d.l)) :: (d.l, .lst (refsV d.fas)) :: (d.s, .lst (M.said.map V.int)) :: frsCells K d.fas M.frames
def EndAt (H : Hp) (e : V) : Option (Ed × Int) → Prop
  | none => e = .non
  | some (x, n) => ∃ t, e = .ref t ∧ H t = some (.tup [.str x.str, .int n])
structure MAt (K : PySem.W.Frag) (H0 H : Hp) (w : Wh) (nb : Int) (M : Mc) (d : Ad) (e : V) : Prop where
  own : Own H0 H (mcCells K w nb d e M)
  len : d.fas.length = M.frames.length
  endd : EndAt H e M.ended
def MIn (K : PySem.W.Frag) (H0 H : Hp) (w : Wh) (nb : Int) (M : Mc) : Prop := ∃ d e, MAt K H0 H w nb M d e
def LIM : Nat := 16000000
theorem lim_lt {n : Nat} (h : n < LIM) : n < sizeLine := Nat.lt_of_lt_of_le h (by show (16000000 : Nat) ≤ sizeLine; rw [sizeLine_eq]; decide)
theorem pileV_len : ∀ p : List Int, (pileV p).length = p.length
  | [] => rfl
  | n :: p => by simp [pileV, pileV_len p]

/-! ### Frame -/
def sp_Frame_lay (K : PySem.W.Frag) : Sp := fun vs H Q _ => ∃ a n dx p b q xs, vs = [.ref a, .int n] ∧ H a = some (.ins (He.ga K "Frame") dx (frF p b q)) ∧ H q = some (.lst xs) ∧ xs.length < LIM ∧
  Q .non (upd (upd H q (.lst (xs ++ [.int n]))) a (.ins (He.ga K "Frame") dx (frF (p + 1) b q)))
theorem ins_lst {H : Hp} {a b C dx : Addr} {fs : List (Str × V)} {xs : List V} (h : H a = some (.ins C dx fs)) (h' : H b = some (.lst xs)) : a ≠ b := ne_of h h' (by intro z; cases z)
theorem p_Frame_lay {K : PySem.W.Frag} (vs : List V) (H : Hp) (Q : VK) (E : XK) (h : sp_Frame_lay K vs H Q E) : t_Frame_lay K { nx := fun _ H' => Q .non H', rt := Q } (L2.start n_Frame_lay vs) H := by
  obtain ⟨a, n, dx, p, b, q, xs, rfl, ha, hq, hl, k⟩ := h
  unfold t_Frame_lay
  walk_at "w"
  refine w_app hq (lim_lt hl) ?_
  have ha' : upd H q (.lst (xs ++ [.int n])) a = some (.ins (He.ga K "Frame") dx (frF p b q)) := by
    rw [upd_ne (ins_lst ha hq)]; exact ha
  walk_at "w"
  exact k

def sp_Frame___init__ (K : PySem.W.Frag) : Sp := fun vs H Q _ => ∃ H0 a p nb n dx, vs = [.ref a, .int p, .int nb, .int n] ∧ Own H0 H [(a, .ins (He.ga K "Frame") dx [])] ∧ 0 ≤ nb ∧ nb < 16000000 ∧
  ∀ b q H', Own H0 H' [(a, .ins (He.ga K "Frame") dx (frF p b q)), (b, .lst ((newBoxes nb n).map V.int)), (q, .lst [])] → Q .non H'
theorem p_Frame___init__ {K : PySem.W.Frag} (vs : List V) (H : Hp) (Q : VK) (E : XK) (h : sp_Frame___init__ K vs H Q E) : t_Frame___init__ K { nx := fun _ H' => Q .non H', rt := Q } (L2.start n_Frame___init__ vs) H := by
  obtain ⟨H0, a, p, nb, n, dx, rfl, w, hn0, hn, k⟩ := h
  have ha := w.ix 0 rfl
  unfold t_Frame___init__
  walk_at "w"
  have w1 := w.set 0 (.ins (He.ga K "Frame") dx [("place", .int p)]) rfl
  refine fun p1 h1 => ?_
  walk_at "w"
  refine fun p2 h2 => ?_
  walk_at "w"
  have w2 := (w1.lay (o := .lst [.int n]) h1).lay (o := .lst [.int 0]) h2
  refine w_rep1 upd_same (by omega) (by omega) fun p3 h3 => ?_
  have e1 : upd (upd (upd (upd H a (.ins (He.ga K "Frame") dx [("place", .int p)])) p1 (.lst [.int n])) p2 (.lst [.int 0])) p3 (.lst (List.replicate (nb - 1).toNat (.int 0))) p1 = some (.lst [.int n]) := by
    rw [upd_ne (ne_of_none (o := .lst [.int n]) (by rw [upd_ne (ne_of_none upd_same h2)]; exact upd_same) h3), upd_ne (ne_of_none upd_same h2), upd_same]
  refine w_cat e1 upd_same ?_ fun b hb => ?_
  · rw [List.length_replicate, sizeLine_eq]
    show 1 + _ ≤ _
    omega
  have w3 := (w2.lay (o := .lst (List.replicate (nb - 1).toNat (.int 0))) h3).take (o := .lst ([.int n] ++ List.replicate (nb - 1).toNat (.int 0))) hb
  have ha3 := w3.ix 1 rfl
  walk_at "w"
  have w4 := w3.set 1 (.ins (He.ga K "Frame") dx [("place", .int p), ("boxes", .ref b)]) rfl
  refine fun q hq => ?_
  have w5 := w4.take (o := .lst []) hq
  have ha5 := w5.ix 2 rfl
  walk_at "w"
  have w6 := w5.set 2 (.ins (He.ga K "Frame") dx (frF p b q)) rfl
  refine k b q _ ?_
  have eb : (newBoxes nb n).map V.int = [.int n] ++ List.replicate (nb - 1).toNat (.int 0) := by simp [newBoxes]
  rw [eb]
  exact w6.perm (by
    refine List.Perm.trans (l₂ := [(q, HO.lst []), (a, HO.ins (He.ga K "Frame") dx (frF p b q)), (b, .lst ([.int n] ++ List.replicate (nb - 1).toNat (.int 0)))]) ?_ ?_
    · exact .cons _ (.swap _ _ _)
    · exact (List.Perm.swap _ _ _).trans (.cons _ (.swap _ _ _)))

/-! ### Machine.taken -/
def sp_Machine_taken (K : PySem.W.Frag) : Sp := fun vs H Q _ => ∃ H0 wh nb M d, vs = [.ref wh.m] ∧ Own H0 H (mcCells K wh nb d .non M) ∧
  (M.turns = 0 → ∀ H' t, Own H0 H' (mcCells K wh nb d (.ref t) M) → H' t = some (.tup [.str "tired", .int 0]) → Q (.bl false) H') ∧
  (M.turns ≠ 0 → ∀ H', Own H0 H' (mcCells K wh nb d .non { M with turns := M.turns - 1 }) → Q (.bl true) H')
theorem p_Machine_taken {K : PySem.W.Frag} (vs : List V) (H : Hp) (Q : VK) (E : XK) (h : sp_Machine_taken K vs H Q E) : t_Machine_taken K { nx := fun _ H' => Q .non H', rt := Q } (L2.start n_Machine_taken vs) H := by
  obtain ⟨H0, wh, nb, M, d, rfl, w, k0, k1⟩ := h
  have hm := w.ix 0 rfl
  unfold t_Machine_taken
  walk_at "w"
  refine w_D (fun c => ?_) (fun c => ?_)
  · walk_at "w"
    refine fun t ht => ?_
    have w1 := w.lay (o := .tup [.str "tired", .int 0]) ht
    have hm1 := w1.ix 0 rfl
    walk_at "w"
    refine k0 (by omega) _ t (w1.set 0 _ rfl) ?_
    rw [upd_ne (ne_of_none hm ht).symm, upd_same]
  · walk_at "w"
    refine k1 (by omega) _ ?_
    have e : ((M.turns : Nat) : Int) - 1 = ((M.turns - 1 : Nat) : Int) := by omega
    rw [e]
    exact w.set 0 _ rfl

/-! ### Machine.fault -/
theorem refs_last {x : FA} {xs : List FA} : atI (refsV (x :: xs)) (((refsV (x :: xs)).length : Int) - 1) = some (.ref x.a) := atI_end rfl
theorem refs_len : ∀ xs : List FA, (refsV xs).length = xs.length
  | [] => rfl
  | x :: xs => by simp [refsV, refs_len xs]
def sp_Machine_fault (K : PySem.W.Frag) : Sp := fun vs H Q _ => ∃ H0 wh P M d n, vs = [.ref wh.m, .int n] ∧ MAt K H0 H wh P.boxes M d .non ∧ PartsIn K H0 wh.c wh.st wh.sr P ∧
  ∀ H', MIn K H0 H' wh P.boxes (M.fault P n) → Q .non H'
theorem p_Machine_fault {K : PySem.W.Frag} (vs : List V) (H : Hp) (Q : VK) (E : XK) (h : sp_Machine_fault K vs H Q E) : t_Machine_fault K (sp_goal_of K) { nx := fun _ H' => Q .non H', rt := Q } (L2.start n_Machine_fault vs) H := by
  obtain ⟨H0, wh, P, M, d, n, rfl, w, pt, k⟩ := h
  have he : M.ended = none := by
    have q := w.endd
    cases e : M.ended with
    | none => rfl
    | some z =>
      rw [e] at q
      obtain ⟨t, h1, _⟩ := q
      cases h1
  unfold t_Machine_fault
  refine w_seq ⟨fun m σ H1 => ∃ fs d1 x2 x3, m = fs.length ∧ σ = [some (.ref wh.m), some (.int n), x2, x3] ∧ faultF P.str n fs = faultF P.str n M.frames ∧ MAt K H0 H1 wh P.boxes { M with frames := fs } d1 .non,
    ⟨_, M.frames, d, _, _, rfl, rfl, rfl, w⟩, ?_⟩
  rintro m σ H1 ⟨fs, d1, x2, x3, rfl, rfl, hf, w1⟩
  have hm := w1.own.ix 0 rfl
  have hl := w1.own.ix 1 rfl
  have hlen : d1.fas.length = fs.length := w1.len
  walk_at "w"
  refine w_lenL (SqL.of hl) ?_
  walk_at "w"
  refine w_D (fun c => ?_) (fun c => ?_)
  · rw [refs_len, hlen] at c
    match fs, d1, hlen, w1, hf, hm, hl with
    | [], _, _, _, _, _, _ => exact absurd c (by simp)
    | f :: r, ⟨dx, l, s, []⟩, hlen, _, _, _, _ => exact absurd hlen (by simp)
    | f :: r, ⟨dx, l, s, x :: xs⟩, hlen, w1, hf, hm, hl =>
    refine ⟨_, fun _ _ z => z, ?_⟩
    have ha := w1.own.ix 3 rfl
    walk_at "w"
    refine w_lenL (SqL.of hl) ?_
    walk_at "w"
    refine w_ixL (SqL.of hl) refs_last ?_
    walk_at "w"
    obtain ⟨ss, s1, s2⟩ := pt.str
    refine ⟨wh.st, ss, P.str, f.place, rfl, w1.own.same.seq s1, s2.mono fun _ _ q => q.mono w1.own.same, ?_⟩
    walk_at "w"
    cases hg : goalOf P.str f.place with
    | some g =>
      refine w_T rfl ?_
      walk_at "w"
      refine fun q hq => ?_
      have w2 := w1.own.take (o := .lst [.int n]) hq
      have ha2 := w2.ix 4 rfl
      walk_at "w"
      have w3 := w2.set 4 (.ins (He.ga K "Frame") x.dx (frF f.place x.b q)) rfl
      have ha3 := w3.ix 4 rfl
      walk_at "w"
      have w4 := w3.set 4 (.ins (He.ga K "Frame") x.dx (frF g x.b q)) rfl
      refine k _ ⟨⟨dx, l, s, ⟨x.a, x.dx, x.b, q⟩ :: xs⟩, .non, ?_⟩
      have ef : M.fault P n = { M with frames := ⟨g, f.boxes, [n]⟩ :: r } := by
        unfold Mc.fault
        rw [← hf]
        simp only [faultF, hg]
      rw [ef]
      refine ⟨?_, hlen, ?_⟩
      · exact w4.repl 5 (by simp [mcCells, frsCells])
      · show EndAt _ V.non M.ended
        rw [he]
        exact rfl
    | none =>
      refine w_F rfl ?_
      walk_at "w"
      refine w_popB hl ?_
      have w2 : Own H0 _ (mcCells K wh P.boxes ⟨dx, l, s, xs⟩ .non { M with frames := r }) := ((((w1.own.set 1 (.lst (refsV xs)) rfl).del 3).del 3).del 3)
      refine ⟨r.length, by simp, r, ⟨dx, l, s, xs⟩, _, _, rfl, rfl, ?_, w2, by simpa using hlen, ?_⟩
      · rw [← hf]
        simp only [faultF, hg]
      · show EndAt _ V.non M.ended
        rw [he]
        exact rfl
  · rw [refs_len, hlen] at c
    match fs, d1, hlen, w1, hf, hm, hl with
    | f :: r, _, _, _, _, _, _ => exact absurd (by simp) c
    | [], d1, hlen, w1, hf, hm, hl =>
    walk_at "w"
    refine fun t ht => ?_
    have w2 := w1.own.lay (o := .tup [.str "fault", .int n]) ht
    have hm2 := w2.ix 0 rfl
    walk_at "w"
    have ef : M.fault P n = { M with frames := [], ended := some (.fault, n) } := by
      unfold Mc.fault
      rw [← hf]
      simp only [faultF]
    refine k _ ⟨d1, .ref t, ?_⟩
    rw [ef]
    refine ⟨w2.set 0 _ rfl, hlen, t, rfl, ?_⟩
    rw [upd_ne (ne_of_none hm ht).symm, upd_same]
    rfl

/-! ### Machine.move -/
theorem MAt.noend {K : PySem.W.Frag} {H0 H : Hp} {wh : Wh} {nb : Int} {M : Mc} {d : Ad} (w : MAt K H0 H wh nb M d .non) : M.ended = none := by
  have q := w.endd
  cases e : M.ended with
  | none => rfl
  | some z =>
    rw [e] at q
    obtain ⟨t, h1, _⟩ := q
    cases h1
theorem nth_at {xs : List Int} {k v : Int} (h : nth xs k = some v) : atI (xs.map V.int) k = some (.int v) := by
  unfold nth at h
  by_cases h0 : 0 ≤ k
  · rw [if_pos h0] at h
    refine atI_ok h0 ?_
    rw [List.getElem?_map, h]
    rfl
  · rw [if_neg h0] at h
    cases h
def sp_Machine_move (K : PySem.W.Frag) : Sp := fun vs H Q _ => ∃ H0 wh nb f r said t dx l s x xs rw row M', vs = [.ref wh.m, .ref x.a, .ref rw] ∧
  MAt K H0 H wh nb ⟨f :: r, said, t, none⟩ ⟨dx, l, s, x :: xs⟩ .non ∧ SqT K H0 rw (words row) ∧ moveRw row f r ⟨f :: r, said, t, none⟩ = some M' ∧ f.pile.length < LIM ∧ said.length < LIM ∧
  ∀ H', MIn K H0 H' wh nb M' → Q .non H'
theorem MAt.lay {K : PySem.W.Frag} {H0 H : Hp} {wh : Wh} {nb n : Int} {f : Fr} {r : List Fr} {said : List Int} {t : Nat} {dx l s : Addr} {x : FA} {xs : List FA} (w : MAt K H0 H wh nb ⟨f :: r, said, t, none⟩ ⟨dx, l, s, x :: xs⟩ .non) :
    MIn K H0 (upd (upd H x.q (.lst (pileV f.pile ++ [.int n]))) x.a (.ins (He.ga K "Frame") x.dx (frF (f.place + 1) x.b x.q))) wh nb ⟨f.lay n :: r, said, t, none⟩ := by
  have w2 := w.own.set 5 (.lst (pileV f.pile ++ [.int n])) rfl
  exact ⟨⟨dx, l, s, x :: xs⟩, .non, ⟨w2.set 3 (.ins (He.ga K "Frame") x.dx (frF (f.place + 1) x.b x.q)) rfl, w.len, rfl⟩⟩
theorem p_Machine_move {K : PySem.W.Frag} (vs : List V) (H : Hp) (Q : VK) (E : XK) (h : sp_Machine_move K vs H Q E) : t_Machine_move K (sp_Frame_lay K) { nx := fun _ H' => Q .non H', rt := Q } (L2.start n_Machine_move vs) H := by
  obtain ⟨H0, wh, nb, f, r, said, t, dx, l, s, x, xs, rw, row, M', rfl, w, hrow, hM, hp, hs, k⟩ := h
  have hr := same_tup w.own.same hrow
  have hm := w.own.ix 0 rfl
  have ha := w.own.ix 3 rfl
  have hb := w.own.ix 4 rfl
  have hq := w.own.ix 5 rfl
  unfold t_Machine_move
  cases row with
  | put n =>
    cases hM
    walk_at "w"
    refine w_ixT hr rfl ?_
    walk_at "w"
    refine w_ixT hr rfl ?_
    walk_at "w"
    refine ⟨x.a, n, x.dx, f.place, x.b, x.q, _, rfl, ha, hq, by rw [pileV_len]; exact hp, ?_⟩
    exact k _ w.lay
  | get j =>
    cases hv : nth f.boxes j with
    | none => rw [moveRw, hv] at hM; cases hM
    | some v =>
      rw [moveRw, hv] at hM
      cases hM
      walk_at "w"
      refine w_ixT hr rfl ?_
      walk_at "w"
      refine w_ixT hr rfl ?_
      walk_at "w"
      refine w_ixT hr rfl ?_
      refine w_ixL (SqL.of hb) (nth_at hv) ?_
      walk_at "w"
      refine ⟨x.a, v, x.dx, f.place, x.b, x.q, _, rfl, ha, hq, by rw [pileV_len]; exact hp, ?_⟩
      exact k _ w.lay
  | set j =>
    obtain ⟨place, boxes, pile⟩ := f
    cases pile with
    | nil => cases hM
    | cons v p =>
      by_cases hj : 0 ≤ j ∧ j < boxes.length
      · simp only [moveRw, if_pos hj] at hM
        cases hM
        walk_at "w"
        refine w_ixT hr rfl ?_
        walk_at "w"
        refine w_ixT hr rfl ?_
        walk_at "w"
        refine w_popB hq ?_
        have w1 := w.own.set 5 (.lst (pileV p)) rfl
        have hr1 := same_tup w1.same hrow
        have ha1 := w1.ix 3 rfl
        have hb1 := w1.ix 4 rfl
        walk_at "w"
        refine w_ixT hr1 rfl ?_
        walk_at "w"
        refine w_ixT hr1 rfl ?_
        refine w_setL hb1 hj.1 (by rw [List.length_map]; exact hj.2) ?_
        have w2 := w1.set 4 (.lst ((boxes.map V.int).set j.toNat (.int v))) rfl
        have ha2 := w2.ix 3 rfl
        walk_at "w"
        refine k _ ⟨⟨dx, l, s, x :: xs⟩, .non, ⟨?_, w.len, rfl⟩⟩
        have w3 := w2.set 3 (.ins (He.ga K "Frame") x.dx (frF (place + 1) x.b x.q)) rfl
        have e : (boxes.set j.toNat v).map V.int = (boxes.map V.int).set j.toNat (.int v) := List.map_set ..
        unfold mcCells
        dsimp only [frsCells]
        rw [e]
        exact w3
      · simp only [moveRw, if_neg hj] at hM
        cases hM
  | say =>
    obtain ⟨place, boxes, pile⟩ := f
    cases pile with
    | nil => cases hM
    | cons v p =>
      cases hM
      walk_at "w"
      refine w_ixT hr rfl ?_
      walk_at "w"
      refine w_ixT hr rfl ?_
      walk_at "w"
      refine w_popB hq ?_
      have w1 := w.own.set 5 (.lst (pileV p)) rfl
      have hr1 := same_tup w1.same hrow
      have hm1 := w1.ix 0 rfl
      have hs1 := w1.ix 2 rfl
      walk_at "w"
      refine w_ixT hr1 rfl ?_
      walk_at "w"
      refine w_app hs1 (by rw [List.length_map]; exact lim_lt hs) ?_
      have w2 := w1.set 2 (.lst (said.map V.int ++ [.int v])) rfl
      have ha2 := w2.ix 3 rfl
      walk_at "w"
      refine k _ ⟨⟨dx, l, s, x :: xs⟩, .non, ⟨?_, w.len, rfl⟩⟩
      have w3 := w2.set 3 (.ins (He.ga K "Frame") x.dx (frF (place + 1) x.b x.q)) rfl
      have e : (said ++ [v]).map V.int = said.map V.int ++ [.int v] := by simp
      unfold mcCells
      dsimp only [frsCells]
      rw [e]
      exact w3
  | _ => cases hM
end U

set_option maxHeartbeats 4000000
namespace U
open PySem PySem.Spec PyProof.Rows L2 Un
local macro_rules | `(tactic| walk_at "w1") => `(tactic| first
  | with_reducible refine w_seq ?_
  | with_reducible refine w_asg ?_
  | with_reducible refine w_op ?_
  | ((with_reducible refine' w_var ?h1 ?_); (case h1 => rfl))
  | with_reducible refine w_c ?_
  | with_reducible refine w_name ?_
  | with_reducible refine w_tFd ?_
  | ((with_reducible refine' w_fld ?h1 ?h2 ?_); (case h1 => assumption); (case h2 => rfl))
  | with_reducible refine w_if ?_
  | with_reducible refine w_test ?_
  | with_reducible refine w_eqS ?_
  | with_reducible refine w_eqI ?_
  | with_reducible refine w_neS ?_
  | with_reducible refine w_neI ?_
  | with_reducible refine w_isN ?_
  | with_reducible refine w_isnN ?_
  | with_reducible refine w_bl ?_
  | with_reducible refine w_ret ?_
  | with_reducible refine w_drop ?_
  | with_reducible refine w_next ?_
  | with_reducible refine w_cons ?_
  | with_reducible refine w_nil ?_
  | with_reducible refine w_call ?_
  | with_reducible refine w_cb ?_
  | with_reducible refine w_meth ?_
  | ((with_reducible refine' w_recv ?h1 ?h2 ?_); (case h1 => assumption); (case h2 => rfl))
  | with_reducible refine w_sFd ?_
  | ((with_reducible refine' w_put ?h1 ?h2 ?_); (case h1 => assumption); (case h2 => exact Nat.le_of_ble_eq_true rfl))
  | with_reducible refine w_add ?_
  | with_reducible refine w_sub ?_
  | with_reducible refine w_lt ?_
  | with_reducible refine w_le ?_
  | with_reducible refine w_gt ?_
  | with_reducible refine w_ge ?_
  | with_reducible refine w_bm ?_
  | with_reducible refine w_bm0 ?_
  | ((with_reducible refine' w_ty ?h1 ?_); (case h1 => assumption))
  | with_reducible refine w_tup ?_
  | with_reducible refine w_lst ?_
  | ((with_reducible refine' w_new ?h1 ?_); (case h1 => exact Nat.le_of_ble_eq_true rfl))
  | with_reducible refine w_gsub ?_
  | with_reducible refine w_make ?_
  | with_reducible refine w_lc ?_
  | with_reducible refine w_iList ?_
  | with_reducible refine w_for ?_
  | with_reducible refine w_yes ?_
  | with_reducible refine w_tSl ?_
  | with_reducible refine w_part ?_
  | with_reducible refine w_nopart ?_
  | with_reducible refine w_i ?_
  | with_reducible refine w_rng1 ?_
  | with_reducible refine w_rng2 ?_
  | with_reducible refine w_isiII ?_
  | with_reducible refine w_isiIB ?_
  | with_reducible refine w_isiSS ?_
  | ((with_reducible refine w_mod ?h1 ?_); (case h1 => decide))
  | ((with_reducible refine w_fdC' ?h1 ?h2 ?_); (case h1 => decide); (case h2 => decide))
  | ((with_reducible refine w_mulR ?h1 ?h2 ?_); (case h1 => decide); (case h2 => decide))
  | ((with_reducible refine w_mulL ?h1 ?h2 ?_); (case h1 => decide); (case h2 => decide))
  | ((with_reducible refine w_pow' ?h1 ?h2 ?h3 ?_); (case h1 => decide); (case h2 => decide); (case h3 => decide))
  | with_reducible refine w_andV ?_
  | with_reducible refine w_orV ?_
  | with_reducible refine w_notV ?_
  | with_reducible refine w_B ?_
  | with_reducible refine w_not ?_
  | with_reducible refine w_and ?_
  | with_reducible refine w_or ?_
  | with_reducible refine w_ifx ?_
  | with_reducible refine w_un ?_
  | ((with_reducible refine w_T ?h1 ?_); (case h1 => with_reducible rfl))
  | ((with_reducible refine w_F ?h1 ?_); (case h1 => with_reducible rfl))
  | ((with_reducible refine w_T ?h1 ?_); (case h1 => decide +kernel))
  | ((with_reducible refine w_F ?h1 ?_); (case h1 => decide +kernel)))
local macro_rules | `(tactic| walk_at "w") => `(tactic| repeat walk_at "w1")

/-! ### Machine.meet -/
def meetW : Rw → Bool
  | .add | .sub | .less | .share => true
  | _ => false
def wordOf : Rw → Str
  | .put _ => "put"
  | .get _ => "get"
  | .set _ => "set"
  | .say => "say"
  | .add => "add"
  | .sub => "sub"
  | .less => "less"
  | .share => "share"
  | .go _ => "go"
  | .nought _ => "nought"
  | .on _ => "on"
  | .turn => "turn"
  | .call _ => "call"
  | .back => "back"
  | .raise => "raise"
def sp_Machine_meet (K : PySem.W.Frag) : Sp := fun vs H Q _ => ∃ H0 wh P f r said t dx l s x xs row M', vs = [.ref wh.m, .ref x.a, .str (wordOf row)] ∧
  MAt K H0 H wh P.boxes ⟨f :: r, said, t, none⟩ ⟨dx, l, s, x :: xs⟩ .non ∧ PartsIn K H0 wh.c wh.st wh.sr P ∧ meetW row = true ∧ meetRw P row f r ⟨f :: r, said, t, none⟩ = some M' ∧ f.pile.length < LIM ∧
  ∀ H', MIn K H0 H' wh P.boxes M' → Q .non H'
theorem p_Machine_meet {K : PySem.W.Frag} (vs : List V) (H : Hp) (Q : VK) (E : XK) (h : sp_Machine_meet K vs H Q E) : t_Machine_meet K (sp_Frame_lay K) (sp_Machine_fault K) { nx := fun _ H' => Q .non H', rt := Q } (L2.start n_Machine_meet vs) H := by
  obtain ⟨H0, wh, P, f, r, said, t, dx, l, s, x, xs, row, M', rfl, w, pt, hw, hM, hp, k⟩ := h
  obtain ⟨place, boxes, pile⟩ := f
  match pile, hM, w, hp with
  | [], hM, _, _ => cases hM
  | [_], hM, _, _ => cases hM
  | b :: a :: p, hM, w, hp =>
  have hq := w.own.ix 5 rfl
  have ha := w.own.ix 3 rfl
  unfold t_Machine_meet
  walk_at "w"
  refine w_popB hq ?_
  have w1 := w.own.set 5 (.lst (pileV (a :: p))) rfl
  have hq1 := w1.ix 5 rfl
  have ha1 := w1.ix 3 rfl
  walk_at "w"
  refine w_popB hq1 ?_
  have w2 : MAt K H0 _ wh P.boxes ⟨⟨place, boxes, p⟩ :: r, said, t, none⟩ ⟨dx, l, s, x :: xs⟩ .non := ⟨w1.set 5 (.lst (pileV p)) rfl, w.len, rfl⟩
  have hm2 := w2.own.ix 0 rfl
  have ha2 := w2.own.ix 3 rfl
  have hq2 := w2.own.ix 5 rfl
  have lp : (pileV p).length < LIM := by
    rw [pileV_len]
    exact Nat.lt_of_le_of_lt (by simp; omega) hp
  have lay : ∀ n : Int, some (⟨(⟨place, boxes, p⟩ : Un.Fr).lay n :: r, said, t, none⟩ : Mc) = some M' → sp_Frame_lay K [.ref x.a, .int n] _ (fun _ H' => Q .non H') E0 := fun n e => by
    cases e
    exact ⟨x.a, n, x.dx, place, x.b, x.q, _, rfl, ha2, hq2, lp, k _ w2.lay⟩
  walk_at "w"
  cases row with
  | add =>
    walk_at "w"
    exact lay _ hM
  | sub =>
    walk_at "w"
    exact lay _ hM
  | less =>
    walk_at "w"
    refine w_D (fun c => ?_) (fun c => ?_)
    · walk_at "w"
      simp only [meetRw, if_pos c] at hM
      exact lay _ hM
    · walk_at "w"
      simp only [meetRw, if_neg c] at hM
      exact lay _ hM
  | share =>
    walk_at "w"
    refine w_D (fun c => ?_) (fun c => ?_)
    · simp only [meetRw, if_pos c] at hM
      cases hM
      walk_at "w"
      exact ⟨H0, wh, P, _, _, 101, rfl, w2, pt, k⟩
    · simp only [meetRw, if_neg c] at hM
      walk_at "w"
      refine w_fd c ?_
      exact lay _ hM
  | _ => cases hw

/-! ### Machine.jump -/
def sp_Machine_jump (K : PySem.W.Frag) : Sp := fun vs H Q _ => ∃ H0 wh nb f r said t dx l s x xs rw row M', vs = [.ref wh.m, .ref x.a, .ref rw] ∧
  MAt K H0 H wh nb ⟨f :: r, said, t, none⟩ ⟨dx, l, s, x :: xs⟩ .non ∧ SqT K H0 rw (words row) ∧ jumpRw row f r ⟨f :: r, said, t, none⟩ = some M' ∧
  ∀ H', MIn K H0 H' wh nb M' → Q .non H'
theorem p_Machine_jump {K : PySem.W.Frag} (vs : List V) (H : Hp) (Q : VK) (E : XK) (h : sp_Machine_jump K vs H Q E) : t_Machine_jump K { nx := fun _ H' => Q .non H', rt := Q } (L2.start n_Machine_jump vs) H := by
  obtain ⟨H0, wh, nb, f, r, said, t, dx, l, s, x, xs, rw, row, M', rfl, w, hrow, hM, k⟩ := h
  have hr := same_tup w.own.same hrow
  have ha := w.own.ix 3 rfl
  have hb := w.own.ix 4 rfl
  have hq := w.own.ix 5 rfl
  unfold t_Machine_jump
  cases row with
  | go p =>
    cases hM
    walk_at "w"
    refine w_ixT hr rfl ?_
    walk_at "w"
    refine w_ixT hr rfl ?_
    walk_at "w"
    refine w_ixT hr rfl ?_
    walk_at "w"
    exact k _ ⟨⟨dx, l, s, x :: xs⟩, .non, ⟨w.own.set 3 (.ins (He.ga K "Frame") x.dx (frF p x.b x.q)) rfl, w.len, rfl⟩⟩
  | nought p =>
    obtain ⟨place, boxes, pile⟩ := f
    cases pile with
    | nil => cases hM
    | cons v q =>
      cases hM
      walk_at "w"
      refine w_ixT hr rfl ?_
      walk_at "w"
      refine w_ixT hr rfl ?_
      walk_at "w"
      refine w_popB hq ?_
      have w1 := w.own.set 5 (.lst (pileV q)) rfl
      have ha1 := w1.ix 3 rfl
      have hr1 := same_tup w1.same hrow
      walk_at "w"
      refine w_D (fun c => ?_) (fun c => ?_)
      · walk_at "w"
        refine w_ixT hr1 rfl ?_
        walk_at "w"
        refine k _ ⟨⟨dx, l, s, x :: xs⟩, .non, ⟨?_, w.len, rfl⟩⟩
        have w2 := w1.set 3 (.ins (He.ga K "Frame") x.dx (frF p x.b x.q)) rfl
        unfold mcCells
        dsimp only [frsCells]
        rw [if_pos c]
        exact w2
      · walk_at "w"
        refine k _ ⟨⟨dx, l, s, x :: xs⟩, .non, ⟨?_, w.len, rfl⟩⟩
        have w2 := w1.set 3 (.ins (He.ga K "Frame") x.dx (frF (place + 1) x.b x.q)) rfl
        unfold mcCells
        dsimp only [frsCells]
        rw [if_neg c]
        exact w2
  | on j =>
    cases hv : nth f.boxes j with
    | none => rw [jumpRw, hv] at hM; cases hM
    | some v =>
      rw [jumpRw, hv] at hM
      cases hM
      walk_at "w"
      refine w_ixT hr rfl ?_
      walk_at "w"
      refine w_ixT hr rfl ?_
      refine w_ixL (SqL.of hb) (nth_at hv) ?_
      walk_at "w"
      exact k _ ⟨⟨dx, l, s, x :: xs⟩, .non, ⟨w.own.set 3 (.ins (He.ga K "Frame") x.dx (frF v x.b x.q)) rfl, w.len, rfl⟩⟩
  | _ => cases hM

/-! ### Machine.back -/
def sp_Machine_back (K : PySem.W.Frag) : Sp := fun vs H Q _ => ∃ H0 wh nb M d v, vs = [.ref wh.m, .int v] ∧ MAt K H0 H wh nb M d .non ∧ M.frames ≠ [] ∧ (∀ f ∈ M.frames, f.pile.length < LIM) ∧
  ∀ H', MIn K H0 H' wh nb (M.back v) → Q .non H'
theorem p_Machine_back {K : PySem.W.Frag} (vs : List V) (H : Hp) (Q : VK) (E : XK) (h : sp_Machine_back K vs H Q E) : t_Machine_back K (sp_Frame_lay K) { nx := fun _ H' => Q .non H', rt := Q } (L2.start n_Machine_back vs) H := by
  obtain ⟨H0, wh, nb, M, d, v, rfl, w, hne, hp, k⟩ := h
  have he := w.noend
  obtain ⟨fs, said, t, en⟩ := M
  obtain ⟨dx, l, s, fas⟩ := d
  subst he
  unfold t_Machine_back
  match fs, fas, w, hne, hp with
  | [], _, _, hne, _ => exact absurd rfl hne
  | _ :: _, [], w, _, _ => exact absurd w.len (by simp)
  | [f], x :: y :: ys, w, _, _ => exact absurd w.len (by simp)
  | f :: g :: r, [x], w, _, _ => exact absurd w.len (by simp)
  | [f], [x], w, _, _ =>
    have hm := w.own.ix 0 rfl
    have hl := w.own.ix 1 rfl
    walk_at "w"
    refine w_popB hl ?_
    have w1 : Own H0 _ (mcCells K wh nb ⟨dx, l, s, []⟩ .non ⟨[], said, t, none⟩) := ((((w.own.set 1 (.lst (refsV [])) rfl).del 3).del 3).del 3)
    have hm1 := w1.ix 0 rfl
    have hl1 := w1.ix 1 rfl
    walk_at "w"
    refine w_lenL (SqL.of hl1) ?_
    walk_at "w"
    refine w_T (decide_eq_true rfl) ?_
    walk_at "w"
    refine fun u hu => ?_
    have w2 := w1.lay (o := .tup [.str "answer", .int v]) hu
    have hm2 := w2.ix 0 rfl
    walk_at "w"
    refine k _ ⟨⟨dx, l, s, []⟩, .ref u, ⟨w2.set 0 _ rfl, rfl, u, rfl, ?_⟩⟩
    rw [upd_ne (ne_of_none hm1 hu).symm, upd_same]
    rfl
  | f :: g :: r, x :: y :: ys, w, _, hp =>
    have hm := w.own.ix 0 rfl
    have hl := w.own.ix 1 rfl
    walk_at "w"
    refine w_popB hl ?_
    have w1 : MAt K H0 _ wh nb ⟨g :: r, said, t, none⟩ ⟨dx, l, s, y :: ys⟩ .non := ⟨((((w.own.set 1 (.lst (refsV (y :: ys))) rfl).del 3).del 3).del 3), by simpa using w.len, rfl⟩
    have hm1 := w1.own.ix 0 rfl
    have hl1 := w1.own.ix 1 rfl
    have ha1 := w1.own.ix 3 rfl
    have hq1 := w1.own.ix 5 rfl
    walk_at "w"
    refine w_lenL (SqL.of hl1) ?_
    walk_at "w"
    refine w_F (decide_eq_false (by rw [refs_len]; simp; omega)) ?_
    walk_at "w"
    refine w_lenL (SqL.of hl1) ?_
    walk_at "w"
    refine w_ixL (SqL.of hl1) refs_last ?_
    walk_at "w"
    refine ⟨y.a, v, y.dx, g.place, y.b, y.q, _, rfl, ha1, hq1, by rw [pileV_len]; exact hp g (by simp), ?_⟩
    exact k _ w1.lay
end U

set_option maxHeartbeats 4000000
namespace U
open PySem PySem.Spec PyProof.Rows L2 Un
local macro_rules | `(tactic| walk_at "w1") => `(tactic| first
  | with_reducible refine w_seq ?_
  | with_reducible refine w_asg ?_
  | with_reducible refine w_op ?_
  | ((with_reducible refine' w_var ?h1 ?_); (case h1 => rfl))
  | with_reducible refine w_c ?_
  | with_reducible refine w_name ?_
  | with_reducible refine w_tFd ?_
  | ((with_reducible refine' w_fld ?h1 ?h2 ?_); (case h1 => assumption); (case h2 => rfl))
  | with_reducible refine w_if ?_
  | with_reducible refine w_test ?_
  | with_reducible refine w_eqS ?_
  | with_reducible refine w_eqI ?_
  | with_reducible refine w_neS ?_
  | with_reducible refine w_neI ?_
  | with_reducible refine w_isN ?_
  | with_reducible refine w_isnN ?_
  | with_reducible refine w_bl ?_
  | with_reducible refine w_ret ?_
  | with_reducible refine w_drop ?_
  | with_reducible refine w_next ?_
  | with_reducible refine w_cons ?_
  | with_reducible refine w_nil ?_
  | with_reducible refine w_call ?_
  | with_reducible refine w_cb ?_
  | with_reducible refine w_meth ?_
  | ((with_reducible refine' w_recv ?h1 ?h2 ?_); (case h1 => assumption); (case h2 => rfl))
  | with_reducible refine w_sFd ?_
  | ((with_reducible refine' w_put ?h1 ?h2 ?_); (case h1 => assumption); (case h2 => exact Nat.le_of_ble_eq_true rfl))
  | with_reducible refine w_add ?_
  | with_reducible refine w_sub ?_
  | with_reducible refine w_lt ?_
  | with_reducible refine w_le ?_
  | with_reducible refine w_gt ?_
  | with_reducible refine w_ge ?_
  | with_reducible refine w_bm ?_
  | with_reducible refine w_bm0 ?_
  | ((with_reducible refine' w_ty ?h1 ?_); (case h1 => assumption))
  | with_reducible refine w_tup ?_
  | with_reducible refine w_lst ?_
  | ((with_reducible refine' w_new ?h1 ?_); (case h1 => exact Nat.le_of_ble_eq_true rfl))
  | with_reducible refine w_gsub ?_
  | with_reducible refine w_make ?_
  | with_reducible refine w_lc ?_
  | with_reducible refine w_iList ?_
  | with_reducible refine w_for ?_
  | with_reducible refine w_yes ?_
  | with_reducible refine w_tSl ?_
  | with_reducible refine w_part ?_
  | with_reducible refine w_nopart ?_
  | with_reducible refine w_i ?_
  | with_reducible refine w_rng1 ?_
  | with_reducible refine w_rng2 ?_
  | with_reducible refine w_isiII ?_
  | with_reducible refine w_isiIB ?_
  | with_reducible refine w_isiSS ?_
  | ((with_reducible refine w_mod ?h1 ?_); (case h1 => decide))
  | ((with_reducible refine w_fdC' ?h1 ?h2 ?_); (case h1 => decide); (case h2 => decide))
  | ((with_reducible refine w_mulR ?h1 ?h2 ?_); (case h1 => decide); (case h2 => decide))
  | ((with_reducible refine w_mulL ?h1 ?h2 ?_); (case h1 => decide); (case h2 => decide))
  | ((with_reducible refine w_pow' ?h1 ?h2 ?h3 ?_); (case h1 => decide); (case h2 => decide); (case h3 => decide))
  | with_reducible refine w_andV ?_
  | with_reducible refine w_orV ?_
  | with_reducible refine w_notV ?_
  | with_reducible refine w_B ?_
  | with_reducible refine w_not ?_
  | with_reducible refine w_and ?_
  | with_reducible refine w_or ?_
  | with_reducible refine w_ifx ?_
  | with_reducible refine w_un ?_
  | ((with_reducible refine w_T ?h1 ?_); (case h1 => with_reducible rfl))
  | ((with_reducible refine w_F ?h1 ?_); (case h1 => with_reducible rfl))
  | ((with_reducible refine w_T ?h1 ?_); (case h1 => decide +kernel))
  | ((with_reducible refine w_F ?h1 ?_); (case h1 => decide +kernel)))
local macro_rules | `(tactic| walk_at "w") => `(tactic| repeat walk_at "w1")

/-! ### Machine.enter -/
def sp_Machine_enter (K : PySem.W.Frag) : Sp := fun vs H Q _ => ∃ H0 wh P M d g v M', vs = [.ref wh.m, .int g, .int v] ∧ MAt K H0 H wh P.boxes M d .non ∧ PartsIn K H0 wh.c wh.st wh.sr P ∧ 0 ≤ P.boxes ∧ P.boxes < 16000000 ∧
  M.frames.length ≤ 8 ∧ M.enter P g v = some M' ∧ ∀ H', MIn K H0 H' wh P.boxes M' → Q .non H'
theorem p_Machine_enter {K : PySem.W.Frag} (vs : List V) (H : Hp) (Q : VK) (E : XK) (h : sp_Machine_enter K vs H Q E) : t_Machine_enter K (sp_Machine_taken K) (sp_Machine_fault K) (sp_Frame___init__ K) { nx := fun _ H' => Q .non H', rt := Q } (L2.start n_Machine_enter vs) H := by
  obtain ⟨H0, wh, P, M, d, g, v, M', rfl, w, pt, hb0, hb, hfl, hM, k⟩ := h
  have he := w.noend
  obtain ⟨fs, said, t, en⟩ := M
  obtain ⟨dx, l, s, fas⟩ := d
  subst he
  have hm := w.own.ix 0 rfl
  unfold t_Machine_enter
  walk_at "w"
  refine ⟨H0, wh, P.boxes, _, _, rfl, w.own, fun c H1 u w1 hu => ?_, fun c H1 w1 => ?_⟩
  · have c' : t = 0 := c
    walk_at "w"
    unfold Mc.enter at hM
    rw [if_pos c'] at hM
    cases hM
    exact k _ ⟨⟨dx, l, s, fas⟩, .ref u, ⟨w1, w.len, u, rfl, hu⟩⟩
  · have c' : ¬ t = 0 := c
    unfold Mc.enter at hM
    rw [if_neg c'] at hM
    dsimp only at hM hfl
    have hm1 := w1.ix 0 rfl
    have hl1 := w1.ix 1 rfl
    have hlen : (refsV fas).length = fs.length := (refs_len fas).trans w.len
    walk_at "w"
    refine w_lenL (SqL.of hl1) ?_
    walk_at "w"
    have w2 : MAt K H0 H1 wh P.boxes ⟨fs, said, t - 1, none⟩ ⟨dx, l, s, fas⟩ .non := ⟨w1, w.len, rfl⟩
    refine w_D (fun c2 => ?_) (fun c2 => ?_) <;> dsimp only at c2
    · have c3 : fs.length = 8 := by omega
      rw [if_pos c3] at hM
      cases hM
      walk_at "w"
      exact ⟨H0, wh, P, _, _, 102, rfl, w2, pt, k⟩
    · have c3 : ¬ fs.length = 8 := by omega
      rw [if_neg c3] at hM
      cases hs : nth P.starts g with
      | none => rw [hs] at hM; cases hM
      | some st =>
        rw [hs] at hM
        cases hM
        walk_at "w"
        refine w_ixL (w1.same.seq pt.starts) (nth_at hs) ?_
        walk_at "w"
        refine fun a dx2 na ndx hne => ?_
        have w3 := (w1.lay (o := .own a) ndx).take (a := a) (o := .ins (He.ga K "Frame") dx2 []) (by rw [upd_ne (Ne.symm hne)]; exact na)
        refine ⟨less _ [(a, .ins (He.ga K "Frame") dx2 [])], a, st, P.boxes, v, dx2, rfl, w3.lend1, hb0, hb, fun b q H2 w4 => ?_⟩
        have w5 := Own.back (L := [_]) w3 w4
        have hl5 := w5.ix 4 rfl
        refine ⟨rfl, ?_⟩
        walk_at "w"
        refine w_app hl5 (by rw [hlen]; exact lim_lt (by have : fs.length ≤ 8 := hfl; unfold LIM; omega)) ?_
        have w6 := w5.set 4 (.lst (refsV fas ++ [.ref a])) rfl
        refine k _ ⟨⟨dx, l, s, ⟨a, dx2, b, q⟩ :: fas⟩, .non, ⟨?_, by simpa using w.len, rfl⟩⟩
        exact w6.rot3
end U

/-! bounds along a run -/
namespace Un
open PySem
def Bnd (k : Nat) (M : Mc) : Prop := M.frames.length ≤ 8 ∧ (∀ f ∈ M.frames, f.pile.length ≤ k) ∧ M.said.length ≤ k
theorem faultF_sub (S : List Stretch) (n : Int) : ∀ fs : List Fr, (faultF S n fs).length ≤ fs.length ∧ ∀ k, 1 ≤ k → (∀ f ∈ fs, f.pile.length ≤ k) → ∀ f ∈ faultF S n fs, f.pile.length ≤ k
  | [] => ⟨Nat.le_refl _, fun k _ h => h⟩
  | f :: r => by
    have ih := faultF_sub S n r
    unfold faultF
    cases goalOf S f.place with
    | some g =>
      refine ⟨by simp, fun k hk h x hx => ?_⟩
      rcases List.mem_cons.mp hx with e | e
      · subst e
        simpa using hk
      · exact h x (List.mem_cons_of_mem _ e)
    | none => exact ⟨Nat.le_trans ih.1 (by simp), fun k hk h => ih.2 k hk fun x hx => h x (List.mem_cons_of_mem _ hx)⟩
theorem Bnd.fault {P : Parts} {k : Nat} {M : Mc} {n : Int} (hk : 1 ≤ k) (h : Bnd k M) : Bnd k (M.fault P n) := by
  have q := faultF_sub P.str n M.frames
  unfold Mc.fault
  cases e : faultF P.str n M.frames with
  | nil => exact ⟨by simp, fun f hf => by simp at hf, h.2.2⟩
  | cons f r =>
    rw [e] at q
    exact ⟨Nat.le_trans q.1 h.1, q.2 k hk h.2.1, h.2.2⟩
theorem Bnd.up {k j : Nat} {M : Mc} (h : Bnd k M) (hj : k ≤ j) : Bnd j M := ⟨h.1, fun f hf => Nat.le_trans (h.2.1 f hf) hj, Nat.le_trans h.2.2 hj⟩
theorem Bnd.head {k j : Nat} {f g : Fr} {r : List Fr} {said said' : List Int} {t t' : Nat} {e e' : Option (Ed × Int)} (h : Bnd k ⟨f :: r, said, t, e⟩) (hk : k ≤ j) (hg : g.pile.length ≤ j) (hs : said'.length ≤ j) : Bnd j ⟨g :: r, said', t', e'⟩ := by
  refine ⟨by simpa using h.1, fun x hx => ?_, hs⟩
  rcases List.mem_cons.mp hx with q | q
  · subst q
    exact hg
  · exact Nat.le_trans (h.2.1 x (List.mem_cons_of_mem _ q)) hk
theorem bnd_step {P : Parts} {k : Nat} {M M' : Mc} (h : Bnd k M) (e : rowStep P M = some M') : Bnd (k + 1) M' := by
  obtain ⟨fs, said, t, en⟩ := M
  unfold rowStep at e
  cases fs with
  | nil => cases e
  | cons f r =>
  dsimp only at e
  cases hr : nth P.code f.place with
  | none => rw [hr] at e; cases e
  | some row =>
  rw [hr] at e
  dsimp only at e
  have hp : f.pile.length ≤ k := h.2.1 f (by simp)
  have hs : said.length ≤ k := h.2.2
  obtain ⟨place, boxes, pile⟩ := f
  dsimp only at hp
  have pop : ∀ (v : Int) (q : List Int), pile = v :: q → q.length + 1 ≤ k := fun v q e => by
    rw [e] at hp
    simpa using hp
  cases row with
  | put n => cases e; exact h.head (by first | omega | (dsimp only; omega)) (by simp only [Fr.lay, List.length_cons]; first | omega | (dsimp only; omega)) (by first | omega | (dsimp only; omega))
  | get j =>
    simp only [stepRw, moveRw] at e
    cases hv : nth boxes j with
    | none => rw [hv] at e; cases e
    | some v => rw [hv] at e; cases e; exact h.head (by first | omega | (dsimp only; omega)) (by simp only [Fr.lay, List.length_cons]; first | omega | (dsimp only; omega)) (by first | omega | (dsimp only; omega))
  | set j =>
    cases pile with
    | nil => cases e
    | cons v p =>
      simp only [stepRw, moveRw] at e
      split at e
      · cases e
        have := pop _ _ rfl
        exact h.head (by first | omega | (dsimp only; omega)) (by first | omega | (dsimp only; omega)) (by first | omega | (dsimp only; omega))
      · cases e
  | say =>
    cases pile with
    | nil => cases e
    | cons v p =>
      cases e
      have := pop _ _ rfl
      exact h.head (by first | omega | (dsimp only; omega)) (by first | omega | (dsimp only; omega)) (by simp; omega)
  | add =>
    match pile, e, pop with
    | b :: a :: p, e, pop =>
      cases e
      have := pop _ _ rfl
      simp at this
      exact h.head (by first | omega | (dsimp only; omega)) (by simp only [Fr.lay, List.length_cons]; first | omega | (dsimp only; omega)) (by first | omega | (dsimp only; omega))
  | sub =>
    match pile, e, pop with
    | b :: a :: p, e, pop =>
      cases e
      have := pop _ _ rfl
      simp at this
      exact h.head (by first | omega | (dsimp only; omega)) (by simp only [Fr.lay, List.length_cons]; first | omega | (dsimp only; omega)) (by first | omega | (dsimp only; omega))
  | less =>
    match pile, e, pop with
    | b :: a :: p, e, pop =>
      cases e
      have := pop _ _ rfl
      simp at this
      exact h.head (by first | omega | (dsimp only; omega)) (by simp only [Fr.lay, List.length_cons]; first | omega | (dsimp only; omega)) (by first | omega | (dsimp only; omega))
  | share =>
    match pile, e, pop with
    | b :: a :: p, e, pop =>
      have := pop _ _ rfl
      simp at this
      simp only [stepRw, meetRw] at e
      split at e
      · cases e
        exact Bnd.fault (by first | omega | (dsimp only; omega)) (h.head (by first | omega | (dsimp only; omega)) (by first | omega | (dsimp only; omega)) (by first | omega | (dsimp only; omega)))
      · cases e
        exact h.head (by first | omega | (dsimp only; omega)) (by simp only [Fr.lay, List.length_cons]; first | omega | (dsimp only; omega)) (by first | omega | (dsimp only; omega))
  | go p => cases e; exact h.head (by first | omega | (dsimp only; omega)) (by first | omega | (dsimp only; omega)) (by first | omega | (dsimp only; omega))
  | nought p =>
    cases pile with
    | nil => cases e
    | cons v q =>
      cases e
      have := pop _ _ rfl
      exact h.head (by first | omega | (dsimp only; omega)) (by first | omega | (dsimp only; omega)) (by first | omega | (dsimp only; omega))
  | on j =>
    simp only [stepRw, jumpRw] at e
    cases hv : nth boxes j with
    | none => rw [hv] at e; cases e
    | some v => rw [hv] at e; cases e; exact h.head (by first | omega | (dsimp only; omega)) (by first | omega | (dsimp only; omega)) (by first | omega | (dsimp only; omega))
  | turn =>
    simp only [stepRw] at e
    split at e
    · cases e
      exact h.up (by first | omega | (dsimp only; omega))
    · cases e
      exact h.head (by first | omega | (dsimp only; omega)) (by first | omega | (dsimp only; omega)) (by first | omega | (dsimp only; omega))
  | call g =>
    cases pile with
    | nil => cases e
    | cons v q =>
      have := pop _ _ rfl
      have h1 : ∀ t en, Bnd (k + 1) ⟨⟨place, boxes, q⟩ :: r, said, t, en⟩ := fun t en => h.head (by first | omega | (dsimp only; omega)) (by first | omega | (dsimp only; omega)) (by first | omega | (dsimp only; omega))
      simp only [stepRw, Mc.enter] at e
      split at e
      · cases e
        exact h1 _ _
      · split at e
        · cases e
          exact Bnd.fault (by first | omega | (dsimp only; omega)) (h1 _ _)
        · rename_i c8
          cases hv : nth P.starts g with
          | none => rw [hv] at e; cases e
          | some s =>
            rw [hv] at e
            cases e
            have z := h1 (t - 1) en
            refine ⟨?_, fun x hx => ?_, z.2.2⟩
            · have := z.1
              simp at this c8 ⊢
              omega
            · rcases List.mem_cons.mp hx with q | q
              · subst q
                simp
              · exact z.2.1 x q
  | back =>
    cases pile with
    | nil => cases e
    | cons v q =>
      simp only [stepRw, Mc.back] at e
      match r, e, h with
      | [], e, h =>
        cases e
        exact ⟨by simp, fun f hf => by simp at hf, by dsimp only; omega⟩
      | g :: r', e, h =>
        cases e
        refine ⟨by have := h.1; simp at this ⊢; omega, fun x hx => ?_, by dsimp only; omega⟩
        rcases List.mem_cons.mp hx with z | z
        · subst z
          have := h.2.1 g (by simp)
          simp [Fr.lay]
          omega
        · exact Nat.le_trans (h.2.1 x (List.mem_cons_of_mem _ (List.mem_cons_of_mem _ z))) (by first | omega | (dsimp only; omega))
  | raise =>
    cases pile with
    | nil => cases e
    | cons v q =>
      cases e
      have := pop _ _ rfl
      exact Bnd.fault (by first | omega | (dsimp only; omega)) (h.head (by first | omega | (dsimp only; omega)) (by first | omega | (dsimp only; omega)) (by first | omega | (dsimp only; omega)))
theorem bnd_steps {P : Parts} : ∀ {j k : Nat} {M M' : Mc}, Bnd k M → rowSteps P j M = some M' → Bnd (k + j) M'
  | 0, k, M, M', h, e => by cases e; exact h
  | j + 1, k, M, M', h, e => by
    unfold rowSteps at e
    split at e
    · cases e
    · cases hs : rowStep P M with
      | none => rw [hs] at e; cases e
      | some M1 =>
        rw [hs] at e
        have := bnd_steps (bnd_step h hs) e
        exact this.up (by first | omega | (dsimp only; omega))
theorem bnd_begun {P : Parts} {number : Int} {turns : Nat} {M : Mc} (e : begun P number turns = some M) : Bnd 0 M := by
  unfold begun at e
  cases h : nth P.starts 0 with
  | none => rw [h] at e; cases e
  | some s =>
    rw [h] at e
    cases e
    exact ⟨by simp, fun f hf => by simp at hf; subst hf; simp, by simp⟩
theorem rowSteps_add (P : Parts) : ∀ (a b : Nat) (m : Mc), rowSteps P (a + b) m = (rowSteps P a m).bind (rowSteps P b)
  | 0, b, m => by rw [Nat.zero_add]; rfl
  | a + 1, b, m => by
    rw [show a + 1 + b = (a + b) + 1 by omega]
    unfold rowSteps
    split
    · rfl
    · cases rowStep P m with
      | none => rfl
      | some m1 => exact rowSteps_add P a b m1
theorem rowSteps_one {P : Parts} {m m' : Mc} (h : m.ended = none) (e : rowStep P m = some m') : rowSteps P 1 m = some m' := by
  unfold rowSteps
  rw [h, e]
  rfl
theorem rowSteps_then {P : Parts} {a b : Nat} {m m1 m2 : Mc} (h1 : rowSteps P a m = some m1) (h2 : rowSteps P b m1 = some m2) : rowSteps P (a + b) m = some m2 := by
  rw [rowSteps_add, h1]
  exact h2
end Un

set_option maxHeartbeats 4000000
namespace U
open PySem PySem.Spec PyProof.Rows L2 Un
local macro_rules | `(tactic| walk_at "w1") => `(tactic| first
  | with_reducible refine w_seq ?_
  | with_reducible refine w_asg ?_
  | with_reducible refine w_op ?_
  | ((with_reducible refine' w_var ?h1 ?_); (case h1 => rfl))
  | with_reducible refine w_c ?_
  | with_reducible refine w_name ?_
  | with_reducible refine w_tFd ?_
  | ((with_reducible refine' w_fld ?h1 ?h2 ?_); (case h1 => assumption); (case h2 => rfl))
  | with_reducible refine w_if ?_
  | with_reducible refine w_test ?_
  | with_reducible refine w_eqS ?_
  | with_reducible refine w_eqI ?_
  | with_reducible refine w_neS ?_
  | with_reducible refine w_neI ?_
  | with_reducible refine w_isN ?_
  | with_reducible refine w_isnN ?_
  | with_reducible refine w_bl ?_
  | with_reducible refine w_ret ?_
  | with_reducible refine w_drop ?_
  | with_reducible refine w_next ?_
  | with_reducible refine w_cons ?_
  | with_reducible refine w_nil ?_
  | with_reducible refine w_call ?_
  | with_reducible refine w_cb ?_
  | with_reducible refine w_meth ?_
  | ((with_reducible refine' w_recv ?h1 ?h2 ?_); (case h1 => assumption); (case h2 => rfl))
  | with_reducible refine w_sFd ?_
  | ((with_reducible refine' w_put ?h1 ?h2 ?_); (case h1 => assumption); (case h2 => exact Nat.le_of_ble_eq_true rfl))
  | with_reducible refine w_add ?_
  | with_reducible refine w_sub ?_
  | with_reducible refine w_lt ?_
  | with_reducible refine w_le ?_
  | with_reducible refine w_gt ?_
  | with_reducible refine w_ge ?_
  | with_reducible refine w_bm ?_
  | with_reducible refine w_bm0 ?_
  | ((with_reducible refine' w_ty ?h1 ?_); (case h1 => assumption))
  | with_reducible refine w_tup ?_
  | with_reducible refine w_lst ?_
  | ((with_reducible refine' w_new ?h1 ?_); (case h1 => exact Nat.le_of_ble_eq_true rfl))
  | with_reducible refine w_gsub ?_
  | with_reducible refine w_make ?_
  | with_reducible refine w_lc ?_
  | with_reducible refine w_iList ?_
  | with_reducible refine w_for ?_
  | with_reducible refine w_yes ?_
  | with_reducible refine w_tSl ?_
  | with_reducible refine w_part ?_
  | with_reducible refine w_nopart ?_
  | with_reducible refine w_i ?_
  | with_reducible refine w_rng1 ?_
  | with_reducible refine w_rng2 ?_
  | with_reducible refine w_isiII ?_
  | with_reducible refine w_isiIB ?_
  | with_reducible refine w_isiSS ?_
  | ((with_reducible refine w_mod ?h1 ?_); (case h1 => decide))
  | ((with_reducible refine w_fdC' ?h1 ?h2 ?_); (case h1 => decide); (case h2 => decide))
  | ((with_reducible refine w_mulR ?h1 ?h2 ?_); (case h1 => decide); (case h2 => decide))
  | ((with_reducible refine w_mulL ?h1 ?h2 ?_); (case h1 => decide); (case h2 => decide))
  | ((with_reducible refine w_pow' ?h1 ?h2 ?h3 ?_); (case h1 => decide); (case h2 => decide); (case h3 => decide))
  | with_reducible refine w_andV ?_
  | with_reducible refine w_orV ?_
  | with_reducible refine w_notV ?_
  | with_reducible refine w_B ?_
  | with_reducible refine w_not ?_
  | with_reducible refine w_and ?_
  | with_reducible refine w_or ?_
  | with_reducible refine w_ifx ?_
  | with_reducible refine w_un ?_
  | ((with_reducible refine w_T ?h1 ?_); (case h1 => with_reducible rfl))
  | ((with_reducible refine w_F ?h1 ?_); (case h1 => with_reducible rfl))
  | ((with_reducible refine w_T ?h1 ?_); (case h1 => decide +kernel))
  | ((with_reducible refine w_F ?h1 ?_); (case h1 => decide +kernel)))
local macro_rules | `(tactic| walk_at "w") => `(tactic| repeat walk_at "w1")

theorem nth_all {α β : Type} {R : α → β → Prop} {as : List α} {bs : List β} (h : All2 R as bs) {i : Int} {b : β} (e : nth bs i = some b) : ∃ a, atI as i = some a ∧ R a b := by
  unfold nth at e
  by_cases h0 : 0 ≤ i
  · rw [if_pos h0] at e
    obtain ⟨a, h1, h2⟩ := h.get e
    exact ⟨a, atI_ok h0 h1, h2⟩
  · rw [if_neg h0] at e
    cases e
theorem MAt.laid {K : PySem.W.Frag} {H0 H : Hp} {wh : Wh} {nb : Int} {M : Mc} {d : Ad} {p : Addr} {o : HO} (w : MAt K H0 H wh nb M d .non) (h : H p = none) : MAt K H0 (upd H p o) wh nb M d .non := by
  refine ⟨w.own.lay h, w.len, ?_⟩
  rw [w.noend]
  exact rfl
def moveW : Rw → Bool
  | .put _ | .get _ | .set _ | .say => true
  | _ => false
def jumpW : Rw → Bool
  | .go _ | .nought _ | .on _ => true
  | _ => false
theorem words_0 (row : Rw) : atI (words row) 0 = some (.str (wordOf row)) := by cases row <;> rfl
theorem same_one {H : Hp} {p : Addr} {o : HO} {a : Addr} {u : HO} (h : H p = none) (e : H a = some u) : upd H p o a = some u := same_lay h a u e
structure Bd (P : Parts) (M : Mc) : Prop where
  b0 : 0 ≤ P.boxes
  b1 : P.boxes < 16000000
  fr : M.frames.length ≤ 8
  pl : ∀ f ∈ M.frames, f.pile.length < LIM
  sd : M.said.length < LIM
def sp_Machine_step (K : PySem.W.Frag) : Sp := fun vs H Q _ => ∃ H0 wh P M d M', vs = [.ref wh.m] ∧ MAt K H0 H wh P.boxes M d .non ∧ PartsIn K H0 wh.c wh.st wh.sr P ∧ Bd P M ∧ rowStep P M = some M' ∧
  ∀ H', MIn K H0 H' wh P.boxes M' → Q .non H'
theorem p_Machine_step {K : PySem.W.Frag} (vs : List V) (H : Hp) (Q : VK) (E : XK) (h : sp_Machine_step K vs H Q E) :
    t_Machine_step K (sp_Machine_meet K) (sp_Machine_move K) (sp_Machine_jump K) (sp_Machine_taken K) (sp_Machine_enter K) (sp_Machine_back K) (sp_Machine_fault K) { nx := fun _ H' => Q .non H', rt := Q } (L2.start n_Machine_step vs) H := by
  obtain ⟨H0, wh, P, M, d, M', rfl, w, pt, bd, hM, k⟩ := h
  have he := w.noend
  obtain ⟨fs, said, t, en⟩ := M
  obtain ⟨dx, l, s, fas⟩ := d
  subst he
  match fs, fas, w, bd, hM with
  | [], _, _, _, hM => cases hM
  | _ :: _, [], w, _, _ => exact absurd w.len (by simp)
  | f :: r, x :: xs, w, bd, hM =>
  have hm := w.own.ix 0 rfl
  have hl := w.own.ix 1 rfl
  have ha := w.own.ix 3 rfl
  obtain ⟨cs, c1, c2⟩ := pt.code
  unfold rowStep at hM
  dsimp only at hM
  cases hrow : nth P.code f.place with
  | none => rw [hrow] at hM; cases hM
  | some row =>
  rw [hrow] at hM
  dsimp only at hM
  obtain ⟨v, hv, rw, rfl, hr0⟩ := nth_all c2 hrow
  have hr := same_tup w.own.same hr0
  have pb : f.pile.length < LIM := bd.pl f (by simp)
  unfold t_Machine_step
  walk_at "w"
  refine w_lenL (SqL.of hl) ?_
  walk_at "w"
  refine w_ixL (SqL.of hl) refs_last ?_
  walk_at "w"
  refine w_ixL (w.own.same.seq c1) hv ?_
  walk_at "w"
  refine w_ixT hr (words_0 row) ?_
  walk_at "w"
  refine fun p1 h1 => ?_
  refine w_inT (SqT.of upd_same) rfl rfl ?_
  walk_at "w"
  have w1 : MAt K H0 _ wh P.boxes ⟨f :: r, said, t, none⟩ ⟨dx, l, s, x :: xs⟩ .non := w.laid (o := .tup [.str "add", .str "sub", .str "less", .str "share"]) h1
  have meet : meetW row = true → meetRw P row f r ⟨f :: r, said, t, none⟩ = some M' → sp_Machine_meet K [.ref wh.m, .ref x.a, .str (wordOf row)] _ (fun _ H' => Q .non H') E0 :=
    fun hw hM => ⟨H0, wh, P, f, r, said, t, dx, l, s, x, xs, row, M', rfl, w1, pt, hw, hM, pb, k⟩
  have hm1 := w1.own.ix 0 rfl
  by_cases hmeet : meetW row = true
  · refine w_T (by cases row <;> first | (cases hmeet; done) | (dsimp only [wordOf]; decide +kernel)) ?_
    walk_at "w"
    exact meet hmeet (by cases row <;> first | exact hM | (cases hmeet; done))
  refine w_F (by cases row <;> first | (exact absurd rfl hmeet) | (dsimp only [wordOf]; decide +kernel)) ?_
  walk_at "w"
  refine fun p2 h2 => ?_
  refine w_inT (SqT.of upd_same) rfl rfl ?_
  walk_at "w"
  have w2 := w1.laid (o := .tup [.str "put", .str "get", .str "set", .str "say"]) h2
  have hm2 := w2.own.ix 0 rfl
  by_cases hmove : moveW row = true
  · refine w_T (by cases row <;> first | (cases hmove; done) | (dsimp only [wordOf]; decide +kernel)) ?_
    walk_at "w"
    exact ⟨H0, wh, P.boxes, f, r, said, t, dx, l, s, x, xs, rw, row, M', rfl, w2, hr0, (by cases row <;> first | exact hM | (cases hmove; done)), pb, bd.sd, k⟩
  refine w_F (by cases row <;> first | (exact absurd rfl hmove) | (exact absurd rfl hmeet) | (dsimp only [wordOf]; decide +kernel)) ?_
  walk_at "w"
  refine fun p3 h3 => ?_
  refine w_inT (SqT.of upd_same) rfl rfl ?_
  walk_at "w"
  have w3 := w2.laid (o := .tup [.str "go", .str "nought", .str "on"]) h3
  have hm3 := w3.own.ix 0 rfl
  by_cases hjump : jumpW row = true
  · refine w_T (by cases row <;> first | (cases hjump; done) | (dsimp only [wordOf]; decide +kernel)) ?_
    walk_at "w"
    exact ⟨H0, wh, P.boxes, f, r, said, t, dx, l, s, x, xs, rw, row, M', rfl, w3, hr0, (by cases row <;> first | exact hM | (cases hjump; done)), k⟩
  refine w_F (by cases row <;> first | (exact absurd rfl hjump) | (exact absurd rfl hmove) | (exact absurd rfl hmeet) | (dsimp only [wordOf]; decide +kernel)) ?_
  have ha3 := w3.own.ix 3 rfl
  have hq3 := w3.own.ix 5 rfl
  have hr3 := same_tup w3.own.same hr0
  cases row with
  | turn =>
    walk_at "w"
    refine ⟨H0, wh, P.boxes, _, _, rfl, w3.own, fun c H1 u w4 hu => ?_, fun c H1 w4 => ?_⟩
    · have c' : t = 0 := c
      walk_at "w"
      simp only [stepRw, if_pos c'] at hM
      cases hM
      exact k _ ⟨⟨dx, l, s, x :: xs⟩, .ref u, ⟨w4, w.len, u, rfl, hu⟩⟩
    · have c' : ¬ t = 0 := c
      simp only [stepRw, if_neg c'] at hM
      cases hM
      have ha4 := w4.ix 3 rfl
      walk_at "w"
      exact k _ ⟨⟨dx, l, s, x :: xs⟩, .non, ⟨w4.set 3 (.ins (He.ga K "Frame") x.dx (frF (f.place + 1) x.b x.q)) rfl, w.len, rfl⟩⟩
  | call g =>
    obtain ⟨place, boxes, pile⟩ := f
    cases pile with
    | nil => cases hM
    | cons v q =>
      dsimp only [wordOf]
      walk_at "w"
      refine w_ixT hr3 rfl ?_
      walk_at "w"
      refine w_popB hq3 ?_
      have w4 : MAt K H0 _ wh P.boxes ⟨⟨place, boxes, q⟩ :: r, said, t, none⟩ ⟨dx, l, s, x :: xs⟩ .non := ⟨w3.own.set 5 (.lst (pileV q)) rfl, w.len, rfl⟩
      walk_at "w"
      exact ⟨H0, wh, P, _, _, g, v, M', rfl, w4, pt, bd.b0, bd.b1, bd.fr, hM, k⟩
  | back =>
    obtain ⟨place, boxes, pile⟩ := f
    cases pile with
    | nil => cases hM
    | cons v q =>
      cases hM
      walk_at "w"
      refine w_popB hq3 ?_
      have w4 : MAt K H0 _ wh P.boxes ⟨⟨place, boxes, q⟩ :: r, said, t, none⟩ ⟨dx, l, s, x :: xs⟩ .non := ⟨w3.own.set 5 (.lst (pileV q)) rfl, w.len, rfl⟩
      walk_at "w"
      refine ⟨H0, wh, P.boxes, _, _, v, rfl, w4, by simp, fun g hg => ?_, k⟩
      rcases List.mem_cons.mp hg with e | e
      · subst e
        exact Nat.lt_of_le_of_lt (by simp) pb
      · exact bd.pl g (List.mem_cons_of_mem _ e)
  | raise =>
    obtain ⟨place, boxes, pile⟩ := f
    cases pile with
    | nil => cases hM
    | cons v q =>
      cases hM
      walk_at "w"
      refine w_popB hq3 ?_
      have w4 : MAt K H0 _ wh P.boxes ⟨⟨place, boxes, q⟩ :: r, said, t, none⟩ ⟨dx, l, s, x :: xs⟩ .non := ⟨w3.own.set 5 (.lst (pileV q)) rfl, w.len, rfl⟩
      walk_at "w"
      exact ⟨H0, wh, P, _, _, v, rfl, w4, pt, k⟩
  | add | sub | less | share => exact absurd rfl hmeet
  | put _ | get _ | set _ | say => exact absurd rfl hmove
  | go _ | nought _ | on _ => exact absurd rfl hjump

/-! ### run -/
theorem perm6 (l a b q s m : Cell) : List.Perm [l, a, b, q, s, m] [m, l, s, a, b, q] :=
  (List.perm_append_comm (l₁ := [l, a, b, q, s]) (l₂ := [m])).trans (.cons _ (.cons _ (List.perm_append_comm (l₁ := [a, b, q]) (l₂ := [s]))))
def sp_Machine___init__ (K : PySem.W.Frag) : Sp := fun vs H Q _ => ∃ H0 m dx a ps c st sr P number turns M, vs = [.ref m, .ref a, .int number, .int (turns : Nat)] ∧ Own H0 H [(m, .ins (He.ga K "Machine") dx [])] ∧
  SqT K H0 a ps ∧ ps = [.ref c, .ref st, .ref sr, .int P.boxes] ∧ PartsIn K H0 c st sr P ∧ 0 ≤ P.boxes ∧ P.boxes < 16000000 ∧ begun P number turns = some M ∧
  ∀ H' d, MAt K H0 H' ⟨m, c, st, sr⟩ P.boxes M d .non → Q .non H'
theorem p_Machine___init__ {K : PySem.W.Frag} (vs : List V) (H : Hp) (Q : VK) (E : XK) (h : sp_Machine___init__ K vs H Q E) :
    t_Machine___init__ K (sp_Frame___init__ K) { nx := fun _ H' => Q .non H', rt := Q } (L2.start n_Machine___init__ vs) H := by
  obtain ⟨H0, m, dx, a, ps, c, st, sr, P, number, turns, M, rfl, w, hps, rfl, pt, hb0, hb, hM, k⟩ := h
  unfold begun at hM
  cases hs : nth P.starts 0 with
  | none => rw [hs] at hM; cases hM
  | some p0 =>
  rw [hs] at hM
  cases hM
  unfold t_Machine___init__
  have t0 := same_tup w.same hps
  have h0 := w.ix 0 rfl
  walk_at "w"
  refine w_ixT t0 rfl ?_
  walk_at "w"
  have w1 := w.set 0 (.ins (He.ga K "Machine") dx [("code", .ref c)]) rfl
  have t1 := same_tup w1.same hps
  have h1 := w1.ix 0 rfl
  refine w_ixT t1 rfl ?_
  walk_at "w"
  have w2 := w1.set 0 (.ins (He.ga K "Machine") dx [("code", .ref c), ("stretches", .ref st)]) rfl
  have t2 := same_tup w2.same hps
  have h2 := w2.ix 0 rfl
  refine w_ixT t2 rfl ?_
  walk_at "w"
  have w3 := w2.set 0 (.ins (He.ga K "Machine") dx [("code", .ref c), ("stretches", .ref st), ("starts", .ref sr)]) rfl
  have t3 := same_tup w3.same hps
  have h3 := w3.ix 0 rfl
  refine w_ixT t3 rfl ?_
  walk_at "w"
  have w4 := w3.set 0 (.ins (He.ga K "Machine") dx [("code", .ref c), ("stretches", .ref st), ("starts", .ref sr), ("boxes", .int P.boxes)]) rfl
  have h4 := w4.ix 0 rfl
  walk_at "w"
  have w5 := w4.set 0 (.ins (He.ga K "Machine") dx [("code", .ref c), ("stretches", .ref st), ("starts", .ref sr), ("boxes", .int P.boxes), ("turns", .int turns)]) rfl
  refine fun s hsn => ?_
  have w6 := w5.take (o := .lst []) hsn
  have h6 := w6.ix 1 rfl
  walk_at "w"
  have w7 := w6.set 1 (.ins (He.ga K "Machine") dx [("code", .ref c), ("stretches", .ref st), ("starts", .ref sr), ("boxes", .int P.boxes), ("turns", .int turns), ("said", .ref s)]) rfl
  have h7 := w7.ix 1 rfl
  walk_at "w"
  have w8 := w7.set 1 (.ins (He.ga K "Machine") dx [("code", .ref c), ("stretches", .ref st), ("starts", .ref sr), ("boxes", .int P.boxes), ("turns", .int turns), ("said", .ref s), ("ended", .non)]) rfl
  have h8 := w8.ix 1 rfl
  walk_at "w"
  refine w_ixL (w8.same.seq pt.starts) (nth_at hs) ?_
  walk_at "w"
  refine fun fa fdx na ndx hne => ?_
  have w9 := (w8.lay (o := .own fa) ndx).take (a := fa) (o := .ins (He.ga K "Frame") fdx []) (by rw [upd_ne (Ne.symm hne)]; exact na)
  refine ⟨less _ [(fa, .ins (He.ga K "Frame") fdx [])], fa, p0, P.boxes, number, fdx, rfl, w9.lend1, hb0, hb, fun b q H2 w10 => ?_⟩
  have w11 := Own.back (L := [_]) w9 w10
  have h11 := w11.ix 4 rfl
  refine ⟨rfl, ?_⟩
  walk_at "w"
  refine fun l hl => ?_
  have w12 := w11.take (o := .lst [.ref fa]) hl
  have h12 := w12.ix 5 rfl
  walk_at "w"
  have w13 := w12.set 5 (.ins (He.ga K "Machine") dx (mcF c st sr P.boxes turns s .non l)) rfl
  refine k _ ⟨dx, l, s, [⟨fa, fdx, b, q⟩]⟩ ⟨?_, rfl, rfl⟩
  refine w13.perm ?_
  exact perm6 _ _ _ _ _ _

def sp_run0 (K : PySem.W.Frag) : Sp := fun vs H Q _ => ∃ a c st sr P number turns M0 n M x z, vs = [.ref a, .int number, .int (turns : Nat)] ∧ SqT K H a [.ref c, .ref st, .ref sr, .int P.boxes] ∧ PartsIn K H c st sr P ∧
  0 ≤ P.boxes ∧ P.boxes < 16000000 ∧ begun P number turns = some M0 ∧ rowSteps P n M0 = some M ∧ M.ended = some (x, z) ∧ (∀ j Mj, j < n → rowSteps P j M0 = some Mj → Bd P Mj) ∧
  ∀ H' p s, Same H H' → H p = none → H s = none → H' s = some (.lst (M.said.map V.int)) → H' p = some (.tup [.ref s, .str x.str, .int z]) → Q (.ref p) H'
theorem p_run0 {K : PySem.W.Frag} (vs : List V) (H : Hp) (Q : VK) (E : XK) (h : sp_run0 K vs H Q E) :
    t_run K (sp_Machine___init__ K) (sp_Machine_step K) { nx := fun _ H' => Q .non H', rt := Q } (L2.start n_run vs) H := by
  obtain ⟨a, c, st, sr, P, number, turns, M0, n, M, x, z, rfl, ha, pt, hb0, hb, hM0, hn, hend, hbd, k⟩ := h
  unfold t_run
  walk_at "w"
  refine fun m dx nm ndx hne => ?_
  have w0 := ((Own.nil (Same.refl H)).lay (o := .own m) ndx).take (a := m) (o := .ins (He.ga K "Machine") dx []) (by rw [upd_ne (Ne.symm hne)]; exact nm)
  refine ⟨H, m, dx, a, _, c, st, sr, P, number, turns, M0, rfl, w0, ha, rfl, pt, hb0, hb, hM0, fun H1 d w1 => ⟨rfl, ?_⟩⟩
  walk_at "w"
  refine ⟨fun j σ H2 => ∃ Mj, rowSteps P j Mj = some M ∧ (∀ i Mi, i < j → rowSteps P i Mj = some Mi → Bd P Mi) ∧ MIn K H H2 ⟨m, c, st, sr⟩ P.boxes Mj ∧ σ = [some (.ref a), some (.int number), some (.int turns), some (.ref m)],
    ⟨n, M0, hn, hbd, ⟨d, .non, w1⟩, rfl⟩, ?_⟩
  rintro j σ H2 ⟨Mj, hj, hbj, ⟨d2, e, w2⟩, rfl⟩
  have hm2 := w2.own.ix 0 rfl
  have hs2 := w2.own.ix 2 rfl
  walk_at "w"
  cases he : Mj.ended with
  | none =>
    have ee : e = .non := by
      have q := w2.endd
      rw [he] at q
      exact q
    subst ee
    refine w_T (decide_eq_true rfl) ?_
    cases j with
    | zero =>
      cases hj
      rw [he] at hend
      cases hend
    | succ i =>
      refine ⟨_, fun _ _ q => q, ?_⟩
      walk_at "w"
      unfold rowSteps at hj
      rw [he] at hj
      simp only [Option.isSome_none, Bool.false_eq_true, if_false] at hj
      cases hs : rowStep P Mj with
      | none => rw [hs] at hj; cases hj
      | some M1 =>
      rw [hs] at hj
      refine ⟨H, ⟨m, c, st, sr⟩, P, Mj, d2, M1, rfl, w2, pt, hbj 0 Mj (by omega) rfl, hs, fun H3 w3 => ?_⟩
      refine ⟨i, Nat.lt_succ_self i, M1, hj, fun q Mq hq e2 => hbj (q + 1) Mq (by omega) ?_, w3, rfl⟩
      unfold rowSteps
      rw [he, hs]
      exact e2
  | some y =>
    cases j with
    | succ i =>
      unfold rowSteps at hj
      rw [he] at hj
      cases hj
    | zero =>
      cases hj
      rw [he] at hend
      cases hend
      have q := w2.endd
      rw [he] at q
      obtain ⟨t, rfl, ht⟩ := q
      refine w_F (decide_eq_false (by intro z; cases z)) ?_
      walk_at "w"
      refine w_ixT (SqT.of ht) rfl ?_
      walk_at "w"
      refine w_ixT (SqT.of ht) rfl ?_
      walk_at "w"
      refine fun p hp => ?_
      have sm := w2.own.same
      refine k _ p d2.s (sm.trans (same_lay hp)) (Same.free sm hp) ?_ ?_ upd_same
      · exact w2.own.new _ (by simp [ads, mcCells])
      · exact same_one hp hs2

def sp_run (K : PySem.W.Frag) : Sp := fun vs H Q _ => ∃ a c st sr P number turns M0 n M x z, vs = [.ref a, .int number, .int (turns : Nat)] ∧ SqT K H a [.ref c, .ref st, .ref sr, .int P.boxes] ∧ PartsIn K H c st sr P ∧
  0 ≤ P.boxes ∧ P.boxes < 16000000 ∧ begun P number turns = some M0 ∧ rowSteps P n M0 = some M ∧ M.ended = some (x, z) ∧ n ≤ 15000000 ∧
  ∀ H' p s, Same H H' → H p = none → H s = none → H' s = some (.lst (M.said.map V.int)) → H' p = some (.tup [.ref s, .str x.str, .int z]) → Q (.ref p) H'
theorem p_run {K : PySem.W.Frag} (vs : List V) (H : Hp) (Q : VK) (E : XK) (h : sp_run K vs H Q E) :
    t_run K (sp_Machine___init__ K) (sp_Machine_step K) { nx := fun _ H' => Q .non H', rt := Q } (L2.start n_run vs) H := by
  obtain ⟨a, c, st, sr, P, number, turns, M0, n, M, x, z, rfl, ha, pt, hb0, hb, hM0, hn, hend, hle, k⟩ := h
  refine p_run0 _ H Q E ⟨a, c, st, sr, P, number, turns, M0, n, M, x, z, rfl, ha, pt, hb0, hb, hM0, hn, hend, fun j Mj hj e => ?_, k⟩
  have b := bnd_steps (bnd_begun hM0) e
  exact ⟨hb0, hb, b.1, fun f hf => Nat.lt_of_le_of_lt (b.2.1 f hf) (by unfold LIM; omega), Nat.lt_of_le_of_lt b.2.2 (by unfold LIM; omega)⟩
end U

set_option maxHeartbeats 4000000
namespace U
open PySem PySem.Spec PyProof.Rows L2 Un
/-! ### rows and stretches as data; tuples beside cells that are written -/
theorem IsTup.put {K : PySem.W.Frag} {H : Hp} {D : Addr} {ys xs : List V} {o : HO} {v : V} (hD : H D = some (.lst ys)) (h : IsTup K H v xs) : IsTup K (upd H D o) v xs := by
  obtain ⟨a, e, h⟩ := h
  exact ⟨a, e, tup_put hD h⟩
def Lists (L : List Cell) : Prop := ∀ p ∈ L, ∃ ys, p.2 = .lst ys
theorem tup_less {K : PySem.W.Frag} {H0 H : Hp} {L : List Cell} {a : Addr} {xs : List V} (w : Own H0 H L) (hl : Lists L) (h : SqT K H a xs) : SqT K (less H L) a xs := by
  have off : ∀ o, H a = some o → (∀ ys, o ≠ .lst ys) → less H L a = some o := fun o e n => by
    rw [less_off]
    · exact e
    · intro hm
      obtain ⟨p, hp, e2⟩ := List.mem_map.mp hm
      obtain ⟨ys, e3⟩ := hl p hp
      have q := w.at_ p hp
      rw [e2, e, e3] at q
      exact n ys (Option.some.inj q)
  rcases h with (h | ⟨o, h⟩) | h
  · exact .inl (.inl (off _ h (by intro ys z; cases z)))
  · exact .inl (.inr ⟨o, off _ h (by intro ys z; cases z)⟩)
  · exact .inr h
/-- a tuple stands behind a callee that had only lists -/
theorem tup_over {K : PySem.W.Frag} {H0 H H' : Hp} {L L' : List Cell} {a : Addr} {xs : List V} (w : Own H0 H L) (hl : Lists L) (w' : Own (less H L) H' L') (h : SqT K H a xs) : SqT K H' a xs := same_tup w'.same (tup_less w hl h)
theorem IsTup.over {K : PySem.W.Frag} {H0 H H' : Hp} {L L' : List Cell} {v : V} {xs : List V} (w : Own H0 H L) (hl : Lists L) (w' : Own (less H L) H' L') (h : IsTup K H v xs) : IsTup K H' v xs := by
  obtain ⟨a, e, h⟩ := h
  exact ⟨a, e, tup_over w hl w' h⟩
def wordsD : Rw → List PyData
  | .put n => [.str "put", .int n]
  | .get k => [.str "get", .int k]
  | .set k => [.str "set", .int k]
  | .say => [.str "say"]
  | .add => [.str "add"]
  | .sub => [.str "sub"]
  | .less => [.str "less"]
  | .share => [.str "share"]
  | .go p => [.str "go", .int p]
  | .nought p => [.str "nought", .int p]
  | .on k => [.str "on", .int k]
  | .turn => [.str "turn"]
  | .call f => [.str "call", .int f]
  | .back => [.str "back"]
  | .raise => [.str "raise"]
theorem dp_words {K : PySem.W.Frag} {H : Hp} (r : Rw) : DpAll K H (words r) (wordsD r) := by
  cases r <;> first | exact .cons (.str _) .nil | exact .cons (.str _) (.cons (.int _) .nil)
theorem lay_words (r : Rw) : PyData.canLayAll0 (wordsD r) = true ∧ PyData.depthAll (wordsD r) = 0 := by
  cases r <;> exact ⟨by simp only [wordsD, PyData.canLayAll0, PyData.canLay0]; decide +kernel, rfl⟩
theorem dp_rows {K : PySem.W.Frag} {H : Hp} {vs : List V} {rs : List Rw} (h : All2 (IsRow K H) vs rs) : DpAll K H vs (rs.map fun r => .tuple (wordsD r)) := by
  induction h with
  | nil => exact .nil
  | cons r _ ih =>
    obtain ⟨a, rfl, h⟩ := r
    exact .cons (.tup h (dp_words _)) ih
theorem shaped_rows (rs : List Rw) : SeqAt.shaped (.list (rs.map fun r => .tuple (wordsD r))) = true := by
  have h : PyData.canLayAll0 (rs.map fun r => .tuple (wordsD r)) = true ∧ PyData.depthAll (rs.map fun r => .tuple (wordsD r)) ≤ 1 := by
    induction rs with
    | nil => exact ⟨rfl, by decide⟩
    | cons r rs ih =>
      have w := lay_words r
      refine ⟨by simp [PyData.canLayAll0, PyData.canLay0, ih.1, w.1], ?_⟩
      simp only [List.map_cons, PyData.depthAll, PyData.depth, w.2]
      have := ih.2
      omega
  refine shaped_of (by simp [PyData.canLay0, h.1]) ?_
  simp only [PyData.depth]
  have := h.2
  omega
theorem dp_strs {K : PySem.W.Frag} {H : Hp} {vs : List V} {S : List Stretch} (h : All2 (IsStr K H) vs S) : DpAll K H vs (S.map fun s => .tuple [.int s.1, .int s.2.1, .int s.2.2]) := by
  induction h with
  | nil => exact .nil
  | cons r _ ih =>
    obtain ⟨a, rfl, h⟩ := r
    exact .cons (.tup h (.cons (.int _) (.cons (.int _) (.cons (.int _) .nil)))) ih
theorem shaped_strs (S : List Stretch) : SeqAt.shaped (.list (S.map fun s => .tuple [.int s.1, .int s.2.1, .int s.2.2])) = true := by
  have h : PyData.canLayAll0 (S.map fun s => .tuple [.int s.1, .int s.2.1, .int s.2.2]) = true ∧ PyData.depthAll (S.map fun s => .tuple [.int s.1, .int s.2.1, .int s.2.2]) ≤ 1 := by
    induction S with
    | nil => exact ⟨rfl, by decide⟩
    | cons s S ih =>
      refine ⟨by simp [PyData.canLayAll0, PyData.canLay0, ih.1], ?_⟩
      have := ih.2
      simp only [List.map_cons, PyData.depthAll, PyData.depth]
      omega
  refine shaped_of (by simp [PyData.canLay0, h.1]) ?_
  simp only [PyData.depth]
  have := h.2
  omega
theorem rows_mono {K : PySem.W.Frag} {H H' : Hp} {vs : List V} {rs : List Rw} (s : Same H H') (h : All2 (IsRow K H) vs rs) : All2 (IsRow K H') vs rs := h.mono fun _ _ q => IsTup.mono s q
theorem strs_mono {K : PySem.W.Frag} {H H' : Hp} {vs : List V} {rs : List Stretch} (s : Same H H') (h : All2 (IsStr K H) vs rs) : All2 (IsStr K H') vs rs := h.mono fun _ _ q => IsTup.mono s q
theorem rows_put {K : PySem.W.Frag} {H : Hp} {D : Addr} {ys : List V} {o : HO} {vs : List V} {rs : List Rw} (hD : H D = some (.lst ys)) (h : All2 (IsRow K H) vs rs) : All2 (IsRow K (upd H D o)) vs rs := h.mono fun _ _ q => IsTup.put hD q
theorem strs_put {K : PySem.W.Frag} {H : Hp} {D : Addr} {ys : List V} {o : HO} {vs : List V} {rs : List Stretch} (hD : H D = some (.lst ys)) (h : All2 (IsStr K H) vs rs) : All2 (IsStr K (upd H D o)) vs rs := h.mono fun _ _ q => IsTup.put hD q
theorem rows_over {K : PySem.W.Frag} {H0 H H' : Hp} {L L' : List Cell} {vs : List V} {rs : List Rw} (w : Own H0 H L) (hl : Lists L) (w' : Own (less H L) H' L') (h : All2 (IsRow K H) vs rs) : All2 (IsRow K H') vs rs :=
  h.mono fun _ _ q => IsTup.over w hl w' q
theorem new_tup {K : PySem.W.Frag} {H : Hp} {p : Addr} {xs : List V} : IsTup K (upd H p (.tup xs)) (.ref p) xs := ⟨p, rfl, SqT.of upd_same⟩
theorem shaped_end (x : Ed) (z : Int) : SeqAt.shaped (.tuple [.str x.str, .int z]) = true := by
  refine shaped_of ?_ (by simp [PyData.depth, PyData.depthAll])
  cases x <;> (simp only [PyData.canLay0, PyData.canLayAll0]; decide +kernel)
end U

set_option maxHeartbeats 4000000
namespace U
open PySem PySem.Spec PyProof.Rows L2 Un
local macro_rules | `(tactic| walk_at "w1") => `(tactic| first
  | with_reducible refine w_seq ?_
  | with_reducible refine w_asg ?_
  | with_reducible refine w_op ?_
  | ((with_reducible refine' w_var ?h1 ?_); (case h1 => rfl))
  | with_reducible refine w_c ?_
  | with_reducible refine w_name ?_
  | with_reducible refine w_tFd ?_
  | ((with_reducible refine' w_fld ?h1 ?h2 ?_); (case h1 => assumption); (case h2 => rfl))
  | with_reducible refine w_if ?_
  | with_reducible refine w_test ?_
  | with_reducible refine w_eqS ?_
  | with_reducible refine w_eqI ?_
  | with_reducible refine w_neS ?_
  | with_reducible refine w_neI ?_
  | with_reducible refine w_isN ?_
  | with_reducible refine w_isnN ?_
  | with_reducible refine w_bl ?_
  | with_reducible refine w_ret ?_
  | with_reducible refine w_drop ?_
  | with_reducible refine w_next ?_
  | with_reducible refine w_cons ?_
  | with_reducible refine w_nil ?_
  | with_reducible refine w_call ?_
  | with_reducible refine w_cb ?_
  | with_reducible refine w_meth ?_
  | ((with_reducible refine' w_recv ?h1 ?h2 ?_); (case h1 => assumption); (case h2 => rfl))
  | with_reducible refine w_sFd ?_
  | ((with_reducible refine' w_put ?h1 ?h2 ?_); (case h1 => assumption); (case h2 => exact Nat.le_of_ble_eq_true rfl))
  | with_reducible refine w_add ?_
  | with_reducible refine w_sub ?_
  | with_reducible refine w_lt ?_
  | with_reducible refine w_le ?_
  | with_reducible refine w_gt ?_
  | with_reducible refine w_ge ?_
  | with_reducible refine w_bm ?_
  | with_reducible refine w_bm0 ?_
  | ((with_reducible refine' w_ty ?h1 ?_); (case h1 => assumption))
  | with_reducible refine w_tup ?_
  | with_reducible refine w_lst ?_
  | ((with_reducible refine' w_new ?h1 ?_); (case h1 => exact Nat.le_of_ble_eq_true rfl))
  | with_reducible refine w_gsub ?_
  | with_reducible refine w_make ?_
  | with_reducible refine w_lc ?_
  | with_reducible refine w_iList ?_
  | with_reducible refine w_for ?_
  | with_reducible refine w_yes ?_
  | with_reducible refine w_tSl ?_
  | with_reducible refine w_part ?_
  | with_reducible refine w_nopart ?_
  | with_reducible refine w_i ?_
  | with_reducible refine w_rng1 ?_
  | with_reducible refine w_rng2 ?_
  | with_reducible refine w_isiII ?_
  | with_reducible refine w_isiIB ?_
  | with_reducible refine w_isiSS ?_
  | ((with_reducible refine w_mod ?h1 ?_); (case h1 => decide))
  | ((with_reducible refine w_fdC' ?h1 ?h2 ?_); (case h1 => decide); (case h2 => decide))
  | ((with_reducible refine w_mulR ?h1 ?h2 ?_); (case h1 => decide); (case h2 => decide))
  | ((with_reducible refine w_mulL ?h1 ?h2 ?_); (case h1 => decide); (case h2 => decide))
  | ((with_reducible refine w_pow' ?h1 ?h2 ?h3 ?_); (case h1 => decide); (case h2 => decide); (case h3 => decide))
  | with_reducible refine w_andV ?_
  | with_reducible refine w_orV ?_
  | with_reducible refine w_notV ?_
  | with_reducible refine w_B ?_
  | with_reducible refine w_not ?_
  | with_reducible refine w_and ?_
  | with_reducible refine w_or ?_
  | with_reducible refine w_ifx ?_
  | with_reducible refine w_un ?_
  | ((with_reducible refine w_T ?h1 ?_); (case h1 => with_reducible rfl))
  | ((with_reducible refine w_F ?h1 ?_); (case h1 => with_reducible rfl))
  | ((with_reducible refine w_T ?h1 ?_); (case h1 => decide +kernel))
  | ((with_reducible refine w_F ?h1 ?_); (case h1 => decide +kernel)))
local macro_rules | `(tactic| walk_at "w") => `(tactic| repeat walk_at "w1")

/-! ### programs on the heap -/
def TreeAt (K : PySem.W.Frag) (H : Hp) : Un.Tree → V → Prop
  | .num n, v => IsTup K H v [.str "num", .int n]
  | .box k, v => IsTup K H v [.str "box", .int k]
  | .call f t, v => ∃ x, IsTup K H v [.str "call", .int f, x] ∧ TreeAt K H t x
  | .bin o a b, v => ∃ x y, IsTup K H v [.str o.str, x, y] ∧ TreeAt K H a x ∧ TreeAt K H b y
mutual
def SmAt (K : PySem.W.Frag) (H : Hp) : Sm → V → Prop
  | .set k e, v => ∃ x, IsTup K H v [.str "set", .int k, x] ∧ TreeAt K H e x
  | .say e, v => ∃ x, IsTup K H v [.str "say", x] ∧ TreeAt K H e x
  | .ife e a b, v => ∃ x p q ps qs, IsTup K H v [.str "if", x, .ref p, .ref q] ∧ TreeAt K H e x ∧ SqL K H p ps ∧ SmsAt K H a ps ∧ SqL K H q qs ∧ SmsAt K H b qs
  | .loop e b, v => ∃ x p ps, IsTup K H v [.str "loop", x, .ref p] ∧ TreeAt K H e x ∧ SqL K H p ps ∧ SmsAt K H b ps
  | .leave, v => IsTup K H v [.str "leave"]
  | .next, v => IsTup K H v [.str "next"]
  | .give e, v => ∃ x, IsTup K H v [.str "give", x] ∧ TreeAt K H e x
  | .raise e, v => ∃ x, IsTup K H v [.str "raise", x] ∧ TreeAt K H e x
  | .ctch b n k h, v => ∃ p q ps qs, IsTup K H v [.str "catch", .ref p, goalV n, .int k, .ref q] ∧ SqL K H p ps ∧ SmsAt K H b ps ∧ SqL K H q qs ∧ SmsAt K H h qs
  | .endd b l, v => ∃ p q ps qs, IsTup K H v [.str "end", .ref p, .ref q] ∧ SqL K H p ps ∧ SmsAt K H b ps ∧ SqL K H q qs ∧ SmsAt K H l qs
def SmsAt (K : PySem.W.Frag) (H : Hp) : List Sm → List V → Prop
  | [], vs => vs = []
  | s :: b, vs => ∃ v vr, vs = v :: vr ∧ SmAt K H s v ∧ SmsAt K H b vr
end
def BlAt (K : PySem.W.Frag) (H : Hp) (b : List Sm) (v : V) : Prop := ∃ p ps, v = .ref p ∧ SqL K H p ps ∧ SmsAt K H b ps
def ProgAt (K : PySem.W.Frag) (H : Hp) (P : List (List Sm)) (p : Addr) : Prop := ∃ vs, SqL K H p vs ∧ All2 (fun v b => BlAt K H b v) vs P
section
variable {K : PySem.W.Frag} {H H' : Hp}
theorem TreeAt.mono (s : Same H H') : ∀ {t : Un.Tree} {v : V}, TreeAt K H t v → TreeAt K H' t v
  | .num _, _, h => IsTup.mono s h
  | .box _, _, h => IsTup.mono s h
  | .call _ _, _, h => by
    obtain ⟨x, h1, h2⟩ := h
    exact ⟨x, h1.mono s, TreeAt.mono s h2⟩
  | .bin _ _ _, _, h => by
    obtain ⟨x, y, h1, h2, h3⟩ := h
    exact ⟨x, y, h1.mono s, TreeAt.mono s h2, TreeAt.mono s h3⟩
mutual
theorem SmAt.mono (s : Same H H') : ∀ (t : Sm) {v : V}, SmAt K H t v → SmAt K H' t v
  | .set _ _, _, h => by
    obtain ⟨x, h1, h2⟩ := h
    exact ⟨x, h1.mono s, h2.mono s⟩
  | .say _, _, h => by
    obtain ⟨x, h1, h2⟩ := h
    exact ⟨x, h1.mono s, h2.mono s⟩
  | .ife _ a b, _, h => by
    obtain ⟨x, p, q, ps, qs, h1, h2, h3, h4, h5, h6⟩ := h
    exact ⟨x, p, q, ps, qs, h1.mono s, h2.mono s, s.seq h3, SmsAt.mono s a h4, s.seq h5, SmsAt.mono s b h6⟩
  | .loop _ b, _, h => by
    obtain ⟨x, p, ps, h1, h2, h3, h4⟩ := h
    exact ⟨x, p, ps, h1.mono s, h2.mono s, s.seq h3, SmsAt.mono s b h4⟩
  | .leave, _, h => IsTup.mono s h
  | .next, _, h => IsTup.mono s h
  | .give _, _, h => by
    obtain ⟨x, h1, h2⟩ := h
    exact ⟨x, h1.mono s, h2.mono s⟩
  | .raise _, _, h => by
    obtain ⟨x, h1, h2⟩ := h
    exact ⟨x, h1.mono s, h2.mono s⟩
  | .ctch a _ _ b, _, h => by
    obtain ⟨p, q, ps, qs, h1, h3, h4, h5, h6⟩ := h
    exact ⟨p, q, ps, qs, h1.mono s, s.seq h3, SmsAt.mono s a h4, s.seq h5, SmsAt.mono s b h6⟩
  | .endd a b, _, h => by
    obtain ⟨p, q, ps, qs, h1, h3, h4, h5, h6⟩ := h
    exact ⟨p, q, ps, qs, h1.mono s, s.seq h3, SmsAt.mono s a h4, s.seq h5, SmsAt.mono s b h6⟩
theorem SmsAt.mono (s : Same H H') : ∀ (b : List Sm) {vs : List V}, SmsAt K H b vs → SmsAt K H' b vs
  | [], _, h => h
  | t :: b, _, h => by
    obtain ⟨v, vr, e, h1, h2⟩ := h
    exact ⟨v, vr, e, SmAt.mono s t h1, SmsAt.mono s b h2⟩
end
theorem BlAt.mono (s : Same H H') {b : List Sm} {v : V} (h : BlAt K H b v) : BlAt K H' b v := by
  obtain ⟨p, ps, e, h1, h2⟩ := h
  exact ⟨p, ps, e, s.seq h1, h2.mono s⟩
theorem ProgAt.mono (s : Same H H') {P : List (List Sm)} {p : Addr} (h : ProgAt K H P p) : ProgAt K H' P p := by
  obtain ⟨vs, h1, h2⟩ := h
  exact ⟨vs, s.seq h1, h2.mono fun _ _ q => q.mono s⟩
end

/-! ### the world -/
structure WA where
  a : Addr
  dx : Addr
  s : Addr
  pa : Addr
def wdF (pa s : Addr) (t d : Int) : List (Str × V) := [("program", .ref pa), ("said", .ref s), ("turns", .int t), ("deep", .int d)]
abbrev wdC (K : PySem.W.Frag) (d : WA) (w : Wd) : Cell := (d.a, .ins (He.ga K "World") d.dx (wdF d.pa d.s w.turns w.deep))
abbrev sdC (d : WA) (w : Wd) : Cell := (d.s, .lst (w.said.map V.int))
abbrev bxC (b : Addr) (bx : List Int) : Cell := (b, .lst (bx.map V.int))
def resV (r : Res) : List V := [.str r.1.str, .int r.2]
/-- cells that are written -/
def Muts (L : List Cell) : Prop := ∀ p ∈ L, (∃ ys, p.2 = .lst ys) ∨ ∃ C dx fs, p.2 = .ins C dx fs
theorem tup_lessM {K : PySem.W.Frag} {H0 H : Hp} {L : List Cell} {a : Addr} {xs : List V} (w : Own H0 H L) (hl : Muts L) (h : SqT K H a xs) : SqT K (less H L) a xs := by
  have off : ∀ o, H a = some o → (∀ ys, o ≠ .lst ys) → (∀ C dx fs, o ≠ .ins C dx fs) → less H L a = some o := fun o e n n' => by
    rw [less_off]
    · exact e
    · intro hm
      obtain ⟨p, hp, e2⟩ := List.mem_map.mp hm
      rcases hl p hp with ⟨ys, e3⟩ | ⟨C, dx, fs, e3⟩
      · have q := w.at_ p hp
        rw [e2, e, e3] at q
        exact n ys (Option.some.inj q)
      · have q := w.at_ p hp
        rw [e2, e, e3] at q
        exact n' C dx fs (Option.some.inj q)
  rcases h with (h | ⟨o, h⟩) | h
  · exact .inl (.inl (off _ h (by intro ys z; cases z) (by intro _ _ _ z; cases z)))
  · exact .inl (.inr ⟨o, off _ h (by intro ys z; cases z) (by intro _ _ _ z; cases z)⟩)
  · exact .inr h
theorem IsTup.overM {K : PySem.W.Frag} {H0 H H' : Hp} {L L' : List Cell} {v : V} {xs : List V} (w : Own H0 H L) (hl : Muts L) (w' : Own (less H L) H' L') (h : IsTup K H v xs) : IsTup K H' v xs := by
  obtain ⟨a, e, h⟩ := h
  exact ⟨a, e, same_tup w'.same (tup_lessM w hl h)⟩
theorem IsTup.putI {K : PySem.W.Frag} {H : Hp} {D C dx : Addr} {fs : List (Str × V)} {xs : List V} {o : HO} {v : V} (hD : H D = some (.ins C dx fs)) (h : IsTup K H v xs) : IsTup K (upd H D o) v xs := by
  obtain ⟨a, e, h⟩ := h
  refine ⟨a, e, ?_⟩
  rcases h with (h | ⟨ob, h⟩) | h
  · exact .inl (.inl (by rw [upd_ne (ne_of h hD (by intro z; cases z))]; exact h))
  · exact .inl (.inr ⟨ob, by rw [upd_ne (ne_of h hD (by intro z; cases z))]; exact h⟩)
  · exact .inr h
theorem muts2 {K : PySem.W.Frag} {d : WA} {w : Wd} : Muts [wdC K d w, sdC d w] := by
  intro p hp
  rcases List.mem_cons.mp hp with rfl | hp
  · exact .inr ⟨_, _, _, rfl⟩
  · rcases List.mem_cons.mp hp with rfl | hp
    · exact .inl ⟨_, rfl⟩
    · cases hp
theorem muts3 {K : PySem.W.Frag} {d : WA} {w : Wd} {b : Addr} {bx : List Int} : Muts [wdC K d w, sdC d w, bxC b bx] := by
  intro p hp
  rcases List.mem_cons.mp hp with rfl | hp
  · exact .inr ⟨_, _, _, rfl⟩
  · rcases List.mem_cons.mp hp with rfl | hp
    · exact .inl ⟨_, rfl⟩
    · rcases List.mem_cons.mp hp with rfl | hp
      · exact .inl ⟨_, rfl⟩
      · cases hp
theorem Own.same1 {H0 H H' : Hp} {L L' : List Cell} (w : Own H0 H L) (w' : Own (less H L) H' L') : Own H0 H' L' := by
  have := Own.back (L := L) (R := []) (by rw [List.append_nil]; exact w) w'
  rwa [List.append_nil] at this

/-! ### the promises -/
def sp_World_taken (K : PySem.W.Frag) : Sp := fun vs H Q _ => ∃ H0 d w R, vs = [.ref d.a] ∧ Own H0 H (wdC K d w :: R) ∧ (w.turns = 0 → Q (.bl false) H) ∧
  (w.turns ≠ 0 → ∀ H', Own H0 H' (wdC K d { w with turns := w.turns - 1 } :: R) → Q (.bl true) H')
theorem p_World_taken {K : PySem.W.Frag} (vs : List V) (H : Hp) (Q : VK) (E : XK) (h : sp_World_taken K vs H Q E) : t_World_taken K { nx := fun _ H' => Q .non H', rt := Q } (L2.start n_World_taken vs) H := by
  obtain ⟨H0, d, w, R, rfl, o, q0, q1⟩ := h
  have h := o.ix 0 rfl
  unfold t_World_taken
  walk_at "w"
  refine w_D (fun c => ?_) (fun c => ?_)
  · walk_at "w"
    exact q0 (by omega)
  · walk_at "w"
    have c' : w.turns ≠ 0 := by omega
    refine q1 c' _ ?_
    have e : ((w.turns - 1 : Nat) : Int) = (w.turns : Int) - 1 := by omega
    have := o.set 0 (.ins (He.ga K "World") d.dx (wdF d.pa d.s ((w.turns : Int) - 1) w.deep)) rfl
    rw [← e] at this
    rw [← e]
    exact this
def sp_joined (K : PySem.W.Frag) : Sp := fun vs H Q _ => ∃ (o : Op) (x y : Int), vs = [.str o.str, .int x, .int y] ∧ ∀ r, H r = none → Q (.ref r) (upd H r (.tup (resV (joinT o x y))))
theorem p_joined {K : PySem.W.Frag} (vs : List V) (H : Hp) (Q : VK) (E : XK) (h : sp_joined K vs H Q E) : t_joined K { nx := fun _ H' => Q .non H', rt := Q } (L2.start n_joined vs) H := by
  obtain ⟨o, x, y, rfl, q⟩ := h
  unfold t_joined
  cases o with
  | add =>
    dsimp only [Op.str]
    walk_at "w"
    exact q
  | sub =>
    dsimp only [Op.str]
    walk_at "w"
    exact q
  | less =>
    dsimp only [Op.str]
    walk_at "w"
    refine w_D (fun c => ?_) (fun c => ?_)
    · walk_at "w"
      simp only [joinT, if_pos c] at q
      exact q
    · walk_at "w"
      simp only [joinT, if_neg c] at q
      exact q
  | share =>
    dsimp only [Op.str]
    walk_at "w"
    refine w_D (fun c => ?_) (fun c => ?_)
    · walk_at "w"
      simp only [joinT, if_pos c] at q
      exact q
    · walk_at "w"
      simp only [joinT, if_neg c] at q
      exact w_fd c (by walk_at "w"; exact q)
def sp_tree (K : PySem.W.Frag) (n : Nat) : Sp := fun vs H Q _ => ∃ (P : List (List Sm)) (H0 : Hp), ∃ d t v b bx w r w', vs = [v, .ref b, .ref d.a] ∧ TreeAt K H0 t v ∧ ProgAt K H0 P d.pa ∧ Own H0 H [wdC K d w, sdC d w, bxC b bx] ∧
  (ev P n).tree t bx w = some (r, w') ∧ w'.said.length < LIM ∧ ∀ H' u, Own H0 H' [wdC K d w', sdC d w', bxC b bx] → IsTup K H' u (resV r) → Q u H'
def sp_call (K : PySem.W.Frag) (n : Nat) : Sp := fun vs H Q _ => ∃ (P : List (List Sm)) (H0 : Hp), ∃ d f v w r w', vs = [.int f, .int v, .ref d.a] ∧ ProgAt K H0 P d.pa ∧ Own H0 H [wdC K d w, sdC d w] ∧
  (ev P n).call f v w = some (r, w') ∧ w'.said.length < LIM ∧ ∀ H' u, Own H0 H' [wdC K d w', sdC d w'] → IsTup K H' u (resV r) → Q u H'
def sp_enter (K : PySem.W.Frag) (n : Nat) : Sp := fun vs H Q _ => ∃ (P : List (List Sm)) (H0 : Hp), ∃ d f v w r w', vs = [.int f, .int v, .ref d.a] ∧ ProgAt K H0 P d.pa ∧ Own H0 H [wdC K d w, sdC d w] ∧
  (ev P n).enter f v w = some (r, w') ∧ w'.said.length < LIM ∧ ∀ H' u, Own H0 H' [wdC K d w', sdC d w'] → IsTup K H' u (resV r) → Q u H'
def sp_block (K : PySem.W.Frag) (n : Nat) : Sp := fun vs H Q _ => ∃ (P : List (List Sm)) (H0 : Hp), ∃ d l v b bx w r bx' w', vs = [v, .ref b, .ref d.a] ∧ BlAt K H0 l v ∧ ProgAt K H0 P d.pa ∧ Own H0 H [wdC K d w, sdC d w, bxC b bx] ∧
  (ev P n).block l bx w = some (r, bx', w') ∧ w'.said.length < LIM ∧ ∀ H' u, Own H0 H' [wdC K d w', sdC d w', bxC b bx'] → IsTup K H' u (resV r) → Q u H'
def sp_row (K : PySem.W.Frag) (n : Nat) : Sp := fun vs H Q _ => ∃ (P : List (List Sm)) (H0 : Hp), ∃ d s v b bx w r bx' w', vs = [v, .ref b, .ref d.a] ∧ SmAt K H0 s v ∧ ProgAt K H0 P d.pa ∧ Own H0 H [wdC K d w, sdC d w, bxC b bx] ∧
  (ev P n).row s bx w = some (r, bx', w') ∧ w'.said.length < LIM ∧ ∀ H' u, Own H0 H' [wdC K d w', sdC d w', bxC b bx'] → IsTup K H' u (resV r) → Q u H'
def sp_loop (K : PySem.W.Frag) (n : Nat) : Sp := fun vs H Q _ => ∃ (P : List (List Sm)) (H0 : Hp), ∃ d e l v b bx w r bx' w', vs = [v, .ref b, .ref d.a] ∧ SmAt K H0 (.loop e l) v ∧ ProgAt K H0 P d.pa ∧ Own H0 H [wdC K d w, sdC d w, bxC b bx] ∧
  (ev P n).loop e l bx w = some (r, bx', w') ∧ w'.said.length < LIM ∧ ∀ H' u, Own H0 H' [wdC K d w', sdC d w', bxC b bx'] → IsTup K H' u (resV r) → Q u H'
def sp_ctch (K : PySem.W.Frag) (n : Nat) : Sp := fun vs H Q _ => ∃ (P : List (List Sm)) (H0 : Hp), ∃ d l m k h v b bx w r bx' w', vs = [v, .ref b, .ref d.a] ∧ SmAt K H0 (.ctch l m k h) v ∧ ProgAt K H0 P d.pa ∧ Own H0 H [wdC K d w, sdC d w, bxC b bx] ∧
  (ev P n).ctch l m k h bx w = some (r, bx', w') ∧ w'.said.length < LIM ∧ ∀ H' u, Own H0 H' [wdC K d w', sdC d w', bxC b bx'] → IsTup K H' u (resV r) → Q u H'
def sp_endd (K : PySem.W.Frag) (n : Nat) : Sp := fun vs H Q _ => ∃ (P : List (List Sm)) (H0 : Hp), ∃ d l m v b bx w r bx' w', vs = [v, .ref b, .ref d.a] ∧ SmAt K H0 (.endd l m) v ∧ ProgAt K H0 P d.pa ∧ Own H0 H [wdC K d w, sdC d w, bxC b bx] ∧
  (ev P n).endd l m bx w = some (r, bx', w') ∧ w'.said.length < LIM ∧ ∀ H' u, Own H0 H' [wdC K d w', sdC d w', bxC b bx'] → IsTup K H' u (resV r) → Q u H'
end U

set_option maxHeartbeats 4000000
namespace U
open PySem PySem.Spec PyProof.Rows L2 Un
local macro_rules | `(tactic| walk_at "w1") => `(tactic| first
  | with_reducible refine w_seq ?_
  | with_reducible refine w_asg ?_
  | with_reducible refine w_op ?_
  | ((with_reducible refine' w_var ?h1 ?_); (case h1 => rfl))
  | with_reducible refine w_c ?_
  | with_reducible refine w_name ?_
  | with_reducible refine w_tFd ?_
  | ((with_reducible refine' w_fld ?h1 ?h2 ?_); (case h1 => assumption); (case h2 => rfl))
  | with_reducible refine w_if ?_
  | with_reducible refine w_test ?_
  | with_reducible refine w_eqS ?_
  | with_reducible refine w_eqI ?_
  | with_reducible refine w_neS ?_
  | with_reducible refine w_neI ?_
  | with_reducible refine w_isN ?_
  | with_reducible refine w_isnN ?_
  | with_reducible refine w_bl ?_
  | with_reducible refine w_ret ?_
  | with_reducible refine w_drop ?_
  | with_reducible refine w_next ?_
  | with_reducible refine w_cons ?_
  | with_reducible refine w_nil ?_
  | with_reducible refine w_call ?_
  | with_reducible refine w_cb ?_
  | with_reducible refine w_meth ?_
  | ((with_reducible refine' w_recv ?h1 ?h2 ?_); (case h1 => assumption); (case h2 => rfl))
  | with_reducible refine w_sFd ?_
  | ((with_reducible refine' w_put ?h1 ?h2 ?_); (case h1 => assumption); (case h2 => exact Nat.le_of_ble_eq_true rfl))
  | with_reducible refine w_add ?_
  | with_reducible refine w_sub ?_
  | with_reducible refine w_lt ?_
  | with_reducible refine w_le ?_
  | with_reducible refine w_gt ?_
  | with_reducible refine w_ge ?_
  | with_reducible refine w_bm ?_
  | with_reducible refine w_bm0 ?_
  | ((with_reducible refine' w_ty ?h1 ?_); (case h1 => assumption))
  | with_reducible refine w_tup ?_
  | with_reducible refine w_lst ?_
  | ((with_reducible refine' w_new ?h1 ?_); (case h1 => exact Nat.le_of_ble_eq_true rfl))
  | with_reducible refine w_gsub ?_
  | with_reducible refine w_make ?_
  | with_reducible refine w_lc ?_
  | with_reducible refine w_iList ?_
  | with_reducible refine w_for ?_
  | with_reducible refine w_yes ?_
  | with_reducible refine w_tSl ?_
  | with_reducible refine w_part ?_
  | with_reducible refine w_nopart ?_
  | with_reducible refine w_i ?_
  | with_reducible refine w_rng1 ?_
  | with_reducible refine w_rng2 ?_
  | with_reducible refine w_isiII ?_
  | with_reducible refine w_isiIB ?_
  | with_reducible refine w_isiSS ?_
  | ((with_reducible refine w_mod ?h1 ?_); (case h1 => decide))
  | ((with_reducible refine w_fdC' ?h1 ?h2 ?_); (case h1 => decide); (case h2 => decide))
  | ((with_reducible refine w_mulR ?h1 ?h2 ?_); (case h1 => decide); (case h2 => decide))
  | ((with_reducible refine w_mulL ?h1 ?h2 ?_); (case h1 => decide); (case h2 => decide))
  | ((with_reducible refine w_pow' ?h1 ?h2 ?h3 ?_); (case h1 => decide); (case h2 => decide); (case h3 => decide))
  | with_reducible refine w_andV ?_
  | with_reducible refine w_orV ?_
  | with_reducible refine w_notV ?_
  | with_reducible refine w_B ?_
  | with_reducible refine w_not ?_
  | with_reducible refine w_and ?_
  | with_reducible refine w_or ?_
  | with_reducible refine w_ifx ?_
  | with_reducible refine w_un ?_
  | ((with_reducible refine w_T ?h1 ?_); (case h1 => with_reducible rfl))
  | ((with_reducible refine w_F ?h1 ?_); (case h1 => with_reducible rfl))
  | ((with_reducible refine w_T ?h1 ?_); (case h1 => decide +kernel))
  | ((with_reducible refine w_F ?h1 ?_); (case h1 => decide +kernel)))
local macro_rules | `(tactic| walk_at "w") => `(tactic| repeat walk_at "w1")

theorem wy_value (y : Wy) : (y.str = "value") ↔ y = .value := by cases y <;> decide
theorem wy_on (y : Wy) : (y.str = "on") ↔ y = .on := by cases y <;> decide
theorem wy_give (y : Wy) : (y.str = "give") ↔ y = .give := by cases y <;> decide
theorem wy_leave (y : Wy) : (y.str = "leave") ↔ y = .leave := by cases y <;> decide
theorem wy_next (y : Wy) : (y.str = "next") ↔ y = .next := by cases y <;> decide
theorem wy_fault (y : Wy) : (y.str = "fault") ↔ y = .fault := by cases y <;> decide
theorem wy_tired (y : Wy) : (y.str = "tired") ↔ y = .tired := by cases y <;> decide
theorem at?_at {xs : List Int} {k v : Int} (h : at? xs k = some v) : atI (xs.map V.int) k = some (.int v) := by
  unfold at? at h
  by_cases h0 : 0 ≤ k
  · rw [if_pos h0] at h
    refine atI_ok h0 ?_
    rw [List.getElem?_map, h]
    rfl
  · rw [if_neg h0] at h
    cases h
theorem tup_at {K : PySem.W.Frag} {H : Hp} {u : V} {xs : List V} (h : IsTup K H u xs) : ∃ a, u = .ref a ∧ SqT K H a xs := h
section
variable {K : PySem.W.Frag} {P : List (List Sm)}
theorem p_reckoned (n : Nat) (vs : List V) (H : Hp) (Q : VK) (E : XK) (h : sp_tree K (n + 1) vs H Q E) :
    t_reckoned K (sp_tree K n) (sp_call K n) (sp_joined K) { nx := fun _ H' => Q .non H', rt := Q } (L2.start n_reckoned vs) H := by
  obtain ⟨P, H0, d, t, v, b, bx, w, r, w', rfl, ht, hp, o, he, hs, k⟩ := h
  have he : treeS (ev P n) t bx w = some (r, w') := he
  unfold treeS at he
  unfold t_reckoned
  have G := good_ev P n
  cases t with
  | num m =>
    obtain ⟨a, rfl, hv0⟩ := ht
    have hv := same_tup o.same hv0
    cases he
    walk_at "w"
    refine w_ixT hv rfl ?_
    walk_at "w"
    refine w_ixT hv rfl ?_
    walk_at "w"
    exact fun p h1 => k _ _ (o.lay h1) new_tup
  | box m =>
    obtain ⟨a, rfl, hv0⟩ := ht
    have hv := same_tup o.same hv0
    dsimp only at he
    cases hm : at? bx m with
    | none => rw [hm] at he; cases he
    | some x =>
    rw [hm] at he
    cases he
    walk_at "w"
    refine w_ixT hv rfl ?_
    walk_at "w"
    refine w_ixT hv rfl ?_
    refine w_ixL (SqL.of (o.ix 2 rfl)) (at?_at hm) ?_
    walk_at "w"
    exact fun p h1 => k _ _ (o.lay h1) new_tup
  | call f t =>
    obtain ⟨x, ⟨a, rfl, hv0⟩, hx⟩ := ht
    have hv := same_tup o.same hv0
    dsimp only at he
    cases h1 : (ev P n).tree t bx w with
    | none => rw [h1] at he; cases he
    | some q =>
    obtain ⟨⟨wy, z⟩, w1⟩ := q
    rw [h1] at he
    have hs1 : w1.said.length < LIM := by
      cases wy with
      | value => exact Nat.lt_of_le_of_lt (G.call he).len hs
      | _ => cases he; exact hs
    walk_at "w"
    refine w_ixT hv rfl ?_
    walk_at "w"
    refine w_ixT hv rfl ?_
    walk_at "w"
    refine ⟨P, _, d, t, x, b, bx, w, _, _, rfl, hx.mono o.base, hp.mono o.base, o.lend, h1, hs1, fun H1 u o1 hu => ?_⟩
    replace o1 := o.same1 o1
    obtain ⟨c, rfl, hu'⟩ := tup_at hu
    walk_at "w"
    refine w_ixT hu' rfl ?_
    walk_at "w"
    refine w_ND (fun c1 => ?_) (fun c1 => ?_) <;> rw [wy_value] at c1
    · dsimp only at c1
      subst c1
      walk_at "w"
      have hv1 := same_tup o1.same hv0
      refine w_ixT hv1 rfl ?_
      walk_at "w"
      refine w_ixT hu' rfl ?_
      walk_at "w"
      have o2 : Own H0 H1 ([wdC K d w1, sdC d w1] ++ [bxC b bx]) := o1
      refine ⟨P, _, d, f, z, w1, _, _, rfl, hp.mono o2.sub.base, o2.sub.lend, he, hs, fun H2 u2 o3 hu2 => ?_⟩
      exact k _ _ (o2.back o3) hu2
    · walk_at "w"
      cases wy with
      | value => exact absurd rfl c1
      | _ => cases he; exact k _ _ o1 hu
  | bin op s t =>
    obtain ⟨x, y, ⟨a, rfl, hv0⟩, hx, hy⟩ := ht
    have hv := same_tup o.same hv0
    dsimp only at he
    cases h1 : (ev P n).tree s bx w with
    | none => rw [h1] at he; cases he
    | some q =>
    obtain ⟨⟨wy, z⟩, w1⟩ := q
    rw [h1] at he
    have hs1 : w1.said.length < LIM := by
      cases wy with
      | value =>
        dsimp only at he
        cases h2 : (ev P n).tree t bx w1 with
        | none => rw [h2] at he; cases he
        | some q =>
          obtain ⟨⟨wy2, z2⟩, w2⟩ := q
          rw [h2] at he
          have l := (G.tree h2).len
          cases wy2 <;> (cases he; exact Nat.lt_of_le_of_lt l hs)
      | _ => cases he; exact hs
    walk_at "w"
    refine w_ixT hv rfl ?_
    walk_at "w"
    refine w_F (by cases op <;> decide) ?_
    walk_at "w"
    refine w_F (by cases op <;> decide) ?_
    walk_at "w"
    refine w_F (by cases op <;> decide) ?_
    walk_at "w"
    refine w_ixT hv rfl ?_
    walk_at "w"
    refine ⟨P, _, d, s, x, b, bx, w, _, _, rfl, hx.mono o.base, hp.mono o.base, o.lend, h1, hs1, fun H1 u o1 hu => ?_⟩
    replace o1 := o.same1 o1
    obtain ⟨c, rfl, hu'⟩ := tup_at hu
    walk_at "w"
    refine w_ixT hu' rfl ?_
    walk_at "w"
    refine w_ND (fun c1 => ?_) (fun c1 => ?_) <;> rw [wy_value] at c1
    · dsimp only at c1
      subst c1
      dsimp only at he
      cases h2 : (ev P n).tree t bx w1 with
      | none => rw [h2] at he; cases he
      | some q =>
      obtain ⟨⟨wy2, z2⟩, w2⟩ := q
      rw [h2] at he
      have hs2 : w2.said.length < LIM := by cases wy2 <;> (cases he; exact hs)
      walk_at "w"
      have hv1 := same_tup o1.same hv0
      refine w_ixT hv1 rfl ?_
      walk_at "w"
      refine ⟨P, _, d, t, y, b, bx, w1, _, _, rfl, hy.mono o1.base, hp.mono o1.base, o1.lend, h2, hs2, fun H2 u2 o2 hu2 => ?_⟩
      have hu3 := hu.overM o1 muts3 o2
      replace o2 := o1.same1 o2
      obtain ⟨c2, rfl, hu2'⟩ := tup_at hu2
      walk_at "w"
      refine w_ixT hu2' rfl ?_
      walk_at "w"
      refine w_ND (fun c3 => ?_) (fun c3 => ?_) <;> rw [wy_value] at c3
      · dsimp only at c3
        subst c3
        cases he
        walk_at "w"
        obtain ⟨c4, e4, hu3⟩ := hu3
        cases e4
        refine w_ixT hu3 rfl ?_
        walk_at "w"
        refine w_ixT hu2' rfl ?_
        walk_at "w"
        exact ⟨op, z, z2, rfl, fun p hp => k _ _ (o2.lay hp) new_tup⟩
      · walk_at "w"
        cases wy2 with
        | value => exact absurd rfl c3
        | _ => cases he; exact k _ _ o2 hu2
    · walk_at "w"
      cases wy with
      | value => exact absurd rfl c1
      | _ => cases he; exact k _ _ o1 hu
theorem p_called (n : Nat) (vs : List V) (H : Hp) (Q : VK) (E : XK) (h : sp_call K (n + 1) vs H Q E) :
    t_called K (sp_World_taken K) (sp_enter K n) { nx := fun _ H' => Q .non H', rt := Q } (L2.start n_called vs) H := by
  obtain ⟨P, H0, d, f, v, w, r, w', rfl, hp, o, he, hs, k⟩ := h
  have he : callS (ev P n) f v w = some (r, w') := he
  unfold callS at he
  unfold t_called
  have h := o.ix 0 rfl
  walk_at "w"
  refine ⟨H0, d, w, _, rfl, o, fun c => ?_, fun c H1 o1 => ?_⟩
  · rw [if_pos c] at he
    cases he
    walk_at "w"
    exact fun p h1 => k _ _ (o.lay h1) new_tup
  · rw [if_neg c] at he
    walk_at "w"
    have h := o1.ix 0 rfl
    walk_at "w"
    refine w_D (fun c1 => ?_) (fun c1 => ?_)
    · have c2 : w.deep = 8 := by
        have : (w.deep : Int) = 8 := c1
        omega
      rw [if_pos c2] at he
      cases he
      walk_at "w"
      exact fun p h1 => k _ _ (o1.lay h1) new_tup
    · have c2 : ¬ w.deep = 8 := fun z => c1 (by rw [z]; rfl)
      rw [if_neg c2] at he
      walk_at "w"
      exact ⟨P, H0, d, f, v, _, _, _, rfl, hp, o1, he, hs, k⟩
end
end U

set_option maxHeartbeats 4000000
namespace U
open PySem PySem.Spec PyProof.Rows L2 Un
local macro_rules | `(tactic| walk_at "w1") => `(tactic| first
  | with_reducible refine w_seq ?_
  | with_reducible refine w_asg ?_
  | with_reducible refine w_op ?_
  | ((with_reducible refine' w_var ?h1 ?_); (case h1 => rfl))
  | with_reducible refine w_c ?_
  | with_reducible refine w_name ?_
  | with_reducible refine w_tFd ?_
  | ((with_reducible refine' w_fld ?h1 ?h2 ?_); (case h1 => assumption); (case h2 => rfl))
  | with_reducible refine w_if ?_
  | with_reducible refine w_test ?_
  | with_reducible refine w_eqS ?_
  | with_reducible refine w_eqI ?_
  | with_reducible refine w_neS ?_
  | with_reducible refine w_neI ?_
  | with_reducible refine w_isN ?_
  | with_reducible refine w_isnN ?_
  | with_reducible refine w_bl ?_
  | with_reducible refine w_ret ?_
  | with_reducible refine w_drop ?_
  | with_reducible refine w_next ?_
  | with_reducible refine w_cons ?_
  | with_reducible refine w_nil ?_
  | with_reducible refine w_call ?_
  | with_reducible refine w_cb ?_
  | with_reducible refine w_meth ?_
  | ((with_reducible refine' w_recv ?h1 ?h2 ?_); (case h1 => assumption); (case h2 => rfl))
  | with_reducible refine w_sFd ?_
  | ((with_reducible refine' w_put ?h1 ?h2 ?_); (case h1 => assumption); (case h2 => exact Nat.le_of_ble_eq_true rfl))
  | with_reducible refine w_add ?_
  | with_reducible refine w_sub ?_
  | with_reducible refine w_lt ?_
  | with_reducible refine w_le ?_
  | with_reducible refine w_gt ?_
  | with_reducible refine w_ge ?_
  | with_reducible refine w_bm ?_
  | with_reducible refine w_bm0 ?_
  | ((with_reducible refine' w_ty ?h1 ?_); (case h1 => assumption))
  | with_reducible refine w_tup ?_
  | with_reducible refine w_lst ?_
  | ((with_reducible refine' w_new ?h1 ?_); (case h1 => exact Nat.le_of_ble_eq_true rfl))
  | with_reducible refine w_gsub ?_
  | with_reducible refine w_make ?_
  | with_reducible refine w_lc ?_
  | with_reducible refine w_iList ?_
  | with_reducible refine w_for ?_
  | with_reducible refine w_yes ?_
  | with_reducible refine w_tSl ?_
  | with_reducible refine w_part ?_
  | with_reducible refine w_nopart ?_
  | with_reducible refine w_i ?_
  | with_reducible refine w_rng1 ?_
  | with_reducible refine w_rng2 ?_
  | with_reducible refine w_isiII ?_
  | with_reducible refine w_isiIB ?_
  | with_reducible refine w_isiSS ?_
  | ((with_reducible refine w_mod ?h1 ?_); (case h1 => decide))
  | ((with_reducible refine w_fdC' ?h1 ?h2 ?_); (case h1 => decide); (case h2 => decide))
  | ((with_reducible refine w_mulR ?h1 ?h2 ?_); (case h1 => decide); (case h2 => decide))
  | ((with_reducible refine w_mulL ?h1 ?h2 ?_); (case h1 => decide); (case h2 => decide))
  | ((with_reducible refine w_pow' ?h1 ?h2 ?h3 ?_); (case h1 => decide); (case h2 => decide); (case h3 => decide))
  | with_reducible refine w_andV ?_
  | with_reducible refine w_orV ?_
  | with_reducible refine w_notV ?_
  | with_reducible refine w_B ?_
  | with_reducible refine w_not ?_
  | with_reducible refine w_and ?_
  | with_reducible refine w_or ?_
  | with_reducible refine w_ifx ?_
  | with_reducible refine w_un ?_
  | ((with_reducible refine w_T ?h1 ?_); (case h1 => with_reducible rfl))
  | ((with_reducible refine w_F ?h1 ?_); (case h1 => with_reducible rfl))
  | ((with_reducible refine w_T ?h1 ?_); (case h1 => decide +kernel))
  | ((with_reducible refine w_F ?h1 ?_); (case h1 => decide +kernel)))
local macro_rules | `(tactic| walk_at "w") => `(tactic| repeat walk_at "w1")

theorem at?_all {α β : Type} {R : α → β → Prop} {as : List α} {bs : List β} (h : All2 R as bs) {i : Int} {b : β} (e : at? bs i = some b) : ∃ a, atI as i = some a ∧ R a b := by
  unfold at? at e
  by_cases h0 : 0 ≤ i
  · rw [if_pos h0] at e
    obtain ⟨a, h1, h2⟩ := h.get e
    exact ⟨a, atI_ok h0 h1, h2⟩
  · rw [if_neg h0] at e
    cases e
section
variable {K : PySem.W.Frag} {P : List (List Sm)}
theorem p_entered (n : Nat) (vs : List V) (H : Hp) (Q : VK) (E : XK) (h : sp_enter K (n + 1) vs H Q E) :
    t_entered K (sp_block K n) { nx := fun _ H' => Q .non H', rt := Q } (L2.start n_entered vs) H := by
  obtain ⟨P, H0, d, f, v, w, r, w', rfl, hp, o, he, hs, k⟩ := h
  have he : enterS P (ev P n) f v w = some (r, w') := he
  unfold enterS at he
  unfold t_entered
  have h := o.ix 0 rfl
  cases hb : at? P f with
  | none => rw [hb] at he; cases he
  | some b =>
  rw [hb] at he
  dsimp only at he
  cases h1 : (ev P n).block b [v, 0, 0, 0] { w with deep := w.deep + 1 } with
  | none => rw [h1] at he; cases he
  | some q =>
  obtain ⟨⟨wy, z⟩, bx1, w1⟩ := q
  rw [h1] at he
  cases he
  have hd1 : w1.deep = w.deep + 1 := ((good_ev P n).block h1).1.deep
  obtain ⟨ps, hps, hall⟩ := hp
  obtain ⟨bv, hbv, hbl⟩ := at?_all hall hb
  walk_at "w"
  have o1 := o.set 0 (.ins (He.ga K "World") d.dx (wdF d.pa d.s w.turns (w.deep + 1))) rfl
  have h := o1.ix 0 rfl
  have e1 : putF "deep" (V.int ((w.deep : Int) + 1)) (wdF d.pa d.s w.turns w.deep) = wdF d.pa d.s w.turns (w.deep + 1) := rfl
  rw [e1]
  generalize upd H d.a (.ins (He.ga K "World") d.dx (wdF d.pa d.s w.turns (w.deep + 1))) = H1 at o1 h ⊢
  have o1 : Own H0 H1 [wdC K d { w with deep := w.deep + 1 }, sdC d w] := o1
  walk_at "w"
  refine w_ixL (o1.same.seq hps) hbv ?_
  walk_at "w"
  refine fun p1 n1 => ?_
  walk_at "w"
  refine fun p2 n2 => ?_
  walk_at "w"
  refine w_rep1 upd_same (by decide) (by decide) fun p3 n3 => ?_
  refine w_cat (xs := [V.int v]) (ys := List.replicate (4 - 1 : Int).toNat (V.int 0)) ?_ upd_same ?_ fun p4 n4 => ?_
  · exact same_lay n3 _ _ (same_lay n2 _ _ upd_same)
  · rw [sizeLine_eq]
    exact Nat.le_of_ble_eq_true rfl
  walk_at "w"
  have o2 := (((o1.lay n1).lay n2).lay n3).take (o := .lst ([v, 0, 0, 0].map V.int)) n4
  have o3 : Own H0 _ ([wdC K d { w with deep := w.deep + 1 }, sdC d w] ++ [bxC p4 [v, 0, 0, 0]]) := o2.perm (List.perm_append_comm (l₁ := [_]) (l₂ := [_, _]))
  refine ⟨P, _, d, b, bv, p4, [v, 0, 0, 0], { w with deep := w.deep + 1 }, _, _, _, rfl, hbl.mono (Own.base o3), ⟨ps, (Own.base o3).seq hps, hall.mono fun _ _ q => q.mono (Own.base o3)⟩, Own.lend o3, h1, hs, fun H2 u o4 hu => ?_⟩
  replace o4 := Own.same1 o3 o4
  have h := o4.ix 0 rfl
  obtain ⟨c, rfl, hu'⟩ := tup_at hu
  walk_at "w"
  have hu2 : IsTup K _ (V.ref c) (resV (wy, z)) := IsTup.putI (o := .ins (He.ga K "World") d.dx (wdF d.pa d.s w1.turns (w1.deep - 1))) h hu
  have o5 := o4.set 0 (.ins (He.ga K "World") d.dx (wdF d.pa d.s w1.turns (w1.deep - 1))) rfl
  have e2 : putF "deep" (V.int ((w1.deep : Int) - 1)) (wdF d.pa d.s w1.turns w1.deep) = wdF d.pa d.s w1.turns (w1.deep - 1) := rfl
  rw [e2]
  generalize upd H2 d.a (.ins (He.ga K "World") d.dx (wdF d.pa d.s w1.turns (w1.deep - 1))) = H3 at o5 hu2 ⊢
  have e3 : ((w1.deep - 1 : Nat) : Int) = (w1.deep : Int) - 1 := by omega
  have o6 : Own H0 H3 [wdC K d { w1 with deep := w1.deep - 1 }, sdC d w1] := by
    show Own H0 H3 [(d.a, .ins (He.ga K "World") d.dx (wdF d.pa d.s w1.turns ((w1.deep - 1 : Nat) : Int))), sdC d w1]
    rw [e3]
    exact Own.sub (R := [bxC p4 bx1]) o5
  obtain ⟨c', ec, hu3⟩ := hu2
  cases ec
  walk_at "w"
  refine w_ixT hu3 rfl ?_
  walk_at "w"
  refine w_D (fun c1 => ?_) (fun c1 => ?_) <;> rw [wy_on] at c1
  · dsimp only at c1
    subst c1
    walk_at "w"
    exact fun p h1 => k _ _ (o6.lay h1) new_tup
  · walk_at "w"
    refine w_ixT hu3 rfl ?_
    walk_at "w"
    refine w_D (fun c2 => ?_) (fun c2 => ?_) <;> rw [wy_give] at c2
    · dsimp only at c2
      subst c2
      walk_at "w"
      refine w_ixT hu3 rfl ?_
      walk_at "w"
      exact fun p h1 => k _ _ (o6.lay h1) new_tup
    · walk_at "w"
      refine k _ _ o6 ⟨_, rfl, ?_⟩
      cases wy with
      | on => exact absurd rfl c1
      | give => exact absurd rfl c2
      | _ => exact hu3
theorem blockS_len {n : Nat} {b : List Sm} {bx : List Int} {w : Wd} {x : Res × List Int × Wd} (h : blockS (ev P n) b bx w = some x) : Le w x.2.2 := by
  obtain ⟨r, bx', w'⟩ := x
  exact (blockS_good (good_ev P n) b h).1
theorem p_block_done (n : Nat) (vs : List V) (H : Hp) (Q : VK) (E : XK) (h : sp_block K (n + 1) vs H Q E) :
    t_block_done K (sp_row K n) { nx := fun _ H' => Q .non H', rt := Q } (L2.start n_block_done vs) H := by
  obtain ⟨P, H0, d, l, v, b, bx, w, r, bx', w', rfl, ⟨p, ps, rfl, hp1, hp2⟩, hp, o, he, hs, k⟩ := h
  have he : blockS (ev P n) l bx w = some (r, bx', w') := he
  unfold t_block_done
  have len : ∀ {l : List Sm} {ps : List V}, SmsAt K H0 l ps → ps.length = l.length := by
    intro l
    induction l with
    | nil => intro ps h; rw [show ps = [] from h]; rfl
    | cons s l ih =>
      intro ps h
      obtain ⟨v, vr, rfl, _, h2⟩ := h
      simp [ih h2]
  refine w_seq ⟨_, rfl, p, rfl, ⟨_, o.same.seq hp1⟩, for_list (xs := ps) (fun i σ H' => ∃ bx1 w1 x y, Own H0 H' [wdC K d w1, sdC d w1, bxC b bx1] ∧ blockS (ev P n) (l.drop i) bx1 w1 = some (r, bx', w') ∧ SmsAt K H0 (l.drop i) (ps.drop i) ∧ σ = [some (.ref p), some (.ref b), some (.ref d.a), x, y])
    ⟨bx, w, _, _, o, he, hp2, rfl⟩ (fun i σ H' _ h => ?_) ?_ ?_⟩
  · obtain ⟨bx1, w1, x, y, o1, _⟩ := h
    exact o1.same.seq hp1
  · rintro i xv σ H' hx ⟨bx1, w1, x, y, o1, he1, hat, rfl⟩
    have hi : i < ps.length := (List.getElem?_eq_some_iff.mp hx).1
    have hil : i < l.length := by rw [← len hp2]; exact hi
    rw [← List.getElem_cons_drop hil, ← List.getElem_cons_drop hi] at hat
    obtain ⟨v1, vr, e, hat1, hat2⟩ := hat
    cases e
    have ex : ps[i] = xv := by
      rw [List.getElem?_eq_getElem hi] at hx
      exact Option.some.inj hx
    rw [ex] at hat1
    rw [← List.getElem_cons_drop hil] at he1
    unfold blockS at he1
    cases h1 : (ev P n).row l[i] bx1 w1 with
    | none => rw [h1] at he1; cases he1
    | some q =>
    obtain ⟨⟨wy, z⟩, bx2, w2⟩ := q
    rw [h1] at he1
    have hs1 : w2.said.length < LIM := by
      cases wy with
      | on => exact Nat.lt_of_le_of_lt (blockS_len he1).len hs
      | _ => cases he1; exact hs
    walk_at "w"
    refine ⟨P, _, d, l[i], xv, b, bx1, w1, _, _, _, rfl, hat1.mono o1.base, hp.mono o1.base, o1.lend, h1, hs1, fun H1 u o2 hu => ?_⟩
    replace o2 := o1.same1 o2
    obtain ⟨c, rfl, hu'⟩ := tup_at hu
    walk_at "w"
    refine w_ixT hu' rfl ?_
    walk_at "w"
    refine w_ND (fun c1 => ?_) (fun c1 => ?_) <;> rw [wy_on] at c1
    · dsimp only at c1
      subst c1
      walk_at "w"
      exact ⟨bx2, w2, _, _, o2, he1, hat2, rfl⟩
    · walk_at "w"
      cases wy with
      | on => exact absurd rfl c1
      | _ => cases he1; exact k _ _ o2 hu
  · rintro σ H' ⟨bx1, w1, x, y, o1, he1, hat, rfl⟩
    rw [len hp2, List.drop_length] at he1
    cases he1
    walk_at "w"
    exact fun p h1 => k _ _ (o1.lay h1) new_tup
end
end U

set_option maxHeartbeats 4000000
namespace U
open PySem PySem.Spec PyProof.Rows L2 Un
local macro_rules | `(tactic| walk_at "w1") => `(tactic| first
  | with_reducible refine w_seq ?_
  | with_reducible refine w_asg ?_
  | with_reducible refine w_op ?_
  | ((with_reducible refine' w_var ?h1 ?_); (case h1 => rfl))
  | with_reducible refine w_c ?_
  | with_reducible refine w_name ?_
  | with_reducible refine w_tFd ?_
  | ((with_reducible refine' w_fld ?h1 ?h2 ?_); (case h1 => assumption); (case h2 => rfl))
  | with_reducible refine w_if ?_
  | with_reducible refine w_test ?_
  | with_reducible refine w_eqS ?_
  | with_reducible refine w_eqI ?_
  | with_reducible refine w_neS ?_
  | with_reducible refine w_neI ?_
  | with_reducible refine w_isN ?_
  | with_reducible refine w_isnN ?_
  | with_reducible refine w_bl ?_
  | with_reducible refine w_ret ?_
  | with_reducible refine w_drop ?_
  | with_reducible refine w_next ?_
  | with_reducible refine w_cons ?_
  | with_reducible refine w_nil ?_
  | with_reducible refine w_call ?_
  | with_reducible refine w_cb ?_
  | with_reducible refine w_meth ?_
  | ((with_reducible refine' w_recv ?h1 ?h2 ?_); (case h1 => assumption); (case h2 => rfl))
  | with_reducible refine w_sFd ?_
  | ((with_reducible refine' w_put ?h1 ?h2 ?_); (case h1 => assumption); (case h2 => exact Nat.le_of_ble_eq_true rfl))
  | with_reducible refine w_add ?_
  | with_reducible refine w_sub ?_
  | with_reducible refine w_lt ?_
  | with_reducible refine w_le ?_
  | with_reducible refine w_gt ?_
  | with_reducible refine w_ge ?_
  | with_reducible refine w_bm ?_
  | with_reducible refine w_bm0 ?_
  | ((with_reducible refine' w_ty ?h1 ?_); (case h1 => assumption))
  | with_reducible refine w_tup ?_
  | with_reducible refine w_lst ?_
  | ((with_reducible refine' w_new ?h1 ?_); (case h1 => exact Nat.le_of_ble_eq_true rfl))
  | with_reducible refine w_gsub ?_
  | with_reducible refine w_make ?_
  | with_reducible refine w_lc ?_
  | with_reducible refine w_iList ?_
  | with_reducible refine w_for ?_
  | with_reducible refine w_yes ?_
  | with_reducible refine w_tSl ?_
  | with_reducible refine w_part ?_
  | with_reducible refine w_nopart ?_
  | with_reducible refine w_i ?_
  | with_reducible refine w_rng1 ?_
  | with_reducible refine w_rng2 ?_
  | with_reducible refine w_isiII ?_
  | with_reducible refine w_isiIB ?_
  | with_reducible refine w_isiSS ?_
  | ((with_reducible refine w_mod ?h1 ?_); (case h1 => decide))
  | ((with_reducible refine w_fdC' ?h1 ?h2 ?_); (case h1 => decide); (case h2 => decide))
  | ((with_reducible refine w_mulR ?h1 ?h2 ?_); (case h1 => decide); (case h2 => decide))
  | ((with_reducible refine w_mulL ?h1 ?h2 ?_); (case h1 => decide); (case h2 => decide))
  | ((with_reducible refine w_pow' ?h1 ?h2 ?h3 ?_); (case h1 => decide); (case h2 => decide); (case h3 => decide))
  | with_reducible refine w_andV ?_
  | with_reducible refine w_orV ?_
  | with_reducible refine w_notV ?_
  | with_reducible refine w_B ?_
  | with_reducible refine w_not ?_
  | with_reducible refine w_and ?_
  | with_reducible refine w_or ?_
  | with_reducible refine w_ifx ?_
  | with_reducible refine w_un ?_
  | ((with_reducible refine w_T ?h1 ?_); (case h1 => with_reducible rfl))
  | ((with_reducible refine w_F ?h1 ?_); (case h1 => with_reducible rfl))
  | ((with_reducible refine w_T ?h1 ?_); (case h1 => decide +kernel))
  | ((with_reducible refine w_F ?h1 ?_); (case h1 => decide +kernel)))
local macro_rules | `(tactic| walk_at "w") => `(tactic| repeat walk_at "w1")

section
variable {K : PySem.W.Frag} {P : List (List Sm)}
theorem goalV_non (n : Option Int) : (goalV n = .non) ↔ n = none := by
  cases n with
  | none => exact ⟨fun _ => rfl, fun _ => rfl⟩
  | some g => exact ⟨fun h => (by cases h), fun h => (by cases h)⟩
theorem p_catch_done (n : Nat) (vs : List V) (H : Hp) (Q : VK) (E : XK) (h : sp_ctch K (n + 1) vs H Q E) :
    t_catch_done K (sp_block K n) { nx := fun _ H' => Q .non H', rt := Q } (L2.start n_catch_done vs) H := by
  obtain ⟨P, H0, d, l, m, kk, hh, v, b, bx, w, r, bx', w', rfl, ⟨p, q, ps, qs, ⟨a, rfl, hv0⟩, hp1, hp2, hq1, hq2⟩, hp, o, he, hs, k⟩ := h
  have he : ctchS (ev P n) l m kk hh bx w = some (r, bx', w') := he
  unfold ctchS at he
  unfold t_catch_done
  have hv := same_tup o.same hv0
  cases h1 : (ev P n).block l bx w with
  | none => rw [h1] at he; cases he
  | some x =>
  obtain ⟨⟨wy, z⟩, bx1, w1⟩ := x
  rw [h1] at he
  have hs1 : w1.said.length < LIM := by
    cases wy with
    | fault =>
      dsimp only at he
      split at he
      · cases he; exact hs
      · split at he
        · exact Nat.lt_of_le_of_lt ((good_ev P n).block he).1.len hs
        · cases he
    | _ => cases he; exact hs
  walk_at "w"
  refine w_ixT hv rfl ?_
  walk_at "w"
  refine ⟨P, _, d, l, _, b, bx, w, _, _, _, rfl, ⟨p, ps, rfl, o.base.seq hp1, hp2.mono o.base⟩, hp.mono o.base, o.lend, h1, hs1, fun H1 u o1 hu => ?_⟩
  replace o1 := o.same1 o1
  have hv1 := same_tup o1.same hv0
  obtain ⟨c, rfl, hu'⟩ := tup_at hu
  walk_at "w"
  refine w_ixT hu' rfl ?_
  walk_at "w"
  refine w_ND (fun c1 => ?_) (fun c1 => ?_) <;> rw [wy_fault] at c1
  · dsimp only at c1
    subst c1
    dsimp only at he
    walk_at "w"
    refine w_ixT hv1 rfl ?_
    walk_at "w"
    have go : ¬ (m ≠ none ∧ some z ≠ m) → sp_block K n [V.ref q, .ref b, .ref d.a] (upd H1 b (.lst ((bx1.map V.int).set kk.toNat (.int z)))) Q E ∧ 0 ≤ kk ∧ kk < bx1.length := fun cn => by
      rw [if_neg cn] at he
      split at he
      · rename_i hk
        have o2 := o1.set 2 (.lst ((bx1.map V.int).set kk.toNat (.int z))) rfl
        rw [← List.map_set] at o2 ⊢
        exact ⟨⟨P, H0, d, hh, _, b, bx1.set kk.toNat z, w1, r, bx', w', rfl, ⟨q, qs, rfl, hq1, hq2⟩, hp, o2, he, hs, k⟩, hk⟩
      · cases he
    have hb := o1.ix 2 rfl
    refine w_ND (fun c2 => ?_) (fun c2 => ?_) <;> rw [goalV_non] at c2
    · obtain ⟨g1, g2, g3⟩ := go fun hz => hz.1 c2
      walk_at "w"
      refine w_ixT hu' rfl ?_
      walk_at "w"
      refine w_ixT hv1 rfl ?_
      refine w_setL hb g2 (by rw [List.length_map]; exact g3) ?_
      walk_at "w"
      refine w_ixT (tup_put hb hv1) rfl ?_
      walk_at "w"
      exact g1
    · cases m with
      | none => exact absurd rfl c2
      | some g =>
      walk_at "w"
      refine w_ixT hu' rfl ?_
      walk_at "w"
      refine w_ixT hv1 rfl ?_
      dsimp only [goalV]
      walk_at "w"
      refine w_ND (fun c3 => ?_) (fun c3 => ?_)
      · obtain ⟨g1, g2, g3⟩ := go fun hz => hz.2 (by rw [c3])
        walk_at "w"
        refine w_ixT hu' rfl ?_
        walk_at "w"
        refine w_ixT hv1 rfl ?_
        refine w_setL hb g2 (by rw [List.length_map]; exact g3) ?_
        walk_at "w"
        refine w_ixT (tup_put hb hv1) rfl ?_
        walk_at "w"
        exact g1
      · have c4 : ¬ (some z = some g) := fun e => c3 (Option.some.inj e)
        rw [if_pos ⟨c2, c4⟩] at he
        cases he
        walk_at "w"
        exact k _ _ o1 hu
  · walk_at "w"
    cases wy with
    | fault => exact absurd rfl c1
    | _ => cases he; exact k _ _ o1 hu
theorem p_end_done (n : Nat) (vs : List V) (H : Hp) (Q : VK) (E : XK) (h : sp_endd K (n + 1) vs H Q E) :
    t_end_done K (sp_block K n) { nx := fun _ H' => Q .non H', rt := Q } (L2.start n_end_done vs) H := by
  obtain ⟨P, H0, d, l, m, v, b, bx, w, r, bx', w', rfl, ⟨p, q, ps, qs, ⟨a, rfl, hv0⟩, hp1, hp2, hq1, hq2⟩, hp, o, he, hs, k⟩ := h
  have he : endS (ev P n) l m bx w = some (r, bx', w') := he
  unfold endS at he
  unfold t_end_done
  have hv := same_tup o.same hv0
  cases h1 : (ev P n).block l bx w with
  | none => rw [h1] at he; cases he
  | some x =>
  obtain ⟨⟨wy, z⟩, bx1, w1⟩ := x
  rw [h1] at he
  by_cases hw : wy = .tired
  · subst hw
    cases he
    walk_at "w"
    refine w_ixT hv rfl ?_
    walk_at "w"
    refine ⟨P, _, d, l, _, b, bx, w, _, _, _, rfl, ⟨p, ps, rfl, o.base.seq hp1, hp2.mono o.base⟩, hp.mono o.base, o.lend, h1, hs, fun H1 u o1 hu => ?_⟩
    replace o1 := o.same1 o1
    obtain ⟨c, rfl, hu'⟩ := tup_at hu
    walk_at "w"
    refine w_ixT hu' rfl ?_
    walk_at "w"
    refine w_D (fun _ => ?_) (fun cn => absurd rfl cn)
    walk_at "w"
    exact k _ _ o1 hu
  · have he2 : (match (ev P n).block m bx1 w1 with
        | some ((.on, _), bx2, w2) => some ((wy, z), bx2, w2)
        | r2 => r2) = some (r, bx', w') := by
      cases wy with
      | tired => exact absurd rfl hw
      | _ => exact he
    cases h2 : (ev P n).block m bx1 w1 with
    | none => rw [h2] at he2; cases he2
    | some x =>
    obtain ⟨⟨wy2, z2⟩, bx2, w2⟩ := x
    rw [h2] at he2
    have e2 : w2 = w' := by cases wy2 <;> (cases he2; rfl)
    subst e2
    have hs1 : w1.said.length < LIM := Nat.lt_of_le_of_lt ((good_ev P n).block h2).1.len hs
    walk_at "w"
    refine w_ixT hv rfl ?_
    walk_at "w"
    refine ⟨P, _, d, l, _, b, bx, w, _, _, _, rfl, ⟨p, ps, rfl, o.base.seq hp1, hp2.mono o.base⟩, hp.mono o.base, o.lend, h1, hs1, fun H1 u o1 hu => ?_⟩
    replace o1 := o.same1 o1
    have hv1 := same_tup o1.same hv0
    obtain ⟨c, rfl, hu'⟩ := tup_at hu
    walk_at "w"
    refine w_ixT hu' rfl ?_
    walk_at "w"
    refine w_D (fun c1 => absurd ((wy_tired wy).mp c1) hw) fun c1 => ?_
    walk_at "w"
    refine w_ixT hv1 rfl ?_
    walk_at "w"
    refine ⟨P, _, d, m, _, b, bx1, w1, _, _, _, rfl, ⟨q, qs, rfl, o1.base.seq hq1, hq2.mono o1.base⟩, hp.mono o1.base, o1.lend, h2, hs, fun H2 u2 o2 hu2 => ?_⟩
    have hu3 := hu.overM o1 muts3 o2
    replace o2 := o1.same1 o2
    obtain ⟨c2, rfl, hu2'⟩ := tup_at hu2
    walk_at "w"
    refine w_ixT hu2' rfl ?_
    walk_at "w"
    refine w_ND (fun c3 => ?_) (fun c3 => ?_) <;> rw [wy_on] at c3
    · dsimp only at c3
      subst c3
      cases he2
      walk_at "w"
      exact k _ _ o2 hu3
    · walk_at "w"
      cases wy2 with
      | on => exact absurd rfl c3
      | _ => cases he2; exact k _ _ o2 hu2
theorem p_loop_done (n : Nat) (vs : List V) (H : Hp) (Q : VK) (E : XK) (h : sp_loop K (n + 1) vs H Q E) :
    t_loop_done K (sp_World_taken K) (sp_tree K n) (sp_block K n) { nx := fun _ H' => Q .non H', rt := Q } (L2.start n_loop_done vs) H := by
  obtain ⟨P, H0, d, e, l, v, b, bx, w, r, bx', w', rfl, ⟨x, p, ps, ⟨a, rfl, hv0⟩, hx, hp1, hp2⟩, hp, o, he, hs, k⟩ := h
  have he : loopGo (ev P n) e l (w.turns + 1) bx w = some (r, bx', w') := he
  have G := good_ev P n
  unfold t_loop_done
  walk_at "w"
  refine ⟨fun m σ H' => ∃ c bx1 w1 y, m = c ∧ Own H0 H' [wdC K d w1, sdC d w1, bxC b bx1] ∧ loopGo (ev P n) e l c bx1 w1 = some (r, bx', w') ∧ σ = [some (.ref a), some (.ref b), some (.ref d.a), y], ⟨_, _, bx, w, _, rfl, o, he, rfl⟩, ?_⟩
  rintro m σ H' ⟨c, bx1, w1, y, rfl, o1, he1, rfl⟩
  cases m with
  | zero => cases he1
  | succ c =>
  unfold loopGo at he1
  have hw := o1.ix 0 rfl
  walk_at "w"
  refine ⟨H0, d, w1, _, rfl, o1, fun c0 => ?_, fun c0 H2 o2 => ?_⟩
  · rw [if_pos c0] at he1
    cases he1
    walk_at "w"
    exact fun p h1 => k _ _ (o1.lay h1) new_tup
  · rw [if_neg c0] at he1
    walk_at "w"
    unfold thenT at he1
    cases h1 : (ev P n).tree e bx1 { w1 with turns := w1.turns - 1 } with
    | none => rw [h1] at he1; cases he1
    | some q =>
    obtain ⟨⟨wy, z⟩, w2⟩ := q
    rw [h1] at he1
    have hs1 : w2.said.length < LIM := by
      cases wy with
      | value =>
        dsimp only at he1
        by_cases hz : z = 0
        · rw [if_pos hz] at he1
          cases he1; exact hs
        · rw [if_neg hz] at he1
          cases h2 : (ev P n).block l bx1 w2 with
          | none => rw [h2] at he1; cases he1
          | some x =>
          obtain ⟨⟨wy2, z2⟩, bx2, w3⟩ := x
          rw [h2] at he1
          have l1 := (G.block h2).1.len
          cases wy2 with
          | on => exact Nat.lt_of_le_of_lt (Nat.le_trans l1 (loopGo_good G e l c he1).1.len) hs
          | next => exact Nat.lt_of_le_of_lt (Nat.le_trans l1 (loopGo_good G e l c he1).1.len) hs
          | _ => cases he1; exact Nat.lt_of_le_of_lt l1 hs
      | _ => cases he1; exact hs
    refine ⟨fun σ' H' => ∃ bx1 w1 y, Own H0 H' [wdC K d w1, sdC d w1, bxC b bx1] ∧ loopGo (ev P n) e l c bx1 w1 = some (r, bx', w') ∧ σ' = [some (.ref a), some (.ref b), some (.ref d.a), y], ?_, ?_⟩
    · rintro σ' H' ⟨bx1, w1, y, h1, h2, h3⟩
      exact ⟨c, Nat.lt_succ_self _, c, bx1, w1, y, rfl, h1, h2, h3⟩
    walk_at "w"
    refine w_ixT (same_tup o2.same hv0) rfl ?_
    walk_at "w"
    refine ⟨P, _, d, e, x, b, bx1, _, _, _, rfl, hx.mono o2.base, hp.mono o2.base, o2.lend, h1, hs1, fun H3 u o3 hu => ?_⟩
    replace o3 := o2.same1 o3
    obtain ⟨c1, rfl, hu'⟩ := tup_at hu
    walk_at "w"
    refine w_ixT hu' rfl ?_
    walk_at "w"
    refine w_ND (fun c2 => ?_) (fun c2 => ?_) <;> rw [wy_value] at c2
    · dsimp only at c2
      subst c2
      dsimp only at he1
      walk_at "w"
      refine w_ixT hu' rfl ?_
      walk_at "w"
      refine w_D (fun c3 => ?_) (fun c3 => ?_) <;> dsimp only at c3
      · rw [if_pos c3] at he1
        cases he1
        walk_at "w"
        exact fun p h1 => k _ _ (o3.lay h1) new_tup
      · rw [if_neg c3] at he1
        cases h2 : (ev P n).block l bx1 w2 with
        | none => rw [h2] at he1; cases he1
        | some q =>
        obtain ⟨⟨wy2, z2⟩, bx2, w3⟩ := q
        rw [h2] at he1
        have hs2 : w3.said.length < LIM := by
          cases wy2 with
          | on => exact Nat.lt_of_le_of_lt (loopGo_good G e l c he1).1.len hs
          | next => exact Nat.lt_of_le_of_lt (loopGo_good G e l c he1).1.len hs
          | _ => cases he1; exact hs
        walk_at "w"
        refine w_ixT (same_tup o3.same hv0) rfl ?_
        walk_at "w"
        refine ⟨P, _, d, l, _, b, bx1, w2, _, _, _, rfl, ⟨p, ps, rfl, o3.base.seq hp1, hp2.mono o3.base⟩, hp.mono o3.base, o3.lend, h2, hs2, fun H4 u2 o4 hu2 => ?_⟩
        replace o4 := o3.same1 o4
        obtain ⟨c4, rfl, hu2'⟩ := tup_at hu2
        walk_at "w"
        refine w_ixT hu2' rfl ?_
        walk_at "w"
        refine w_D (fun c5 => ?_) (fun c5 => ?_) <;> rw [wy_leave] at c5
        · dsimp only at c5
          subst c5
          cases he1
          walk_at "w"
          exact fun p h1 => k _ _ (o4.lay h1) new_tup
        · walk_at "w"
          refine w_ixT hu2' rfl ?_
          walk_at "w"
          refine w_ND (fun c6 => ?_) (fun c6 => ?_) <;> rw [wy_on] at c6
          · dsimp only at c6
            subst c6
            walk_at "w"
            exact ⟨bx2, w3, _, o4, he1, rfl⟩
          · walk_at "w"
            refine w_ixT hu2' rfl ?_
            walk_at "w"
            refine w_ND (fun c7 => ?_) (fun c7 => ?_) <;> rw [wy_next] at c7
            · dsimp only at c7
              subst c7
              walk_at "w"
              exact ⟨bx2, w3, _, o4, he1, rfl⟩
            · walk_at "w"
              cases wy2 with
              | leave => exact absurd rfl c5
              | on => exact absurd rfl c6
              | next => exact absurd rfl c7
              | _ => cases he1; exact k _ _ o4 hu2
    · walk_at "w"
      cases wy with
      | value => exact absurd rfl c2
      | _ => cases he1; exact k _ _ o3 hu
end
end U

set_option maxHeartbeats 4000000
namespace U
open PySem PySem.Spec PyProof.Rows L2 Un
local macro_rules | `(tactic| walk_at "w1") => `(tactic| first
  | with_reducible refine w_seq ?_
  | with_reducible refine w_asg ?_
  | with_reducible refine w_op ?_
  | ((with_reducible refine' w_var ?h1 ?_); (case h1 => rfl))
  | with_reducible refine w_c ?_
  | with_reducible refine w_name ?_
  | with_reducible refine w_tFd ?_
  | ((with_reducible refine' w_fld ?h1 ?h2 ?_); (case h1 => assumption); (case h2 => rfl))
  | with_reducible refine w_if ?_
  | with_reducible refine w_test ?_
  | with_reducible refine w_eqS ?_
  | with_reducible refine w_eqI ?_
  | with_reducible refine w_neS ?_
  | with_reducible refine w_neI ?_
  | with_reducible refine w_isN ?_
  | with_reducible refine w_isnN ?_
  | with_reducible refine w_bl ?_
  | with_reducible refine w_ret ?_
  | with_reducible refine w_drop ?_
  | with_reducible refine w_next ?_
  | with_reducible refine w_cons ?_
  | with_reducible refine w_nil ?_
  | with_reducible refine w_call ?_
  | with_reducible refine w_cb ?_
  | with_reducible refine w_meth ?_
  | ((with_reducible refine' w_recv ?h1 ?h2 ?_); (case h1 => assumption); (case h2 => rfl))
  | with_reducible refine w_sFd ?_
  | ((with_reducible refine' w_put ?h1 ?h2 ?_); (case h1 => assumption); (case h2 => exact Nat.le_of_ble_eq_true rfl))
  | with_reducible refine w_add ?_
  | with_reducible refine w_sub ?_
  | with_reducible refine w_lt ?_
  | with_reducible refine w_le ?_
  | with_reducible refine w_gt ?_
  | with_reducible refine w_ge ?_
  | with_reducible refine w_bm ?_
  | with_reducible refine w_bm0 ?_
  | ((with_reducible refine' w_ty ?h1 ?_); (case h1 => assumption))
  | with_reducible refine w_tup ?_
  | with_reducible refine w_lst ?_
  | ((with_reducible refine' w_new ?h1 ?_); (case h1 => exact Nat.le_of_ble_eq_true rfl))
  | with_reducible refine w_gsub ?_
  | with_reducible refine w_make ?_
  | with_reducible refine w_lc ?_
  | with_reducible refine w_iList ?_
  | with_reducible refine w_for ?_
  | with_reducible refine w_yes ?_
  | with_reducible refine w_tSl ?_
  | with_reducible refine w_part ?_
  | with_reducible refine w_nopart ?_
  | with_reducible refine w_i ?_
  | with_reducible refine w_rng1 ?_
  | with_reducible refine w_rng2 ?_
  | with_reducible refine w_isiII ?_
  | with_reducible refine w_isiIB ?_
  | with_reducible refine w_isiSS ?_
  | ((with_reducible refine w_mod ?h1 ?_); (case h1 => decide))
  | ((with_reducible refine w_fdC' ?h1 ?h2 ?_); (case h1 => decide); (case h2 => decide))
  | ((with_reducible refine w_mulR ?h1 ?h2 ?_); (case h1 => decide); (case h2 => decide))
  | ((with_reducible refine w_mulL ?h1 ?h2 ?_); (case h1 => decide); (case h2 => decide))
  | ((with_reducible refine w_pow' ?h1 ?h2 ?h3 ?_); (case h1 => decide); (case h2 => decide); (case h3 => decide))
  | with_reducible refine w_andV ?_
  | with_reducible refine w_orV ?_
  | with_reducible refine w_notV ?_
  | with_reducible refine w_B ?_
  | with_reducible refine w_not ?_
  | with_reducible refine w_and ?_
  | with_reducible refine w_or ?_
  | with_reducible refine w_ifx ?_
  | with_reducible refine w_un ?_
  | ((with_reducible refine w_T ?h1 ?_); (case h1 => with_reducible rfl))
  | ((with_reducible refine w_F ?h1 ?_); (case h1 => with_reducible rfl))
  | ((with_reducible refine w_T ?h1 ?_); (case h1 => decide +kernel))
  | ((with_reducible refine w_F ?h1 ?_); (case h1 => decide +kernel)))
local macro_rules | `(tactic| walk_at "w") => `(tactic| repeat walk_at "w1")

section
variable {K : PySem.W.Frag} {P : List (List Sm)}
theorem thenT_len {n : Nat} {e : Un.Tree} {bx : List Int} {w : Wd} {kf : Int → Wd → Option (Res × List Int × Wd)} {r : Res} {bx' : List Int} {w' : Wd} (h : thenT (ev P n) e bx w kf = some (r, bx', w'))
    (hk : ∀ v w1, kf v w1 = some (r, bx', w') → Le w1 w') : ∃ q w1, (ev P n).tree e bx w = some (q, w1) ∧ w1.said.length ≤ w'.said.length ∧ (q.1 = .value → kf q.2 w1 = some (r, bx', w')) ∧ (q.1 ≠ .value → q = r ∧ bx' = bx ∧ w' = w1) := by
  unfold thenT at h
  cases h1 : (ev P n).tree e bx w with
  | none => rw [h1] at h; cases h
  | some x =>
  obtain ⟨⟨wy, z⟩, w1⟩ := x
  rw [h1] at h
  refine ⟨_, _, rfl, ?_⟩
  cases wy with
  | value => exact ⟨(hk _ _ h).len, fun _ => h, fun c => absurd rfl c⟩
  | _ =>
    cases h
    exact ⟨Nat.le_refl _, fun c => Wy.noConfusion c, fun _ => ⟨rfl, rfl, rfl⟩⟩
/-- the tail of a statement that begins with a tree -/
theorem p_row_done (n : Nat) (vs : List V) (H : Hp) (Q : VK) (E : XK) (h : sp_row K (n + 1) vs H Q E) :
    t_row_done K (sp_loop K n) (sp_ctch K n) (sp_endd K n) (sp_tree K n) (sp_block K n) { nx := fun _ H' => Q .non H', rt := Q } (L2.start n_row_done vs) H := by
  obtain ⟨P, H0, d, s, v, b, bx, w, r, bx', w', rfl, hat, hp, o, he, hs, k⟩ := h
  have he : rowS (ev P n) s bx w = some (r, bx', w') := he
  have G := good_ev P n
  unfold rowS at he
  unfold t_row_done
  cases s with
  | leave =>
    obtain ⟨a, rfl, hv0⟩ := hat
    have hv := same_tup o.same hv0
    cases he
    walk_at "w"
    refine w_ixT hv rfl ?_
    walk_at "w"
    exact fun p h1 => k _ _ (o.lay h1) new_tup
  | next =>
    obtain ⟨a, rfl, hv0⟩ := hat
    have hv := same_tup o.same hv0
    cases he
    walk_at "w"
    refine w_ixT hv rfl ?_
    walk_at "w"
    exact fun p h1 => k _ _ (o.lay h1) new_tup
  | loop e l =>
    have hat' := hat
    obtain ⟨x, p, ps, ⟨a, rfl, hv0⟩, _⟩ := hat
    have hv := same_tup o.same hv0
    walk_at "w"
    refine w_ixT hv rfl ?_
    walk_at "w"
    exact ⟨P, H0, d, e, l, _, b, bx, w, r, bx', w', rfl, hat', hp, o, he, hs, k⟩
  | ctch l m kk hh =>
    have hat' := hat
    obtain ⟨p, q, ps, qs, ⟨a, rfl, hv0⟩, _⟩ := hat
    have hv := same_tup o.same hv0
    walk_at "w"
    refine w_ixT hv rfl ?_
    walk_at "w"
    exact ⟨P, H0, d, l, m, kk, hh, _, b, bx, w, r, bx', w', rfl, hat', hp, o, he, hs, k⟩
  | endd l m =>
    have hat' := hat
    obtain ⟨p, q, ps, qs, ⟨a, rfl, hv0⟩, _⟩ := hat
    have hv := same_tup o.same hv0
    walk_at "w"
    refine w_ixT hv rfl ?_
    walk_at "w"
    exact ⟨P, H0, d, l, m, _, b, bx, w, r, bx', w', rfl, hat', hp, o, he, hs, k⟩
  | ife e l m =>
    obtain ⟨x, p, q, ps, qs, ⟨a, rfl, hv0⟩, hx, hp1, hp2, hq1, hq2⟩ := hat
    have hv := same_tup o.same hv0
    obtain ⟨⟨wy, z⟩, w1, h1, hl, hy, hn⟩ := thenT_len he fun v w1 hk => (G.block hk).1
    walk_at "w"
    refine w_ixT hv rfl ?_
    walk_at "w"
    refine w_ixT hv rfl ?_
    walk_at "w"
    refine ⟨P, _, d, e, x, b, bx, w, _, _, rfl, hx.mono o.base, hp.mono o.base, o.lend, h1, Nat.lt_of_le_of_lt hl hs, fun H1 u o1 hu => ?_⟩
    replace o1 := o.same1 o1
    obtain ⟨c, rfl, hu'⟩ := tup_at hu
    walk_at "w"
    refine w_ixT hu' rfl ?_
    walk_at "w"
    refine w_ND (fun c1 => ?_) (fun c1 => ?_) <;> rw [wy_value] at c1
    · replace hy := hy c1
      dsimp only at c1 hy
      subst c1
      have hv1 := same_tup o1.same hv0
      walk_at "w"
      refine w_ixT hu' rfl ?_
      walk_at "w"
      refine w_D (fun c2 => ?_) (fun c2 => ?_) <;> dsimp only at c2
      · rw [if_pos c2] at hy
        walk_at "w"
        refine w_ixT hv1 rfl ?_
        walk_at "w"
        exact ⟨P, H0, d, m, _, b, bx, w1, r, bx', w', rfl, ⟨q, qs, rfl, hq1, hq2⟩, hp, o1, hy, hs, k⟩
      · rw [if_neg c2] at hy
        walk_at "w"
        refine w_ixT hv1 rfl ?_
        walk_at "w"
        exact ⟨P, H0, d, l, _, b, bx, w1, r, bx', w', rfl, ⟨p, ps, rfl, hp1, hp2⟩, hp, o1, hy, hs, k⟩
    · obtain ⟨rfl, rfl, rfl⟩ := hn c1
      walk_at "w"
      exact k _ _ o1 hu
  | give e =>
    obtain ⟨x, ⟨a, rfl, hv0⟩, hx⟩ := hat
    have hv := same_tup o.same hv0
    obtain ⟨⟨wy, z⟩, w1, h1, hl, hy, hn⟩ := thenT_len he fun v w1 hk => by cases hk; exact Le.refl _
    walk_at "w"
    refine w_ixT hv rfl ?_
    walk_at "w"
    refine w_ixT hv rfl ?_
    walk_at "w"
    refine ⟨P, _, d, e, x, b, bx, w, _, _, rfl, hx.mono o.base, hp.mono o.base, o.lend, h1, Nat.lt_of_le_of_lt hl hs, fun H1 u o1 hu => ?_⟩
    replace o1 := o.same1 o1
    obtain ⟨c, rfl, hu'⟩ := tup_at hu
    walk_at "w"
    refine w_ixT hu' rfl ?_
    walk_at "w"
    refine w_ND (fun c1 => ?_) (fun c1 => ?_) <;> rw [wy_value] at c1
    · replace hy := hy c1
      cases hy
      walk_at "w"
      refine w_ixT hu' rfl ?_
      walk_at "w"
      exact fun p h1 => k _ _ (o1.lay h1) new_tup
    · obtain ⟨rfl, rfl, rfl⟩ := hn c1
      walk_at "w"
      exact k _ _ o1 hu
  | raise e =>
    obtain ⟨x, ⟨a, rfl, hv0⟩, hx⟩ := hat
    have hv := same_tup o.same hv0
    obtain ⟨⟨wy, z⟩, w1, h1, hl, hy, hn⟩ := thenT_len he fun v w1 hk => by cases hk; exact Le.refl _
    walk_at "w"
    refine w_ixT hv rfl ?_
    walk_at "w"
    refine w_ixT hv rfl ?_
    walk_at "w"
    refine ⟨P, _, d, e, x, b, bx, w, _, _, rfl, hx.mono o.base, hp.mono o.base, o.lend, h1, Nat.lt_of_le_of_lt hl hs, fun H1 u o1 hu => ?_⟩
    replace o1 := o.same1 o1
    obtain ⟨c, rfl, hu'⟩ := tup_at hu
    walk_at "w"
    refine w_ixT hu' rfl ?_
    walk_at "w"
    refine w_ND (fun c1 => ?_) (fun c1 => ?_) <;> rw [wy_value] at c1
    · replace hy := hy c1
      cases hy
      walk_at "w"
      refine w_ixT hu' rfl ?_
      walk_at "w"
      exact fun p h1 => k _ _ (o1.lay h1) new_tup
    · obtain ⟨rfl, rfl, rfl⟩ := hn c1
      walk_at "w"
      exact k _ _ o1 hu
  | set kk e =>
    obtain ⟨x, ⟨a, rfl, hv0⟩, hx⟩ := hat
    have hv := same_tup o.same hv0
    obtain ⟨⟨wy, z⟩, w1, h1, hl, hy, hn⟩ := thenT_len he fun v w1 hk => by
      split at hk
      · cases hk; exact Le.refl _
      · cases hk
    walk_at "w"
    refine w_ixT hv rfl ?_
    walk_at "w"
    refine w_ixT hv rfl ?_
    walk_at "w"
    refine ⟨P, _, d, e, x, b, bx, w, _, _, rfl, hx.mono o.base, hp.mono o.base, o.lend, h1, Nat.lt_of_le_of_lt hl hs, fun H1 u o1 hu => ?_⟩
    replace o1 := o.same1 o1
    obtain ⟨c, rfl, hu'⟩ := tup_at hu
    walk_at "w"
    refine w_ixT hu' rfl ?_
    walk_at "w"
    refine w_ND (fun c1 => ?_) (fun c1 => ?_) <;> rw [wy_value] at c1
    · replace hy := hy c1
      have hv1 := same_tup o1.same hv0
      split at hy
      · rename_i hk
        cases hy
        have hb := o1.ix 2 rfl
        have o2 := o1.set 2 (.lst ((bx.map V.int).set kk.toNat (.int z))) rfl
        walk_at "w"
        refine w_ixT hu' rfl ?_
        walk_at "w"
        refine w_ixT hv1 rfl ?_
        refine w_setL hb hk.1 (by rw [List.length_map]; exact hk.2) ?_
        walk_at "w"
        rw [← List.map_set] at o2 ⊢
        exact fun p h1 => k _ _ (o2.lay h1) new_tup
      · cases hy
    · obtain ⟨rfl, rfl, rfl⟩ := hn c1
      walk_at "w"
      exact k _ _ o1 hu
  | say e =>
    obtain ⟨x, ⟨a, rfl, hv0⟩, hx⟩ := hat
    have hv := same_tup o.same hv0
    obtain ⟨⟨wy, z⟩, w1, h1, hl, hy, hn⟩ := thenT_len he fun v w1 hk => by
      cases hk
      exact ⟨List.prefix_append _ _, Nat.le_refl _, rfl⟩
    walk_at "w"
    refine w_ixT hv rfl ?_
    walk_at "w"
    refine w_ixT hv rfl ?_
    walk_at "w"
    refine ⟨P, _, d, e, x, b, bx, w, _, _, rfl, hx.mono o.base, hp.mono o.base, o.lend, h1, Nat.lt_of_le_of_lt hl hs, fun H1 u o1 hu => ?_⟩
    replace o1 := o.same1 o1
    obtain ⟨c, rfl, hu'⟩ := tup_at hu
    walk_at "w"
    refine w_ixT hu' rfl ?_
    walk_at "w"
    refine w_ND (fun c1 => ?_) (fun c1 => ?_) <;> rw [wy_value] at c1
    · replace hy := hy c1
      cases hy
      have hw := o1.ix 0 rfl
      have hsd := o1.ix 1 rfl
      have o2 := o1.set 1 (.lst (w1.said.map V.int ++ [.int z])) rfl
      walk_at "w"
      refine w_ixT hu' rfl ?_
      walk_at "w"
      refine w_app hsd (by rw [List.length_map]; exact Nat.lt_of_le_of_lt hl (lim_lt hs)) ?_
      walk_at "w"
      have e1 : w1.said.map V.int ++ [V.int z] = (w1.said ++ [z]).map V.int := by simp
      rw [e1] at o2 ⊢
      exact fun p h1 => k _ _ (o2.lay h1) new_tup
    · obtain ⟨rfl, rfl, rfl⟩ := hn c1
      walk_at "w"
      exact k _ _ o1 hu
end
end U

set_option maxHeartbeats 4000000
namespace U
open PySem PySem.Spec PyProof.Rows L2 Un
local macro_rules | `(tactic| walk_at "w1") => `(tactic| first
  | with_reducible refine w_seq ?_
  | with_reducible refine w_asg ?_
  | with_reducible refine w_op ?_
  | ((with_reducible refine' w_var ?h1 ?_); (case h1 => rfl))
  | with_reducible refine w_c ?_
  | with_reducible refine w_name ?_
  | with_reducible refine w_tFd ?_
  | ((with_reducible refine' w_fld ?h1 ?h2 ?_); (case h1 => assumption); (case h2 => rfl))
  | with_reducible refine w_if ?_
  | with_reducible refine w_test ?_
  | with_reducible refine w_eqS ?_
  | with_reducible refine w_eqI ?_
  | with_reducible refine w_neS ?_
  | with_reducible refine w_neI ?_
  | with_reducible refine w_isN ?_
  | with_reducible refine w_isnN ?_
  | with_reducible refine w_bl ?_
  | with_reducible refine w_ret ?_
  | with_reducible refine w_drop ?_
  | with_reducible refine w_next ?_
  | with_reducible refine w_cons ?_
  | with_reducible refine w_nil ?_
  | with_reducible refine w_call ?_
  | with_reducible refine w_cb ?_
  | with_reducible refine w_meth ?_
  | ((with_reducible refine' w_recv ?h1 ?h2 ?_); (case h1 => assumption); (case h2 => rfl))
  | with_reducible refine w_sFd ?_
  | ((with_reducible refine' w_put ?h1 ?h2 ?_); (case h1 => assumption); (case h2 => exact Nat.le_of_ble_eq_true rfl))
  | with_reducible refine w_add ?_
  | with_reducible refine w_sub ?_
  | with_reducible refine w_lt ?_
  | with_reducible refine w_le ?_
  | with_reducible refine w_gt ?_
  | with_reducible refine w_ge ?_
  | with_reducible refine w_bm ?_
  | with_reducible refine w_bm0 ?_
  | ((with_reducible refine' w_ty ?h1 ?_); (case h1 => assumption))
  | with_reducible refine w_tup ?_
  | with_reducible refine w_lst ?_
  | ((with_reducible refine' w_new ?h1 ?_); (case h1 => exact Nat.le_of_ble_eq_true rfl))
  | with_reducible refine w_gsub ?_
  | with_reducible refine w_make ?_
  | with_reducible refine w_lc ?_
  | with_reducible refine w_iList ?_
  | with_reducible refine w_for ?_
  | with_reducible refine w_yes ?_
  | with_reducible refine w_tSl ?_
  | with_reducible refine w_part ?_
  | with_reducible refine w_nopart ?_
  | with_reducible refine w_i ?_
  | with_reducible refine w_rng1 ?_
  | with_reducible refine w_rng2 ?_
  | with_reducible refine w_isiII ?_
  | with_reducible refine w_isiIB ?_
  | with_reducible refine w_isiSS ?_
  | ((with_reducible refine w_mod ?h1 ?_); (case h1 => decide))
  | ((with_reducible refine w_fdC' ?h1 ?h2 ?_); (case h1 => decide); (case h2 => decide))
  | ((with_reducible refine w_mulR ?h1 ?h2 ?_); (case h1 => decide); (case h2 => decide))
  | ((with_reducible refine w_mulL ?h1 ?h2 ?_); (case h1 => decide); (case h2 => decide))
  | ((with_reducible refine w_pow' ?h1 ?h2 ?h3 ?_); (case h1 => decide); (case h2 => decide); (case h3 => decide))
  | with_reducible refine w_andV ?_
  | with_reducible refine w_orV ?_
  | with_reducible refine w_notV ?_
  | with_reducible refine w_B ?_
  | with_reducible refine w_not ?_
  | with_reducible refine w_and ?_
  | with_reducible refine w_or ?_
  | with_reducible refine w_ifx ?_
  | with_reducible refine w_un ?_
  | ((with_reducible refine w_T ?h1 ?_); (case h1 => with_reducible rfl))
  | ((with_reducible refine w_F ?h1 ?_); (case h1 => with_reducible rfl))
  | ((with_reducible refine w_T ?h1 ?_); (case h1 => decide +kernel))
  | ((with_reducible refine w_F ?h1 ?_); (case h1 => decide +kernel)))
local macro_rules | `(tactic| walk_at "w") => `(tactic| repeat walk_at "w1")

/-! ### programs that are not refused -/
section
variable {K : PySem.W.Frag}
def sp_check_box (K : PySem.W.Frag) : Sp := fun vs H Q _ => ∃ k, vs = [.int k] ∧ 0 ≤ k ∧ k < 4 ∧ Q .non H
theorem p_check_box (vs : List V) (H : Hp) (Q : VK) (E : XK) (h : sp_check_box K vs H Q E) : t_check_box K { nx := fun _ H' => Q .non H', rt := Q } (L2.start n_check_box vs) H := by
  obtain ⟨k, rfl, h0, h1, q⟩ := h
  unfold t_check_box
  walk_at "w"
  refine w_D (fun c => absurd c (by omega)) fun _ => ?_
  walk_at "w"
  refine w_D (fun c => absurd c (by omega)) fun _ => ?_
  walk_at "w"
  exact q
def sp_check_tree (K : PySem.W.Frag) : Nat → Sp
  | 0 => fun _ _ _ _ => False
  | n + 1 => fun vs H Q _ => ∃ t v c d, vs = [v, .int (c : Nat), .int d] ∧ TreeAt K H t v ∧ t.ok c n = true ∧ d + n = 7 ∧ Q .non H
theorem p_check_tree (n : Nat) (vs : List V) (H : Hp) (Q : VK) (E : XK) (h : sp_check_tree K (n + 1) vs H Q E) :
    t_check_tree K (sp_check_box K) (sp_check_tree K n) { nx := fun _ H' => Q .non H', rt := Q } (L2.start n_check_tree vs) H := by
  obtain ⟨t, v, c, d, rfl, ht, hk, hd, q⟩ := h
  cases n with
  | zero => cases t <;> cases hk
  | succ n =>
  unfold t_check_tree
  walk_at "w"
  refine w_D (fun c => absurd c (by omega)) fun _ => ?_
  cases t with
  | num m =>
    obtain ⟨a, rfl, hv⟩ := ht
    walk_at "w"
    refine w_ixT hv rfl ?_
    walk_at "w"
    refine w_ixT hv rfl ?_
    walk_at "w"
    refine w_ixT hv rfl ?_
    walk_at "w"
    exact q
  | box m =>
    obtain ⟨a, rfl, hv⟩ := ht
    have hk := of_decide_eq_true hk
    walk_at "w"
    refine w_ixT hv rfl ?_
    walk_at "w"
    refine w_ixT hv rfl ?_
    walk_at "w"
    exact ⟨m, rfl, hk.1, hk.2, q⟩
  | call f t =>
    obtain ⟨x, ⟨a, rfl, hv⟩, hx⟩ := ht
    have hk : (decide (0 ≤ f ∧ f < c) && t.ok c n) = true := hk
    rw [Bool.and_eq_true] at hk
    obtain ⟨hk1, hk2⟩ := hk
    have hk1 := of_decide_eq_true hk1
    walk_at "w"
    refine w_ixT hv rfl ?_
    walk_at "w"
    refine w_ixT hv rfl ?_
    walk_at "w"
    refine w_ixT hv rfl ?_
    walk_at "w"
    refine w_D (fun c => absurd c (by omega)) fun _ => ?_
    refine w_op ?_
    walk_at "w"
    refine w_ixT hv rfl ?_
    walk_at "w"
    refine w_D (fun c => absurd c (by omega)) fun _ => ?_
    walk_at "w"
    refine w_ixT hv rfl ?_
    walk_at "w"
    exact ⟨t, x, c, d + 1, rfl, hx, hk2, by omega, q⟩
  | bin op s t =>
    obtain ⟨x, y, ⟨a, rfl, hv⟩, hx, hy⟩ := ht
    have hk : (s.ok c n && t.ok c n) = true := hk
    rw [Bool.and_eq_true] at hk
    walk_at "w"
    refine w_ixT hv rfl ?_
    walk_at "w"
    refine w_F (by cases op <;> decide) ?_
    walk_at "w"
    refine w_ixT hv rfl ?_
    walk_at "w"
    refine w_F (by cases op <;> decide) ?_
    walk_at "w"
    refine w_ixT hv rfl ?_
    walk_at "w"
    refine w_T (by cases op <;> decide) ?_
    walk_at "w"
    refine w_ixT hv rfl ?_
    walk_at "w"
    refine ⟨s, x, c, d + 1, rfl, hx, hk.1, by omega, ?_⟩
    walk_at "w"
    refine w_ixT hv rfl ?_
    walk_at "w"
    exact ⟨t, y, c, d + 1, rfl, hy, hk.2, by omega, q⟩
def sp_check_block (K : PySem.W.Frag) : Nat → Sp
  | 0 => fun _ _ _ _ => False
  | n + 1 => fun vs H Q _ => ∃ b v c l d, vs = [v, .int (c : Nat), .int l, .int d] ∧ BlAt K H b v ∧ oks c (decide (0 < l)) n b = true ∧ d + n = 8 ∧ 0 ≤ l ∧ Q .non H
def sp_check_row (K : PySem.W.Frag) (n : Nat) : Sp := fun vs H Q _ => ∃ s v c l d, vs = [v, .int (c : Nat), .int l, .int d] ∧ SmAt K H s v ∧ s.ok c (decide (0 < l)) n = true ∧ d + n = 8 ∧ 0 ≤ l ∧ Q .non H
theorem oks_cons {c : Nat} {l : Bool} {n : Nat} {s : Sm} {b : List Sm} : oks c l n (s :: b) = (s.ok c l n && oks c l n b) := by rw [oks]
theorem smsAt_len {H : Hp} : ∀ {l : List Sm} {ps : List V}, SmsAt K H l ps → ps.length = l.length := by
  intro l
  induction l with
  | nil => intro ps h; rw [show ps = [] from h]; rfl
  | cons s l ih =>
    intro ps h
    obtain ⟨v, vr, rfl, _, h2⟩ := h
    simp [ih h2]
theorem smsAt_get {H : Hp} : ∀ {l : List Sm} {ps : List V}, SmsAt K H l ps → ∀ {i : Nat} {v : V}, ps[i]? = some v → ∃ s, l[i]? = some s ∧ SmAt K H s v := by
  intro l
  induction l with
  | nil => intro ps h; rw [show ps = [] from h]; intro i v e; simp at e
  | cons s l ih =>
    intro ps h i v e
    obtain ⟨v', vr, rfl, h1, h2⟩ := h
    cases i with
    | zero =>
      simp at e
      exact ⟨s, rfl, e ▸ h1⟩
    | succ i =>
      obtain ⟨s', g1, g2⟩ := ih h2 (i := i) (v := v) (by simpa using e)
      exact ⟨s', by simpa using g1, g2⟩
theorem oks_get {c : Nat} {l : Bool} {n : Nat} : ∀ {b : List Sm}, oks c l n b = true → ∀ {i : Nat} {s : Sm}, b[i]? = some s → s.ok c l n = true := by
  intro b
  induction b with
  | nil => intro _ i s e; simp at e
  | cons t b ih =>
    intro h i s e
    rw [oks_cons, Bool.and_eq_true] at h
    cases i with
    | zero =>
      simp at e
      exact e ▸ h.1
    | succ i => exact ih h.2 (i := i) (by simpa using e)
theorem p_check_block (n : Nat) (vs : List V) (H : Hp) (Q : VK) (E : XK) (h : sp_check_block K (n + 1) vs H Q E) :
    t_check_block K (sp_check_row K n) { nx := fun _ H' => Q .non H', rt := Q } (L2.start n_check_block vs) H := by
  obtain ⟨b, v, c, l, d, rfl, ⟨p, ps, rfl, hp1, hp2⟩, hk, hd, hl, q⟩ := h
  unfold t_check_block
  walk_at "w"
  refine w_D (fun c => absurd c (by omega)) fun _ => ?_
  walk_at "w"
  refine w_refL hp1 ?_
  refine for_list (xs := ps) (fun i σ H' => H' = H ∧ ∃ x, σ = [some (.ref p), some (.int c), some (.int l), some (.int d), x]) ⟨rfl, _, rfl⟩ (fun i σ H' _ h => h.1 ▸ hp1) ?_ ?_
  · rintro i x σ H' hx ⟨rfl, y, rfl⟩
    obtain ⟨s, h1, h2⟩ := smsAt_get hp2 hx
    walk_at "w"
    exact ⟨s, x, c, l, d, rfl, h2, oks_get hk h1, hd, hl, rfl, _, rfl⟩
  · rintro σ H' ⟨rfl, y, rfl⟩
    exact q
theorem p_check_row (n : Nat) (vs : List V) (H : Hp) (Q : VK) (E : XK) (h : sp_check_row K n vs H Q E) :
    t_check_row K (sp_check_box K) (sp_check_tree K 7) (sp_check_block K n) { nx := fun _ H' => Q .non H', rt := Q } (L2.start n_check_row vs) H := by
  obtain ⟨s, v, c, l, d, rfl, hat, hk, hd, hl, q⟩ := h
  unfold t_check_row
  cases s with
  | leave =>
    obtain ⟨a, rfl, hv⟩ := hat
    have hk : decide (0 < l) = true := by cases n <;> exact hk
    have hk := of_decide_eq_true hk
    walk_at "w"
    refine w_ixT hv rfl ?_
    walk_at "w"
    refine w_D (fun c => absurd c (by omega)) fun _ => ?_
    walk_at "w"
    exact q
  | next =>
    obtain ⟨a, rfl, hv⟩ := hat
    have hk : decide (0 < l) = true := by cases n <;> exact hk
    have hk := of_decide_eq_true hk
    walk_at "w"
    refine w_ixT hv rfl ?_
    walk_at "w"
    refine w_D (fun c => absurd c (by omega)) fun _ => ?_
    walk_at "w"
    exact q
  | set k e =>
    obtain ⟨x, ⟨a, rfl, hv⟩, hx⟩ := hat
    have hk : (decide (0 ≤ k ∧ k < 4) && e.ok c 6) = true := by cases n <;> exact hk
    rw [Bool.and_eq_true] at hk
    have hk1 := of_decide_eq_true hk.1
    walk_at "w"
    refine w_ixT hv rfl ?_
    walk_at "w"
    refine w_ixT hv rfl ?_
    walk_at "w"
    refine ⟨k, rfl, hk1.1, hk1.2, ?_⟩
    walk_at "w"
    refine w_ixT hv rfl ?_
    walk_at "w"
    exact ⟨e, x, c, 1, rfl, hx, hk.2, rfl, q⟩
  | say e =>
    obtain ⟨x, ⟨a, rfl, hv⟩, hx⟩ := hat
    have hk : e.ok c 6 = true := by cases n <;> exact hk
    walk_at "w"
    refine w_ixT hv rfl ?_
    walk_at "w"
    refine w_ixT hv rfl ?_
    walk_at "w"
    exact ⟨e, x, c, 1, rfl, hx, hk, rfl, q⟩
  | give e =>
    obtain ⟨x, ⟨a, rfl, hv⟩, hx⟩ := hat
    have hk : e.ok c 6 = true := by cases n <;> exact hk
    walk_at "w"
    refine w_ixT hv rfl ?_
    walk_at "w"
    refine w_ixT hv rfl ?_
    walk_at "w"
    exact ⟨e, x, c, 1, rfl, hx, hk, rfl, q⟩
  | raise e =>
    obtain ⟨x, ⟨a, rfl, hv⟩, hx⟩ := hat
    have hk : e.ok c 6 = true := by cases n <;> exact hk
    walk_at "w"
    refine w_ixT hv rfl ?_
    walk_at "w"
    refine w_ixT hv rfl ?_
    walk_at "w"
    exact ⟨e, x, c, 1, rfl, hx, hk, rfl, q⟩
  | ife e l1 l2 =>
    obtain ⟨x, p, r, ps, rs, ⟨a, rfl, hv⟩, hx, hp1, hp2, hq1, hq2⟩ := hat
    cases n with
    | zero => cases hk
    | succ n =>
    have hk : (e.ok c 6 && (oks c (decide (0 < l)) n l1 && oks c (decide (0 < l)) n l2)) = true := hk
    rw [Bool.and_eq_true, Bool.and_eq_true] at hk
    walk_at "w"
    refine w_ixT hv rfl ?_
    walk_at "w"
    refine w_ixT hv rfl ?_
    walk_at "w"
    refine ⟨e, x, c, 1, rfl, hx, hk.1, rfl, ?_⟩
    walk_at "w"
    refine w_ixT hv rfl ?_
    walk_at "w"
    refine ⟨l1, _, c, l, d + 1, rfl, ⟨p, ps, rfl, hp1, hp2⟩, hk.2.1, by omega, hl, ?_⟩
    walk_at "w"
    refine w_ixT hv rfl ?_
    walk_at "w"
    exact ⟨l2, _, c, l, d + 1, rfl, ⟨r, rs, rfl, hq1, hq2⟩, hk.2.2, by omega, hl, q⟩
  | loop e l1 =>
    obtain ⟨x, p, ps, ⟨a, rfl, hv⟩, hx, hp1, hp2⟩ := hat
    cases n with
    | zero => cases hk
    | succ n =>
    have hk : (e.ok c 6 && oks c true n l1) = true := hk
    rw [Bool.and_eq_true] at hk
    walk_at "w"
    refine w_ixT hv rfl ?_
    walk_at "w"
    refine w_ixT hv rfl ?_
    walk_at "w"
    refine ⟨e, x, c, 1, rfl, hx, hk.1, rfl, ?_⟩
    walk_at "w"
    refine w_ixT hv rfl ?_
    walk_at "w"
    refine ⟨l1, _, c, l + 1, d + 1, rfl, ⟨p, ps, rfl, hp1, hp2⟩, ?_, by omega, by omega, q⟩
    rw [decide_eq_true (by omega : 0 < l + 1)]
    exact hk.2
  | ctch l1 m k l2 =>
    obtain ⟨p, r, ps, rs, ⟨a, rfl, hv⟩, hp1, hp2, hq1, hq2⟩ := hat
    cases n with
    | zero => cases hk
    | succ n =>
    have hk : (oks c (decide (0 < l)) n l1 && (decide (0 ≤ k ∧ k < 4) && oks c (decide (0 < l)) n l2)) = true := hk
    rw [Bool.and_eq_true, Bool.and_eq_true] at hk
    have hk1 := of_decide_eq_true hk.2.1
    walk_at "w"
    refine w_ixT hv rfl ?_
    walk_at "w"
    refine w_ixT hv rfl ?_
    walk_at "w"
    refine ⟨l1, _, c, l, d + 1, rfl, ⟨p, ps, rfl, hp1, hp2⟩, hk.1, by omega, hl, ?_⟩
    walk_at "w"
    refine w_ixT hv rfl ?_
    walk_at "w"
    refine ⟨k, rfl, hk1.1, hk1.2, ?_⟩
    walk_at "w"
    refine w_ixT hv rfl ?_
    walk_at "w"
    exact ⟨l2, _, c, l, d + 1, rfl, ⟨r, rs, rfl, hq1, hq2⟩, hk.2.2, by omega, hl, q⟩
  | endd l1 l2 =>
    obtain ⟨p, r, ps, rs, ⟨a, rfl, hv⟩, hp1, hp2, hq1, hq2⟩ := hat
    cases n with
    | zero => cases hk
    | succ n =>
    have hk : (oks c (decide (0 < l)) n l1 && oks c (decide (0 < l)) n l2) = true := hk
    rw [Bool.and_eq_true] at hk
    walk_at "w"
    refine w_ixT hv rfl ?_
    walk_at "w"
    refine w_ixT hv rfl ?_
    walk_at "w"
    refine ⟨l1, _, c, l, d + 1, rfl, ⟨p, ps, rfl, hp1, hp2⟩, hk.1, by omega, hl, ?_⟩
    walk_at "w"
    refine w_ixT hv rfl ?_
    walk_at "w"
    exact ⟨l2, _, c, l, d + 1, rfl, ⟨r, rs, rfl, hq1, hq2⟩, hk.2, by omega, hl, q⟩
def sp_checked (K : PySem.W.Frag) : Sp := fun vs H Q _ => ∃ P p, vs = [.ref p] ∧ ProgAt K H P p ∧ okProg P = true ∧ Q .non H
theorem p_checked (vs : List V) (H : Hp) (Q : VK) (E : XK) (h : sp_checked K vs H Q E) :
    t_checked K (sp_check_block K 8) { nx := fun _ H' => Q .non H', rt := Q } (L2.start n_checked vs) H := by
  obtain ⟨P, p, rfl, ⟨ps, hp1, hp2⟩, hk, q⟩ := h
  unfold okProg at hk
  rw [Bool.and_eq_true] at hk
  have hk1 := of_decide_eq_true hk.1
  have hk2 := List.all_eq_true.mp hk.2
  have hl := hp2.len
  unfold t_checked
  walk_at "w"
  refine w_lenL hp1 ?_
  walk_at "w"
  refine w_D (fun c => absurd c (by omega)) fun _ => ?_
  walk_at "w"
  refine w_refL hp1 ?_
  refine for_list (xs := ps) (fun i σ H' => H' = H ∧ ∃ x, σ = [some (.ref p), x]) ⟨rfl, _, rfl⟩ (fun i σ H' _ h => h.1 ▸ hp1) ?_ ?_
  · rintro i x σ H' hx ⟨rfl, y, rfl⟩
    obtain ⟨b, hb, hd⟩ := hp2.drop i hx
    have hm : b ∈ P := List.mem_of_mem_drop (hd ▸ List.mem_cons_self : b ∈ P.drop i)
    walk_at "w"
    refine w_lenL hp1 ?_
    walk_at "w"
    refine ⟨b, x, P.length, 0, 1, by rw [hl]; rfl, hb, ?_, rfl, Int.le_refl _, rfl, _, rfl⟩
    exact hk2 b hm
  · rintro σ H' ⟨rfl, y, rfl⟩
    exact q
end
end U

set_option maxHeartbeats 4000000
namespace U
open PySem PySem.Spec PyProof.Rows L2 Un
local macro_rules | `(tactic| walk_at "w1") => `(tactic| first
  | with_reducible refine w_seq ?_
  | with_reducible refine w_asg ?_
  | with_reducible refine w_op ?_
  | ((with_reducible refine' w_var ?h1 ?_); (case h1 => rfl))
  | with_reducible refine w_c ?_
  | with_reducible refine w_name ?_
  | with_reducible refine w_tFd ?_
  | ((with_reducible refine' w_fld ?h1 ?h2 ?_); (case h1 => assumption); (case h2 => rfl))
  | with_reducible refine w_if ?_
  | with_reducible refine w_test ?_
  | with_reducible refine w_eqS ?_
  | with_reducible refine w_eqI ?_
  | with_reducible refine w_neS ?_
  | with_reducible refine w_neI ?_
  | with_reducible refine w_isN ?_
  | with_reducible refine w_isnN ?_
  | with_reducible refine w_bl ?_
  | with_reducible refine w_ret ?_
  | with_reducible refine w_drop ?_
  | with_reducible refine w_next ?_
  | with_reducible refine w_cons ?_
  | with_reducible refine w_nil ?_
  | with_reducible refine w_call ?_
  | with_reducible refine w_cb ?_
  | with_reducible refine w_meth ?_
  | ((with_reducible refine' w_recv ?h1 ?h2 ?_); (case h1 => assumption); (case h2 => rfl))
  | with_reducible refine w_sFd ?_
  | ((with_reducible refine' w_put ?h1 ?h2 ?_); (case h1 => assumption); (case h2 => exact Nat.le_of_ble_eq_true rfl))
  | with_reducible refine w_add ?_
  | with_reducible refine w_sub ?_
  | with_reducible refine w_lt ?_
  | with_reducible refine w_le ?_
  | with_reducible refine w_gt ?_
  | with_reducible refine w_ge ?_
  | with_reducible refine w_bm ?_
  | with_reducible refine w_bm0 ?_
  | ((with_reducible refine' w_ty ?h1 ?_); (case h1 => assumption))
  | with_reducible refine w_tup ?_
  | with_reducible refine w_lst ?_
  | ((with_reducible refine' w_new ?h1 ?_); (case h1 => exact Nat.le_of_ble_eq_true rfl))
  | with_reducible refine w_gsub ?_
  | with_reducible refine w_make ?_
  | with_reducible refine w_lc ?_
  | with_reducible refine w_iList ?_
  | with_reducible refine w_for ?_
  | with_reducible refine w_yes ?_
  | with_reducible refine w_tSl ?_
  | with_reducible refine w_part ?_
  | with_reducible refine w_nopart ?_
  | with_reducible refine w_i ?_
  | with_reducible refine w_rng1 ?_
  | with_reducible refine w_rng2 ?_
  | with_reducible refine w_isiII ?_
  | with_reducible refine w_isiIB ?_
  | with_reducible refine w_isiSS ?_
  | ((with_reducible refine w_mod ?h1 ?_); (case h1 => decide))
  | ((with_reducible refine w_fdC' ?h1 ?h2 ?_); (case h1 => decide); (case h2 => decide))
  | ((with_reducible refine w_mulR ?h1 ?h2 ?_); (case h1 => decide); (case h2 => decide))
  | ((with_reducible refine w_mulL ?h1 ?h2 ?_); (case h1 => decide); (case h2 => decide))
  | ((with_reducible refine w_pow' ?h1 ?h2 ?h3 ?_); (case h1 => decide); (case h2 => decide); (case h3 => decide))
  | with_reducible refine w_andV ?_
  | with_reducible refine w_orV ?_
  | with_reducible refine w_notV ?_
  | with_reducible refine w_B ?_
  | with_reducible refine w_not ?_
  | with_reducible refine w_and ?_
  | with_reducible refine w_or ?_
  | with_reducible refine w_ifx ?_
  | with_reducible refine w_un ?_
  | ((with_reducible refine w_T ?h1 ?_); (case h1 => with_reducible rfl))
  | ((with_reducible refine w_F ?h1 ?_); (case h1 => with_reducible rfl))
  | ((with_reducible refine w_T ?h1 ?_); (case h1 => decide +kernel))
  | ((with_reducible refine w_F ?h1 ?_); (case h1 => decide +kernel)))
local macro_rules | `(tactic| walk_at "w") => `(tactic| repeat walk_at "w1")

section
variable {K : PySem.W.Frag}
def sp_World___init__ (K : PySem.W.Frag) : Sp := fun vs H Q _ => ∃ H0 a dx pa t, vs = [.ref a, .ref pa, .int t] ∧ Own H0 H [(a, .ins (He.ga K "World") dx [])] ∧
  ∀ s H', Own H0 H' [(a, .ins (He.ga K "World") dx (wdF pa s t 0)), (s, .lst [])] → Q .non H'
theorem p_World___init__ (vs : List V) (H : Hp) (Q : VK) (E : XK) (h : sp_World___init__ K vs H Q E) : t_World___init__ K { nx := fun _ H' => Q .non H', rt := Q } (L2.start n_World___init__ vs) H := by
  obtain ⟨H0, a, dx, pa, t, rfl, w, k⟩ := h
  have ha := w.ix 0 rfl
  unfold t_World___init__
  walk_at "w"
  have w1 := w.set 0 (.ins (He.ga K "World") dx [("program", .ref pa)]) rfl
  refine fun s hs => ?_
  have w2 := w1.take (o := .lst []) hs
  have ha2 := w2.ix 1 rfl
  walk_at "w"
  have w3 := w2.set 1 (.ins (He.ga K "World") dx [("program", .ref pa), ("said", .ref s)]) rfl
  have ha3 := w3.ix 1 rfl
  walk_at "w"
  have w4 := w3.set 1 (.ins (He.ga K "World") dx [("program", .ref pa), ("said", .ref s), ("turns", .int t)]) rfl
  have ha4 := w4.ix 1 rfl
  walk_at "w"
  have w5 := w4.set 1 (.ins (He.ga K "World") dx (wdF pa s t 0)) rfl
  exact k s _ (w5.perm (List.Perm.swap _ _ _))
def wordT (y : Wy) : Str := if y = .value then "answer" else y.str
def sp_told (K : PySem.W.Frag) (n : Nat) : Sp := fun vs H Q _ => ∃ P p v t r w', vs = [.ref p, .int v, .int (t : Nat)] ∧ ProgAt K H P p ∧ okProg P = true ∧ (ev P n).enter 0 v ⟨[], t, 0⟩ = some (r, w') ∧ w'.said.length < LIM ∧
  ∀ H' s c, Own H H' [(s, .lst (w'.said.map V.int))] → H' c = some (.tup [.ref s, .str (wordT r.1), .int r.2]) → Q (.ref c) H'
theorem p_told (n : Nat) (vs : List V) (H : Hp) (Q : VK) (E : XK) (h : sp_told K n vs H Q E) : t_told K (sp_checked K) (sp_World___init__ K) (sp_enter K n) { nx := fun _ H' => Q .non H', rt := Q } (L2.start n_told vs) H := by
  obtain ⟨P, p, v, t, ⟨wy, z⟩, w', rfl, hp, hok, he, hs, k⟩ := h
  unfold t_told
  walk_at "w"
  refine ⟨P, p, rfl, hp, hok, ?_⟩
  walk_at "w"
  refine fun a dx na ndx hne => ?_
  have w1 := ((Own.nil (Same.refl H)).lay (o := .own a) ndx).take (a := a) (o := .ins (He.ga K "World") dx []) (by rw [upd_ne (Ne.symm hne)]; exact na)
  refine ⟨H, a, dx, p, t, rfl, w1, fun s H1 w2 => ?_⟩
  refine ⟨rfl, ?_⟩
  walk_at "w"
  refine ⟨P, H, ⟨a, dx, s, p⟩, 0, v, ⟨[], t, 0⟩, _, _, rfl, hp, w2, he, hs, fun H2 u w3 hu => ?_⟩
  obtain ⟨c, rfl, hu'⟩ := tup_at hu
  walk_at "w"
  refine w_ixT hu' rfl ?_
  walk_at "w"
  have h3 := w3.ix 0 rfl
  have w4 : Own H H2 [sdC ⟨a, dx, s, p⟩ w'] := w3.slist (List.sublist_cons_self ..)
  refine w_D (fun c1 => ?_) (fun c1 => ?_) <;> rw [wy_value] at c1
  · dsimp only at c1
    subst c1
    walk_at "w"
    refine w_ixT hu' rfl ?_
    walk_at "w"
    exact fun q hq => k _ s _ (w4.lay hq) upd_same
  · walk_at "w"
    refine w_ixT hu' rfl ?_
    walk_at "w"
    refine w_ixT hu' rfl ?_
    walk_at "w"
    refine fun q hq => k _ s _ (w4.lay hq) ?_
    have e : wordT wy = wy.str := if_neg c1
    rw [show wordT ((wy, z) : Res).1 = wy.str from e]
    exact upd_same
end
end U

set_option maxHeartbeats 4000000
namespace U
open PySem PySem.Spec PyProof.Rows L2 Un
/-! ### data that is built: it stands in the heap without the owned cells -/
section
variable {K : PySem.W.Frag} {H0 H : Hp} {L : List Cell} {a p : Addr} {o o' : HO} {c : Cell}
theorem same_less : Same (less H L) H := fun b u e => by
  by_cases h : b ∈ ads L
  · rw [less_on h] at e; cases e
  · rw [less_off h] at e; exact e
theorem less_put (i : Nat) (h : L[i]? = some (a, o)) : less (upd H a o') (L.set i (a, o')) = less H L := by
  have e : ads (L.set i (a, o')) = ads L := by
    unfold ads
    rw [List.map_set]
    refine List.ext_getElem? fun j => ?_
    rw [List.getElem?_set]
    split
    · rename_i hij
      subst hij
      split
      · rw [List.getElem?_map, h]; rfl
      · rename_i hl
        have := (List.getElem?_eq_some_iff.mp h).1
        exact absurd (by rw [List.length_map]; exact this) hl
    · rfl
  have hm : a ∈ ads L := mem_ads (List.mem_of_getElem? h)
  funext b
  unfold less
  rw [e]
  by_cases hb : b ∈ ads L
  · rw [if_pos hb, if_pos hb]
  · rw [if_neg hb, if_neg hb, upd_ne]
    rintro rfl
    exact hb hm
theorem less_take (h : H a = none) : less (upd H a o) ((a, o) :: L) = less H L := by
  funext b
  unfold less
  have e0 : ads ((a, o) :: L) = a :: ads L := rfl
  rw [e0]
  by_cases hb : b ∈ ads L
  · rw [if_pos hb, if_pos (List.mem_cons_of_mem _ hb)]
  · rw [if_neg hb]
    by_cases e : b = a
    · subst e
      rw [if_pos (List.mem_cons_self ..), h]
    · rw [if_neg (fun hm => (List.mem_cons.mp hm).elim e hb), upd_ne e]
theorem Own.off (w : Own H0 H L) (h : H p = none) : p ∉ ads L := fun hm => by
  obtain ⟨q, hq, e⟩ := List.mem_map.mp hm
  have := w.at_ q hq
  rw [e, h] at this
  cases this
theorem less_lay (h : H p = none) : Same (less H L) (less (upd H p o) L) := fun b u e => by
  by_cases hb : b ∈ ads L
  · rw [less_on hb] at e; cases e
  · rw [less_off hb] at e ⊢
    exact same_lay h b u e
theorem less_new (w : Own H0 H L) (h : H p = none) : less (upd H p o) L p = some o := by
  rw [less_off (w.off h)]
  exact upd_same
theorem less_give : Same (less H (c :: L)) (less H L) := fun b u e => by
  by_cases hb : b ∈ ads (c :: L)
  · rw [less_on hb] at e; cases e
  · rw [less_off hb] at e
    rw [less_off fun hm => hb (List.mem_cons_of_mem _ hm)]
    exact e
theorem less_given (w : Own H0 H (c :: L)) : less H L c.1 = some c.2 := by
  have nd := w.nd
  have q := (List.nodup_cons.mp nd).1
  rw [less_off q]
  exact w.at_ c (List.mem_cons_self ..)
theorem lessTup (w : Own H0 H L) (h : H p = none) {xs : List V} : IsTup K (less (upd H p (.tup xs)) L) (.ref p) xs := ⟨p, rfl, SqT.of (less_new w h)⟩
theorem less_perm {L' : List Cell} (h : L.Perm L') : less H L = less H L' := by
  funext b
  unfold less
  have e : (b ∈ ads L) ↔ (b ∈ ads L') := (h.map _).mem_iff
  by_cases hb : b ∈ ads L
  · rw [if_pos hb, if_pos (e.mp hb)]
  · rw [if_neg hb, if_neg fun z => hb (e.mpr z)]
theorem smsAt_app {H : Hp} : ∀ {b b' : List Sm} {vs vs' : List V}, SmsAt K H b vs → SmsAt K H b' vs' → SmsAt K H (b ++ b') (vs ++ vs')
  | [], _, _, _, h, h' => by
    rw [show _ = [] from h]
    exact h'
  | s :: b, _, _, _, h, h' => by
    obtain ⟨v, vr, e, h1, h2⟩ := h
    rw [e]
    exact ⟨v, _, rfl, h1, smsAt_app h2 h'⟩
theorem smsAt_snoc {H : Hp} {b : List Sm} {vs : List V} {s : Sm} {v : V} (h : SmsAt K H b vs) (h' : SmAt K H s v) : SmsAt K H (b ++ [s]) (vs ++ [v]) := smsAt_app h ⟨v, [], rfl, h', rfl⟩
end
end U

set_option maxHeartbeats 4000000
namespace U
open PySem PySem.Spec PyProof.Rows L2 Un
/-! ### a list below the first cell is given up; lists as data -/
section
variable {K : PySem.W.Frag} {H0 H H' : Hp} {L : List Cell} {c d : Cell}
theorem Own.swp (w : Own H0 H (c :: d :: L)) : Own H0 H (d :: c :: L) := w.perm (List.Perm.swap _ _ _)
theorem less_swp : less H (c :: d :: L) = less H (d :: c :: L) := less_perm (List.Perm.swap _ _ _)
theorem Own.give1 (w : Own H0 H (c :: d :: L)) : Own H0 H (c :: L) := w.del 1
theorem less_give1 : Same (less H (c :: d :: L)) (less H (c :: L)) := by
  rw [less_swp]
  exact less_give
theorem less_given1 (w : Own H0 H (c :: d :: L)) : less H (c :: L) d.1 = some d.2 := less_given w.swp
def LsAt (K : PySem.W.Frag) (H : Hp) (a : Addr) (xs : List V) : Prop := SqL K H a xs
theorem LsAt.mono {a : Addr} {xs : List V} (h : LsAt K H a xs) (s : Same H H') : LsAt K H' a xs := s.seq h
theorem LsAt.of {a : Addr} {xs : List V} (h : H a = some (.lst xs)) : LsAt K H a xs := SqL.of h
theorem LsAt.seq {a : Addr} {xs : List V} (h : LsAt K H a xs) : SqL K H a xs := h
def RawAt (H : Hp) (a : Addr) (o : HO) : Prop := H a = some o
theorem RawAt.mono {a : Addr} {o : HO} (h : RawAt H a o) (s : Same H H') : RawAt H' a o := s a o h
theorem RawAt.up {a : Addr} {o : HO} (h : RawAt (less H L) a o) : H a = some o := same_less a o h
theorem IsTup.go {v : V} {xs : List V} (h : IsTup K H v xs) (s : Same H H') : IsTup K H' v xs := h.mono s
end
end U

set_option maxHeartbeats 4000000
namespace U
open PySem PySem.Spec PyProof.Rows L2
/-! ### dicts whose keys are texts -/
theorem Rm.du {n : Nat} {A : Around} (r : Rm n A) : A.units + 1 < cLine := by
  have := r.hu
  omega
section
variable {H : Hp} {Q : VK} {a : Addr} {kvs : List (Key × V)} {x : Str} {v : V} {σ : L2.St} {td ty : TE}
theorem w_tDGet (h : td σ H fun x H1 => ty σ H1 fun y H2 => ∃ a v, x = .ref a ∧ DGet H2 a y (some v) ∧ Q v H2) : tDGet td ty σ H Q := h
theorem w_dget {P : V → Prop} (h : H a = some (.dK kvs)) (l : valV kvs (.inr x) = some v) (q : P v) : ∃ a' v', V.ref a = .ref a' ∧ DGet H a' (.str x) (some v') ∧ P v' :=
  ⟨a, v, rfl, by rw [← l]; exact DGet.k (k := .inr x) h, q⟩
theorem w_dset {Q : Hp → Prop} (h : H a = some (.dK kvs)) (n : kvs.length < 1000) (q : Q (upd H a (.dK (putK kvs (.inr x) v)))) : rSetD (.ref a) (.str x) v H Q :=
  ⟨a, _, rfl, DPut.k (k := .inr x) h (Nat.lt_of_lt_of_le n (by rw [sizeLine_eq]; decide)), q⟩
end
end U

namespace U
open PySem PySem.Spec PyProof.Rows L2
/-! readings of the defs -/
def t_l_size (K : PySem.W.Frag) : TS :=
  (tRet (tOp (rIxL K) (tLst (tCons (tC (.int 2)) (tCons (tC (.int 2)) (tCons (tC (.int 4)) (tCons (tC (.int 2)) (tCons (tC (.int 1)) (tCons (tC (.int 3)) (tCons (tC (.int 2)) (tCons (tC (.int 3)) (tCons (tC (.int 5)) (tCons (tC (.int 5)) (tCons (tC (.int 2)) (tCons (tC (.int 4)) (tCons (tC (.int 4)) tNil)))))))))))))) (tVar 0)))
def n_l_size : List Str := ["_law_kind"]
def t_l_group (K : PySem.W.Frag) : TS :=
  (tSeq (tAsg (tOp rModP (tVar 0) (tC (.int 13))) (gName 5))
    (tSeq (tAsg (tOp rModP (tOp rFdC (tVar 0) (tC (.int 13))) (tVar 3)) (gName 6))
    (tSeq (tAsg (tOp rSubI (tOp rModP (tOp rFdC (tVar 0) (tC (.int 78))) (tC (.int 9))) (tC (.int 3))) (gName 7))
    (tSeq (tAsg (tOp rModP (tOp rFdC (tVar 0) (tC (.int 702))) (tVar 4)) (gName 8))
    (tSeq (tIfS (tTest (tOp rEq (tVar 5) (tC (.int 0)))) (tRet (tLst (tCons (tTup (tCons (tC (.str "put")) (tCons (tVar 7) tNil))) (tCons (tTup (tCons (tC (.str "say")) tNil)) tNil)))) tNext)
    (tSeq (tIfS (tTest (tOp rEq (tVar 5) (tC (.int 1)))) (tRet (tLst (tCons (tTup (tCons (tC (.str "get")) (tCons (tVar 6) tNil))) (tCons (tTup (tCons (tC (.str "say")) tNil)) tNil)))) tNext)
    (tSeq (tIfS (tTest (tOp rEq (tVar 5) (tC (.int 2)))) (tRet (tLst (tCons (tTup (tCons (tC (.str "get")) (tCons (tVar 6) tNil))) (tCons (tTup (tCons (tC (.str "put")) (tCons (tVar 7) tNil))) (tCons (tTup (tCons (tOp (rIxL K) (tLst (tCons (tC (.str "add")) (tCons (tC (.str "sub")) (tCons (tC (.str "less")) (tCons (tC (.str "share")) tNil))))) (tOp rModP (tOp rFdC (tVar 0) (tC (.int 702))) (tC (.int 4)))) tNil)) (tCons (tTup (tCons (tC (.str "set")) (tCons (tVar 6) tNil))) tNil)))))) tNext)
    (tSeq (tIfS (tTest (tOp rEq (tVar 5) (tC (.int 3)))) (tRet (tLst (tCons (tTup (tCons (tC (.str "get")) (tCons (tVar 6) tNil))) (tCons (tTup (tCons (tC (.str "nought")) (tCons (tVar 1) tNil))) tNil)))) tNext)
    (tSeq (tIfS (tTest (tOp rEq (tVar 5) (tC (.int 4)))) (tRet (tLst (tCons (tTup (tCons (tC (.str "go")) (tCons (tVar 1) tNil))) tNil))) tNext)
    (tSeq (tIfS (tTest (tOp rEq (tVar 5) (tC (.int 5)))) (tRet (tLst (tCons (tTup (tCons (tC (.str "put")) (tCons (tVar 1) tNil))) (tCons (tTup (tCons (tC (.str "set")) (tCons (tOp rSubI (tVar 3) (tC (.int 1))) tNil))) (tCons (tTup (tCons (tC (.str "on")) (tCons (tOp rSubI (tVar 3) (tC (.int 1))) tNil))) tNil))))) tNext)
    (tSeq (tIfS (tTest (tOp rEq (tVar 5) (tC (.int 6)))) (tRet (tLst (tCons (tTup (tCons (tC (.str "turn")) tNil)) (tCons (tTup (tCons (tC (.str "go")) (tCons (tVar 2) tNil))) tNil)))) tNext)
    (tSeq (tIfS (tTest (tOp rEq (tVar 5) (tC (.int 7)))) (tRet (tLst (tCons (tTup (tCons (tC (.str "turn")) tNil)) (tCons (tTup (tCons (tC (.str "get")) (tCons (tVar 6) tNil))) (tCons (tTup (tCons (tC (.str "nought")) (tCons (tVar 2) tNil))) tNil))))) tNext)
    (tSeq (tIfS (tTest (tOp rEq (tVar 5) (tC (.int 8)))) (tRet (tLst (tCons (tTup (tCons (tC (.str "put")) (tCons (tVar 7) tNil))) (tCons (tTup (tCons (tC (.str "get")) (tCons (tVar 6) tNil))) (tCons (tTup (tCons (tC (.str "add")) tNil)) (tCons (tTup (tCons (tC (.str "call")) (tCons (tVar 8) tNil))) (tCons (tTup (tCons (tC (.str "set")) (tCons (tOp rModP (tOp rAddI (tVar 6) (tVar 7)) (tVar 3)) tNil))) tNil))))))) tNext)
    (tSeq (tIfS (tTest (tOp rEq (tVar 5) (tC (.int 9)))) (tRet (tLst (tCons (tTup (tCons (tC (.str "put")) (tCons (tVar 7) tNil))) (tCons (tTup (tCons (tC (.str "get")) (tCons (tVar 6) tNil))) (tCons (tTup (tCons (tC (.str "call")) (tCons (tVar 8) tNil))) (tCons (tTup (tCons (tC (.str "add")) tNil)) (tCons (tTup (tCons (tC (.str "set")) (tCons (tOp rModP (tOp rAddI (tVar 6) (tVar 7)) (tVar 3)) tNil))) tNil))))))) tNext)
    (tSeq (tIfS (tTest (tOp rEq (tVar 5) (tC (.int 10)))) (tRet (tLst (tCons (tTup (tCons (tC (.str "get")) (tCons (tVar 6) tNil))) (tCons (tTup (tCons (tC (.str "raise")) tNil)) tNil)))) tNext)
    (tSeq (tIfS (tTest (tOp rEq (tVar 5) (tC (.int 11)))) (tRet (tLst (tCons (tTup (tCons (tC (.str "put")) (tCons (tVar 7) tNil))) (tCons (tTup (tCons (tC (.str "get")) (tCons (tVar 6) tNil))) (tCons (tTup (tCons (tC (.str "share")) tNil)) (tCons (tTup (tCons (tC (.str "say")) tNil)) tNil)))))) tNext)
    (tRet (tLst (tCons (tTup (tCons (tC (.str "get")) (tCons (tVar 6) tNil))) (tCons (tTup (tCons (tC (.str "put")) (tCons (tVar 7) tNil))) (tCons (tTup (tCons (tC (.str "less")) tNil)) (tCons (tTup (tCons (tC (.str "nought")) (tCons (tVar 1) tNil))) tNil))))))))))))))))))))))
def n_l_group : List Str := ["_law_cell", "_law_near", "_law_far", "_law_boxes", "_law_many", "_law_kind", "_law_k", "_law_number_here", "_law_function"]
def t_l_places (K : PySem.W.Frag) (sp_l_size : Sp) : TS :=
  (tSeq (tAsg (tCB (rLenQ K) (tCons (tVar 0) tNil)) (gName 3))
    (tSeq (tAsg (tLc (iRng1 (tCons (tVar 3) tNil)) (gName 5) tYes (tLst tNil) [5]) (gName 4))
    (tSeq (tAsg (tVar 1) (gName 6))
    (tSeq (tFor (iRng1 (tCons (tVar 3) tNil)) (gName 7) (tSeq (tAsg (tOp rModP (tOp rAddI (tVar 7) (tVar 2)) (tVar 3)) (gName 5))
    (tSeq (tFor (iList K (tOp (rIxL K) (tVar 0) (tVar 5))) (gName 8) (tSeq (tDrop (tBM K "list" rAppend (tOp (rIxL K) (tVar 4) (tVar 5)) (tCons (tVar 6) tNil)))
    (tAsg (tOp rAddI (tVar 6) (tCall sp_l_size [] E0 (tCons (tOp rModP (tVar 8) (tC (.int 13))) tNil))) (gName 6))))
    (tSeq (tDrop (tBM K "list" rAppend (tOp (rIxL K) (tVar 4) (tVar 5)) (tCons (tVar 6) tNil)))
    (tAsg (tOp rAddI (tVar 6) (tC (.int 2))) (gName 6))))))
    (tRet (tVar 4))))))
def n_l_places : List Str := ["_law_groups", "_law_lead", "_law_turn_here", "_law_many", "_law_places_here", "_law_k", "_law_at", "_law_place", "_law_cell"]
def t_l_code (K : PySem.W.Frag) (sp_l_group : Sp) : TS :=
  (tSeq (tAsg (tCB (rLenQ K) (tCons (tVar 0) tNil)) (gName 5))
    (tSeq (tAsg (tLst tNil) (gName 6))
    (tSeq (tFor (iList K (tVar 1)) (gName 7) (tAsg (tOp rCat (tVar 6) (tVar 7)) (gName 6)))
    (tSeq (tAsg (tSl (rSlL K) (tLst (tCons (tTup (tCons (tC (.str "put")) (tCons (tC (.int 5)) tNil))) (tCons (tTup (tCons (tC (.str "back")) tNil)) (tCons (tTup (tCons (tC (.str "put")) (tCons (tC (.int 6)) tNil))) (tCons (tTup (tCons (tC (.str "raise")) tNil)) tNil))))) tNoPart (tPart (tVar 2))) (gName 8))
    (tSeq (tFor (iRng1 (tCons (tVar 5) tNil)) (gName 9) (tSeq (tAsg (tOp rModP (tOp rAddI (tVar 9) (tVar 3)) (tVar 5)) (gName 10))
    (tSeq (tFor (iEnum K (tCons (tOp (rIxL K) (tVar 0) (tVar 10)) tNil)) (gTup K 2 (gCons (gName 11) (gCons (gName 12) gNil))) (tSeq (tAsg (tOp (rIxL K) (tOp (rIxL K) (tVar 1) (tVar 10)) (tOp rAddI (tOp rAddI (tVar 11) (tC (.int 1))) (tOp rModP (tOp rFdC (tVar 12) (tC (.int 5000))) (tOp rSubI (tCB (rLenQ K) (tCons (tOp (rIxL K) (tVar 0) (tVar 10)) tNil)) (tVar 11))))) (gName 13))
    (tAsg (tOp rCat (tVar 8) (tCall sp_l_group [] E0 (tCons (tVar 12) (tCons (tVar 13) (tCons (tOp (rIxL K) (tVar 6) (tOp rModP (tOp rFdC (tVar 12) (tC (.int 3000))) (tCB (rLenQ K) (tCons (tVar 6) tNil)))) (tCons (tVar 4) (tCons (tVar 5) tNil))))))) (gName 8))))
    (tAsg (tOp rCat (tVar 8) (tLst (tCons (tTup (tCons (tC (.str "get")) (tCons (tOp rModP (tOp rAddI (tVar 10) (tVar 3)) (tVar 4)) tNil))) (tCons (tTup (tCons (tC (.str "back")) tNil)) tNil)))) (gName 8)))))
    (tRet (tTup (tCons (tVar 8) (tCons (tVar 6) tNil)))))))))
def n_l_code : List Str := ["_law_groups", "_law_places_here", "_law_lead", "_law_turn_here", "_law_boxes", "_law_many", "_law_every", "_law_row", "_law_code_here", "_law_place", "_law_k", "_law_at", "_law_cell", "_law_near"]
def t_l_goals (K : PySem.W.Frag) : TS :=
  (tSeq (tAsg (tLst tNil) (gName 4))
    (tSeq (tAsg (tLst tNil) (gName 5))
    (tSeq (tFor (iList K (tVar 0)) (gName 6) (tSeq (tDrop (tBM K "list" rAppend (tVar 5) (tCons (tOp rAddI (tVar 1) (tCB (rLenQ K) (tCons (tVar 4) tNil))) tNil)))
    (tIfS (tTest (tOp rEq (tOp rModP (tVar 6) (tC (.int 3))) (tC (.int 0)))) (tAsg (tOp rCat (tVar 4) (tLst (tCons (tTup (tCons (tC (.str "say")) tNil)) (tCons (tTup (tCons (tC (.str "put")) (tCons (tOp rAddI (tC (.int 50)) (tOp rModP (tOp rFdC (tVar 6) (tC (.int 3))) (tC (.int 9)))) tNil))) (tCons (tTup (tCons (tC (.str "back")) tNil)) tNil))))) (gName 4)) (tIfS (tTest (tOp rEq (tOp rModP (tVar 6) (tC (.int 3))) (tC (.int 1)))) (tAsg (tOp rCat (tVar 4) (tLst (tCons (tTup (tCons (tC (.str "set")) (tCons (tOp rModP (tOp rFdC (tVar 6) (tC (.int 3))) (tVar 3)) tNil))) (tCons (tTup (tCons (tC (.str "turn")) tNil)) (tCons (tTup (tCons (tC (.str "go")) (tCons (tOp (rIxL K) (tVar 2) (tOp rModP (tOp rFdC (tVar 6) (tC (.int 18))) (tCB (rLenQ K) (tCons (tVar 2) tNil)))) tNil))) tNil))))) (gName 4)) (tAsg (tOp rCat (tVar 4) (tLst (tCons (tTup (tCons (tC (.str "raise")) tNil)) tNil))) (gName 4))))))
    (tRet (tTup (tCons (tVar 4) (tCons (tVar 5) tNil)))))))
def n_l_goals : List Str := ["_law_cells", "_law_total", "_law_every", "_law_boxes", "_law_rows", "_law_found", "_law_cell"]
def t_l_stretches (K : PySem.W.Frag) : TS :=
  (tSeq (tAsg (tLc (iEnum K (tCons (tVar 1) tNil)) (gTup K 2 (gCons (gName 4) (gCons (gName 5) gNil))) (tTest (tOp (rIn K false) (tOp (rIxT K) (tVar 5) (tC (.int 0))) (tTup (tCons (tC (.str "share")) (tCons (tC (.str "call")) (tCons (tC (.str "raise")) tNil)))))) (tVar 4) [4, 5]) (gName 3))
    (tSeq (tAsg (tLst tNil) (gName 6))
    (tSeq (tFor (iEnum K (tCons (tVar 0) tNil)) (gTup K 2 (gCons (gName 7) (gCons (gName 8) gNil))) (tSeq (tAsg (tOp rModP (tOp rFdC (tVar 8) (tC (.int 2))) (tCB (rLenQ K) (tCons (tVar 1) tNil))) (gName 9))
    (tSeq (tAsg (tOp rAddI (tVar 9) (tOp rModP (tOp rFdC (tVar 8) (tC (.int 300))) (tOp rAddI (tOp rSubI (tCB (rLenQ K) (tCons (tVar 1) tNil)) (tVar 9)) (tC (.int 1))))) (gName 10))
    (tSeq (tIfS (tAnd (tTest (tOp rEq (tOp rModP (tVar 8) (tC (.int 2))) (tC (.int 1)))) (tTest (tOp (rNeD K) (tVar 3) (tLst tNil)))) (tSeq (tAsg (tCB rMax2 (tCons (tC (.int 0)) (tCons (tOp rSubI (tOp (rIxL K) (tVar 3) (tOp rModP (tOp rFdC (tVar 8) (tC (.int 2))) (tCB (rLenQ K) (tCons (tVar 3) tNil)))) (tOp rModP (tOp rFdC (tVar 8) (tC (.int 64))) (tC (.int 3)))) tNil))) (gName 9))
    (tAsg (tCB rMin2 (tCons (tCB (rLenQ K) (tCons (tVar 1) tNil)) (tCons (tOp rAddI (tVar 9) (tOp rModP (tOp rFdC (tVar 8) (tC (.int 192))) (tC (.int 4)))) tNil))) (gName 10))) tNext)
    (tDrop (tBM K "list" rAppend (tVar 6) (tCons (tTup (tCons (tVar 9) (tCons (tVar 10) (tCons (tOp (rIxL K) (tVar 2) (tVar 7)) tNil)))) tNil)))))))
    (tRet (tVar 6)))))
def n_l_stretches : List Str := ["_law_cells", "_law_code_here", "_law_goals_here", "_law_spots", "_law_k", "_law_row", "_law_found", "_law_at", "_law_cell", "_law_first", "_law_behind"]
def t_l_drawn (K : PySem.W.Frag) (sp_l_cell_at sp_l_places sp_l_code sp_l_goals sp_l_stretches : Sp) : TS :=
  (tSeq (tAsg (tOp rModP (tOp rMulI (tCall sp_l_cell_at [] E0 (tCons (tVar 0) (tCons (tC (.int 0)) tNil))) (tC (.int 48271))) (tC (.int 1000003))) (gName 1))
    (tSeq (tAsg (tOp rAddI (tC (.int 1)) (tOp rModP (tVar 1) (tC (.int 4)))) (gName 2))
    (tSeq (tAsg (tOp rAddI (tC (.int 2)) (tOp rModP (tOp rFdC (tVar 1) (tC (.int 4))) (tC (.int 5)))) (gName 3))
    (tSeq (tAsg (tOp rMulI (tC (.int 2)) (tOp rModP (tOp rFdC (tVar 1) (tC (.int 20))) (tC (.int 3)))) (gName 4))
    (tSeq (tAsg (tOp rModP (tOp rFdC (tVar 1) (tC (.int 60))) (tVar 2)) (gName 5))
    (tSeq (tAsg (tLc (iEnum K (tCons (tSl (rSlL K) (tVar 0) (tPart (tC (.int 3))) (tPart (tC (.int 27)))) tNil)) (gTup K 2 (gCons (gName 7) (gCons (gName 8) gNil))) tYes (tOp rModP (tOp rMulI (tOp rAddI (tVar 8) (tOp rMulI (tC (.int 7919)) (tVar 7))) (tC (.int 48271))) (tC (.int 1000003))) [7, 8]) (gName 6))
    (tSeq (tAsg (tLc (iRng1 (tCons (tVar 2) tNil)) (gName 7) tYes (tSlK K (tVar 6) (tPart (tVar 7)) tNoPart (tPart (tVar 2))) [7]) (gName 9))
    (tSeq (tAsg (tCall sp_l_places [] E0 (tCons (tVar 9) (tCons (tVar 4) (tCons (tVar 5) tNil)))) (gName 10))
    (tSeq (tAsg (tCall sp_l_code [] E0 (tCons (tVar 9) (tCons (tVar 10) (tCons (tVar 4) (tCons (tVar 5) (tCons (tVar 3) tNil)))))) (gTup K 2 (gCons (gName 11) (gCons (gName 12) gNil))))
    (tSeq (tAsg (tLc (iRng2 (tCons (tC (.int 1)) (tCons (tOp rAddI (tC (.int 1)) (tOp rModP (tOp rFdC (tVar 1) (tC (.int 240))) (tC (.int 6)))) tNil))) (gName 7) tYes (tOp rModP (tOp rMulI (tOp rAddI (tVar 1) (tOp rMulI (tC (.int 104729)) (tVar 7))) (tC (.int 48271))) (tC (.int 1000003))) [7]) (gName 13))
    (tSeq (tAsg (tCall sp_l_goals [] E0 (tCons (tLc (iList K (tVar 13)) (gName 8) tYes (tOp rFdC (tVar 8) (tC (.int 7))) [8]) (tCons (tCB (rLenQ K) (tCons (tVar 11) tNil)) (tCons (tVar 12) (tCons (tVar 3) tNil))))) (gTup K 2 (gCons (gName 14) (gCons (gName 15) gNil))))
    (tRet (tTup (tCons (tOp rCat (tVar 11) (tVar 14)) (tCons (tCall sp_l_stretches [] E0 (tCons (tVar 13) (tCons (tVar 11) (tCons (tVar 15) tNil)))) (tCons (tLc (iList K (tVar 10)) (gName 16) tYes (tOp (rIxL K) (tVar 16) (tC (.int 0))) [16]) (tCons (tVar 3) tNil)))))))))))))))))
def n_l_drawn : List Str := ["_law_script", "_law_first", "_law_many", "_law_boxes", "_law_lead", "_law_turn_here", "_law_cells", "_law_k", "_law_cell", "_law_groups", "_law_places_here", "_law_code_here", "_law_every", "_law_more", "_law_rows", "_law_goals_here", "_law_row"]
def t_law (K : PySem.W.Frag) (sp_l_drawn sp_l_number sp_l_cell_at sp_run sp_l_is sp_l_gone : Sp) : TS :=
  (tSeq (tAsg (tCall sp_l_drawn [] E0 (tCons (tVar 0) tNil)) (gName 1))
    (tSeq (tAsg (tCall sp_l_number [] E0 (tCons (tCall sp_l_cell_at [] E0 (tCons (tVar 0) (tCons (tC (.int 1)) tNil))) tNil)) (gName 2))
    (tSeq (tAsg (tOp rModP (tCall sp_l_cell_at [] E0 (tCons (tVar 0) (tCons (tC (.int 2)) tNil))) (tC (.int 26))) (gName 3))
    (tSeq (tAsg (tTup (tCons (tCB (rListQ K) (tCons (tOp (rIxT K) (tVar 1) (tC (.int 0))) tNil)) (tCons (tCB (rListQ K) (tCons (tOp (rIxT K) (tVar 1) (tC (.int 1))) tNil)) (tCons (tCB (rListQ K) (tCons (tOp (rIxT K) (tVar 1) (tC (.int 2))) tNil)) (tCons (tOp (rIxT K) (tVar 1) (tC (.int 3))) tNil))))) (gName 4))
    (tSeq (tAsg (tCall sp_run [] E0 (tCons (tVar 4) (tCons (tVar 2) (tCons (tVar 3) tNil)))) (gName 5))
    (tSeq (tIfS (tOr (tTest (tOp (rNeD K) (tVar 4) (tVar 1))) (tNot (tB (tCall sp_l_is [] E0 (tCons (tVar 5) tNil))))) (tRet (tC (.bl false))) tNext)
    (tRet (tOp (rEqD K) (tVar 5) (tCall sp_l_gone [] E0 (tCons (tVar 1) (tCons (tVar 2) (tCons (tVar 3) tNil))))))))))))
def n_law : List Str := ["_law_script", "_law_parts", "_law_given_here", "_law_turns", "_law_handed", "_law_found"]
end U

set_option maxHeartbeats 4000000
/-! code that ends: a note at each row tells the pile's height, what is known of its top and of a box, and a rank that falls -/
namespace Un
open PySem
structure Ann where
  row : Rw
  h : Nat
  tp : Option Int
  bx : Option (Int × Int)
  rk : Nat
/-- what is asked of the row behind -/
def Nxt (A : List Ann) (p : Nat) (h : Nat) (tp : Option Int) (bx : Option (Int × Int)) (rk : Nat) : Prop :=
  ∃ b, A[p + 1]? = some b ∧ b.h = h ∧ (b.tp = none ∨ b.tp = tp) ∧ (b.bx = none ∨ b.bx = bx) ∧ b.rk < rk
/-- what is asked of a goal -/
def Tgt (A : List Ann) (q : Int) (h : Nat) (rk : Nat) : Prop := ∃ b, nth A q = some b ∧ b.h = h ∧ b.tp = none ∧ b.bx = none ∧ b.rk < rk
def OkAt (A : List Ann) (starts : List Int) (nb R : Nat) (p : Nat) (a : Ann) : Prop := a.rk < R ∧ match a.row with
  | .put n => Nxt A p (a.h + 1) (some n) none a.rk
  | .get k => 0 ≤ k ∧ k < nb ∧ Nxt A p (a.h + 1) none none a.rk
  | .set k => 0 ≤ k ∧ k < nb ∧ ∃ h, a.h = h + 1 ∧ Nxt A p h none (a.tp.map fun v => (k, v)) a.rk
  | .say => ∃ h, a.h = h + 1 ∧ Nxt A p h none none a.rk
  | .add => ∃ h, a.h = h + 2 ∧ Nxt A p (h + 1) none none a.rk
  | .sub => ∃ h, a.h = h + 2 ∧ Nxt A p (h + 1) none none a.rk
  | .less => ∃ h, a.h = h + 2 ∧ Nxt A p (h + 1) none none a.rk
  | .share => ∃ h, a.h = h + 2 ∧ Nxt A p (h + 1) none none a.rk
  | .go q => Tgt A q a.h a.rk
  | .nought q => ∃ h, a.h = h + 1 ∧ Tgt A q h a.rk ∧ Nxt A p h none none a.rk
  | .on k => ∃ v, a.bx = some (k, v) ∧ Tgt A v a.h a.rk
  | .turn => Nxt A p a.h none none R
  | .call f => ∃ h, a.h = h + 1 ∧ Nxt A p (h + 1) none none R ∧ ∃ s, nth starts f = some s ∧ Tgt A s 0 R
  | .back => ∃ h, a.h = h + 1
  | .raise => ∃ h, a.h = h + 1
structure AnnOk (A : List Ann) (P : Parts) (nb R : Nat) : Prop where
  code : P.code = A.map (·.row)
  boxes : P.boxes = nb
  one : 0 < nb
  rows : ∀ (p : Nat) (a : Ann), A[p]? = some a → OkAt A P.starts nb R p a
  strz : ∀ s ∈ P.str, ∀ (p : Nat) (a : Ann), A[p]? = some a → s.1 ≤ p → (p : Int) < s.2.1 → Tgt A s.2.2 1 a.rk
/-- a frame that stands at its row -/
def Here (A : List Ann) (nb : Nat) (f : Fr) (a : Ann) : Prop :=
  nth A f.place = some a ∧ f.pile.length = a.h ∧ (∀ v, a.tp = some v → f.pile.head? = some v) ∧ (∀ k v, a.bx = some (k, v) → nth f.boxes k = some v) ∧ f.boxes.length = nb
/-- a frame that waits for a call's answer -/
def Waits (A : List Ann) (nb : Nat) (f : Fr) : Prop :=
  ∃ a g, nth A f.place = some a ∧ a.row = .call g ∧ f.pile.length + 1 = a.h ∧ f.boxes.length = nb
/-- the whole machine -/
def Stand (A : List Ann) (nb R : Nat) (M : Mc) (m : Nat) : Prop := match M.frames with
  | [] => False
  | f :: r => M.ended = none ∧ r.length + 1 ≤ 8 ∧ (∃ a, Here A nb f a ∧ M.turns * (10 * R) + (r.length + 1) * R + a.rk = m) ∧ ∀ g ∈ r, Waits A nb g
section
variable {A : List Ann} {P : Parts} {nb R : Nat}
theorem nth_nat {α : Type} {xs : List α} {i : Int} {a : α} (h : nth xs i = some a) : 0 ≤ i ∧ xs[i.toNat]? = some a := by
  unfold nth at h
  split at h
  · exact ⟨by assumption, h⟩
  · cases h
theorem nth_of {α : Type} {xs : List α} {i : Nat} {a : α} (h : xs[i]? = some a) : nth xs (i : Int) = some a := by
  unfold nth
  rw [if_pos (by omega)]
  exact h
theorem AnnOk.row {p : Int} {a : Ann} (o : AnnOk A P nb R) (h : nth A p = some a) : nth P.code p = some a.row := by
  obtain ⟨h0, h1⟩ := nth_nat h
  unfold nth
  rw [if_pos h0, o.code, List.getElem?_map, h1]
  rfl
theorem nxt_here {p : Int} {h : Nat} {tp : Option Int} {bx : Option (Int × Int)} {rk : Nat} {f : Fr} (h0 : 0 ≤ p) (hp : f.place = p + 1) (q : Nxt A p.toNat h tp bx rk) (hl : f.pile.length = h) (ht : ∀ v, tp = some v → f.pile.head? = some v)
    (hb : ∀ k v, bx = some (k, v) → nth f.boxes k = some v) (hn : f.boxes.length = nb) : ∃ b, Here A nb f b ∧ b.rk < rk := by
  obtain ⟨b, h1, h2, h3, h4, h5⟩ := q
  refine ⟨b, ⟨?_, by omega, fun v e => ?_, fun k v e => ?_, hn⟩, h5⟩
  · rw [hp]
    have e : p + 1 = ((p.toNat + 1 : Nat) : Int) := by omega
    rw [e]
    exact nth_of h1
  · rcases h3 with z | z
    · rw [z] at e; cases e
    · exact ht v (by rw [← z]; exact e)
  · rcases h4 with z | z
    · rw [z] at e; cases e
    · exact hb k v (by rw [← z]; exact e)
theorem tgt_here {q : Int} {h rk : Nat} {f : Fr} (t : Tgt A q h rk) (hp : f.place = q) (hl : f.pile.length = h) (hn : f.boxes.length = nb) : ∃ b, Here A nb f b ∧ b.rk < rk := by
  obtain ⟨b, h1, h2, h3, h4, h5⟩ := t
  exact ⟨b, ⟨by rw [hp]; exact h1, by omega, fun v e => (by rw [h3] at e; cases e), fun k v e => (by rw [h4] at e; cases e), hn⟩, h5⟩
/-- a fault: some frame goes on, or the machine ends -/
theorem goal_in {S : List Stretch} {p g : Int} (h : goalOf S p = some g) : ∃ s ∈ S, s.1 ≤ p ∧ p < s.2.1 ∧ s.2.2 = g := by
  induction S with
  | nil => cases h
  | cons s r ih =>
    unfold goalOf at h
    split at h
    · rename_i c
      cases h
      exact ⟨s, List.mem_cons_self .., c.1, c.2, rfl⟩
    · obtain ⟨z, h1, h2⟩ := ih h
      exact ⟨z, List.mem_cons_of_mem _ h1, h2⟩
theorem goal_tgt (o : AnnOk A P nb R) {p g : Int} {a : Ann} (ha : nth A p = some a) (h : goalOf P.str p = some g) : Tgt A g 1 a.rk := by
  obtain ⟨s, hs, h1, h2, rfl⟩ := goal_in h
  obtain ⟨h0, hp⟩ := nth_nat ha
  exact o.strz s hs _ a hp (by omega) (by omega)
theorem faultW (o : AnnOk A P nb R) (n : Int) : ∀ r : List Fr, (∀ g ∈ r, Waits A nb g) → faultF P.str n r = [] ∨ ∃ f r', faultF P.str n r = f :: r' ∧ r'.length + 1 ≤ r.length ∧ (∃ b, Here A nb f b ∧ b.rk < R) ∧ ∀ g ∈ r', Waits A nb g
  | [], _ => .inl rfl
  | f :: r, h => by
    obtain ⟨a, g, h1, h2, h3, h4⟩ := h f (List.mem_cons_self ..)
    unfold faultF
    cases hg : goalOf P.str f.place with
    | some g =>
      refine .inr ⟨_, _, rfl, by simp, ?_, fun z hz => h z (List.mem_cons_of_mem _ hz)⟩
      obtain ⟨b, e1, e2⟩ := tgt_here (f := { f with pile := [n], place := g }) (nb := nb) (goal_tgt o h1 hg) rfl rfl h4
      have := (o.rows _ _ (nth_nat h1).2).1
      exact ⟨b, e1, by omega⟩
    | none =>
      rcases faultW o n r (fun z hz => h z (List.mem_cons_of_mem _ hz)) with e | ⟨f', r', e1, e2, e3, e4⟩
      · exact .inl e
      · exact .inr ⟨f', r', e1, by simp only [List.length_cons]; omega, e3, e4⟩
theorem fault_stand (o : AnnOk A P nb R) (n : Int) {f : Fr} {r : List Fr} {said : List Int} {t m : Nat} {a : Ann} (ha : nth A f.place = some a) (hb : f.boxes.length = nb) (hr : ∀ g ∈ r, Waits A nb g) (h8 : r.length + 1 ≤ 8)
    (hm : t * (10 * R) + (r.length + 1) * R + a.rk ≤ m) : (Mc.fault P ⟨f :: r, said, t, none⟩ n).ended.isSome = true ∨ ∃ m', m' < m ∧ Stand A nb R (Mc.fault P ⟨f :: r, said, t, none⟩ n) m' := by
  unfold Mc.fault
  dsimp only
  unfold faultF
  cases hg : goalOf P.str f.place with
  | some g =>
    dsimp only
    obtain ⟨b, e1, e2⟩ := tgt_here (f := { f with pile := [n], place := g }) (nb := nb) (goal_tgt o ha hg) rfl rfl hb
    refine .inr ⟨_, ?_, rfl, h8, ⟨b, e1, rfl⟩, hr⟩
    dsimp only
    omega
  | none =>
    dsimp only
    rcases faultW o n r hr with e | ⟨f', r', e1, e2, ⟨b, e3, e4⟩, e5⟩
    · rw [e]
      exact .inl rfl
    · rw [e1]
      refine .inr ⟨_, ?_, rfl, by omega, ⟨b, e3, rfl⟩, e5⟩
      dsimp only
      have : (r'.length + 1) * R ≤ r.length * R := Nat.mul_le_mul_right _ e2
      have : (r.length + 1) * R = r.length * R + R := Nat.succ_mul _ _
      omega
theorem turn_less {t R k m : Nat} (ht : t ≠ 0) (hk : k ≤ 9) (hR : 0 < R) (h : t * (10 * R) + R ≤ m) {x : Nat} (hx : x < R) : (t - 1) * (10 * R) + k * R + x < m := by
  obtain ⟨s, rfl⟩ : ∃ s, t = s + 1 := ⟨t - 1, by omega⟩
  have e1 : (s + 1) * (10 * R) = s * (10 * R) + 10 * R := Nat.succ_mul _ _
  have e2 : k * R ≤ 9 * R := Nat.mul_le_mul_right _ hk
  rw [Nat.add_sub_cancel]
  omega
theorem step_stand (o : AnnOk A P nb R) {M : Mc} {m : Nat} (h : Stand A nb R M m) : ∃ M', rowStep P M = some M' ∧ (M'.ended.isSome = true ∨ ∃ m', m' < m ∧ Stand A nb R M' m') := by
  obtain ⟨fs, said, t, en⟩ := M
  cases fs with
  | nil => exact h.elim
  | cons f r =>
  obtain ⟨he, h8, ⟨a, ⟨ha, hl, ht, hb, hn⟩, hm⟩, hr⟩ := h
  dsimp only at he hm
  subst he
  subst hm
  have ok := o.rows _ _ (nth_nat ha).2
  have h0 := (nth_nat ha).1
  obtain ⟨hR, ok⟩ := ok
  have hRm : (r.length + 1) * R = r.length * R + R := Nat.succ_mul _ _
  unfold rowStep
  dsimp only
  rw [o.row ha]
  dsimp only
  -- on with the same frames
  have fwd : ∀ {g : Fr} {said' : List Int} {b : Ann}, Here A nb g b → b.rk < a.rk → (∃ M', some (⟨g :: r, said', t, none⟩ : Mc) = some M' ∧ (M'.ended.isSome = true ∨ ∃ m', m' < t * (10 * R) + (r.length + 1) * R + a.rk ∧ Stand A nb R M' m')) := fun {g said' b} hg hrk =>
    ⟨_, rfl, .inr ⟨_, by dsimp only; omega, rfl, h8, ⟨b, hg, rfl⟩, hr⟩⟩
  obtain ⟨place, boxes, pile⟩ := f
  dsimp only at ha hl ht hb hn h0 ok fwd ⊢
  have gk : ∀ k : Int, 0 ≤ k → k < nb → ∃ v, nth boxes k = some v := fun k k0 k1 => by
    unfold nth
    rw [if_pos k0]
    exact ⟨_, List.getElem?_eq_getElem (by omega)⟩
  cases hrow : a.row with
  | put n =>
    rw [hrow] at ok
    obtain ⟨b, hb', hk⟩ := nxt_here (f := ⟨place + 1, boxes, n :: pile⟩) h0 rfl ok (by simp; omega) (fun v e => by cases e; rfl) (fun _ _ e => by cases e) hn
    exact fwd hb' hk
  | get k =>
    rw [hrow] at ok
    obtain ⟨k0, k1, ok⟩ := ok
    obtain ⟨v, hv⟩ := gk k k0 k1
    obtain ⟨b, hb', hk⟩ := nxt_here (f := ⟨place + 1, boxes, v :: pile⟩) h0 rfl ok (by simp; omega) (fun v e => by cases e) (fun _ _ e => by cases e) hn
    simp only [stepRw, moveRw, hv]
    exact fwd hb' hk
  | set k =>
    rw [hrow] at ok
    obtain ⟨k0, k1, h, e, ok⟩ := ok
    cases pile with
    | nil => simp at hl; omega
    | cons v q =>
      simp only [stepRw, moveRw]
      rw [if_pos ⟨k0, by omega⟩]
      obtain ⟨b, hb', hk⟩ := nxt_here (nb := nb) (f := ⟨place + 1, boxes.set k.toNat v, q⟩) h0 rfl ok (by simp at hl ⊢; omega) (fun v e => by cases e) (fun j u e => by
        cases htp : a.tp with
        | none => rw [htp] at e; cases e
        | some z =>
          rw [htp] at e
          cases e
          have := ht _ htp
          cases this
          unfold nth
          rw [if_pos k0]
          have : k.toNat < boxes.length := by omega
          simp [this]) (by simp; exact hn)
      exact fwd hb' hk
  | say =>
    rw [hrow] at ok
    obtain ⟨h, e, ok⟩ := ok
    cases pile with
    | nil => simp at hl; omega
    | cons v q =>
      obtain ⟨b, hb', hk⟩ := nxt_here (f := ⟨place + 1, boxes, q⟩) h0 rfl ok (by simp at hl ⊢; omega) (fun v e => by cases e) (fun _ _ e => by cases e) hn
      exact fwd hb' hk
  | add =>
    rw [hrow] at ok
    obtain ⟨h, e, ok⟩ := ok
    match pile, hl with
    | [], hl => simp at hl; omega
    | [_], hl => simp at hl; omega
    | y :: x :: q, hl =>
      obtain ⟨b, hb', hk⟩ := nxt_here (f := ⟨place + 1, boxes, (x + y) :: q⟩) h0 rfl ok (by simp at hl ⊢; omega) (fun v e => by cases e) (fun _ _ e => by cases e) hn
      exact fwd hb' hk
  | sub =>
    rw [hrow] at ok
    obtain ⟨h, e, ok⟩ := ok
    match pile, hl with
    | [], hl => simp at hl; omega
    | [_], hl => simp at hl; omega
    | y :: x :: q, hl =>
      obtain ⟨b, hb', hk⟩ := nxt_here (f := ⟨place + 1, boxes, (x - y) :: q⟩) h0 rfl ok (by simp at hl ⊢; omega) (fun v e => by cases e) (fun _ _ e => by cases e) hn
      exact fwd hb' hk
  | less =>
    rw [hrow] at ok
    obtain ⟨h, e, ok⟩ := ok
    match pile, hl with
    | [], hl => simp at hl; omega
    | [_], hl => simp at hl; omega
    | y :: x :: q, hl =>
      obtain ⟨b, hb', hk⟩ := nxt_here (f := ⟨place + 1, boxes, (if x < y then 1 else 0) :: q⟩) h0 rfl ok (by simp at hl ⊢; omega) (fun v e => by cases e) (fun _ _ e => by cases e) hn
      exact fwd hb' hk
  | share =>
    rw [hrow] at ok
    obtain ⟨h, e, ok⟩ := ok
    match pile, hl with
    | [], hl => simp at hl; omega
    | [_], hl => simp at hl; omega
    | y :: x :: q, hl =>
      simp only [stepRw, meetRw]
      by_cases c : y = 0
      · rw [if_pos c]
        exact ⟨_, rfl, fault_stand o 101 (f := ⟨place, boxes, q⟩) ha hn hr h8 (Nat.le_refl _)⟩
      · rw [if_neg c]
        obtain ⟨b, hb', hk⟩ := nxt_here (f := ⟨place + 1, boxes, (x.fdiv y) :: q⟩) h0 rfl ok (by simp at hl ⊢; omega) (fun v e => by cases e) (fun _ _ e => by cases e) hn
        exact fwd hb' hk
  | go p =>
    rw [hrow] at ok
    obtain ⟨b, hb', hk⟩ := tgt_here (f := ⟨p, boxes, pile⟩) ok rfl hl hn
    exact fwd hb' hk
  | nought p =>
    rw [hrow] at ok
    obtain ⟨h, e, ok, ok2⟩ := ok
    cases pile with
    | nil => simp at hl; omega
    | cons v q =>
      simp only [stepRw, jumpRw]
      by_cases c : v = 0
      · rw [if_pos c]
        obtain ⟨b, hb', hk⟩ := tgt_here (f := ⟨p, boxes, q⟩) ok rfl (by simp at hl ⊢; omega) hn
        exact fwd hb' hk
      · rw [if_neg c]
        obtain ⟨b, hb', hk⟩ := nxt_here (f := ⟨place + 1, boxes, q⟩) h0 rfl ok2 (by simp at hl ⊢; omega) (fun v e => by cases e) (fun _ _ e => by cases e) hn
        exact fwd hb' hk
  | on k =>
    rw [hrow] at ok
    obtain ⟨v, e, ok⟩ := ok
    simp only [stepRw, jumpRw, hb _ _ e]
    obtain ⟨b, hb', hk⟩ := tgt_here (f := ⟨v, boxes, pile⟩) ok rfl hl hn
    exact fwd hb' hk
  | turn =>
    rw [hrow] at ok
    simp only [stepRw]
    by_cases c : t = 0
    · rw [if_pos c]
      exact ⟨_, rfl, .inl rfl⟩
    · rw [if_neg c]
      obtain ⟨b, hb', hk⟩ := nxt_here (f := ⟨place + 1, boxes, pile⟩) h0 rfl ok hl (fun v e => by cases e) (fun _ _ e => by cases e) hn
      exact ⟨_, rfl, .inr ⟨_, turn_less c (k := r.length + 1) (by omega) (by omega) (by omega) hk, rfl, h8, ⟨b, hb', rfl⟩, hr⟩⟩
  | call g =>
    rw [hrow] at ok
    obtain ⟨h, e, ok, s, hs, ok2⟩ := ok
    cases pile with
    | nil => simp at hl; omega
    | cons v q =>
      simp only [stepRw, Mc.enter]
      by_cases c : t = 0
      · rw [if_pos c]
        exact ⟨_, rfl, .inl rfl⟩
      rw [if_neg c]
      by_cases c8 : (⟨place, boxes, q⟩ :: r : List Fr).length = 8
      · rw [if_pos c8]
        refine ⟨_, rfl, fault_stand o 102 (f := ⟨place, boxes, q⟩) ha hn hr h8 ?_⟩
        have := turn_less c (k := r.length + 1) (R := R) (m := t * (10 * R) + (r.length + 1) * R + a.rk) (by omega) (by omega) (by omega) hR
        omega
      · rw [if_neg c8, hs]
        obtain ⟨b, hb', hk⟩ := tgt_here (nb := nb) (f := ⟨s, newBoxes P.boxes v, []⟩) ok2 rfl rfl (by
          simp [newBoxes, o.boxes]
          have := o.one
          omega)
        refine ⟨_, rfl, .inr ⟨_, turn_less c (k := r.length + 1 + 1) (by omega) (by omega) (by omega) hk, rfl, ?_, ⟨b, hb', rfl⟩, ?_⟩⟩
        · simp at c8 ⊢; omega
        · intro z hz
          rcases List.mem_cons.mp hz with e2 | e2
          · subst e2
            exact ⟨a, g, ha, hrow, by simp at hl ⊢; omega, hn⟩
          · exact hr z e2
  | back =>
    rw [hrow] at ok
    obtain ⟨h, e⟩ := ok
    cases pile with
    | nil => simp at hl; omega
    | cons v q =>
      cases r with
      | nil => exact ⟨_, rfl, .inl rfl⟩
      | cons g r =>
        obtain ⟨a2, g2, i1, i2, i3, i4⟩ := hr g (List.mem_cons_self ..)
        have ok3 := o.rows _ _ (nth_nat i1).2
        obtain ⟨hR2, ok3⟩ := ok3
        rw [i2] at ok3
        obtain ⟨h', e', ok3, _⟩ := ok3
        obtain ⟨b, hb', hk⟩ := nxt_here (nb := nb) (f := g.lay v) (nth_nat i1).1 rfl ok3 (by simp [Fr.lay]; omega) (fun v e => by cases e) (fun _ _ e => by cases e) i4
        refine ⟨_, rfl, .inr ⟨t * (10 * R) + (r.length + 1) * R + b.rk, ?_, rfl, by simp at h8 ⊢; omega, ⟨b, hb', rfl⟩, fun z hz => hr z (List.mem_cons_of_mem _ hz)⟩⟩
        simp only [List.length_cons] at hRm ⊢
        omega
  | raise =>
    rw [hrow] at ok
    obtain ⟨h, e⟩ := ok
    cases pile with
    | nil => simp at hl; omega
    | cons v q => exact ⟨_, rfl, fault_stand o v (f := ⟨place, boxes, q⟩) ha hn hr h8 (Nat.le_refl _)⟩
theorem ends_stand (o : AnnOk A P nb R) : ∀ (m : Nat) (M : Mc), Stand A nb R M m → ∃ n M', n ≤ m + 1 ∧ rowSteps P n M = some M' ∧ M'.ended.isSome = true := by
  intro m
  induction m using Nat.strongRecOn with
  | _ m ih =>
    intro M h
    obtain ⟨M1, e, h1⟩ := step_stand o h
    have hen : M.ended = none := by
      obtain ⟨fs, said, t, en⟩ := M
      cases fs with
      | nil => exact h.elim
      | cons f r => exact h.1
    rcases h1 with h1 | ⟨m', hlt, h1⟩
    · exact ⟨1, M1, by omega, rowSteps_one hen e, h1⟩
    · obtain ⟨n, M', h2, h3, h4⟩ := ih m' hlt M1 h1
      exact ⟨1 + n, M', by omega, rowSteps_then (rowSteps_one hen e) h3, h4⟩
end
end Un

set_option maxHeartbeats 4000000
/-! k05's code, in plain Lean: that it ends -/
namespace Un
open PySem
def size5 (k : Int) : Nat := [2, 2, 4, 2, 1, 3, 2, 3, 2, 4].getD k.toNat 0
def group5 (c kd near far : Int) : List Rw :=
  if kd = 0 then [.put (c / 40 % 7 - 2), .say]
  else if kd = 1 ∨ kd = 8 then [.get (c / 10 % 4), .say]
  else if kd = 2 ∨ kd = 9 then [.get (c / 10 % 4), .put (c / 40 % 7 - 2), .add, .set (c / 10 % 4)]
  else if kd = 3 then [.get (c / 10 % 4), .nought near]
  else if kd = 4 then [.go near]
  else if kd = 5 then [.put near, .set (4 + c / 40 % 2), .on (4 + c / 40 % 2)]
  else if kd = 6 then [.turn, .go far]
  else [.turn, .get (c / 10 % 4), .nought far]
def plc5 : Nat → List Int → List Nat
  | p, [] => [p]
  | p, c :: cs => p :: plc5 (p + size5 (c % 10)) cs
def near5 (pl : List Nat) (n i : Nat) (c : Int) : Nat := pl.getD (i + 1 + (c / 280 % ((n : Int) - i)).toNat) 0
def far5 (pl : List Nat) (n : Nat) (c : Int) : Nat := pl.getD (c / 280 % ((n : Int) + 1)).toNat 0
def grps5 (pl : List Nat) (n : Nat) : Nat → List Int → List Rw
  | _, [] => []
  | i, c :: cs => group5 c (c % 10) (near5 pl n i c) (far5 pl n c) ++ grps5 pl n (i + 1) cs
def lead5 : Nat → List Rw
  | 0 => []
  | n + 1 => .put 5 :: .back :: lead5 n
def code5 (cells : List Int) (lead : Nat) (below : List Int) : List Rw :=
  lead5 lead ++ below.map Rw.put ++ grps5 (plc5 (2 * lead + below.length) cells) cells.length 0 cells ++ [.get 0] ++ List.replicate below.length .add ++ [.back]
/-! ### the notes -/
def ann5 (c kd near far : Int) (b p L : Nat) : List Ann :=
  if kd = 0 then [⟨.put (c / 40 % 7 - 2), b, none, none, L - p⟩, ⟨.say, b + 1, none, none, L - (p + 1)⟩]
  else if kd = 1 ∨ kd = 8 then [⟨.get (c / 10 % 4), b, none, none, L - p⟩, ⟨.say, b + 1, none, none, L - (p + 1)⟩]
  else if kd = 2 ∨ kd = 9 then [⟨.get (c / 10 % 4), b, none, none, L - p⟩, ⟨.put (c / 40 % 7 - 2), b + 1, none, none, L - (p + 1)⟩, ⟨.add, b + 2, none, none, L - (p + 2)⟩, ⟨.set (c / 10 % 4), b + 1, none, none, L - (p + 3)⟩]
  else if kd = 3 then [⟨.get (c / 10 % 4), b, none, none, L - p⟩, ⟨.nought near, b + 1, none, none, L - (p + 1)⟩]
  else if kd = 4 then [⟨.go near, b, none, none, L - p⟩]
  else if kd = 5 then [⟨.put near, b, none, none, L - p⟩, ⟨.set (4 + c / 40 % 2), b + 1, some near, none, L - (p + 1)⟩, ⟨.on (4 + c / 40 % 2), b, none, some (4 + c / 40 % 2, near), L - (p + 2)⟩]
  else if kd = 6 then [⟨.turn, b, none, none, L - p⟩, ⟨.go far, b, none, none, 2 * L⟩]
  else [⟨.turn, b, none, none, L - p⟩, ⟨.get (c / 10 % 4), b, none, none, 2 * L + 1⟩, ⟨.nought far, b + 1, none, none, 2 * L⟩]
theorem ann5_rows (c kd near far : Int) (b p L : Nat) : (ann5 c kd near far b p L).map (·.row) = group5 c kd near far := by
  unfold ann5 group5
  repeat' split
  all_goals rfl
theorem ann5_len {c kd near far : Int} {b p L : Nat} (h0 : 0 ≤ kd) (h1 : kd < 10) : (ann5 c kd near far b p L).length = size5 kd := by
  obtain ⟨k, rfl⟩ : ∃ k : Nat, kd = (k : Int) := ⟨kd.toNat, by omega⟩
  match k, h1 with
  | 0, _ => rfl
  | 1, _ => rfl
  | 2, _ => rfl
  | 3, _ => rfl
  | 4, _ => rfl
  | 5, _ => rfl
  | 6, _ => rfl
  | 7, _ => rfl
  | 8, _ => rfl
  | 9, _ => rfl
  | k + 10, h => omega
/-- a place where a group begins -/
def St (A : List Ann) (b L : Nat) (q : Nat) : Prop := ∃ a, A[q]? = some a ∧ a.h = b ∧ a.tp = none ∧ a.bx = none ∧ a.rk = L - q
section
variable {A : List Ann} {S : List Int} {nb R b L p : Nat}
theorem St.nxt {tp : Option Int} {bx : Option (Int × Int)} {rk : Nat} (h : St A b L (p + 1)) (hr : L - (p + 1) < rk) : Nxt A p b tp bx rk := by
  obtain ⟨a, h1, h2, h3, h4, h5⟩ := h
  exact ⟨a, h1, h2, .inl h3, .inl h4, by omega⟩
theorem St.tgt {q rk : Nat} (h : St A b L q) (hr : L - q < rk) : Tgt A (q : Int) b rk := by
  obtain ⟨a, h1, h2, h3, h4, h5⟩ := h
  exact ⟨a, nth_of h1, h2, h3, h4, by omega⟩
theorem at_drop {α : Type} {A : List α} {p : Nat} {xs ys : List α} (h : A.drop p = xs ++ ys) {i : Nat} {x : α} (e : xs[i]? = some x) : A[p + i]? = some x := by
  rw [← List.getElem?_drop, h, List.getElem?_append_left]
  · exact e
  · rcases Nat.lt_or_ge i xs.length with z | z
    · exact z
    · rw [List.getElem?_eq_none z] at e; cases e
theorem drop_add {α : Type} {A : List α} {p n : Nat} {xs ys : List α} (h : A.drop p = xs ++ ys) (hn : xs.length = n) : A.drop (p + n) = ys := by
  rw [← List.drop_drop, h, ← hn, List.drop_left]
def OkL (A : List Ann) (S : List Int) (nb R p : Nat) (B : List Ann) : Prop := ∀ (i : Nat) (a : Ann), B[i]? = some a → OkAt A S nb R (p + i) a
theorem OkL.nil : OkL A S nb R p [] := fun i a h => by simp at h
theorem OkL.cons {x : Ann} {B : List Ann} (h : OkAt A S nb R p x) (r : OkL A S nb R (p + 1) B) : OkL A S nb R p (x :: B) := fun i a e => by
  cases i with
  | zero => cases e; exact h
  | succ i =>
    have := r i a e
    rwa [show p + 1 + i = p + (i + 1) by omega] at this
theorem OkL.app {B C : List Ann} {n : Nat} (h : OkL A S nb R p B) (hn : B.length = n) (r : OkL A S nb R (p + n) C) : OkL A S nb R p (B ++ C) := fun i a e => by
  rcases Nat.lt_or_ge i B.length with z | z
  · rw [List.getElem?_append_left z] at e
    exact h i a e
  · rw [List.getElem?_append_right z] at e
    have := r _ _ e
    rwa [show p + n + (i - B.length) = p + i by omega] at this
theorem ann5_ok {c kd : Int} {near far : Nat} {rest : List Ann} (h0 : 0 ≤ kd) (h1 : kd < 10) (hA : A.drop p = ann5 c kd near far b p L ++ rest) (hL : p + size5 kd < L) (hR : 2 * L + 2 ≤ R)
    (st : St A b L (p + size5 kd)) (sn : St A b L near) (hn : p + size5 kd ≤ near) (sf : St A b L far) : OkL A S 6 R p (ann5 c kd near far b p L) := by
  obtain ⟨k, rfl⟩ : ∃ k : Nat, kd = (k : Int) := ⟨kd.toNat, by omega⟩
  have k0 : 0 ≤ c / 10 % 4 ∧ c / 10 % 4 < ((6 : Nat) : Int) := by omega
  have k5 : 0 ≤ 4 + c / 40 % 2 ∧ 4 + c / 40 % 2 < ((6 : Nat) : Int) := by omega
  have g := fun i x e => at_drop (i := i) (x := x) hA e
  match k, h1 with
  | 0, _ =>
    have hs : size5 ((0 : Nat) : Int) = 2 := rfl
    rw [hs] at st hn hL
    exact .cons ⟨by dsimp only; omega, ⟨_, g 1 _ rfl, rfl, .inl rfl, .inl rfl, by dsimp only; omega⟩⟩ (.cons ⟨by dsimp only; omega, b, rfl, St.nxt st (by dsimp only; omega)⟩ .nil)
  | 1, _ =>
    have hs : size5 ((1 : Nat) : Int) = 2 := rfl
    rw [hs] at st hn hL
    exact .cons ⟨by dsimp only; omega, k0.1, k0.2, ⟨_, g 1 _ rfl, rfl, .inl rfl, .inl rfl, by dsimp only; omega⟩⟩ (.cons ⟨by dsimp only; omega, b, rfl, St.nxt st (by dsimp only; omega)⟩ .nil)
  | 8, _ =>
    have hs : size5 ((8 : Nat) : Int) = 2 := rfl
    rw [hs] at st hn hL
    exact .cons ⟨by dsimp only; omega, k0.1, k0.2, ⟨_, g 1 _ rfl, rfl, .inl rfl, .inl rfl, by dsimp only; omega⟩⟩ (.cons ⟨by dsimp only; omega, b, rfl, St.nxt st (by dsimp only; omega)⟩ .nil)
  | 2, _ =>
    have hs : size5 ((2 : Nat) : Int) = 4 := rfl
    rw [hs] at st hn hL
    exact .cons ⟨by dsimp only; omega, k0.1, k0.2, ⟨_, g 1 _ rfl, rfl, .inl rfl, .inl rfl, by dsimp only; omega⟩⟩ (.cons ⟨by dsimp only; omega, ⟨_, g 2 _ rfl, rfl, .inl rfl, .inl rfl, by dsimp only; omega⟩⟩
      (.cons ⟨by dsimp only; omega, b, rfl, ⟨_, g 3 _ rfl, rfl, .inl rfl, .inl rfl, by dsimp only; omega⟩⟩ (.cons ⟨by dsimp only; omega, k0.1, k0.2, b, rfl, St.nxt st (by dsimp only; omega)⟩ .nil)))
  | 9, _ =>
    have hs : size5 ((9 : Nat) : Int) = 4 := rfl
    rw [hs] at st hn hL
    exact .cons ⟨by dsimp only; omega, k0.1, k0.2, ⟨_, g 1 _ rfl, rfl, .inl rfl, .inl rfl, by dsimp only; omega⟩⟩ (.cons ⟨by dsimp only; omega, ⟨_, g 2 _ rfl, rfl, .inl rfl, .inl rfl, by dsimp only; omega⟩⟩
      (.cons ⟨by dsimp only; omega, b, rfl, ⟨_, g 3 _ rfl, rfl, .inl rfl, .inl rfl, by dsimp only; omega⟩⟩ (.cons ⟨by dsimp only; omega, k0.1, k0.2, b, rfl, St.nxt st (by dsimp only; omega)⟩ .nil)))
  | 3, _ =>
    have hs : size5 ((3 : Nat) : Int) = 2 := rfl
    rw [hs] at st hn hL
    exact .cons ⟨by dsimp only; omega, k0.1, k0.2, ⟨_, g 1 _ rfl, rfl, .inl rfl, .inl rfl, by dsimp only; omega⟩⟩ (.cons ⟨by dsimp only; omega, b, rfl, St.tgt sn (by dsimp only; omega), St.nxt st (by dsimp only; omega)⟩ .nil)
  | 4, _ =>
    have hs : size5 ((4 : Nat) : Int) = 1 := rfl
    rw [hs] at st hn hL
    exact .cons ⟨by dsimp only; omega, St.tgt sn (by dsimp only; omega)⟩ .nil
  | 5, _ =>
    have hs : size5 ((5 : Nat) : Int) = 3 := rfl
    rw [hs] at st hn hL
    exact .cons ⟨by dsimp only; omega, ⟨_, g 1 _ rfl, rfl, .inr rfl, .inl rfl, by dsimp only; omega⟩⟩ (.cons ⟨by dsimp only; omega, k5.1, k5.2, b, rfl, ⟨_, g 2 _ rfl, rfl, .inl rfl, .inr rfl, by dsimp only; omega⟩⟩
      (.cons ⟨by dsimp only; omega, near, rfl, St.tgt sn (by dsimp only; omega)⟩ .nil))
  | 6, _ =>
    have hs : size5 ((6 : Nat) : Int) = 2 := rfl
    rw [hs] at st hn hL
    exact .cons ⟨by dsimp only; omega, ⟨_, g 1 _ rfl, rfl, .inl rfl, .inl rfl, by dsimp only; omega⟩⟩ (.cons ⟨by dsimp only; omega, St.tgt sf (by dsimp only; omega)⟩ .nil)
  | 7, _ =>
    have hs : size5 ((7 : Nat) : Int) = 3 := rfl
    rw [hs] at st hn hL
    exact .cons ⟨by dsimp only; omega, ⟨_, g 1 _ rfl, rfl, .inl rfl, .inl rfl, by dsimp only; omega⟩⟩ (.cons ⟨by dsimp only; omega, k0.1, k0.2, ⟨_, g 2 _ rfl, rfl, .inl rfl, .inl rfl, by dsimp only; omega⟩⟩
      (.cons ⟨by dsimp only; omega, b, rfl, St.tgt sf (by dsimp only; omega), St.nxt st (by dsimp only; omega)⟩ .nil))
  | k + 10, h => omega
def anns5 (pl : List Nat) (n b L : Nat) : Nat → Nat → List Int → List Ann
  | _, _, [] => []
  | i, p, c :: cs => ann5 c (c % 10) (near5 pl n i c) (far5 pl n c) b p L ++ anns5 pl n b L (i + 1) (p + size5 (c % 10)) cs
theorem anns5_rows (pl : List Nat) (n b L : Nat) : ∀ (cs : List Int) (i p : Nat), (anns5 pl n b L i p cs).map (·.row) = grps5 pl n i cs
  | [], _, _ => rfl
  | c :: cs, i, p => by rw [anns5, List.map_append, ann5_rows, anns5_rows pl n b L cs, grps5]
def end5 (p : Nat) : List Int → Nat
  | [] => p
  | c :: cs => end5 (p + size5 (c % 10)) cs
theorem end5_ge : ∀ (cs : List Int) (p : Nat), p ≤ end5 p cs
  | [], p => Nat.le_refl _
  | c :: cs, p => Nat.le_trans (Nat.le_add_right ..) (end5_ge cs _)
theorem kd_ok (c : Int) : 0 ≤ c % 10 ∧ c % 10 < 10 := by omega
theorem anns5_len (pl : List Nat) (n b L : Nat) : ∀ (cs : List Int) (i p : Nat), p + (anns5 pl n b L i p cs).length = end5 p cs
  | [], i, p => rfl
  | c :: cs, i, p => by
    have := anns5_len pl n b L cs (i + 1) (p + size5 (c % 10))
    rw [anns5, List.length_append, ann5_len (kd_ok c).1 (kd_ok c).2, end5]
    omega
theorem plc5_ge : ∀ (cs : List Int) (p q : Nat), q ∈ plc5 p cs → p ≤ q
  | [], p, q, h => by simp [plc5] at h; omega
  | c :: cs, p, q, h => by
    rcases List.mem_cons.mp h with e | e
    · omega
    · have := plc5_ge cs _ q e
      omega
theorem plc5_len : ∀ (cs : List Int) (p : Nat), (plc5 p cs).length = cs.length + 1
  | [], _ => rfl
  | c :: cs, p => by simp [plc5, plc5_len cs]
theorem ann5_head (c kd near far : Int) (b p L : Nat) : ∃ a r, ann5 c kd near far b p L = a :: r ∧ a.h = b ∧ a.tp = none ∧ a.bx = none ∧ a.rk = L - p := by
  unfold ann5
  repeat' split
  all_goals exact ⟨_, _, rfl, rfl, rfl, rfl, rfl⟩
/-- every place of the list begins a group, or the end -/
theorem plc5_st {pl : List Nat} {n : Nat} : ∀ (cs : List Int) (i p : Nat) (tail : List Ann), A.drop p = anns5 pl n b L i p cs ++ tail → St A b L (end5 p cs) → ∀ q ∈ plc5 p cs, St A b L q
  | [], i, p, tail, _, h, q, hq => by
    simp [plc5] at hq
    subst hq
    exact h
  | c :: cs, i, p, tail, hA, h, q, hq => by
    rw [anns5, List.append_assoc] at hA
    rcases List.mem_cons.mp hq with e | e
    · subst e
      obtain ⟨a, r, e, h1, h2, h3, h4⟩ := ann5_head c (c % 10) (near5 pl n i c) (far5 pl n c) b q L
      exact ⟨a, at_drop (i := 0) hA (by rw [e]; rfl), h1, h2, h3, h4⟩
    · exact plc5_st cs (i + 1) _ tail (drop_add hA (ann5_len (kd_ok c).1 (kd_ok c).2)) h q e
theorem getD_mem {xs : List Nat} {i : Nat} (h : i < xs.length) : xs.getD i 0 ∈ xs := by
  rw [List.getD_eq_getElem?_getD, List.getElem?_eq_getElem h]
  exact List.getElem_mem h
theorem anns5_ok {pl : List Nat} {n : Nat} (hR : 2 * L + 2 ≤ R) (hpl : pl.length = n + 1) (hs : ∀ q ∈ pl, St A b L q) (hAL : A.length = L) : ∀ (cs : List Int) (i p : Nat) (tail : List Ann), i + cs.length = n → pl.drop i = plc5 p cs →
    A.drop p = anns5 pl n b L i p cs ++ tail → OkL A S 6 R p (anns5 pl n b L i p cs)
  | [], _, _, _, _, _, _ => .nil
  | c :: cs, i, p, tail, hi, hp, hA => by
    rw [anns5, List.append_assoc] at hA
    have hlen := ann5_len (c := c) (near := near5 pl n i c) (far := far5 pl n c) (b := b) (p := p) (L := L) (kd_ok c).1 (kd_ok c).2
    simp only [List.length_cons] at hi
    have hp2 : pl.drop (i + 1) = plc5 (p + size5 (c % 10)) cs := by
      rw [← List.drop_drop, hp]
      rfl
    have mem : ∀ j, j < cs.length + 1 → pl.getD (i + 1 + j) 0 ∈ pl.drop (i + 1) := fun j hj => by
      have e : pl.getD (i + 1 + j) 0 = (pl.drop (i + 1)).getD j 0 := by
        rw [List.getD_eq_getElem?_getD, List.getD_eq_getElem?_getD, List.getElem?_drop]
      rw [e]
      refine getD_mem ?_
      rw [hp2, plc5_len]
      exact hj
    have x1 : (c / 280 % ((n : Int) - i)).toNat < cs.length + 1 := by
      have := Int.emod_lt_of_pos (c / 280) (show (0 : Int) < (n : Int) - i by omega)
      have := Int.emod_nonneg (c / 280) (show (n : Int) - i ≠ 0 by omega)
      omega
    have hnear := mem _ x1
    have hfar : far5 pl n c ∈ pl := by
      refine getD_mem ?_
      have := Int.emod_lt_of_pos (c / 280) (show (0 : Int) < (n : Int) + 1 by omega)
      have := Int.emod_nonneg (c / 280) (show (n : Int) + 1 ≠ 0 by omega)
      omega
    have hnext : p + size5 (c % 10) ∈ pl.drop (i + 1) := by
      rw [hp2]
      cases cs <;> exact List.mem_cons_self ..
    have stn := hs _ (List.mem_of_mem_drop hnext)
    have hlt : p + size5 (c % 10) < L := by
      obtain ⟨a, h1, _⟩ := stn
      rw [← hAL]
      rcases Nat.lt_or_ge (p + size5 (c % 10)) A.length with z | z
      · exact z
      · rw [List.getElem?_eq_none z] at h1; cases h1
    exact .app (ann5_ok (kd_ok c).1 (kd_ok c).2 hA hlt hR stn (hs _ (List.mem_of_mem_drop hnear)) (by rw [hp2] at hnear; exact plc5_ge _ _ _ hnear) (hs _ hfar)) hlen
      (anns5_ok hR hpl hs hAL cs (i + 1) _ tail (by omega) hp2 (drop_add hA hlen))
/-! ### the whole -/
def leadA (L : Nat) : Nat → Nat → List Ann
  | _, 0 => []
  | p, n + 1 => ⟨.put 5, 0, none, none, L - p⟩ :: ⟨.back, 1, none, none, L - (p + 1)⟩ :: leadA L (p + 2) n
def belowA (L : Nat) : Nat → Nat → List Int → List Ann
  | _, _, [] => []
  | p, h, n :: ns => ⟨.put n, h, none, none, L - p⟩ :: belowA L (p + 1) (h + 1) ns
def addsA (L : Nat) : Nat → Nat → List Ann
  | p, 0 => [⟨.back, 1, none, none, L - p⟩]
  | p, n + 1 => ⟨.add, n + 2, none, none, L - p⟩ :: addsA L (p + 1) n
theorem leadA_rows (L : Nat) : ∀ n p, (leadA L p n).map (·.row) = lead5 n
  | 0, _ => rfl
  | n + 1, p => by simp [leadA, lead5, leadA_rows L n]
theorem belowA_rows (L : Nat) : ∀ ns p h, (belowA L p h ns).map (·.row) = ns.map Rw.put
  | [], _, _ => rfl
  | n :: ns, p, h => by simp [belowA, belowA_rows L ns]
theorem addsA_rows (L : Nat) : ∀ n p, (addsA L p n).map (·.row) = List.replicate n Rw.add ++ [.back]
  | 0, _ => rfl
  | n + 1, p => by simp [addsA, addsA_rows L n, List.replicate_succ]
theorem leadA_len (L : Nat) : ∀ n p, (leadA L p n).length = 2 * n
  | 0, _ => rfl
  | n + 1, p => by simp [leadA, leadA_len L n]; omega
theorem belowA_len (L : Nat) : ∀ ns p h, (belowA L p h ns).length = ns.length
  | [], _, _ => rfl
  | n :: ns, p, h => by simp [belowA, belowA_len L ns]
theorem addsA_len (L : Nat) : ∀ n p, (addsA L p n).length = n + 1
  | 0, _ => rfl
  | n + 1, p => by simp [addsA, addsA_len L n]
theorem leadA_ok (hR : 2 * L + 2 ≤ R) : ∀ (n p : Nat) (rest : List Ann), A.drop p = leadA L p n ++ rest → p + 2 * n ≤ L → OkL A S nb R p (leadA L p n)
  | 0, _, _, _, _ => .nil
  | n + 1, p, rest, h, hp => by
    have g := fun i x e => at_drop (i := i) (x := x) h e
    refine .cons ⟨by dsimp only; omega, ⟨_, g 1 _ rfl, rfl, .inl rfl, .inl rfl, by dsimp only; omega⟩⟩ (.cons ⟨by dsimp only; omega, 0, rfl⟩ ?_)
    exact leadA_ok hR n (p + 2) rest (drop_add (xs := [_, _]) h rfl) (by omega)
theorem belowA_ok (hR : 2 * L + 2 ≤ R) : ∀ (ns : List Int) (p h : Nat) (rest : List Ann), A.drop p = belowA L p h ns ++ rest → p + ns.length < L → St A (h + ns.length) L (p + ns.length) → OkL A S nb R p (belowA L p h ns)
  | [], _, _, _, _, _, _ => .nil
  | [n], p, h, rest, hA, hp, st => .cons ⟨by dsimp only; omega, St.nxt st (by simp at hp; dsimp only; omega)⟩ .nil
  | n :: m :: ns, p, h, rest, hA, hp, st => by
    have g := fun i x e => at_drop (i := i) (x := x) hA e
    simp only [List.length_cons] at hp st
    refine .cons ⟨by dsimp only; omega, ⟨_, g 1 _ rfl, rfl, .inl rfl, .inl rfl, by dsimp only; omega⟩⟩ ?_
    refine belowA_ok hR (m :: ns) (p + 1) (h + 1) rest (drop_add (xs := [_]) hA rfl) (by simp only [List.length_cons]; omega) ?_
    simp only [List.length_cons]
    rw [show h + 1 + (ns.length + 1) = h + (ns.length + 1 + 1) by omega, show p + 1 + (ns.length + 1) = p + (ns.length + 1 + 1) by omega]
    exact st
theorem addsA_ok (hR : 2 * L + 2 ≤ R) : ∀ (n p : Nat) (rest : List Ann), A.drop p = addsA L p n ++ rest → p + n < L → OkL A S nb R p (addsA L p n)
  | 0, p, rest, h, hp => .cons ⟨by dsimp only; omega, 0, rfl⟩ .nil
  | 1, p, rest, h, hp => by
    have g := fun i x e => at_drop (i := i) (x := x) h e
    exact .cons ⟨by dsimp only; omega, 0, rfl, ⟨_, g 1 _ rfl, rfl, .inl rfl, .inl rfl, by dsimp only; omega⟩⟩ (addsA_ok hR 0 (p + 1) rest (drop_add (xs := [_]) h rfl) (by omega))
  | n + 2, p, rest, h, hp => by
    have g := fun i x e => at_drop (i := i) (x := x) h e
    exact .cons ⟨by dsimp only; omega, n + 1, rfl, ⟨_, g 1 _ rfl, rfl, .inl rfl, .inl rfl, by dsimp only; omega⟩⟩ (addsA_ok hR (n + 1) (p + 1) rest (drop_add (xs := [_]) h rfl) (by omega))
def tot5 (cells : List Int) (lead b : Nat) : Nat := end5 (2 * lead + b) cells + 1 + b + 1
def code5A (cells : List Int) (lead : Nat) (below : List Int) : List Ann :=
  let L := tot5 cells lead below.length
  let e := end5 (2 * lead + below.length) cells
  leadA L 0 lead ++ (belowA L (2 * lead) 0 below ++ (anns5 (plc5 (2 * lead + below.length) cells) cells.length below.length L 0 (2 * lead + below.length) cells ++ (⟨.get 0, below.length, none, none, L - e⟩ :: addsA L (e + 1) below.length)))
theorem code5_ann (cells : List Int) (lead : Nat) (below : List Int) : AnnOk (code5A cells lead below) ⟨code5 cells lead below, [], [((2 * lead : Nat) : Int)], 6⟩ 6 (2 * tot5 cells lead below.length + 2) ∧
    St (code5A cells lead below) 0 (tot5 cells lead below.length) (2 * lead) := by
  generalize hb : below.length = b
  generalize hL : tot5 cells lead b = L
  generalize he : end5 (2 * lead + b) cells = e
  have eL : L = e + 1 + b + 1 := by rw [← hL, ← he]; rfl
  generalize hA : code5A cells lead below = A
  have hge := end5_ge cells (2 * lead + b)
  rw [he] at hge
  have d0 : A.drop 0 = leadA L 0 lead ++ (belowA L (2 * lead) 0 below ++ (anns5 (plc5 (2 * lead + b) cells) cells.length b L 0 (2 * lead + b) cells ++ (⟨.get 0, b, none, none, L - e⟩ :: addsA L (e + 1) b))) := by
    rw [← hA, ← hL, ← he, ← hb]
    rfl
  have d1 := drop_add d0 (leadA_len L lead 0)
  rw [Nat.zero_add] at d1
  have d2 := drop_add d1 (belowA_len L below (2 * lead) 0)
  rw [hb] at d2
  have la := anns5_len (plc5 (2 * lead + b) cells) cells.length b L cells 0 (2 * lead + b)
  rw [he] at la
  have d3 := drop_add d2 rfl
  rw [la] at d3
  have d4 := drop_add (n := 1) (xs := [_]) d3 rfl
  have hAL : A.length = L := by
    rw [← List.drop_zero (l := A), d0]
    simp only [List.length_append, leadA_len, belowA_len, List.length_cons, addsA_len, hb]
    omega
  have ste : St A b L (end5 (2 * lead + b) cells) := by
    rw [he]
    exact ⟨_, at_drop (i := 0) (xs := [_]) d3 rfl, rfl, rfl, rfl, rfl⟩
  have sts := plc5_st cells 0 (2 * lead + b) _ d2 ste
  have hR : 2 * L + 2 ≤ 2 * L + 2 := Nat.le_refl _
  have st0 : St A (0 + below.length) L (2 * lead + below.length) := by
    rw [hb, Nat.zero_add]
    refine sts _ ?_
    cases cells <;> exact List.mem_cons_self ..
  have ok : OkL A [((2 * lead : Nat) : Int)] 6 (2 * L + 2) 0 A := by
    have e0 : A = A.drop 0 := by rw [List.drop_zero]
    intro i a h
    rw [e0, d0] at h
    revert i a
    refine OkL.app (leadA_ok hR lead 0 _ d0 (by omega)) (leadA_len L lead 0) ?_
    rw [Nat.zero_add]
    refine OkL.app (belowA_ok hR below (2 * lead) 0 _ d1 (by omega) st0) (by rw [belowA_len, hb]) ?_
    refine OkL.app (anns5_ok hR (plc5_len _ _) sts hAL cells 0 _ _ (by omega) (by rw [List.drop_zero]) d2) rfl ?_
    rw [la]
    refine .cons ⟨by dsimp only; omega, by decide, by decide, ?_⟩ (addsA_ok hR b (e + 1) [] (by rw [d4, List.append_nil]) (by omega))
    cases b with
    | zero => exact ⟨⟨.back, 1, none, none, L - (e + 1)⟩, at_drop (i := 0) (xs := [⟨.back, 1, none, none, L - (e + 1)⟩]) (ys := []) d4 rfl, rfl, .inl rfl, .inl rfl, by dsimp only; omega⟩
    | succ b => exact ⟨⟨.add, b + 2, none, none, L - (e + 1)⟩, at_drop (i := 0) (ys := addsA L (e + 1 + 1) b) (xs := [⟨.add, b + 2, none, none, L - (e + 1)⟩]) d4 rfl, rfl, .inl rfl, .inl rfl, by dsimp only; omega⟩
  refine ⟨⟨?_, rfl, by decide, fun p a h => by simpa using ok p a h, fun s hs => by simp at hs⟩, ?_⟩
  · show code5 cells lead below = A.map (·.row)
    rw [← List.drop_zero (l := A), d0]
    simp only [List.map_append, List.map_cons, leadA_rows, belowA_rows, anns5_rows, addsA_rows]
    unfold code5
    rw [hb]
    simp
  · cases below with
    | nil =>
      obtain rfl : b = 0 := by rw [← hb]; rfl
      exact st0
    | cons n ns => exact ⟨_, at_drop (i := 0) d1 rfl, rfl, rfl, rfl, rfl⟩
theorem size5_le (k : Int) : size5 k ≤ 4 := by
  unfold size5
  generalize k.toNat = j
  match j with
  | 0 | 1 | 2 | 3 | 4 | 5 | 6 | 7 | 8 | 9 => decide
  | j + 10 => simp
theorem end5_le : ∀ (cs : List Int) (p : Nat), end5 p cs ≤ p + 4 * cs.length
  | [], p => Nat.le_refl _
  | c :: cs, p => by
    have := end5_le cs (p + size5 (c % 10))
    have := size5_le (c % 10)
    simp only [end5, List.length_cons]
    omega
/-- it ends -/
theorem code5_ends (cells : List Int) (lead : Nat) (below : List Int) (v : Int) (t : Nat) : ∃ M0 n M x z, begun ⟨code5 cells lead below, [], [((2 * lead : Nat) : Int)], 6⟩ v t = some M0 ∧
    rowSteps ⟨code5 cells lead below, [], [((2 * lead : Nat) : Int)], 6⟩ n M0 = some M ∧ M.ended = some (x, z) ∧ n ≤ (t + 1) * (20 * (2 * lead + 2 * below.length + 4 * cells.length + 4)) := by
  obtain ⟨o, st⟩ := code5_ann cells lead below
  generalize hL : tot5 cells lead below.length = L at o st
  obtain ⟨a, h1, h2, h3, h4, h5⟩ := st
  have hLl : L ≤ 2 * lead + 2 * below.length + 4 * cells.length + 2 := by
    rw [← hL]
    have := end5_le cells (2 * lead + below.length)
    unfold tot5
    omega
  obtain ⟨n, M, hn, hr, he⟩ := ends_stand o _ ⟨[⟨((2 * lead : Nat) : Int), newBoxes 6 v, []⟩], [], t, none⟩ ⟨rfl, by simp, ⟨a, ⟨nth_of h1, by rw [h2]; rfl, fun v e => (by rw [h3] at e; cases e), fun k v e => (by rw [h4] at e; cases e), rfl⟩, rfl⟩, fun g hg => by simp at hg⟩
  cases hM : M.ended with
  | none => rw [hM] at he; cases he
  | some q =>
    refine ⟨_, n, M, q.1, q.2, rfl, hr, hM, Nat.le_trans hn ?_⟩
    rw [h5]
    dsimp only
    generalize 2 * lead + 2 * below.length + 4 * cells.length = X at hLl ⊢
    have e1 : (t + 1) * (20 * (X + 4)) = t * (20 * (X + 4)) + 20 * (X + 4) := Nat.succ_mul _ _
    have e2 : t * (10 * (2 * L + 2)) ≤ t * (20 * (X + 4)) := Nat.mul_le_mul_left _ (by omega)
    simp only [List.length_nil]
    omega
end
end Un

set_option maxHeartbeats 4000000
/-! k14's code, in plain Lean: that it ends -/
namespace Un
open PySem
def size14 (k : Int) : Nat := [2, 2, 4, 2, 1, 3, 2, 3, 5, 5, 2, 4, 4].getD k.toNat 0
def two14 (x : Int) : Rw := if x = 0 then .add else if x = 1 then .sub else if x = 2 then .less else .share
def group14 (c kd near far nb many : Int) : List Rw :=
  if kd = 0 then [.put (c / 78 % 9 - 3), .say]
  else if kd = 1 then [.get (c / 13 % nb), .say]
  else if kd = 2 then [.get (c / 13 % nb), .put (c / 78 % 9 - 3), (two14 (c / 702 % 4)), .set (c / 13 % nb)]
  else if kd = 3 then [.get (c / 13 % nb), .nought near]
  else if kd = 4 then [.go near]
  else if kd = 5 then [.put near, .set (nb - 1), .on (nb - 1)]
  else if kd = 6 then [.turn, .go far]
  else if kd = 7 then [.turn, .get (c / 13 % nb), .nought far]
  else if kd = 8 then [.put (c / 78 % 9 - 3), .get (c / 13 % nb), .add, .call (c / 702 % many), .set ((c / 13 % nb + (c / 78 % 9 - 3)) % nb)]
  else if kd = 9 then [.put (c / 78 % 9 - 3), .get (c / 13 % nb), .call (c / 702 % many), .add, .set ((c / 13 % nb + (c / 78 % 9 - 3)) % nb)]
  else if kd = 10 then [.get (c / 13 % nb), .raise]
  else if kd = 11 then [.put (c / 78 % 9 - 3), .get (c / 13 % nb), .share, .say]
  else [.get (c / 13 % nb), .put (c / 78 % 9 - 3), .less, .nought near]
def ann14 (c kd near far nb many : Int) (p L : Nat) : List Ann :=
  if kd = 0 then [⟨.put (c / 78 % 9 - 3), 0, none, none, L - p⟩, ⟨.say, 1, none, none, L - (p + 1)⟩]
  else if kd = 1 then [⟨.get (c / 13 % nb), 0, none, none, L - p⟩, ⟨.say, 1, none, none, L - (p + 1)⟩]
  else if kd = 2 then [⟨.get (c / 13 % nb), 0, none, none, L - p⟩, ⟨.put (c / 78 % 9 - 3), 1, none, none, L - (p + 1)⟩, ⟨(two14 (c / 702 % 4)), 2, none, none, L - (p + 2)⟩, ⟨.set (c / 13 % nb), 1, none, none, L - (p + 3)⟩]
  else if kd = 3 then [⟨.get (c / 13 % nb), 0, none, none, L - p⟩, ⟨.nought near, 1, none, none, L - (p + 1)⟩]
  else if kd = 4 then [⟨.go near, 0, none, none, L - p⟩]
  else if kd = 5 then [⟨.put near, 0, none, none, L - p⟩, ⟨.set (nb - 1), 1, some near, none, L - (p + 1)⟩, ⟨.on (nb - 1), 0, none, some (nb - 1, near), L - (p + 2)⟩]
  else if kd = 6 then [⟨.turn, 0, none, none, L - p⟩, ⟨.go far, 0, none, none, 2 * L⟩]
  else if kd = 7 then [⟨.turn, 0, none, none, L - p⟩, ⟨.get (c / 13 % nb), 0, none, none, 2 * L + 1⟩, ⟨.nought far, 1, none, none, 2 * L⟩]
  else if kd = 8 then [⟨.put (c / 78 % 9 - 3), 0, none, none, L - p⟩, ⟨.get (c / 13 % nb), 1, none, none, L - (p + 1)⟩, ⟨.add, 2, none, none, L - (p + 2)⟩, ⟨.call (c / 702 % many), 1, none, none, L - (p + 3)⟩, ⟨.set ((c / 13 % nb + (c / 78 % 9 - 3)) % nb), 1, none, none, L - (p + 4)⟩]
  else if kd = 9 then [⟨.put (c / 78 % 9 - 3), 0, none, none, L - p⟩, ⟨.get (c / 13 % nb), 1, none, none, L - (p + 1)⟩, ⟨.call (c / 702 % many), 2, none, none, L - (p + 2)⟩, ⟨.add, 2, none, none, L - (p + 3)⟩, ⟨.set ((c / 13 % nb + (c / 78 % 9 - 3)) % nb), 1, none, none, L - (p + 4)⟩]
  else if kd = 10 then [⟨.get (c / 13 % nb), 0, none, none, L - p⟩, ⟨.raise, 1, none, none, L - (p + 1)⟩]
  else if kd = 11 then [⟨.put (c / 78 % 9 - 3), 0, none, none, L - p⟩, ⟨.get (c / 13 % nb), 1, none, none, L - (p + 1)⟩, ⟨.share, 2, none, none, L - (p + 2)⟩, ⟨.say, 1, none, none, L - (p + 3)⟩]
  else [⟨.get (c / 13 % nb), 0, none, none, L - p⟩, ⟨.put (c / 78 % 9 - 3), 1, none, none, L - (p + 1)⟩, ⟨.less, 2, none, none, L - (p + 2)⟩, ⟨.nought near, 1, none, none, L - (p + 3)⟩]
theorem ann14_rows (c kd near far nb many : Int) (p L : Nat) : (ann14 c kd near far nb many p L).map (·.row) = group14 c kd near far nb many := by
  unfold ann14 group14
  by_cases h0 : kd = 0
  · rw [if_pos h0, if_pos h0]; rfl
  rw [if_neg h0, if_neg h0]
  by_cases h1 : kd = 1
  · rw [if_pos h1, if_pos h1]; rfl
  rw [if_neg h1, if_neg h1]
  by_cases h2 : kd = 2
  · rw [if_pos h2, if_pos h2]; rfl
  rw [if_neg h2, if_neg h2]
  by_cases h3 : kd = 3
  · rw [if_pos h3, if_pos h3]; rfl
  rw [if_neg h3, if_neg h3]
  by_cases h4 : kd = 4
  · rw [if_pos h4, if_pos h4]; rfl
  rw [if_neg h4, if_neg h4]
  by_cases h5 : kd = 5
  · rw [if_pos h5, if_pos h5]; rfl
  rw [if_neg h5, if_neg h5]
  by_cases h6 : kd = 6
  · rw [if_pos h6, if_pos h6]; rfl
  rw [if_neg h6, if_neg h6]
  by_cases h7 : kd = 7
  · rw [if_pos h7, if_pos h7]; rfl
  rw [if_neg h7, if_neg h7]
  by_cases h8 : kd = 8
  · rw [if_pos h8, if_pos h8]; rfl
  rw [if_neg h8, if_neg h8]
  by_cases h9 : kd = 9
  · rw [if_pos h9, if_pos h9]; rfl
  rw [if_neg h9, if_neg h9]
  by_cases h10 : kd = 10
  · rw [if_pos h10, if_pos h10]; rfl
  rw [if_neg h10, if_neg h10]
  by_cases h11 : kd = 11
  · rw [if_pos h11, if_pos h11]; rfl
  rw [if_neg h11, if_neg h11]
  rfl
theorem ann14_len {c kd near far nb many : Int} {p L : Nat} (h0 : 0 ≤ kd) (h1 : kd < 13) : (ann14 c kd near far nb many p L).length = size14 kd := by
  obtain ⟨k, rfl⟩ : ∃ k : Nat, kd = (k : Int) := ⟨kd.toNat, by omega⟩
  match k, h1 with
  | 0, _ => rfl
  | 1, _ => rfl
  | 2, _ => rfl
  | 3, _ => rfl
  | 4, _ => rfl
  | 5, _ => rfl
  | 6, _ => rfl
  | 7, _ => rfl
  | 8, _ => rfl
  | 9, _ => rfl
  | 10, _ => rfl
  | 11, _ => rfl
  | 12, _ => rfl
  | k + 13, h => omega
theorem ann14_head (c kd near far nb many : Int) (p L : Nat) : ∃ a r, ann14 c kd near far nb many p L = a :: r ∧ a.h = 0 ∧ a.tp = none ∧ a.bx = none ∧ a.rk = L - p := by
  unfold ann14
  by_cases h0 : kd = 0
  · rw [if_pos h0]; exact ⟨_, _, rfl, rfl, rfl, rfl, rfl⟩
  rw [if_neg h0]
  by_cases h1 : kd = 1
  · rw [if_pos h1]; exact ⟨_, _, rfl, rfl, rfl, rfl, rfl⟩
  rw [if_neg h1]
  by_cases h2 : kd = 2
  · rw [if_pos h2]; exact ⟨_, _, rfl, rfl, rfl, rfl, rfl⟩
  rw [if_neg h2]
  by_cases h3 : kd = 3
  · rw [if_pos h3]; exact ⟨_, _, rfl, rfl, rfl, rfl, rfl⟩
  rw [if_neg h3]
  by_cases h4 : kd = 4
  · rw [if_pos h4]; exact ⟨_, _, rfl, rfl, rfl, rfl, rfl⟩
  rw [if_neg h4]
  by_cases h5 : kd = 5
  · rw [if_pos h5]; exact ⟨_, _, rfl, rfl, rfl, rfl, rfl⟩
  rw [if_neg h5]
  by_cases h6 : kd = 6
  · rw [if_pos h6]; exact ⟨_, _, rfl, rfl, rfl, rfl, rfl⟩
  rw [if_neg h6]
  by_cases h7 : kd = 7
  · rw [if_pos h7]; exact ⟨_, _, rfl, rfl, rfl, rfl, rfl⟩
  rw [if_neg h7]
  by_cases h8 : kd = 8
  · rw [if_pos h8]; exact ⟨_, _, rfl, rfl, rfl, rfl, rfl⟩
  rw [if_neg h8]
  by_cases h9 : kd = 9
  · rw [if_pos h9]; exact ⟨_, _, rfl, rfl, rfl, rfl, rfl⟩
  rw [if_neg h9]
  by_cases h10 : kd = 10
  · rw [if_pos h10]; exact ⟨_, _, rfl, rfl, rfl, rfl, rfl⟩
  rw [if_neg h10]
  by_cases h11 : kd = 11
  · rw [if_pos h11]; exact ⟨_, _, rfl, rfl, rfl, rfl, rfl⟩
  rw [if_neg h11]
  exact ⟨_, _, rfl, rfl, rfl, rfl, rfl⟩
section
variable {A : List Ann} {S : List Int} {nb R L p : Nat}
theorem ann14_ok {c kd : Int} {near far many : Nat} {rest : List Ann} (h0 : 0 ≤ kd) (h1 : kd < 13) (hA : A.drop p = ann14 c kd near far nb many p L ++ rest) (hL : p + size14 kd < L) (hR : 2 * L + 2 ≤ R) (hnb : 0 < nb)
    (st : St A 0 L (p + size14 kd)) (sn : St A 0 L near) (hn : p + size14 kd ≤ near) (sf : St A 0 L far) (ks : ∃ s, nth S (c / 702 % many) = some s ∧ Tgt A s 0 R) : OkL A S nb R p (ann14 c kd near far nb many p L) := by
  obtain ⟨k, rfl⟩ : ∃ k : Nat, kd = (k : Int) := ⟨kd.toNat, by omega⟩
  have k0 : 0 ≤ c / 13 % (nb : Int) ∧ c / 13 % (nb : Int) < ((nb : Nat) : Int) := ⟨Int.emod_nonneg _ (by omega), Int.emod_lt_of_pos _ (by omega)⟩
  have kl : 0 ≤ (nb : Int) - 1 ∧ (nb : Int) - 1 < ((nb : Nat) : Int) := by omega
  have km : 0 ≤ (c / 13 % (nb : Int) + (c / 78 % 9 - 3)) % (nb : Int) ∧ (c / 13 % (nb : Int) + (c / 78 % 9 - 3)) % (nb : Int) < ((nb : Nat) : Int) := ⟨Int.emod_nonneg _ (by omega), Int.emod_lt_of_pos _ (by omega)⟩
  have g := fun i x e => at_drop (i := i) (x := x) hA e
  match k, h1 with
  | 0, _ =>
    have hs : size14 ((0 : Nat) : Int) = 2 := rfl
    rw [hs] at st hn hL
    exact .cons ⟨(by dsimp only; omega), ⟨_, g 1 _ rfl, rfl, .inl rfl, .inl rfl, (by dsimp only; omega)⟩⟩ (.cons ⟨(by dsimp only; omega), 0, rfl, St.nxt st (by dsimp only; omega)⟩ (.nil))
  | 1, _ =>
    have hs : size14 ((1 : Nat) : Int) = 2 := rfl
    rw [hs] at st hn hL
    exact .cons ⟨(by dsimp only; omega), k0.1, k0.2, ⟨_, g 1 _ rfl, rfl, .inl rfl, .inl rfl, (by dsimp only; omega)⟩⟩ (.cons ⟨(by dsimp only; omega), 0, rfl, St.nxt st (by dsimp only; omega)⟩ (.nil))
  | 2, _ =>
    have hs : size14 ((2 : Nat) : Int) = 4 := rfl
    rw [hs] at st hn hL
    have two : ∀ x : Int, 0 ≤ x → x < 4 → two14 x = .add ∨ two14 x = .sub ∨ two14 x = .less ∨ two14 x = .share := fun x h1 h2 => by
      rcases (by omega : x = 0 ∨ x = 1 ∨ x = 2 ∨ x = 3) with e | e | e | e <;> subst e
      · exact .inl rfl
      · exact .inr (.inl rfl)
      · exact .inr (.inr (.inl rfl))
      · exact .inr (.inr (.inr rfl))
    have nx : Nxt A (p + 2) 1 none none (L - (p + 2)) := ⟨_, g 3 _ rfl, rfl, .inl rfl, .inl rfl, (by dsimp only; omega)⟩
    have h2 : OkAt A S nb R (p + 2) ⟨two14 (c / 702 % 4), 2, none, none, L - (p + 2)⟩ := by
      refine ⟨(by dsimp only; omega), ?_⟩
      rcases two _ (show 0 ≤ c / 702 % 4 by omega) (by omega) with e | e | e | e <;> rw [e] <;> exact ⟨0, rfl, nx⟩
    exact .cons ⟨(by dsimp only; omega), k0.1, k0.2, ⟨_, g 1 _ rfl, rfl, .inl rfl, .inl rfl, (by dsimp only; omega)⟩⟩ (.cons ⟨(by dsimp only; omega), ⟨_, g 2 _ rfl, rfl, .inl rfl, .inl rfl, (by dsimp only; omega)⟩⟩ (.cons h2 (.cons ⟨(by dsimp only; omega), k0.1, k0.2, 0, rfl, St.nxt st (by dsimp only; omega)⟩ (.nil))))
  | 3, _ =>
    have hs : size14 ((3 : Nat) : Int) = 2 := rfl
    rw [hs] at st hn hL
    exact .cons ⟨(by dsimp only; omega), k0.1, k0.2, ⟨_, g 1 _ rfl, rfl, .inl rfl, .inl rfl, (by dsimp only; omega)⟩⟩ (.cons ⟨(by dsimp only; omega), 0, rfl, St.tgt sn (by dsimp only; omega), St.nxt st (by dsimp only; omega)⟩ (.nil))
  | 4, _ =>
    have hs : size14 ((4 : Nat) : Int) = 1 := rfl
    rw [hs] at st hn hL
    exact .cons ⟨(by dsimp only; omega), St.tgt sn (by dsimp only; omega)⟩ (.nil)
  | 5, _ =>
    have hs : size14 ((5 : Nat) : Int) = 3 := rfl
    rw [hs] at st hn hL
    exact .cons ⟨(by dsimp only; omega), ⟨_, g 1 _ rfl, rfl, .inr rfl, .inl rfl, (by dsimp only; omega)⟩⟩ (.cons ⟨(by dsimp only; omega), kl.1, kl.2, 0, rfl, ⟨_, g 2 _ rfl, rfl, .inl rfl, .inr rfl, (by dsimp only; omega)⟩⟩ (.cons ⟨(by dsimp only; omega), near, rfl, St.tgt sn (by dsimp only; omega)⟩ (.nil)))
  | 6, _ =>
    have hs : size14 ((6 : Nat) : Int) = 2 := rfl
    rw [hs] at st hn hL
    exact .cons ⟨(by dsimp only; omega), ⟨_, g 1 _ rfl, rfl, .inl rfl, .inl rfl, (by dsimp only; omega)⟩⟩ (.cons ⟨(by dsimp only; omega), St.tgt sf (by dsimp only; omega)⟩ (.nil))
  | 7, _ =>
    have hs : size14 ((7 : Nat) : Int) = 3 := rfl
    rw [hs] at st hn hL
    exact .cons ⟨(by dsimp only; omega), ⟨_, g 1 _ rfl, rfl, .inl rfl, .inl rfl, (by dsimp only; omega)⟩⟩ (.cons ⟨(by dsimp only; omega), k0.1, k0.2, ⟨_, g 2 _ rfl, rfl, .inl rfl, .inl rfl, (by dsimp only; omega)⟩⟩ (.cons ⟨(by dsimp only; omega), 0, rfl, St.tgt sf (by dsimp only; omega), St.nxt st (by dsimp only; omega)⟩ (.nil)))
  | 8, _ =>
    have hs : size14 ((8 : Nat) : Int) = 5 := rfl
    rw [hs] at st hn hL
    exact .cons ⟨(by dsimp only; omega), ⟨_, g 1 _ rfl, rfl, .inl rfl, .inl rfl, (by dsimp only; omega)⟩⟩ (.cons ⟨(by dsimp only; omega), k0.1, k0.2, ⟨_, g 2 _ rfl, rfl, .inl rfl, .inl rfl, (by dsimp only; omega)⟩⟩ (.cons ⟨(by dsimp only; omega), 0, rfl, ⟨_, g 3 _ rfl, rfl, .inl rfl, .inl rfl, (by dsimp only; omega)⟩⟩ (.cons ⟨(by dsimp only; omega), 0, rfl, ⟨_, g 4 _ rfl, rfl, .inl rfl, .inl rfl, (by dsimp only; omega)⟩, ks⟩ (.cons ⟨(by dsimp only; omega), km.1, km.2, 0, rfl, St.nxt st (by dsimp only; omega)⟩ (.nil)))))
  | 9, _ =>
    have hs : size14 ((9 : Nat) : Int) = 5 := rfl
    rw [hs] at st hn hL
    exact .cons ⟨(by dsimp only; omega), ⟨_, g 1 _ rfl, rfl, .inl rfl, .inl rfl, (by dsimp only; omega)⟩⟩ (.cons ⟨(by dsimp only; omega), k0.1, k0.2, ⟨_, g 2 _ rfl, rfl, .inl rfl, .inl rfl, (by dsimp only; omega)⟩⟩ (.cons ⟨(by dsimp only; omega), 1, rfl, ⟨_, g 3 _ rfl, rfl, .inl rfl, .inl rfl, (by dsimp only; omega)⟩, ks⟩ (.cons ⟨(by dsimp only; omega), 0, rfl, ⟨_, g 4 _ rfl, rfl, .inl rfl, .inl rfl, (by dsimp only; omega)⟩⟩ (.cons ⟨(by dsimp only; omega), km.1, km.2, 0, rfl, St.nxt st (by dsimp only; omega)⟩ (.nil)))))
  | 10, _ =>
    have hs : size14 ((10 : Nat) : Int) = 2 := rfl
    rw [hs] at st hn hL
    exact .cons ⟨(by dsimp only; omega), k0.1, k0.2, ⟨_, g 1 _ rfl, rfl, .inl rfl, .inl rfl, (by dsimp only; omega)⟩⟩ (.cons ⟨(by dsimp only; omega), 0, rfl⟩ (.nil))
  | 11, _ =>
    have hs : size14 ((11 : Nat) : Int) = 4 := rfl
    rw [hs] at st hn hL
    exact .cons ⟨(by dsimp only; omega), ⟨_, g 1 _ rfl, rfl, .inl rfl, .inl rfl, (by dsimp only; omega)⟩⟩ (.cons ⟨(by dsimp only; omega), k0.1, k0.2, ⟨_, g 2 _ rfl, rfl, .inl rfl, .inl rfl, (by dsimp only; omega)⟩⟩ (.cons ⟨(by dsimp only; omega), 0, rfl, ⟨_, g 3 _ rfl, rfl, .inl rfl, .inl rfl, (by dsimp only; omega)⟩⟩ (.cons ⟨(by dsimp only; omega), 0, rfl, St.nxt st (by dsimp only; omega)⟩ (.nil))))
  | 12, _ =>
    have hs : size14 ((12 : Nat) : Int) = 4 := rfl
    rw [hs] at st hn hL
    exact .cons ⟨(by dsimp only; omega), k0.1, k0.2, ⟨_, g 1 _ rfl, rfl, .inl rfl, .inl rfl, (by dsimp only; omega)⟩⟩ (.cons ⟨(by dsimp only; omega), ⟨_, g 2 _ rfl, rfl, .inl rfl, .inl rfl, (by dsimp only; omega)⟩⟩ (.cons ⟨(by dsimp only; omega), 0, rfl, ⟨_, g 3 _ rfl, rfl, .inl rfl, .inl rfl, (by dsimp only; omega)⟩⟩ (.cons ⟨(by dsimp only; omega), 0, rfl, St.tgt sn (by dsimp only; omega), St.nxt st (by dsimp only; omega)⟩ (.nil))))
  | k + 13, h => omega
def plc14 : Nat → List Int → List Nat
  | p, [] => [p]
  | p, c :: cs => p :: plc14 (p + size14 (c % 13)) cs
def end14 (p : Nat) : List Int → Nat
  | [] => p
  | c :: cs => end14 (p + size14 (c % 13)) cs
def near14 (pl : List Nat) (n i : Nat) (c : Int) : Nat := pl.getD (i + 1 + (c / 5000 % ((n : Int) - i)).toNat) 0
def far14 (ev : List Nat) (c : Int) : Nat := ev.getD (c / 3000 % (ev.length : Int)).toNat 0
def grps14 (pl ev : List Nat) (n nb many : Nat) : Nat → List Int → List Rw
  | _, [] => []
  | i, c :: cs => group14 c (c % 13) (near14 pl n i c) (far14 ev c) nb many ++ grps14 pl ev n nb many (i + 1) cs
def anns14 (pl ev : List Nat) (n nb many L : Nat) : Nat → Nat → List Int → List Ann
  | _, _, [] => []
  | i, p, c :: cs => ann14 c (c % 13) (near14 pl n i c) (far14 ev c) nb many p L ++ anns14 pl ev n nb many L (i + 1) (p + size14 (c % 13)) cs
theorem anns14_rows (pl ev : List Nat) (n nb many L : Nat) : ∀ (cs : List Int) (i p : Nat), (anns14 pl ev n nb many L i p cs).map (·.row) = grps14 pl ev n nb many i cs
  | [], _, _ => rfl
  | c :: cs, i, p => by rw [anns14, List.map_append, ann14_rows, anns14_rows pl ev n nb many L cs, grps14]
theorem kd14 (c : Int) : 0 ≤ c % 13 ∧ c % 13 < 13 := by omega
theorem anns14_len (pl ev : List Nat) (n nb many L : Nat) : ∀ (cs : List Int) (i p : Nat), p + (anns14 pl ev n nb many L i p cs).length = end14 p cs
  | [], i, p => rfl
  | c :: cs, i, p => by
    have := anns14_len pl ev n nb many L cs (i + 1) (p + size14 (c % 13))
    rw [anns14, List.length_append, ann14_len (kd14 c).1 (kd14 c).2, end14]
    omega
theorem end14_ge : ∀ (cs : List Int) (p : Nat), p ≤ end14 p cs
  | [], p => Nat.le_refl _
  | c :: cs, p => Nat.le_trans (Nat.le_add_right ..) (end14_ge cs _)
theorem plc14_ge : ∀ (cs : List Int) (p q : Nat), q ∈ plc14 p cs → p ≤ q
  | [], p, q, h => by simp [plc14] at h; omega
  | c :: cs, p, q, h => by
    rcases List.mem_cons.mp h with e | e
    · omega
    · have := plc14_ge cs _ q e
      omega
theorem plc14_len : ∀ (cs : List Int) (p : Nat), (plc14 p cs).length = cs.length + 1
  | [], _ => rfl
  | c :: cs, p => by simp [plc14, plc14_len cs]
theorem plc14_st {pl ev : List Nat} {n many : Nat} : ∀ (cs : List Int) (i p : Nat) (tail : List Ann), A.drop p = anns14 pl ev n nb many L i p cs ++ tail → St A 0 L (end14 p cs) → ∀ q ∈ plc14 p cs, St A 0 L q
  | [], i, p, tail, _, h, q, hq => by
    simp [plc14] at hq
    subst hq
    exact h
  | c :: cs, i, p, tail, hA, h, q, hq => by
    rw [anns14, List.append_assoc] at hA
    rcases List.mem_cons.mp hq with e | e
    · subst e
      obtain ⟨a, r, e, h1, h2, h3, h4⟩ := ann14_head c (c % 13) (near14 pl n i c) (far14 ev c) nb many q L
      exact ⟨a, at_drop (i := 0) hA (by rw [e]; rfl), h1, h2, h3, h4⟩
    · exact plc14_st cs (i + 1) _ tail (drop_add hA (ann14_len (kd14 c).1 (kd14 c).2)) h q e
theorem anns14_ok {pl ev : List Nat} {n many : Nat} (hR : 2 * L + 2 ≤ R) (hnb : 0 < nb) (hpl : pl.length = n + 1) (hs : ∀ q ∈ pl, St A 0 L q) (he : ∀ q ∈ ev, St A 0 L q) (hev : 0 < ev.length) (hAL : A.length = L)
    (ks : ∀ c : Int, ∃ s, nth S (c / 702 % many) = some s ∧ Tgt A s 0 R) : ∀ (cs : List Int) (i p : Nat) (tail : List Ann), i + cs.length = n → pl.drop i = plc14 p cs →
    A.drop p = anns14 pl ev n nb many L i p cs ++ tail → OkL A S nb R p (anns14 pl ev n nb many L i p cs)
  | [], _, _, _, _, _, _ => .nil
  | c :: cs, i, p, tail, hi, hp, hA => by
    rw [anns14, List.append_assoc] at hA
    have hlen := ann14_len (c := c) (near := near14 pl n i c) (far := far14 ev c) (nb := nb) (many := many) (p := p) (L := L) (kd14 c).1 (kd14 c).2
    simp only [List.length_cons] at hi
    have hp2 : pl.drop (i + 1) = plc14 (p + size14 (c % 13)) cs := by
      rw [← List.drop_drop, hp]
      rfl
    have mem : ∀ j, j < cs.length + 1 → pl.getD (i + 1 + j) 0 ∈ pl.drop (i + 1) := fun j hj => by
      have e : pl.getD (i + 1 + j) 0 = (pl.drop (i + 1)).getD j 0 := by
        rw [List.getD_eq_getElem?_getD, List.getD_eq_getElem?_getD, List.getElem?_drop]
      rw [e]
      refine getD_mem ?_
      rw [hp2, plc14_len]
      exact hj
    have x1 : (c / 5000 % ((n : Int) - i)).toNat < cs.length + 1 := by
      have := Int.emod_lt_of_pos (c / 5000) (show (0 : Int) < (n : Int) - i by omega)
      have := Int.emod_nonneg (c / 5000) (show (n : Int) - i ≠ 0 by omega)
      omega
    have hnear := mem _ x1
    have hfar : far14 ev c ∈ ev := by
      refine getD_mem ?_
      have := Int.emod_lt_of_pos (c / 3000) (show (0 : Int) < (ev.length : Int) by omega)
      have := Int.emod_nonneg (c / 3000) (show (ev.length : Int) ≠ 0 by omega)
      omega
    have hnext : p + size14 (c % 13) ∈ pl.drop (i + 1) := by
      rw [hp2]
      cases cs <;> exact List.mem_cons_self ..
    have stn := hs _ (List.mem_of_mem_drop hnext)
    have hlt : p + size14 (c % 13) < L := by
      obtain ⟨a, h1, _⟩ := stn
      rw [← hAL]
      rcases Nat.lt_or_ge (p + size14 (c % 13)) A.length with z | z
      · exact z
      · rw [List.getElem?_eq_none z] at h1; cases h1
    exact .app (ann14_ok (kd14 c).1 (kd14 c).2 hA hlt hR hnb stn (hs _ (List.mem_of_mem_drop hnear)) (by rw [hp2] at hnear; exact plc14_ge _ _ _ hnear) (he _ hfar) (ks c)) hlen
      (anns14_ok hR hnb hpl hs he hev hAL ks cs (i + 1) _ tail (by omega) hp2 (drop_add hA hlen))
end
end Un

set_option maxHeartbeats 4000000
/-! k14's code as a whole -/
namespace Un
open PySem
def Rk (L p : Nat) (B : List Ann) : Prop := ∀ (i : Nat) (a : Ann), B[i]? = some a → L - (p + i) ≤ a.rk
theorem Rk.nil {L p : Nat} : Rk L p [] := fun i a h => by simp at h
theorem Rk.cons {L p : Nat} {x : Ann} {B : List Ann} (h : L - p ≤ x.rk) (r : Rk L (p + 1) B) : Rk L p (x :: B) := fun i a e => by
  cases i with
  | zero => cases e; exact h
  | succ i =>
    have := r i a e
    rwa [show p + 1 + i = p + (i + 1) by omega] at this
theorem Rk.app {L p : Nat} {B C : List Ann} {n : Nat} (h : Rk L p B) (hn : p + B.length = n) (r : Rk L n C) : Rk L p (B ++ C) := fun i a e => by
  rcases Nat.lt_or_ge i B.length with z | z
  · rw [List.getElem?_append_left z] at e
    exact h i a e
  · rw [List.getElem?_append_right z] at e
    have := r _ _ e
    rwa [show n + (i - B.length) = p + i by omega] at this
theorem ann14_rk (c kd near far nb many : Int) (p L : Nat) : Rk L p (ann14 c kd near far nb many p L) := by
  unfold ann14
  by_cases h0 : kd = 0
  · rw [if_pos h0]; repeat (refine Rk.cons (by dsimp only; omega) ?_)
    exact Rk.nil
  rw [if_neg h0]
  by_cases h1 : kd = 1
  · rw [if_pos h1]; repeat (refine Rk.cons (by dsimp only; omega) ?_)
    exact Rk.nil
  rw [if_neg h1]
  by_cases h2 : kd = 2
  · rw [if_pos h2]; repeat (refine Rk.cons (by dsimp only; omega) ?_)
    exact Rk.nil
  rw [if_neg h2]
  by_cases h3 : kd = 3
  · rw [if_pos h3]; repeat (refine Rk.cons (by dsimp only; omega) ?_)
    exact Rk.nil
  rw [if_neg h3]
  by_cases h4 : kd = 4
  · rw [if_pos h4]; repeat (refine Rk.cons (by dsimp only; omega) ?_)
    exact Rk.nil
  rw [if_neg h4]
  by_cases h5 : kd = 5
  · rw [if_pos h5]; repeat (refine Rk.cons (by dsimp only; omega) ?_)
    exact Rk.nil
  rw [if_neg h5]
  by_cases h6 : kd = 6
  · rw [if_pos h6]; repeat (refine Rk.cons (by dsimp only; omega) ?_)
    exact Rk.nil
  rw [if_neg h6]
  by_cases h7 : kd = 7
  · rw [if_pos h7]; repeat (refine Rk.cons (by dsimp only; omega) ?_)
    exact Rk.nil
  rw [if_neg h7]
  by_cases h8 : kd = 8
  · rw [if_pos h8]; repeat (refine Rk.cons (by dsimp only; omega) ?_)
    exact Rk.nil
  rw [if_neg h8]
  by_cases h9 : kd = 9
  · rw [if_pos h9]; repeat (refine Rk.cons (by dsimp only; omega) ?_)
    exact Rk.nil
  rw [if_neg h9]
  by_cases h10 : kd = 10
  · rw [if_pos h10]; repeat (refine Rk.cons (by dsimp only; omega) ?_)
    exact Rk.nil
  rw [if_neg h10]
  by_cases h11 : kd = 11
  · rw [if_pos h11]; repeat (refine Rk.cons (by dsimp only; omega) ?_)
    exact Rk.nil
  rw [if_neg h11]
  repeat (refine Rk.cons (by dsimp only; omega) ?_)
  exact Rk.nil
theorem anns14_rk (pl ev : List Nat) (n nb many L : Nat) : ∀ (cs : List Int) (i p : Nat), Rk L p (anns14 pl ev n nb many L i p cs)
  | [], _, _ => Rk.nil
  | c :: cs, i, p => by
    rw [anns14]
    exact Rk.app (ann14_rk _ _ _ _ _ _ _ _) (by rw [ann14_len (kd14 c).1 (kd14 c).2]) (anns14_rk pl ev n nb many L cs _ _)
/-! ### what is drawn -/
structure D14 where
  many : Nat
  turn : Nat
  nb : Nat
  lead : Nat
  G : Nat → List Int
  gs : List Int
namespace D14
def kk (d : D14) (pl : Nat) : Nat := (pl + d.turn) % d.many
def S (d : D14) : Nat → Nat
  | 0 => d.lead
  | pl + 1 => end14 (d.S pl) (d.G (d.kk pl)) + 2
def idx (d : D14) (k : Nat) : Nat := (k + d.many - d.turn) % d.many
def plK (d : D14) (k : Nat) : List Nat := plc14 (d.S (d.idx k)) (d.G k)
def every (d : D14) : List Nat := (List.range d.many).flatMap d.plK
def starts (d : D14) : List Int := (List.range d.many).map fun k => ((d.S (d.idx k) : Nat) : Int)
def fnR (d : D14) (pl : Nat) : List Rw := grps14 (d.plK (d.kk pl)) d.every (d.G (d.kk pl)).length d.nb d.many 0 (d.G (d.kk pl)) ++ [.get (((d.kk pl + d.turn) % d.nb : Nat) : Int), .back]
def fnA (d : D14) (L pl : Nat) : List Ann := anns14 (d.plK (d.kk pl)) d.every (d.G (d.kk pl)).length d.nb d.many L 0 (d.S pl) (d.G (d.kk pl)) ++
  [⟨.get (((d.kk pl + d.turn) % d.nb : Nat) : Int), 0, none, none, L - end14 (d.S pl) (d.G (d.kk pl))⟩, ⟨.back, 1, none, none, L - (end14 (d.S pl) (d.G (d.kk pl)) + 1)⟩]
def fnsR (d : D14) : Nat → List Rw
  | 0 => []
  | n + 1 => d.fnsR n ++ d.fnR n
def fnsA (d : D14) (L : Nat) : Nat → List Ann
  | 0 => []
  | n + 1 => d.fnsA L n ++ d.fnA L n
def leadR (d : D14) : List Rw := [Rw.put 5, .back, .put 6, .raise].take d.lead
def leadA (d : D14) (L : Nat) : List Ann := [(⟨.put 5, 0, none, none, L - 0⟩ : Ann), ⟨.back, 1, none, none, L - 1⟩, ⟨.put 6, 0, none, none, L - 2⟩, ⟨.raise, 1, none, none, L - 3⟩].take d.lead
def goalR (ev : List Nat) (nb : Nat) (c : Int) : List Rw :=
  if c % 3 = 0 then [.say, .put (50 + c / 3 % 9), .back]
  else if c % 3 = 1 then [.set (c / 3 % nb), .turn, .go (ev.getD (c / 18 % (ev.length : Int)).toNat 0 : Nat)]
  else [.raise]
def goalA (ev : List Nat) (nb : Nat) (c : Int) (p L : Nat) : List Ann :=
  if c % 3 = 0 then [⟨.say, 1, none, none, L - p⟩, ⟨.put (50 + c / 3 % 9), 0, none, none, L - (p + 1)⟩, ⟨.back, 1, none, none, L - (p + 2)⟩]
  else if c % 3 = 1 then [⟨.set (c / 3 % nb), 1, none, none, L - p⟩, ⟨.turn, 0, none, none, L - (p + 1)⟩, ⟨.go (ev.getD (c / 18 % (ev.length : Int)).toNat 0 : Nat), 0, none, none, 2 * L⟩]
  else [⟨.raise, 1, none, none, L - p⟩]
def goalsR (ev : List Nat) (nb : Nat) : List Int → List Rw
  | [] => []
  | c :: cs => goalR ev nb c ++ goalsR ev nb cs
def goalsA (ev : List Nat) (nb L : Nat) : Nat → List Int → List Ann
  | _, [] => []
  | p, c :: cs => goalA ev nb c p L ++ goalsA ev nb L (p + (goalR ev nb c).length) cs
def gpl (ev : List Nat) (nb : Nat) : Nat → List Int → List Nat
  | _, [] => []
  | p, c :: cs => p :: gpl ev nb (p + (goalR ev nb c).length) cs
def codeR (d : D14) : List Rw := d.leadR ++ d.fnsR d.many
def T (d : D14) : Nat := d.S d.many
def L (d : D14) : Nat := d.T + (goalsR d.every d.nb d.gs).length
def A (d : D14) : List Ann := d.leadA d.L ++ (d.fnsA d.L d.many ++ goalsA d.every d.nb d.L d.T d.gs)
structure Ok (d : D14) : Prop where
  many : 0 < d.many
  turn : d.turn < d.many
  nb : 0 < d.nb
  lead : d.lead = 0 ∨ d.lead = 2 ∨ d.lead = 4
section
variable {d : D14}
theorem goalA_rows (ev : List Nat) (nb : Nat) (c : Int) (p L : Nat) : (goalA ev nb c p L).map (·.row) = goalR ev nb c := by
  unfold goalA goalR
  by_cases h0 : c % 3 = 0
  · rw [if_pos h0, if_pos h0]; rfl
  rw [if_neg h0, if_neg h0]
  by_cases h1 : c % 3 = 1
  · rw [if_pos h1, if_pos h1]; rfl
  rw [if_neg h1, if_neg h1]
  rfl
theorem goalA_len (ev : List Nat) (nb : Nat) (c : Int) (p L : Nat) : (goalA ev nb c p L).length = (goalR ev nb c).length := by
  rw [← goalA_rows ev nb c p L, List.length_map]
theorem goalsA_rows (ev : List Nat) (nb L : Nat) : ∀ (cs : List Int) (p : Nat), (goalsA ev nb L p cs).map (·.row) = goalsR ev nb cs
  | [], _ => rfl
  | c :: cs, p => by rw [goalsA, List.map_append, goalA_rows, goalsA_rows ev nb L cs, goalsR]
theorem fnA_rows (L pl : Nat) : (d.fnA L pl).map (·.row) = d.fnR pl := by
  unfold fnA fnR
  rw [List.map_append, anns14_rows]
  rfl
theorem fnsA_rows (L : Nat) : ∀ n, (d.fnsA L n).map (·.row) = d.fnsR n
  | 0 => rfl
  | n + 1 => by rw [fnsA, List.map_append, fnsA_rows L n, fnA_rows, fnsR]
theorem leadA_rows (L : Nat) : (d.leadA L).map (·.row) = d.leadR := by
  unfold leadA leadR
  rw [List.map_take]
  rfl
theorem fnA_len (L pl : Nat) : d.S pl + (d.fnA L pl).length = d.S (pl + 1) := by
  have := anns14_len (d.plK (d.kk pl)) d.every (d.G (d.kk pl)).length d.nb d.many L (d.G (d.kk pl)) 0 (d.S pl)
  unfold fnA
  rw [List.length_append, S]
  simp only [List.length_cons, List.length_nil]
  omega
theorem fnsA_len (L : Nat) : ∀ n, d.lead + (d.fnsA L n).length = d.S n
  | 0 => rfl
  | n + 1 => by
    have := fnsA_len L n
    have := fnA_len (d := d) L n
    rw [fnsA, List.length_append]
    omega
theorem leadA_len (o : d.Ok) (L : Nat) : (d.leadA L).length = d.lead := by
  unfold leadA
  rw [List.length_take]
  have := o.lead
  simp only [List.length_cons, List.length_nil]
  omega
theorem fnsA_split (L : Nat) {pl : Nat} : ∀ {n : Nat}, pl < n → ∃ r, d.fnsA L n = d.fnsA L pl ++ (d.fnA L pl ++ r)
  | 0, h => absurd h (by omega)
  | n + 1, h => by
    by_cases e : pl = n
    · subst e
      exact ⟨[], by rw [fnsA, List.append_nil]⟩
    · obtain ⟨r, e⟩ := fnsA_split L (pl := pl) (n := n) (by omega)
      exact ⟨r ++ d.fnA L n, by rw [fnsA, e]; simp⟩
theorem S_le {n : Nat} : ∀ {m : Nat}, n ≤ m → d.S n ≤ d.S m
  | 0, h => by
    obtain rfl : n = 0 := by omega
    exact Nat.le_refl _
  | m + 1, h => by
    by_cases e : n = m + 1
    · subst e; exact Nat.le_refl _
    · have := S_le (n := n) (m := m) (by omega)
      have := end14_ge (d.G (d.kk m)) (d.S m)
      rw [S]
      omega
theorem kk_idx (o : d.Ok) {k : Nat} (h : k < d.many) : d.kk (d.idx k) = k ∧ d.idx k < d.many := by
  refine ⟨?_, Nat.mod_lt _ o.many⟩
  unfold kk idx
  rw [Nat.mod_add_mod]
  have := o.turn
  rw [show k + d.many - d.turn + d.turn = k + d.many by omega, Nat.add_mod_right, Nat.mod_eq_of_lt h]
theorem drop_fn (o : d.Ok) {pl : Nat} (h : pl < d.many) : ∃ r, d.A.drop (d.S pl) = d.fnA d.L pl ++ r := by
  obtain ⟨r, e⟩ := fnsA_split (d := d) d.L h
  refine ⟨r ++ goalsA d.every d.nb d.L d.T d.gs, ?_⟩
  have e2 : d.A = (d.leadA d.L ++ d.fnsA d.L pl) ++ (d.fnA d.L pl ++ (r ++ goalsA d.every d.nb d.L d.T d.gs)) := by
    unfold A
    rw [e]
    simp
  rw [e2]
  have : (d.leadA d.L ++ d.fnsA d.L pl).length = d.S pl := by
    rw [List.length_append, leadA_len o]
    exact fnsA_len d.L pl
  rw [← this, List.drop_left]
theorem drop_goals (o : d.Ok) : d.A.drop d.T = goalsA d.every d.nb d.L d.T d.gs := by
  have e2 : d.A = (d.leadA d.L ++ d.fnsA d.L d.many) ++ goalsA d.every d.nb d.L d.T d.gs := by
    unfold A
    simp
  have : (d.leadA d.L ++ d.fnsA d.L d.many).length = d.T := by
    rw [List.length_append, leadA_len o]
    exact fnsA_len d.L d.many
  rw [e2]
  generalize d.leadA d.L ++ d.fnsA d.L d.many = X at this ⊢
  rw [← this, List.drop_left]
theorem A_len (o : d.Ok) : d.A.length = d.L := by
  unfold A
  rw [List.length_append, List.length_append, leadA_len o]
  have h1 := fnsA_len (d := d) d.L d.many
  have h2 : (goalsA d.every d.nb d.L d.T d.gs).length = (goalsR d.every d.nb d.gs).length := by rw [← goalsA_rows d.every d.nb d.L d.gs d.T, List.length_map]
  have : d.L = d.S d.many + (goalsR d.every d.nb d.gs).length := rfl
  omega
theorem st_end (o : d.Ok) {pl : Nat} (h : pl < d.many) : St d.A 0 d.L (end14 (d.S pl) (d.G (d.kk pl))) := by
  obtain ⟨r, e⟩ := drop_fn o h
  unfold fnA at e
  rw [List.append_assoc] at e
  have la := anns14_len (d.plK (d.kk pl)) d.every (d.G (d.kk pl)).length d.nb d.many d.L (d.G (d.kk pl)) 0 (d.S pl)
  have e2 := drop_add e rfl
  rw [la] at e2
  exact ⟨_, at_drop (i := 0) e2 rfl, rfl, rfl, rfl, rfl⟩
theorem st_plK (o : d.Ok) {k : Nat} (h : k < d.many) : ∀ q ∈ d.plK k, St d.A 0 d.L q := by
  obtain ⟨h1, h2⟩ := kk_idx o h
  obtain ⟨r, e⟩ := drop_fn o h2
  have se := st_end o h2
  unfold fnA at e
  rw [List.append_assoc, h1] at e
  rw [h1] at se
  exact plc14_st _ _ _ _ e se
theorem st_every (o : d.Ok) : ∀ q ∈ d.every, St d.A 0 d.L q := fun q hq => by
  obtain ⟨k, hk, hq⟩ := List.mem_flatMap.mp hq
  exact st_plK o (List.mem_range.mp hk) q hq
theorem plK_mem (k : Nat) : d.S (d.idx k) ∈ d.plK k := by
  unfold plK
  cases d.G k <;> exact List.mem_cons_self ..
theorem every_pos (o : d.Ok) : 0 < d.every.length := by
  have : d.S (d.idx 0) ∈ d.every := List.mem_flatMap.mpr ⟨0, List.mem_range.mpr o.many, plK_mem 0⟩
  exact List.length_pos_of_mem this
theorem call_ok (o : d.Ok) {R : Nat} (hR : 2 * d.L + 2 ≤ R) (c : Int) : ∃ s, nth d.starts (c / 702 % (d.many : Int)) = some s ∧ Tgt d.A s 0 R := by
  have h0 := Int.emod_nonneg (c / 702) (show (d.many : Int) ≠ 0 by have := o.many; omega)
  have h1 := Int.emod_lt_of_pos (c / 702) (show (0 : Int) < (d.many : Int) by have := o.many; omega)
  have hk : (c / 702 % (d.many : Int)).toNat < d.many := by omega
  generalize c / 702 % (d.many : Int) = x at *
  refine ⟨_, ?_, St.tgt (st_plK o hk _ (plK_mem _)) (by omega)⟩
  unfold nth starts
  rw [if_pos h0, List.getElem?_map, List.getElem?_range hk]
  rfl
theorem fnA_ok (o : d.Ok) {R : Nat} (hR : 2 * d.L + 2 ≤ R) {pl : Nat} (h : pl < d.many) : OkL d.A d.starts d.nb R (d.S pl) (d.fnA d.L pl) := by
  obtain ⟨r, e⟩ := drop_fn o h
  have hk : d.kk pl < d.many := Nat.mod_lt _ o.many
  have hi : d.idx (d.kk pl) = pl := by
    unfold idx kk
    have h1 := o.turn
    have h2 := Nat.mod_add_div (pl + d.turn) d.many
    by_cases c : pl + d.turn < d.many
    · rw [Nat.mod_eq_of_lt c, show pl + d.turn + d.many - d.turn = pl + d.many by omega, Nat.add_mod_right, Nat.mod_eq_of_lt h]
    · have e3 : (pl + d.turn) % d.many = pl + d.turn - d.many := by
        rw [Nat.mod_eq_sub_mod (by omega), Nat.mod_eq_of_lt (by omega)]
      rw [e3, show pl + d.turn - d.many + d.many - d.turn = pl by omega, Nat.mod_eq_of_lt h]
  have la := anns14_len (d.plK (d.kk pl)) d.every (d.G (d.kk pl)).length d.nb d.many d.L (d.G (d.kk pl)) 0 (d.S pl)
  have se := st_end o h
  have hlt : end14 (d.S pl) (d.G (d.kk pl)) < d.L := by
    obtain ⟨a, h1, _⟩ := se
    rw [← A_len o]
    rcases Nat.lt_or_ge (end14 (d.S pl) (d.G (d.kk pl))) d.A.length with z | z
    · exact z
    · rw [List.getElem?_eq_none z] at h1; cases h1
  unfold fnA at e ⊢
  have e2 := e
  rw [List.append_assoc] at e2
  have e3 := drop_add e2 rfl
  rw [la] at e3
  refine .app (anns14_ok hR o.nb (by unfold plK; exact plc14_len _ _) (st_plK o hk) (st_every o) (every_pos o) (A_len o) (call_ok o hR) _ 0 (d.S pl) _ (by omega) (by rw [List.drop_zero, plK, hi]) e2) rfl ?_
  rw [la]
  have hnb : (((d.kk pl + d.turn) % d.nb : Nat) : Int) < (d.nb : Int) := by
    have := Nat.mod_lt (d.kk pl + d.turn) o.nb
    omega
  have h2 : end14 (d.S pl) (d.G (d.kk pl)) + 1 < d.L := by
    have g : d.A[end14 (d.S pl) (d.G (d.kk pl)) + 1]? = some _ := at_drop (i := 1) e3 rfl
    rw [← A_len o]
    rcases Nat.lt_or_ge (end14 (d.S pl) (d.G (d.kk pl)) + 1) d.A.length with z | z
    · exact z
    · rw [List.getElem?_eq_none z] at g; cases g
  exact .cons ⟨by dsimp only; omega, by omega, hnb, ⟨_, at_drop (i := 1) e3 rfl, rfl, .inl rfl, .inl rfl, by dsimp only; omega⟩⟩ (.cons ⟨by dsimp only; omega, 0, rfl⟩ .nil)
theorem fnsA_ok (o : d.Ok) {R : Nat} (hR : 2 * d.L + 2 ≤ R) : ∀ n, n ≤ d.many → OkL d.A d.starts d.nb R d.lead (d.fnsA d.L n)
  | 0, _ => .nil
  | n + 1, h => by
    rw [fnsA]
    refine .app (fnsA_ok o hR n (by omega)) rfl ?_
    rw [fnsA_len]
    exact fnA_ok o hR (by omega)
theorem leadA_ok (o : d.Ok) {R : Nat} (hR : 2 * d.L + 2 ≤ R) : OkL d.A d.starts d.nb R 0 (d.leadA d.L) := by
  have hd : d.A.drop 0 = d.leadA d.L ++ (d.fnsA d.L d.many ++ goalsA d.every d.nb d.L d.T d.gs) := by rw [List.drop_zero]; rfl
  have hl : d.lead ≤ d.L := by
    have := S_le (d := d) (Nat.zero_le d.many)
    have e : d.S 0 = d.lead := rfl
    unfold L T
    omega
  unfold leadA at hd ⊢
  rcases o.lead with e | e | e <;> rw [e] at hd hl ⊢
  · exact .nil
  · exact .cons ⟨by dsimp only; omega, ⟨_, at_drop (i := 1) hd rfl, rfl, .inl rfl, .inl rfl, by dsimp only; omega⟩⟩ (.cons ⟨by dsimp only; omega, 0, rfl⟩ .nil)
  · exact .cons ⟨by dsimp only; omega, ⟨_, at_drop (i := 1) hd rfl, rfl, .inl rfl, .inl rfl, by dsimp only; omega⟩⟩ (.cons ⟨by dsimp only; omega, 0, rfl⟩
      (.cons ⟨by dsimp only; omega, ⟨_, at_drop (i := 3) hd rfl, rfl, .inl rfl, .inl rfl, by dsimp only; omega⟩⟩ (.cons ⟨by dsimp only; omega, 0, rfl⟩ .nil)))
theorem goalA_ok (o : d.Ok) {R : Nat} (hR : 2 * d.L + 2 ≤ R) {c : Int} {p : Nat} {rest : List Ann} (hA : d.A.drop p = goalA d.every d.nb c p d.L ++ rest) (hp : p + (goalR d.every d.nb c).length ≤ d.L) : OkL d.A d.starts d.nb R p (goalA d.every d.nb c p d.L) := by
  unfold goalA at hA ⊢
  unfold goalR at hp
  by_cases h0 : c % 3 = 0
  · rw [if_pos h0] at hA hp ⊢
    simp only [List.length_cons, List.length_nil] at hp
    exact .cons ⟨by dsimp only; omega, 0, rfl, ⟨_, at_drop (i := 1) hA rfl, rfl, .inl rfl, .inl rfl, by dsimp only; omega⟩⟩
      (.cons ⟨by dsimp only; omega, ⟨_, at_drop (i := 2) hA rfl, rfl, .inl rfl, .inl rfl, by dsimp only; omega⟩⟩ (.cons ⟨by dsimp only; omega, 0, rfl⟩ .nil))
  rw [if_neg h0] at hA hp ⊢
  by_cases h1 : c % 3 = 1
  · rw [if_pos h1] at hA hp ⊢
    simp only [List.length_cons, List.length_nil] at hp
    have hnb := o.nb
    have hev := every_pos o
    have hg : d.every.getD (c / 18 % (d.every.length : Int)).toNat 0 ∈ d.every := by
      refine getD_mem ?_
      have := Int.emod_lt_of_pos (c / 18) (show (0 : Int) < (d.every.length : Int) by omega)
      have := Int.emod_nonneg (c / 18) (show (d.every.length : Int) ≠ 0 by omega)
      omega
    exact .cons ⟨by dsimp only; omega, Int.emod_nonneg _ (by omega), Int.emod_lt_of_pos _ (by omega), 0, rfl, ⟨_, at_drop (i := 1) hA rfl, rfl, .inl rfl, .inl rfl, by dsimp only; omega⟩⟩
      (.cons ⟨by dsimp only; omega, ⟨_, at_drop (i := 2) hA rfl, rfl, .inl rfl, .inl rfl, by dsimp only; omega⟩⟩ (.cons ⟨by dsimp only; omega, St.tgt (st_every o _ hg) (by dsimp only; omega)⟩ .nil))
  rw [if_neg h1] at hA hp ⊢
  exact .cons ⟨by dsimp only; omega, 0, rfl⟩ .nil
theorem goalsA_ok (o : d.Ok) {R : Nat} (hR : 2 * d.L + 2 ≤ R) : ∀ (cs : List Int) (p : Nat), d.A.drop p = goalsA d.every d.nb d.L p cs → p + (goalsR d.every d.nb cs).length = d.L →
    OkL d.A d.starts d.nb R p (goalsA d.every d.nb d.L p cs) ∧ ∀ q ∈ gpl d.every d.nb p cs, p ≤ q ∧ St d.A 1 d.L q
  | [], p, _, _ => ⟨.nil, fun q hq => by simp [gpl] at hq⟩
  | c :: cs, p, hA, hp => by
    rw [goalsA] at hA
    rw [goalsR, List.length_append] at hp
    obtain ⟨h1, h2⟩ := goalsA_ok o hR cs (p + (goalR d.every d.nb c).length) (drop_add hA (goalA_len ..)) (by omega)
    refine ⟨.app (goalA_ok o hR hA (by omega)) (goalA_len ..) h1, fun q hq => ?_⟩
    rcases List.mem_cons.mp hq with e | e
    · subst e
      refine ⟨Nat.le_refl _, ?_⟩
      have : ∃ a r, goalA d.every d.nb c q d.L = a :: r ∧ a.h = 1 ∧ a.tp = none ∧ a.bx = none ∧ a.rk = d.L - q := by
        unfold goalA
        by_cases h0 : c % 3 = 0
        · rw [if_pos h0]; exact ⟨_, _, rfl, rfl, rfl, rfl, rfl⟩
        rw [if_neg h0]
        by_cases h1 : c % 3 = 1
        · rw [if_pos h1]; exact ⟨_, _, rfl, rfl, rfl, rfl, rfl⟩
        rw [if_neg h1]
        exact ⟨_, _, rfl, rfl, rfl, rfl, rfl⟩
      obtain ⟨a, r, e, x1, x2, x3, x4⟩ := this
      exact ⟨a, at_drop (i := 0) hA (by rw [e]; rfl), x1, x2, x3, x4⟩
    · have := h2 q e
      exact ⟨by omega, this.2⟩
theorem fnA_rk (L pl : Nat) : Rk L (d.S pl) (d.fnA L pl) := by
  unfold fnA
  exact Rk.app (anns14_rk _ _ _ _ _ _ _ _ _) (anns14_len _ _ _ _ _ _ _ _ _) (.cons (Nat.le_refl _) (.cons (Nat.le_refl _) .nil))
theorem fnsA_rk (L : Nat) : ∀ n, Rk L d.lead (d.fnsA L n)
  | 0 => Rk.nil
  | n + 1 => by
    rw [fnsA]
    exact Rk.app (fnsA_rk L n) (fnsA_len L n) (fnA_rk L n)
theorem leadA_rk (o : d.Ok) (L : Nat) : Rk L 0 (d.leadA L) := by
  unfold leadA
  rcases o.lead with e | e | e <;> rw [e]
  · exact .nil
  · exact .cons (Nat.le_refl _) (.cons (Nat.le_refl _) .nil)
  · exact .cons (Nat.le_refl _) (.cons (Nat.le_refl _) (.cons (Nat.le_refl _) (.cons (Nat.le_refl _) .nil)))
def P (d : D14) (str : List Stretch) : Parts := ⟨d.codeR ++ goalsR d.every d.nb d.gs, str, d.starts, (d.nb : Int)⟩
theorem ann (o : d.Ok) {str : List Stretch} (hs : ∀ s ∈ str, s.2.1 ≤ (d.T : Int) ∧ ∃ g ∈ gpl d.every d.nb d.T d.gs, s.2.2 = ((g : Nat) : Int)) : AnnOk d.A (d.P str) d.nb (2 * d.L + 2) := by
  have hR : 2 * d.L + 2 ≤ 2 * d.L + 2 := Nat.le_refl _
  obtain ⟨g1, g2⟩ := goalsA_ok o hR d.gs d.T (drop_goals o) rfl
  have ok : OkL d.A d.starts d.nb (2 * d.L + 2) 0 (d.leadA d.L ++ (d.fnsA d.L d.many ++ goalsA d.every d.nb d.L d.T d.gs)) := by
    refine .app (leadA_ok o hR) (leadA_len o _) ?_
    rw [Nat.zero_add]
    refine .app (fnsA_ok o hR d.many (Nat.le_refl _)) rfl ?_
    rw [fnsA_len]
    exact g1
  refine ⟨?_, rfl, o.nb, fun p a h => (by have := ok p a h; rw [Nat.zero_add] at this; exact this), fun s hsm p a h h1 h2 => ?_⟩
  · show d.codeR ++ goalsR d.every d.nb d.gs = d.A.map (·.row)
    unfold A codeR
    rw [List.map_append, List.map_append, leadA_rows, fnsA_rows, goalsA_rows, List.append_assoc]
  · obtain ⟨x1, g, x2, x3⟩ := hs s hsm
    obtain ⟨y1, y2⟩ := g2 g x2
    rw [x3]
    have hp : p < d.T := by omega
    have hrk : d.L - p ≤ a.rk := by
      have r1 := Rk.app (leadA_rk o d.L) (by rw [Nat.zero_add]; exact leadA_len o d.L) (fnsA_rk d.L d.many)
      have e2 : d.A = (d.leadA d.L ++ d.fnsA d.L d.many) ++ goalsA d.every d.nb d.L d.T d.gs := by
        unfold A
        simp
      have hl : (d.leadA d.L ++ d.fnsA d.L d.many).length = d.T := by
        rw [List.length_append, leadA_len o]
        exact fnsA_len d.L d.many
      rw [e2, List.getElem?_append_left (by omega)] at h
      have := r1 p a h
      rwa [Nat.zero_add] at this
    obtain ⟨b, b1, _⟩ := y2
    have : g < d.L := by
      rw [← A_len o]
      rcases Nat.lt_or_ge g d.A.length with z | z
      · exact z
      · rw [List.getElem?_eq_none z] at b1; cases b1
    exact St.tgt (g2 g x2).2 (by omega)
theorem size14_le (k : Int) : size14 k ≤ 5 := by
  unfold size14
  generalize k.toNat = j
  match j with
  | 0 | 1 | 2 | 3 | 4 | 5 | 6 | 7 | 8 | 9 | 10 | 11 | 12 => decide
  | j + 13 => simp
theorem end14_le : ∀ (cs : List Int) (p : Nat), end14 p cs ≤ p + 5 * cs.length
  | [], p => Nat.le_refl _
  | c :: cs, p => by
    have := end14_le cs (p + size14 (c % 13))
    have := size14_le (c % 13)
    simp only [end14, List.length_cons]
    omega
theorem S_bound (hG : ∀ k, (d.G k).length ≤ 24) : ∀ n, d.S n ≤ d.lead + 122 * n
  | 0 => by simp [S]
  | n + 1 => by
    have := S_bound hG n
    have := end14_le (d.G (d.kk n)) (d.S n)
    have := hG (d.kk n)
    rw [S]
    omega
theorem goalsR_len (ev : List Nat) (nb : Nat) : ∀ cs : List Int, (goalsR ev nb cs).length ≤ 3 * cs.length
  | [] => Nat.le_refl _
  | c :: cs => by
    have := goalsR_len ev nb cs
    have h : (goalR ev nb c).length ≤ 3 := by
      unfold goalR
      by_cases h0 : c % 3 = 0
      · rw [if_pos h0]; exact Nat.le_refl _
      rw [if_neg h0]
      by_cases h1 : c % 3 = 1
      · rw [if_pos h1]; exact Nat.le_refl _
      rw [if_neg h1]
      exact Nat.le_of_ble_eq_true rfl
    simp only [goalsR, List.length_append, List.length_cons]
    omega
/-- it ends -/
theorem ends (o : d.Ok) {str : List Stretch} (hs : ∀ s ∈ str, s.2.1 ≤ (d.T : Int) ∧ ∃ g ∈ gpl d.every d.nb d.T d.gs, s.2.2 = ((g : Nat) : Int)) (hG : ∀ k, (d.G k).length ≤ 24) (h4 : d.many ≤ 4) (hgs : d.gs.length ≤ 5) (v : Int) {t : Nat} (ht : t ≤ 25) :
    ∃ M0 n M x z, begun (d.P str) v t = some M0 ∧ rowSteps (d.P str) n M0 = some M ∧ M.ended = some (x, z) ∧ n ≤ 1000000 := by
  have an := ann o hs
  have h0 : 0 < d.many := o.many
  obtain ⟨a, h1, h2, h3, h4', h5⟩ := st_plK o h0 _ (plK_mem 0)
  have hL : d.L ≤ 4 + 122 * 4 + 15 := by
    have x1 := S_bound hG d.many
    have x2 := goalsR_len d.every d.nb d.gs
    have x3 := o.lead
    unfold L T
    omega
  have hst : nth d.starts 0 = some ((d.S (d.idx 0) : Nat) : Int) := by
    unfold nth starts
    rw [if_pos (Int.le_refl _), show (0 : Int).toNat = 0 from rfl, List.getElem?_map, List.getElem?_range h0]
    rfl
  have hb : begun (d.P str) v t = some ⟨[⟨((d.S (d.idx 0) : Nat) : Int), newBoxes d.nb v, []⟩], [], t, none⟩ := by
    unfold begun
    show (nth d.starts 0).map _ = _
    rw [hst]
    rfl
  obtain ⟨n, M, hn, hr, he⟩ := ends_stand an _ ⟨[⟨((d.S (d.idx 0) : Nat) : Int), newBoxes d.nb v, []⟩], [], t, none⟩ ⟨rfl, by simp, ⟨a, ⟨nth_of h1, by rw [h2]; rfl, fun v e => (by rw [h3] at e; cases e), fun k v e => (by rw [h4'] at e; cases e), (by
    have := o.nb
    simp [newBoxes]
    omega)⟩, rfl⟩, fun g hg => by simp at hg⟩
  cases hM : M.ended with
  | none => rw [hM] at he; cases he
  | some q =>
    refine ⟨_, n, M, q.1, q.2, hb, hr, hM, Nat.le_trans hn ?_⟩
    rw [h5]
    dsimp only
    have e2 : t * (10 * (2 * d.L + 2)) ≤ 25 * (10 * (2 * 507 + 2)) := Nat.mul_le_mul ht (by omega)
    simp only [List.length_nil]
    omega
end
end D14
end Un

set_option maxHeartbeats 8000000
namespace U
open PySem PySem.Spec PyProof.Rows L2 Un
local macro_rules | `(tactic| walk_at "w1") => `(tactic| first
  | with_reducible refine w_seq ?_
  | with_reducible refine w_asg ?_
  | with_reducible refine w_op ?_
  | ((with_reducible refine' w_var ?h1 ?_); (case h1 => rfl))
  | with_reducible refine w_c ?_
  | with_reducible refine w_name ?_
  | with_reducible refine w_tFd ?_
  | ((with_reducible refine' w_fld ?h1 ?h2 ?_); (case h1 => assumption); (case h2 => rfl))
  | with_reducible refine w_if ?_
  | with_reducible refine w_test ?_
  | with_reducible refine w_eqS ?_
  | with_reducible refine w_eqI ?_
  | with_reducible refine w_neS ?_
  | with_reducible refine w_neI ?_
  | with_reducible refine w_isN ?_
  | with_reducible refine w_isnN ?_
  | with_reducible refine w_bl ?_
  | with_reducible refine w_ret ?_
  | with_reducible refine w_drop ?_
  | with_reducible refine w_next ?_
  | with_reducible refine w_cons ?_
  | with_reducible refine w_nil ?_
  | with_reducible refine w_call ?_
  | with_reducible refine w_cb ?_
  | with_reducible refine w_meth ?_
  | ((with_reducible refine' w_recv ?h1 ?h2 ?_); (case h1 => assumption); (case h2 => rfl))
  | with_reducible refine w_sFd ?_
  | ((with_reducible refine' w_put ?h1 ?h2 ?_); (case h1 => assumption); (case h2 => exact Nat.le_of_ble_eq_true rfl))
  | with_reducible refine w_add ?_
  | with_reducible refine w_sub ?_
  | with_reducible refine w_lt ?_
  | with_reducible refine w_le ?_
  | with_reducible refine w_gt ?_
  | with_reducible refine w_ge ?_
  | with_reducible refine w_bm ?_
  | with_reducible refine w_bm0 ?_
  | ((with_reducible refine' w_ty ?h1 ?_); (case h1 => assumption))
  | with_reducible refine w_tup ?_
  | with_reducible refine w_lst ?_
  | ((with_reducible refine' w_new ?h1 ?_); (case h1 => exact Nat.le_of_ble_eq_true rfl))
  | with_reducible refine w_gsub ?_
  | with_reducible refine w_make ?_
  | with_reducible refine w_lc ?_
  | with_reducible refine w_iList ?_
  | with_reducible refine w_for ?_
  | with_reducible refine w_yes ?_
  | with_reducible refine w_tSl ?_
  | with_reducible refine w_part ?_
  | with_reducible refine w_nopart ?_
  | with_reducible refine w_i ?_
  | with_reducible refine w_rng1 ?_
  | with_reducible refine w_rng2 ?_
  | with_reducible refine w_isiII ?_
  | with_reducible refine w_isiIB ?_
  | with_reducible refine w_isiSS ?_
  | ((with_reducible refine w_mod ?h1 ?_); (case h1 => decide))
  | ((with_reducible refine w_fdC' ?h1 ?h2 ?_); (case h1 => decide); (case h2 => decide))
  | ((with_reducible refine w_mulR ?h1 ?h2 ?_); (case h1 => decide); (case h2 => decide))
  | ((with_reducible refine w_mulL ?h1 ?h2 ?_); (case h1 => decide); (case h2 => decide))
  | ((with_reducible refine w_pow' ?h1 ?h2 ?h3 ?_); (case h1 => decide); (case h2 => decide); (case h3 => decide))
  | with_reducible refine w_andV ?_
  | with_reducible refine w_orV ?_
  | with_reducible refine w_notV ?_
  | with_reducible refine w_B ?_
  | with_reducible refine w_not ?_
  | with_reducible refine w_and ?_
  | with_reducible refine w_or ?_
  | with_reducible refine w_ifx ?_
  | with_reducible refine w_un ?_
  | ((with_reducible refine w_T ?h1 ?_); (case h1 => with_reducible rfl))
  | ((with_reducible refine w_F ?h1 ?_); (case h1 => with_reducible rfl))
  | ((with_reducible refine w_T ?h1 ?_); (case h1 => decide +kernel))
  | ((with_reducible refine w_F ?h1 ?_); (case h1 => decide +kernel)))
local macro_rules | `(tactic| walk_at "w") => `(tactic| repeat walk_at "w1")

section
variable {K : PySem.W.Frag}
def sp_l_size (K : PySem.W.Frag) : Sp := fun vs H Q _ => ∃ k : Int, vs = [.int k] ∧ 0 ≤ k ∧ k < 13 ∧ ∀ H', Same H H' → Q (.int (size14 k : Nat)) H'
theorem p_l_size (vs : List V) (H : Hp) (Q : VK) (E : XK) (h : sp_l_size K vs H Q E) : t_l_size K { nx := fun _ H' => Q .non H', rt := Q } (L2.start n_l_size vs) H := by
  obtain ⟨k, rfl, h0, h1, q⟩ := h
  obtain ⟨j, rfl⟩ : ∃ j : Nat, k = (j : Int) := ⟨k.toNat, by omega⟩
  unfold t_l_size
  walk_at "w"
  refine fun p hp => ?_
  walk_at "w"
  refine w_ixL (v := .int (size14 (j : Int) : Nat)) (SqL.of upd_same) ?_ (q _ (same_lay hp))
  match j, h1 with
  | 0, _ | 1, _ | 2, _ | 3, _ | 4, _ | 5, _ | 6, _ | 7, _ | 8, _ | 9, _ | 10, _ | 11, _ | 12, _ => rfl
  | j + 13, h => omega
theorem row2 {H : Hp} {p : Addr} {x : Int} (h : IsTup K H (.ref p) [.str (wordOf (two14 x))]) : IsRow K H (.ref p) (two14 x) := by
  unfold two14 at h ⊢
  by_cases h0 : x = 0
  · rw [if_pos h0] at h ⊢; exact h
  rw [if_neg h0] at h ⊢
  by_cases h1 : x = 1
  · rw [if_pos h1] at h ⊢; exact h
  rw [if_neg h1] at h ⊢
  by_cases h2 : x = 2
  · rw [if_pos h2] at h ⊢; exact h
  rw [if_neg h2] at h ⊢
  exact h
def sp_l_group (K : PySem.W.Frag) : Sp := fun vs H Q _ => ∃ c near far nb many : Int, vs = [.int c, .int near, .int far, .int nb, .int many] ∧ 0 < nb ∧ 0 < many ∧ ∀ H' l ws, Same H H' → H' l = some (.lst ws) → All2 (IsRow K H') ws (group14 c (c % 13) near far nb many) → Q (.ref l) H'
theorem p_l_group (vs : List V) (H : Hp) (Q : VK) (E : XK) (h : sp_l_group K vs H Q E) : t_l_group K { nx := fun _ H' => Q .non H', rt := Q } (L2.start n_l_group vs) H := by
  obtain ⟨c, near, far, nb, many, rfl, hnb, hmany, q⟩ := h
  obtain ⟨H0, hH0, sm⟩ : ∃ H0, H0 = H ∧ Same H0 H := ⟨H, rfl, Same.refl H⟩
  rw [← hH0] at q
  clear hH0
  unfold group14 at q
  unfold t_l_group
  walk_at "w"
  refine w_mod hnb ?_
  walk_at "w"
  refine w_mod hmany ?_
  walk_at "w"
  refine w_D (fun c0 => ?_) (fun c0 => ?_)
  · rw [if_pos c0] at q
    walk_at "w"
    refine fun p0 h0 => ?_
    have s1 := same_lay (o := .tup [.str "put", .int (c / 78 % 9 - 3)]) h0
    have g0 : IsTup K (upd H p0 (.tup [.str "put", .int (c / 78 % 9 - 3)])) (.ref p0) [.str "put", .int (c / 78 % 9 - 3)] := new_tup
    replace sm := sm.trans s1
    clear s1 h0
    generalize upd H p0 _ = H at sm g0 ⊢
    walk_at "w"
    refine fun p1 h1 => ?_
    have s1 := same_lay (o := .tup [.str "say"]) h1
    have g1 : IsTup K (upd H p1 (.tup [.str "say"])) (.ref p1) [.str "say"] := new_tup
    replace g0 := g0.mono s1
    replace sm := sm.trans s1
    clear s1 h1
    generalize upd H p1 _ = H at sm g0 g1 ⊢
    walk_at "w"
    refine fun l hl => ?_
    have s1 := same_lay (o := .lst [.ref p0, .ref p1]) hl
    exact q _ l [.ref p0, .ref p1] (sm.trans s1) upd_same (.cons (g0.mono s1) (.cons (g1.mono s1) .nil))
  rw [if_neg c0] at q
  walk_at "w"
  refine w_D (fun c1 => ?_) (fun c1 => ?_)
  · rw [if_pos c1] at q
    walk_at "w"
    refine fun p0 h0 => ?_
    have s1 := same_lay (o := .tup [.str "get", .int (c / 13 % nb)]) h0
    have g0 : IsTup K (upd H p0 (.tup [.str "get", .int (c / 13 % nb)])) (.ref p0) [.str "get", .int (c / 13 % nb)] := new_tup
    replace sm := sm.trans s1
    clear s1 h0
    generalize upd H p0 _ = H at sm g0 ⊢
    walk_at "w"
    refine fun p1 h1 => ?_
    have s1 := same_lay (o := .tup [.str "say"]) h1
    have g1 : IsTup K (upd H p1 (.tup [.str "say"])) (.ref p1) [.str "say"] := new_tup
    replace g0 := g0.mono s1
    replace sm := sm.trans s1
    clear s1 h1
    generalize upd H p1 _ = H at sm g0 g1 ⊢
    walk_at "w"
    refine fun l hl => ?_
    have s1 := same_lay (o := .lst [.ref p0, .ref p1]) hl
    exact q _ l [.ref p0, .ref p1] (sm.trans s1) upd_same (.cons (g0.mono s1) (.cons (g1.mono s1) .nil))
  rw [if_neg c1] at q
  walk_at "w"
  refine w_D (fun c2 => ?_) (fun c2 => ?_)
  · rw [if_pos c2] at q
    walk_at "w"
    refine fun p0 h0 => ?_
    have s1 := same_lay (o := .tup [.str "get", .int (c / 13 % nb)]) h0
    have g0 : IsTup K (upd H p0 (.tup [.str "get", .int (c / 13 % nb)])) (.ref p0) [.str "get", .int (c / 13 % nb)] := new_tup
    replace sm := sm.trans s1
    clear s1 h0
    generalize upd H p0 _ = H at sm g0 ⊢
    walk_at "w"
    refine fun p1 h1 => ?_
    have s1 := same_lay (o := .tup [.str "put", .int (c / 78 % 9 - 3)]) h1
    have g1 : IsTup K (upd H p1 (.tup [.str "put", .int (c / 78 % 9 - 3)])) (.ref p1) [.str "put", .int (c / 78 % 9 - 3)] := new_tup
    replace g0 := g0.mono s1
    replace sm := sm.trans s1
    clear s1 h1
    generalize upd H p1 _ = H at sm g0 g1 ⊢
    walk_at "w"
    refine fun px hx => ?_
    have s1 := same_lay (o := .lst [.str "add", .str "sub", .str "less", .str "share"]) hx
    have gx : RawAt (upd H px (.lst [.str "add", .str "sub", .str "less", .str "share"])) px (.lst [.str "add", .str "sub", .str "less", .str "share"]) := upd_same
    replace g0 := g0.mono s1
    replace g1 := g1.mono s1
    replace sm := sm.trans s1
    clear s1 hx
    generalize upd H px _ = H at sm g0 g1 gx ⊢
    walk_at "w"
    have ex : atI [V.str "add", .str "sub", .str "less", .str "share"] (c / 702 % 4) = some (.str (wordOf (two14 (c / 702 % 4)))) := by
      rcases (by omega : c / 702 % 4 = 0 ∨ c / 702 % 4 = 1 ∨ c / 702 % 4 = 2 ∨ c / 702 % 4 = 3) with e | e | e | e <;> rw [e] <;> rfl
    refine w_ixL (SqL.of gx) ex ?_
    walk_at "w"
    refine fun p2 h2 => ?_
    have s1 := same_lay (o := .tup [.str (wordOf (two14 (c / 702 % 4)))]) h2
    have g2 : IsTup K (upd H p2 (.tup [.str (wordOf (two14 (c / 702 % 4)))])) (.ref p2) [.str (wordOf (two14 (c / 702 % 4)))] := new_tup
    replace g0 := g0.mono s1
    replace g1 := g1.mono s1
    replace sm := sm.trans s1
    clear s1 h2
    generalize upd H p2 _ = H at sm g0 g1 g2 ⊢
    walk_at "w"
    refine fun p3 h3 => ?_
    have s1 := same_lay (o := .tup [.str "set", .int (c / 13 % nb)]) h3
    have g3 : IsTup K (upd H p3 (.tup [.str "set", .int (c / 13 % nb)])) (.ref p3) [.str "set", .int (c / 13 % nb)] := new_tup
    replace g0 := g0.mono s1
    replace g1 := g1.mono s1
    replace g2 := g2.mono s1
    replace sm := sm.trans s1
    clear s1 h3
    generalize upd H p3 _ = H at sm g0 g1 g2 g3 ⊢
    walk_at "w"
    refine fun l hl => ?_
    have s1 := same_lay (o := .lst [.ref p0, .ref p1, .ref p2, .ref p3]) hl
    exact q _ l [.ref p0, .ref p1, .ref p2, .ref p3] (sm.trans s1) upd_same (.cons (g0.mono s1) (.cons (g1.mono s1) (.cons (row2 (g2.mono s1)) (.cons (g3.mono s1) .nil))))
  rw [if_neg c2] at q
  walk_at "w"
  refine w_D (fun c3 => ?_) (fun c3 => ?_)
  · rw [if_pos c3] at q
    walk_at "w"
    refine fun p0 h0 => ?_
    have s1 := same_lay (o := .tup [.str "get", .int (c / 13 % nb)]) h0
    have g0 : IsTup K (upd H p0 (.tup [.str "get", .int (c / 13 % nb)])) (.ref p0) [.str "get", .int (c / 13 % nb)] := new_tup
    replace sm := sm.trans s1
    clear s1 h0
    generalize upd H p0 _ = H at sm g0 ⊢
    walk_at "w"
    refine fun p1 h1 => ?_
    have s1 := same_lay (o := .tup [.str "nought", .int near]) h1
    have g1 : IsTup K (upd H p1 (.tup [.str "nought", .int near])) (.ref p1) [.str "nought", .int near] := new_tup
    replace g0 := g0.mono s1
    replace sm := sm.trans s1
    clear s1 h1
    generalize upd H p1 _ = H at sm g0 g1 ⊢
    walk_at "w"
    refine fun l hl => ?_
    have s1 := same_lay (o := .lst [.ref p0, .ref p1]) hl
    exact q _ l [.ref p0, .ref p1] (sm.trans s1) upd_same (.cons (g0.mono s1) (.cons (g1.mono s1) .nil))
  rw [if_neg c3] at q
  walk_at "w"
  refine w_D (fun c4 => ?_) (fun c4 => ?_)
  · rw [if_pos c4] at q
    walk_at "w"
    refine fun p0 h0 => ?_
    have s1 := same_lay (o := .tup [.str "go", .int near]) h0
    have g0 : IsTup K (upd H p0 (.tup [.str "go", .int near])) (.ref p0) [.str "go", .int near] := new_tup
    replace sm := sm.trans s1
    clear s1 h0
    generalize upd H p0 _ = H at sm g0 ⊢
    walk_at "w"
    refine fun l hl => ?_
    have s1 := same_lay (o := .lst [.ref p0]) hl
    exact q _ l [.ref p0] (sm.trans s1) upd_same (.cons (g0.mono s1) .nil)
  rw [if_neg c4] at q
  walk_at "w"
  refine w_D (fun c5 => ?_) (fun c5 => ?_)
  · rw [if_pos c5] at q
    walk_at "w"
    refine fun p0 h0 => ?_
    have s1 := same_lay (o := .tup [.str "put", .int near]) h0
    have g0 : IsTup K (upd H p0 (.tup [.str "put", .int near])) (.ref p0) [.str "put", .int near] := new_tup
    replace sm := sm.trans s1
    clear s1 h0
    generalize upd H p0 _ = H at sm g0 ⊢
    walk_at "w"
    refine fun p1 h1 => ?_
    have s1 := same_lay (o := .tup [.str "set", .int (nb - 1)]) h1
    have g1 : IsTup K (upd H p1 (.tup [.str "set", .int (nb - 1)])) (.ref p1) [.str "set", .int (nb - 1)] := new_tup
    replace g0 := g0.mono s1
    replace sm := sm.trans s1
    clear s1 h1
    generalize upd H p1 _ = H at sm g0 g1 ⊢
    walk_at "w"
    refine fun p2 h2 => ?_
    have s1 := same_lay (o := .tup [.str "on", .int (nb - 1)]) h2
    have g2 : IsTup K (upd H p2 (.tup [.str "on", .int (nb - 1)])) (.ref p2) [.str "on", .int (nb - 1)] := new_tup
    replace g0 := g0.mono s1
    replace g1 := g1.mono s1
    replace sm := sm.trans s1
    clear s1 h2
    generalize upd H p2 _ = H at sm g0 g1 g2 ⊢
    walk_at "w"
    refine fun l hl => ?_
    have s1 := same_lay (o := .lst [.ref p0, .ref p1, .ref p2]) hl
    exact q _ l [.ref p0, .ref p1, .ref p2] (sm.trans s1) upd_same (.cons (g0.mono s1) (.cons (g1.mono s1) (.cons (g2.mono s1) .nil)))
  rw [if_neg c5] at q
  walk_at "w"
  refine w_D (fun c6 => ?_) (fun c6 => ?_)
  · rw [if_pos c6] at q
    walk_at "w"
    refine fun p0 h0 => ?_
    have s1 := same_lay (o := .tup [.str "turn"]) h0
    have g0 : IsTup K (upd H p0 (.tup [.str "turn"])) (.ref p0) [.str "turn"] := new_tup
    replace sm := sm.trans s1
    clear s1 h0
    generalize upd H p0 _ = H at sm g0 ⊢
    walk_at "w"
    refine fun p1 h1 => ?_
    have s1 := same_lay (o := .tup [.str "go", .int far]) h1
    have g1 : IsTup K (upd H p1 (.tup [.str "go", .int far])) (.ref p1) [.str "go", .int far] := new_tup
    replace g0 := g0.mono s1
    replace sm := sm.trans s1
    clear s1 h1
    generalize upd H p1 _ = H at sm g0 g1 ⊢
    walk_at "w"
    refine fun l hl => ?_
    have s1 := same_lay (o := .lst [.ref p0, .ref p1]) hl
    exact q _ l [.ref p0, .ref p1] (sm.trans s1) upd_same (.cons (g0.mono s1) (.cons (g1.mono s1) .nil))
  rw [if_neg c6] at q
  walk_at "w"
  refine w_D (fun c7 => ?_) (fun c7 => ?_)
  · rw [if_pos c7] at q
    walk_at "w"
    refine fun p0 h0 => ?_
    have s1 := same_lay (o := .tup [.str "turn"]) h0
    have g0 : IsTup K (upd H p0 (.tup [.str "turn"])) (.ref p0) [.str "turn"] := new_tup
    replace sm := sm.trans s1
    clear s1 h0
    generalize upd H p0 _ = H at sm g0 ⊢
    walk_at "w"
    refine fun p1 h1 => ?_
    have s1 := same_lay (o := .tup [.str "get", .int (c / 13 % nb)]) h1
    have g1 : IsTup K (upd H p1 (.tup [.str "get", .int (c / 13 % nb)])) (.ref p1) [.str "get", .int (c / 13 % nb)] := new_tup
    replace g0 := g0.mono s1
    replace sm := sm.trans s1
    clear s1 h1
    generalize upd H p1 _ = H at sm g0 g1 ⊢
    walk_at "w"
    refine fun p2 h2 => ?_
    have s1 := same_lay (o := .tup [.str "nought", .int far]) h2
    have g2 : IsTup K (upd H p2 (.tup [.str "nought", .int far])) (.ref p2) [.str "nought", .int far] := new_tup
    replace g0 := g0.mono s1
    replace g1 := g1.mono s1
    replace sm := sm.trans s1
    clear s1 h2
    generalize upd H p2 _ = H at sm g0 g1 g2 ⊢
    walk_at "w"
    refine fun l hl => ?_
    have s1 := same_lay (o := .lst [.ref p0, .ref p1, .ref p2]) hl
    exact q _ l [.ref p0, .ref p1, .ref p2] (sm.trans s1) upd_same (.cons (g0.mono s1) (.cons (g1.mono s1) (.cons (g2.mono s1) .nil)))
  rw [if_neg c7] at q
  walk_at "w"
  refine w_D (fun c8 => ?_) (fun c8 => ?_)
  · rw [if_pos c8] at q
    walk_at "w"
    refine fun p0 h0 => ?_
    have s1 := same_lay (o := .tup [.str "put", .int (c / 78 % 9 - 3)]) h0
    have g0 : IsTup K (upd H p0 (.tup [.str "put", .int (c / 78 % 9 - 3)])) (.ref p0) [.str "put", .int (c / 78 % 9 - 3)] := new_tup
    replace sm := sm.trans s1
    clear s1 h0
    generalize upd H p0 _ = H at sm g0 ⊢
    walk_at "w"
    refine fun p1 h1 => ?_
    have s1 := same_lay (o := .tup [.str "get", .int (c / 13 % nb)]) h1
    have g1 : IsTup K (upd H p1 (.tup [.str "get", .int (c / 13 % nb)])) (.ref p1) [.str "get", .int (c / 13 % nb)] := new_tup
    replace g0 := g0.mono s1
    replace sm := sm.trans s1
    clear s1 h1
    generalize upd H p1 _ = H at sm g0 g1 ⊢
    walk_at "w"
    refine fun p2 h2 => ?_
    have s1 := same_lay (o := .tup [.str "add"]) h2
    have g2 : IsTup K (upd H p2 (.tup [.str "add"])) (.ref p2) [.str "add"] := new_tup
    replace g0 := g0.mono s1
    replace g1 := g1.mono s1
    replace sm := sm.trans s1
    clear s1 h2
    generalize upd H p2 _ = H at sm g0 g1 g2 ⊢
    walk_at "w"
    refine fun p3 h3 => ?_
    have s1 := same_lay (o := .tup [.str "call", .int (c / 702 % many)]) h3
    have g3 : IsTup K (upd H p3 (.tup [.str "call", .int (c / 702 % many)])) (.ref p3) [.str "call", .int (c / 702 % many)] := new_tup
    replace g0 := g0.mono s1
    replace g1 := g1.mono s1
    replace g2 := g2.mono s1
    replace sm := sm.trans s1
    clear s1 h3
    generalize upd H p3 _ = H at sm g0 g1 g2 g3 ⊢
    walk_at "w"
    refine w_mod (by omega) ?_
    walk_at "w"
    refine fun p4 h4 => ?_
    have s1 := same_lay (o := .tup [.str "set", .int ((c / 13 % nb + (c / 78 % 9 - 3)) % nb)]) h4
    have g4 : IsTup K (upd H p4 (.tup [.str "set", .int ((c / 13 % nb + (c / 78 % 9 - 3)) % nb)])) (.ref p4) [.str "set", .int ((c / 13 % nb + (c / 78 % 9 - 3)) % nb)] := new_tup
    replace g0 := g0.mono s1
    replace g1 := g1.mono s1
    replace g2 := g2.mono s1
    replace g3 := g3.mono s1
    replace sm := sm.trans s1
    clear s1 h4
    generalize upd H p4 _ = H at sm g0 g1 g2 g3 g4 ⊢
    walk_at "w"
    refine fun l hl => ?_
    have s1 := same_lay (o := .lst [.ref p0, .ref p1, .ref p2, .ref p3, .ref p4]) hl
    exact q _ l [.ref p0, .ref p1, .ref p2, .ref p3, .ref p4] (sm.trans s1) upd_same (.cons (g0.mono s1) (.cons (g1.mono s1) (.cons (g2.mono s1) (.cons (g3.mono s1) (.cons (g4.mono s1) .nil)))))
  rw [if_neg c8] at q
  walk_at "w"
  refine w_D (fun c9 => ?_) (fun c9 => ?_)
  · rw [if_pos c9] at q
    walk_at "w"
    refine fun p0 h0 => ?_
    have s1 := same_lay (o := .tup [.str "put", .int (c / 78 % 9 - 3)]) h0
    have g0 : IsTup K (upd H p0 (.tup [.str "put", .int (c / 78 % 9 - 3)])) (.ref p0) [.str "put", .int (c / 78 % 9 - 3)] := new_tup
    replace sm := sm.trans s1
    clear s1 h0
    generalize upd H p0 _ = H at sm g0 ⊢
    walk_at "w"
    refine fun p1 h1 => ?_
    have s1 := same_lay (o := .tup [.str "get", .int (c / 13 % nb)]) h1
    have g1 : IsTup K (upd H p1 (.tup [.str "get", .int (c / 13 % nb)])) (.ref p1) [.str "get", .int (c / 13 % nb)] := new_tup
    replace g0 := g0.mono s1
    replace sm := sm.trans s1
    clear s1 h1
    generalize upd H p1 _ = H at sm g0 g1 ⊢
    walk_at "w"
    refine fun p2 h2 => ?_
    have s1 := same_lay (o := .tup [.str "call", .int (c / 702 % many)]) h2
    have g2 : IsTup K (upd H p2 (.tup [.str "call", .int (c / 702 % many)])) (.ref p2) [.str "call", .int (c / 702 % many)] := new_tup
    replace g0 := g0.mono s1
    replace g1 := g1.mono s1
    replace sm := sm.trans s1
    clear s1 h2
    generalize upd H p2 _ = H at sm g0 g1 g2 ⊢
    walk_at "w"
    refine fun p3 h3 => ?_
    have s1 := same_lay (o := .tup [.str "add"]) h3
    have g3 : IsTup K (upd H p3 (.tup [.str "add"])) (.ref p3) [.str "add"] := new_tup
    replace g0 := g0.mono s1
    replace g1 := g1.mono s1
    replace g2 := g2.mono s1
    replace sm := sm.trans s1
    clear s1 h3
    generalize upd H p3 _ = H at sm g0 g1 g2 g3 ⊢
    walk_at "w"
    refine w_mod (by omega) ?_
    walk_at "w"
    refine fun p4 h4 => ?_
    have s1 := same_lay (o := .tup [.str "set", .int ((c / 13 % nb + (c / 78 % 9 - 3)) % nb)]) h4
    have g4 : IsTup K (upd H p4 (.tup [.str "set", .int ((c / 13 % nb + (c / 78 % 9 - 3)) % nb)])) (.ref p4) [.str "set", .int ((c / 13 % nb + (c / 78 % 9 - 3)) % nb)] := new_tup
    replace g0 := g0.mono s1
    replace g1 := g1.mono s1
    replace g2 := g2.mono s1
    replace g3 := g3.mono s1
    replace sm := sm.trans s1
    clear s1 h4
    generalize upd H p4 _ = H at sm g0 g1 g2 g3 g4 ⊢
    walk_at "w"
    refine fun l hl => ?_
    have s1 := same_lay (o := .lst [.ref p0, .ref p1, .ref p2, .ref p3, .ref p4]) hl
    exact q _ l [.ref p0, .ref p1, .ref p2, .ref p3, .ref p4] (sm.trans s1) upd_same (.cons (g0.mono s1) (.cons (g1.mono s1) (.cons (g2.mono s1) (.cons (g3.mono s1) (.cons (g4.mono s1) .nil)))))
  rw [if_neg c9] at q
  walk_at "w"
  refine w_D (fun c10 => ?_) (fun c10 => ?_)
  · rw [if_pos c10] at q
    walk_at "w"
    refine fun p0 h0 => ?_
    have s1 := same_lay (o := .tup [.str "get", .int (c / 13 % nb)]) h0
    have g0 : IsTup K (upd H p0 (.tup [.str "get", .int (c / 13 % nb)])) (.ref p0) [.str "get", .int (c / 13 % nb)] := new_tup
    replace sm := sm.trans s1
    clear s1 h0
    generalize upd H p0 _ = H at sm g0 ⊢
    walk_at "w"
    refine fun p1 h1 => ?_
    have s1 := same_lay (o := .tup [.str "raise"]) h1
    have g1 : IsTup K (upd H p1 (.tup [.str "raise"])) (.ref p1) [.str "raise"] := new_tup
    replace g0 := g0.mono s1
    replace sm := sm.trans s1
    clear s1 h1
    generalize upd H p1 _ = H at sm g0 g1 ⊢
    walk_at "w"
    refine fun l hl => ?_
    have s1 := same_lay (o := .lst [.ref p0, .ref p1]) hl
    exact q _ l [.ref p0, .ref p1] (sm.trans s1) upd_same (.cons (g0.mono s1) (.cons (g1.mono s1) .nil))
  rw [if_neg c10] at q
  walk_at "w"
  refine w_D (fun c11 => ?_) (fun c11 => ?_)
  · rw [if_pos c11] at q
    walk_at "w"
    refine fun p0 h0 => ?_
    have s1 := same_lay (o := .tup [.str "put", .int (c / 78 % 9 - 3)]) h0
    have g0 : IsTup K (upd H p0 (.tup [.str "put", .int (c / 78 % 9 - 3)])) (.ref p0) [.str "put", .int (c / 78 % 9 - 3)] := new_tup
    replace sm := sm.trans s1
    clear s1 h0
    generalize upd H p0 _ = H at sm g0 ⊢
    walk_at "w"
    refine fun p1 h1 => ?_
    have s1 := same_lay (o := .tup [.str "get", .int (c / 13 % nb)]) h1
    have g1 : IsTup K (upd H p1 (.tup [.str "get", .int (c / 13 % nb)])) (.ref p1) [.str "get", .int (c / 13 % nb)] := new_tup
    replace g0 := g0.mono s1
    replace sm := sm.trans s1
    clear s1 h1
    generalize upd H p1 _ = H at sm g0 g1 ⊢
    walk_at "w"
    refine fun p2 h2 => ?_
    have s1 := same_lay (o := .tup [.str "share"]) h2
    have g2 : IsTup K (upd H p2 (.tup [.str "share"])) (.ref p2) [.str "share"] := new_tup
    replace g0 := g0.mono s1
    replace g1 := g1.mono s1
    replace sm := sm.trans s1
    clear s1 h2
    generalize upd H p2 _ = H at sm g0 g1 g2 ⊢
    walk_at "w"
    refine fun p3 h3 => ?_
    have s1 := same_lay (o := .tup [.str "say"]) h3
    have g3 : IsTup K (upd H p3 (.tup [.str "say"])) (.ref p3) [.str "say"] := new_tup
    replace g0 := g0.mono s1
    replace g1 := g1.mono s1
    replace g2 := g2.mono s1
    replace sm := sm.trans s1
    clear s1 h3
    generalize upd H p3 _ = H at sm g0 g1 g2 g3 ⊢
    walk_at "w"
    refine fun l hl => ?_
    have s1 := same_lay (o := .lst [.ref p0, .ref p1, .ref p2, .ref p3]) hl
    exact q _ l [.ref p0, .ref p1, .ref p2, .ref p3] (sm.trans s1) upd_same (.cons (g0.mono s1) (.cons (g1.mono s1) (.cons (g2.mono s1) (.cons (g3.mono s1) .nil))))
  rw [if_neg c11] at q
  walk_at "w"
  refine fun p0 h0 => ?_
  have s1 := same_lay (o := .tup [.str "get", .int (c / 13 % nb)]) h0
  have g0 : IsTup K (upd H p0 (.tup [.str "get", .int (c / 13 % nb)])) (.ref p0) [.str "get", .int (c / 13 % nb)] := new_tup
  replace sm := sm.trans s1
  clear s1 h0
  generalize upd H p0 _ = H at sm g0 ⊢
  walk_at "w"
  refine fun p1 h1 => ?_
  have s1 := same_lay (o := .tup [.str "put", .int (c / 78 % 9 - 3)]) h1
  have g1 : IsTup K (upd H p1 (.tup [.str "put", .int (c / 78 % 9 - 3)])) (.ref p1) [.str "put", .int (c / 78 % 9 - 3)] := new_tup
  replace g0 := g0.mono s1
  replace sm := sm.trans s1
  clear s1 h1
  generalize upd H p1 _ = H at sm g0 g1 ⊢
  walk_at "w"
  refine fun p2 h2 => ?_
  have s1 := same_lay (o := .tup [.str "less"]) h2
  have g2 : IsTup K (upd H p2 (.tup [.str "less"])) (.ref p2) [.str "less"] := new_tup
  replace g0 := g0.mono s1
  replace g1 := g1.mono s1
  replace sm := sm.trans s1
  clear s1 h2
  generalize upd H p2 _ = H at sm g0 g1 g2 ⊢
  walk_at "w"
  refine fun p3 h3 => ?_
  have s1 := same_lay (o := .tup [.str "nought", .int near]) h3
  have g3 : IsTup K (upd H p3 (.tup [.str "nought", .int near])) (.ref p3) [.str "nought", .int near] := new_tup
  replace g0 := g0.mono s1
  replace g1 := g1.mono s1
  replace g2 := g2.mono s1
  replace sm := sm.trans s1
  clear s1 h3
  generalize upd H p3 _ = H at sm g0 g1 g2 g3 ⊢
  walk_at "w"
  refine fun l hl => ?_
  have s1 := same_lay (o := .lst [.ref p0, .ref p1, .ref p2, .ref p3]) hl
  exact q _ l [.ref p0, .ref p1, .ref p2, .ref p3] (sm.trans s1) upd_same (.cons (g0.mono s1) (.cons (g1.mono s1) (.cons (g2.mono s1) (.cons (g3.mono s1) .nil))))
end
end U

set_option maxHeartbeats 8000000
namespace U
open PySem PySem.Spec PyProof.Rows L2 Un
local macro_rules | `(tactic| walk_at "w1") => `(tactic| first
  | with_reducible refine w_seq ?_
  | with_reducible refine w_asg ?_
  | with_reducible refine w_op ?_
  | ((with_reducible refine' w_var ?h1 ?_); (case h1 => rfl))
  | with_reducible refine w_c ?_
  | with_reducible refine w_name ?_
  | with_reducible refine w_tFd ?_
  | ((with_reducible refine' w_fld ?h1 ?h2 ?_); (case h1 => assumption); (case h2 => rfl))
  | with_reducible refine w_if ?_
  | with_reducible refine w_test ?_
  | with_reducible refine w_eqS ?_
  | with_reducible refine w_eqI ?_
  | with_reducible refine w_neS ?_
  | with_reducible refine w_neI ?_
  | with_reducible refine w_isN ?_
  | with_reducible refine w_isnN ?_
  | with_reducible refine w_bl ?_
  | with_reducible refine w_ret ?_
  | with_reducible refine w_drop ?_
  | with_reducible refine w_next ?_
  | with_reducible refine w_cons ?_
  | with_reducible refine w_nil ?_
  | with_reducible refine w_call ?_
  | with_reducible refine w_cb ?_
  | with_reducible refine w_meth ?_
  | ((with_reducible refine' w_recv ?h1 ?h2 ?_); (case h1 => assumption); (case h2 => rfl))
  | with_reducible refine w_sFd ?_
  | ((with_reducible refine' w_put ?h1 ?h2 ?_); (case h1 => assumption); (case h2 => exact Nat.le_of_ble_eq_true rfl))
  | with_reducible refine w_add ?_
  | with_reducible refine w_sub ?_
  | with_reducible refine w_lt ?_
  | with_reducible refine w_le ?_
  | with_reducible refine w_gt ?_
  | with_reducible refine w_ge ?_
  | with_reducible refine w_bm ?_
  | with_reducible refine w_bm0 ?_
  | ((with_reducible refine' w_ty ?h1 ?_); (case h1 => assumption))
  | with_reducible refine w_tup ?_
  | with_reducible refine w_lst ?_
  | ((with_reducible refine' w_new ?h1 ?_); (case h1 => exact Nat.le_of_ble_eq_true rfl))
  | with_reducible refine w_gsub ?_
  | with_reducible refine w_make ?_
  | with_reducible refine w_lc ?_
  | with_reducible refine w_iList ?_
  | with_reducible refine w_for ?_
  | with_reducible refine w_yes ?_
  | with_reducible refine w_tSl ?_
  | with_reducible refine w_part ?_
  | with_reducible refine w_nopart ?_
  | with_reducible refine w_i ?_
  | with_reducible refine w_rng1 ?_
  | with_reducible refine w_rng2 ?_
  | with_reducible refine w_isiII ?_
  | with_reducible refine w_isiIB ?_
  | with_reducible refine w_isiSS ?_
  | ((with_reducible refine w_mod ?h1 ?_); (case h1 => decide))
  | ((with_reducible refine w_fdC' ?h1 ?h2 ?_); (case h1 => decide); (case h2 => decide))
  | ((with_reducible refine w_mulR ?h1 ?h2 ?_); (case h1 => decide); (case h2 => decide))
  | ((with_reducible refine w_mulL ?h1 ?h2 ?_); (case h1 => decide); (case h2 => decide))
  | ((with_reducible refine w_pow' ?h1 ?h2 ?h3 ?_); (case h1 => decide); (case h2 => decide); (case h3 => decide))
  | with_reducible refine w_andV ?_
  | with_reducible refine w_orV ?_
  | with_reducible refine w_notV ?_
  | with_reducible refine w_B ?_
  | with_reducible refine w_not ?_
  | with_reducible refine w_and ?_
  | with_reducible refine w_or ?_
  | with_reducible refine w_ifx ?_
  | with_reducible refine w_un ?_
  | ((with_reducible refine w_T ?h1 ?_); (case h1 => with_reducible rfl))
  | ((with_reducible refine w_F ?h1 ?_); (case h1 => with_reducible rfl))
  | ((with_reducible refine w_T ?h1 ?_); (case h1 => decide +kernel))
  | ((with_reducible refine w_F ?h1 ?_); (case h1 => decide +kernel)))
local macro_rules | `(tactic| walk_at "w") => `(tactic| repeat walk_at "w1")

def natsV (xs : List Nat) : List V := xs.map fun n => .int (n : Nat)
theorem nats_at {xs : List Nat} {i : Nat} (h : i < xs.length) : atI (natsV xs) (i : Int) = some (.int (xs.getD i 0 : Nat)) := by
  refine atI_ok (by omega) ?_
  rw [show ((i : Nat) : Int).toNat = i by omega, natsV, List.getElem?_map, List.getD_eq_getElem?_getD, List.getElem?_eq_getElem h]
  rfl
theorem far_at {ev : List Nat} (h : 0 < ev.length) (c : Int) : atI (natsV ev) (c / 18 % (ev.length : Int)) = some (.int (ev.getD (c / 18 % (ev.length : Int)).toNat 0 : Nat)) := by
  have h1 := Int.emod_lt_of_pos (c / 18) (show (0 : Int) < (ev.length : Int) by omega)
  have h2 := Int.emod_nonneg (c / 18) (show (ev.length : Int) ≠ 0 by omega)
  have e : c / 18 % (ev.length : Int) = (((c / 18 % (ev.length : Int)).toNat : Nat) : Int) := by omega
  have := nats_at (xs := ev) (i := (c / 18 % (ev.length : Int)).toNat) (by omega)
  rw [← e] at this
  exact this
theorem take_one {α : Type} {cs : List α} {i : Nat} {c : α} (h : cs[i]? = some c) : cs.take (i + 1) = cs.take i ++ [c] := by rw [List.take_add_one, h]; rfl
theorem goalsR_snoc (ev : List Nat) (nb : Nat) (c : Int) : ∀ cs : List Int, D14.goalsR ev nb (cs ++ [c]) = D14.goalsR ev nb cs ++ D14.goalR ev nb c
  | [] => by simp [D14.goalsR]
  | d :: cs => by rw [List.cons_append, D14.goalsR, goalsR_snoc ev nb c cs, D14.goalsR, List.append_assoc]
theorem gpl_snoc (ev : List Nat) (nb : Nat) (c : Int) : ∀ (cs : List Int) (p : Nat), D14.gpl ev nb p (cs ++ [c]) = D14.gpl ev nb p cs ++ [p + (D14.goalsR ev nb cs).length]
  | [], p => rfl
  | d :: cs, p => by
    rw [List.cons_append, D14.gpl, gpl_snoc ev nb c cs, D14.gpl, D14.goalsR, List.length_append, Nat.add_assoc]
    rfl
theorem gpl_len (ev : List Nat) (nb : Nat) : ∀ (cs : List Int) (p : Nat), (D14.gpl ev nb p cs).length = cs.length
  | [], _ => rfl
  | c :: cs, p => by simp [D14.gpl, gpl_len ev nb cs]
section
variable {K : PySem.W.Frag}
def sp_l_goals (K : PySem.W.Frag) : Sp := fun vs H Q _ => ∃ ca ea cells ev T nb, vs = [.ref ca, .int (T : Nat), .ref ea, .int (nb : Nat)] ∧ SqL K H ca (cells.map V.int) ∧ SqL K H ea (natsV ev) ∧ 0 < nb ∧ 0 < ev.length ∧ cells.length ≤ 63 ∧
  ∀ H' p lr lf ws, Same H H' → H' p = some (.tup [.ref lr, .ref lf]) → H' lr = some (.lst ws) → H' lf = some (.lst (natsV (D14.gpl ev nb T cells))) → All2 (IsRow K H') ws (D14.goalsR ev nb cells) → Q (.ref p) H'
theorem p_l_goals (vs : List V) (H : Hp) (Q : VK) (E : XK) (h : sp_l_goals K vs H Q E) : t_l_goals K { nx := fun _ H' => Q .non H', rt := Q } (L2.start n_l_goals vs) H := by
  obtain ⟨ca, ea, cells, ev, T, nb, rfl, hc, he, hnb, hev, hcl, q⟩ := h
  unfold t_l_goals
  walk_at "w"
  refine fun lr0 h0 => ?_
  have w := (Own.nil (Same.refl H)).take (o := .lst []) h0
  generalize upd H lr0 (.lst []) = H1 at w ⊢
  walk_at "w"
  refine fun lf h1 => ?_
  have w := w.take (o := .lst []) h1
  generalize upd H1 lf (.lst []) = H1 at w ⊢
  walk_at "w"
  refine ⟨ca, rfl, ⟨_, w.same.seq hc⟩, for_list (xs := cells.map V.int) (fun i σ H' => ∃ lr ws, Own H H' [(lf, .lst (natsV (D14.gpl ev nb T (cells.take i)))), (lr, .lst ws)] ∧ All2 (IsRow K H') ws (D14.goalsR ev nb (cells.take i)) ∧
      ∃ x6, σ = [some (.ref ca), some (.int (T : Nat)), some (.ref ea), some (.int (nb : Nat)), some (.ref lr), some (.ref lf), x6])
    ⟨lr0, [], w, .nil, _, rfl⟩ (fun i σ H' _ h => by obtain ⟨_, _, w, _⟩ := h; exact w.same.seq hc) ?_ ?_⟩
  · rintro i x σ H' hx ⟨lr, ws, w, r, x6, rfl⟩
    rw [List.getElem?_map] at hx
    cases hz : cells[i]? with
    | none => rw [hz] at hx; cases hx
    | some c =>
    rw [hz] at hx
    cases hx
    have hlf := w.ix 0 rfl
    have hwl := r.len
    have hgl := D14.goalsR_len ev nb (cells.take i)
    have htl : (cells.take i).length ≤ 63 := by rw [List.length_take]; omega
    walk_at "w"
    refine w_lenL (SqL.of (w.ix 1 rfl)) ?_
    walk_at "w"
    refine w_app hlf ?_ ?_
    · rw [natsV, List.length_map, gpl_len]
      exact lim_lt (by unfold LIM; omega)
    have ea' : natsV (D14.gpl ev nb T (cells.take i)) ++ [.int ((T : Nat) + (ws.length : Int))] = natsV (D14.gpl ev nb T (cells.take (i + 1))) := by
      rw [take_one hz, gpl_snoc, natsV, natsV, List.map_append, hwl]
      simp
    rw [ea']
    replace w := w.set 0 (.lst (natsV (D14.gpl ev nb T (cells.take (i + 1))))) rfl
    replace r := rows_put (o := .lst (natsV (D14.gpl ev nb T (cells.take (i + 1))))) hlf r
    clear ea' hlf
    change Own H _ [(lf, .lst (natsV (D14.gpl ev nb T (cells.take (i + 1))))), (lr, .lst ws)] at w
    generalize upd H' lf _ = H1 at w r ⊢
    have fin : ∀ (H' : Hp) (l2 : Addr) (us : List V), Own H H' [(lf, .lst (natsV (D14.gpl ev nb T (cells.take (i + 1))))), (l2, .lst us)] → All2 (IsRow K H') us (D14.goalsR ev nb (cells.take i) ++ D14.goalR ev nb c) →
        ∃ lr ws, Own H H' [(lf, .lst (natsV (D14.gpl ev nb T (cells.take (i + 1))))), (lr, .lst ws)] ∧ All2 (IsRow K H') ws (D14.goalsR ev nb (cells.take (i + 1))) ∧
      ∃ x6, ([some (.ref ca), some (.int (T : Nat)), some (.ref ea), some (.int (nb : Nat)), some (.ref l2), some (.ref lf), some (.int c)] : L2.St) = [some (.ref ca), some (.int (T : Nat)), some (.ref ea), some (.int (nb : Nat)), some (.ref lr), some (.ref lf), x6] := fun H' l2 us w r =>
      ⟨l2, us, w, by rw [take_one hz, goalsR_snoc]; exact r, _, rfl⟩
    walk_at "w"
    refine w_D (fun c0 => ?_) (fun c0 => ?_)
    · walk_at "w"
      refine fun u0 hu0 => ?_
      have s1 := same_lay (o := .tup [.str "say"]) hu0
      have gu0 : IsTup K (upd H1 u0 (.tup [.str "say"])) (.ref u0) [.str "say"] := new_tup
      replace w := w.lay (o := .tup [.str "say"]) hu0
      replace r := rows_mono s1 r
      clear s1 hu0
      generalize upd H1 u0 _ = H1 at w r gu0 ⊢
      walk_at "w"
      refine fun u1 hu1 => ?_
      have s1 := same_lay (o := .tup [.str "put", .int (50 + c / 3 % 9)]) hu1
      have gu1 : IsTup K (upd H1 u1 (.tup [.str "put", .int (50 + c / 3 % 9)])) (.ref u1) [.str "put", .int (50 + c / 3 % 9)] := new_tup
      replace gu0 := gu0.mono s1
      replace w := w.lay (o := .tup [.str "put", .int (50 + c / 3 % 9)]) hu1
      replace r := rows_mono s1 r
      clear s1 hu1
      generalize upd H1 u1 _ = H1 at w r gu0 gu1 ⊢
      walk_at "w"
      refine fun u2 hu2 => ?_
      have s1 := same_lay (o := .tup [.str "back"]) hu2
      have gu2 : IsTup K (upd H1 u2 (.tup [.str "back"])) (.ref u2) [.str "back"] := new_tup
      replace gu0 := gu0.mono s1
      replace gu1 := gu1.mono s1
      replace w := w.lay (o := .tup [.str "back"]) hu2
      replace r := rows_mono s1 r
      clear s1 hu2
      generalize upd H1 u2 _ = H1 at w r gu0 gu1 gu2 ⊢
      walk_at "w"
      refine fun ul hul => ?_
      have s1 := same_lay (o := .lst [.ref u0, .ref u1, .ref u2]) hul
      have gul : RawAt (upd H1 ul (.lst [.ref u0, .ref u1, .ref u2])) ul (.lst [.ref u0, .ref u1, .ref u2]) := upd_same
      replace gu0 := gu0.mono s1
      replace gu1 := gu1.mono s1
      replace gu2 := gu2.mono s1
      replace w := w.lay (o := .lst [.ref u0, .ref u1, .ref u2]) hul
      replace r := rows_mono s1 r
      clear s1 hul
      generalize upd H1 ul _ = H1 at w r gu0 gu1 gu2 gul ⊢
      walk_at "w"
      refine w_cat (w.ix 1 rfl) gul (Nat.le_trans (by rw [hwl]; simp only [List.length_cons, List.length_nil]; omega : _ ≤ 600) (by rw [sizeLine_eq]; decide)) fun l2 hl2 => ?_
      have s1 := same_lay (o := .lst (ws ++ [.ref u0, .ref u1, .ref u2])) hl2
      walk_at "w"
      refine fin _ l2 _ (Own.del (w.take (o := .lst (ws ++ [.ref u0, .ref u1, .ref u2])) hl2) 2).swp (All2.app (rows_mono s1 r) ?_)
      rw [D14.goalR, if_pos c0]
      exact .cons (gu0.mono s1) (.cons (gu1.mono s1) (.cons (gu2.mono s1) .nil))
    walk_at "w"
    refine w_D (fun c1 => ?_) (fun c1 => ?_)
    · walk_at "w"
      refine w_mod (by omega) ?_
      walk_at "w"
      refine fun u0 hu0 => ?_
      have s1 := same_lay (o := .tup [.str "set", .int (c / 3 % nb)]) hu0
      have gu0 : IsTup K (upd H1 u0 (.tup [.str "set", .int (c / 3 % nb)])) (.ref u0) [.str "set", .int (c / 3 % nb)] := new_tup
      replace w := w.lay (o := .tup [.str "set", .int (c / 3 % nb)]) hu0
      replace r := rows_mono s1 r
      clear s1 hu0
      generalize upd H1 u0 _ = H1 at w r gu0 ⊢
      walk_at "w"
      refine fun u1 hu1 => ?_
      have s1 := same_lay (o := .tup [.str "turn"]) hu1
      have gu1 : IsTup K (upd H1 u1 (.tup [.str "turn"])) (.ref u1) [.str "turn"] := new_tup
      replace gu0 := gu0.mono s1
      replace w := w.lay (o := .tup [.str "turn"]) hu1
      replace r := rows_mono s1 r
      clear s1 hu1
      generalize upd H1 u1 _ = H1 at w r gu0 gu1 ⊢
      walk_at "w"
      refine w_lenL (w.same.seq he) ?_
      rw [natsV, List.length_map]
      walk_at "w"
      refine w_mod (by omega) ?_
      walk_at "w"
      refine w_ixL (v := .int (ev.getD (c / 18 % (ev.length : Int)).toNat 0 : Nat)) (w.same.seq he) (far_at hev c) ?_
      walk_at "w"
      refine fun u2 hu2 => ?_
      have s1 := same_lay (o := .tup [.str "go", .int (ev.getD (c / 18 % (ev.length : Int)).toNat 0 : Nat)]) hu2
      have gu2 : IsTup K (upd H1 u2 (.tup [.str "go", .int (ev.getD (c / 18 % (ev.length : Int)).toNat 0 : Nat)])) (.ref u2) [.str "go", .int (ev.getD (c / 18 % (ev.length : Int)).toNat 0 : Nat)] := new_tup
      replace gu0 := gu0.mono s1
      replace gu1 := gu1.mono s1
      replace w := w.lay (o := .tup [.str "go", .int (ev.getD (c / 18 % (ev.length : Int)).toNat 0 : Nat)]) hu2
      replace r := rows_mono s1 r
      clear s1 hu2
      generalize upd H1 u2 _ = H1 at w r gu0 gu1 gu2 ⊢
      walk_at "w"
      refine fun ul hul => ?_
      have s1 := same_lay (o := .lst [.ref u0, .ref u1, .ref u2]) hul
      have gul : RawAt (upd H1 ul (.lst [.ref u0, .ref u1, .ref u2])) ul (.lst [.ref u0, .ref u1, .ref u2]) := upd_same
      replace gu0 := gu0.mono s1
      replace gu1 := gu1.mono s1
      replace gu2 := gu2.mono s1
      replace w := w.lay (o := .lst [.ref u0, .ref u1, .ref u2]) hul
      replace r := rows_mono s1 r
      clear s1 hul
      generalize upd H1 ul _ = H1 at w r gu0 gu1 gu2 gul ⊢
      walk_at "w"
      refine w_cat (w.ix 1 rfl) gul (Nat.le_trans (by rw [hwl]; simp only [List.length_cons, List.length_nil]; omega : _ ≤ 600) (by rw [sizeLine_eq]; decide)) fun l2 hl2 => ?_
      have s1 := same_lay (o := .lst (ws ++ [.ref u0, .ref u1, .ref u2])) hl2
      walk_at "w"
      refine fin _ l2 _ (Own.del (w.take (o := .lst (ws ++ [.ref u0, .ref u1, .ref u2])) hl2) 2).swp (All2.app (rows_mono s1 r) ?_)
      rw [D14.goalR, if_neg c0, if_pos c1]
      exact .cons (gu0.mono s1) (.cons (gu1.mono s1) (.cons (gu2.mono s1) .nil))
    · walk_at "w"
      refine fun u0 hu0 => ?_
      have s1 := same_lay (o := .tup [.str "raise"]) hu0
      have gu0 : IsTup K (upd H1 u0 (.tup [.str "raise"])) (.ref u0) [.str "raise"] := new_tup
      replace w := w.lay (o := .tup [.str "raise"]) hu0
      replace r := rows_mono s1 r
      clear s1 hu0
      generalize upd H1 u0 _ = H1 at w r gu0 ⊢
      walk_at "w"
      refine fun ul hul => ?_
      have s1 := same_lay (o := .lst [.ref u0]) hul
      have gul : RawAt (upd H1 ul (.lst [.ref u0])) ul (.lst [.ref u0]) := upd_same
      replace gu0 := gu0.mono s1
      replace w := w.lay (o := .lst [.ref u0]) hul
      replace r := rows_mono s1 r
      clear s1 hul
      generalize upd H1 ul _ = H1 at w r gu0 gul ⊢
      walk_at "w"
      refine w_cat (w.ix 1 rfl) gul (Nat.le_trans (by rw [hwl]; simp only [List.length_cons, List.length_nil]; omega : _ ≤ 600) (by rw [sizeLine_eq]; decide)) fun l2 hl2 => ?_
      have s1 := same_lay (o := .lst (ws ++ [.ref u0])) hl2
      walk_at "w"
      refine fin _ l2 _ (Own.del (w.take (o := .lst (ws ++ [.ref u0])) hl2) 2).swp (All2.app (rows_mono s1 r) ?_)
      rw [D14.goalR, if_neg c0, if_neg c1]
      exact .cons (gu0.mono s1) .nil
  · rintro σ H' ⟨lr, ws, w, r, x6, rfl⟩
    rw [List.length_map, List.take_length] at w r
    have h1 := w.ix 0 rfl
    have h2 := w.ix 1 rfl
    walk_at "w"
    refine fun p hp => ?_
    have s1 := same_lay (o := .tup [.ref lr, .ref lf]) hp
    exact q _ p lr lf ws (w.same.trans s1) upd_same (s1 _ _ h2) (s1 _ _ h1) (rows_mono s1 r)
end
end U

set_option maxHeartbeats 8000000
namespace U
open PySem PySem.Spec PyProof.Rows L2 Un
local macro_rules | `(tactic| walk_at "w1") => `(tactic| first
  | with_reducible refine w_seq ?_
  | with_reducible refine w_asg ?_
  | with_reducible refine w_op ?_
  | ((with_reducible refine' w_var ?h1 ?_); (case h1 => rfl))
  | with_reducible refine w_c ?_
  | with_reducible refine w_name ?_
  | with_reducible refine w_tFd ?_
  | ((with_reducible refine' w_fld ?h1 ?h2 ?_); (case h1 => assumption); (case h2 => rfl))
  | with_reducible refine w_if ?_
  | with_reducible refine w_test ?_
  | with_reducible refine w_eqS ?_
  | with_reducible refine w_eqI ?_
  | with_reducible refine w_neS ?_
  | with_reducible refine w_neI ?_
  | with_reducible refine w_isN ?_
  | with_reducible refine w_isnN ?_
  | with_reducible refine w_bl ?_
  | with_reducible refine w_ret ?_
  | with_reducible refine w_drop ?_
  | with_reducible refine w_next ?_
  | with_reducible refine w_cons ?_
  | with_reducible refine w_nil ?_
  | with_reducible refine w_call ?_
  | with_reducible refine w_cb ?_
  | with_reducible refine w_meth ?_
  | ((with_reducible refine' w_recv ?h1 ?h2 ?_); (case h1 => assumption); (case h2 => rfl))
  | with_reducible refine w_sFd ?_
  | ((with_reducible refine' w_put ?h1 ?h2 ?_); (case h1 => assumption); (case h2 => exact Nat.le_of_ble_eq_true rfl))
  | with_reducible refine w_add ?_
  | with_reducible refine w_sub ?_
  | with_reducible refine w_lt ?_
  | with_reducible refine w_le ?_
  | with_reducible refine w_gt ?_
  | with_reducible refine w_ge ?_
  | with_reducible refine w_bm ?_
  | with_reducible refine w_bm0 ?_
  | ((with_reducible refine' w_ty ?h1 ?_); (case h1 => assumption))
  | with_reducible refine w_tup ?_
  | with_reducible refine w_lst ?_
  | ((with_reducible refine' w_new ?h1 ?_); (case h1 => exact Nat.le_of_ble_eq_true rfl))
  | with_reducible refine w_gsub ?_
  | with_reducible refine w_make ?_
  | with_reducible refine w_lc ?_
  | with_reducible refine w_iList ?_
  | with_reducible refine w_for ?_
  | with_reducible refine w_yes ?_
  | with_reducible refine w_tSl ?_
  | with_reducible refine w_part ?_
  | with_reducible refine w_nopart ?_
  | with_reducible refine w_i ?_
  | with_reducible refine w_rng1 ?_
  | with_reducible refine w_rng2 ?_
  | with_reducible refine w_isiII ?_
  | with_reducible refine w_isiIB ?_
  | with_reducible refine w_isiSS ?_
  | ((with_reducible refine w_mod ?h1 ?_); (case h1 => decide))
  | ((with_reducible refine w_fdC' ?h1 ?h2 ?_); (case h1 => decide); (case h2 => decide))
  | ((with_reducible refine w_mulR ?h1 ?h2 ?_); (case h1 => decide); (case h2 => decide))
  | ((with_reducible refine w_mulL ?h1 ?h2 ?_); (case h1 => decide); (case h2 => decide))
  | ((with_reducible refine w_pow' ?h1 ?h2 ?h3 ?_); (case h1 => decide); (case h2 => decide); (case h3 => decide))
  | with_reducible refine w_andV ?_
  | with_reducible refine w_orV ?_
  | with_reducible refine w_notV ?_
  | with_reducible refine w_B ?_
  | with_reducible refine w_not ?_
  | with_reducible refine w_and ?_
  | with_reducible refine w_or ?_
  | with_reducible refine w_ifx ?_
  | with_reducible refine w_un ?_
  | ((with_reducible refine w_T ?h1 ?_); (case h1 => with_reducible rfl))
  | ((with_reducible refine w_F ?h1 ?_); (case h1 => with_reducible rfl))
  | ((with_reducible refine w_T ?h1 ?_); (case h1 => decide +kernel))
  | ((with_reducible refine w_F ?h1 ?_); (case h1 => decide +kernel)))
local macro_rules | `(tactic| walk_at "w") => `(tactic| repeat walk_at "w1")

/-! ### lists of lists -/
theorem range_snoc {α : Type} (f : Nat → α) (i : Nat) : (List.range (i + 1)).map f = (List.range i).map f ++ [f i] := by rw [List.range_succ, List.map_append]; rfl
def fcells (n : Nat) (ad : Nat → Addr) (f : Nat → List Nat) : List Cell := (List.range n).map fun k => (ad k, .lst (natsV (f k)))
def frefs (n : Nat) (ad : Nat → Addr) : List V := (List.range n).map fun k => .ref (ad k)
theorem fget {n k : Nat} {ad : Nat → Addr} {f : Nat → List Nat} (h : k < n) : (fcells n ad f)[k]? = some (ad k, .lst (natsV (f k))) := by
  unfold fcells
  rw [List.getElem?_map, List.getElem?_range h]
  rfl
theorem frefs_at {n k : Nat} {ad : Nat → Addr} (h : k < n) : atI (frefs n ad) ((k : Nat) : Int) = some (.ref (ad k)) := by
  refine atI_ok (by omega) ?_
  rw [show ((k : Nat) : Int).toNat = k by omega, frefs, List.getElem?_map, List.getElem?_range h]
  rfl
theorem fset {n k : Nat} {ad : Nat → Addr} {f f' : Nat → List Nat} (h : k < n) (hf : ∀ j, j < n → j ≠ k → f j = f' j) : (fcells n ad f).set k (ad k, .lst (natsV (f' k))) = fcells n ad f' := by
  unfold fcells
  apply List.ext_getElem?
  intro j
  rw [List.getElem?_set]
  by_cases e : k = j
  · subst e
    rw [if_pos rfl, if_pos (by simpa using h), List.getElem?_map, List.getElem?_range h]
    rfl
  · rw [if_neg e, List.getElem?_map, List.getElem?_map]
    by_cases hj : j < n
    · rw [List.getElem?_range hj]
      simp only [Option.map_some]
      rw [hf j hj (fun z => e z.symm)]
    · rw [List.getElem?_eq_none (by simpa using hj)]
      rfl
def LLAt (K : PySem.W.Frag) (H : Hp) (refs : List V) (xss : List (List V)) : Prop := All2 (fun v xs => ∃ a, v = V.ref a ∧ LsAt K H a xs) refs xss
theorem LLAt.mono {K : PySem.W.Frag} {H H' : Hp} {refs : List V} {xss : List (List V)} (h : LLAt K H refs xss) (s : Same H H') : LLAt K H' refs xss := All2.mono (fun _ _ ⟨a, e, q⟩ => ⟨a, e, q.mono s⟩) h
theorem LLAt.at {K : PySem.W.Frag} {H : Hp} {refs : List V} {n k : Nat} {g : Nat → List V} (h : LLAt K H refs ((List.range n).map g)) (hk : k < n) : ∃ a, atI refs ((k : Nat) : Int) = some (.ref a) ∧ LsAt K H a (g k) := by
  obtain ⟨v, h1, a, rfl, h2⟩ := All2.get h (i := k) (b := g k) (by rw [List.getElem?_map, List.getElem?_range hk]; rfl)
  exact ⟨a, atI_ok (by omega) (by rw [show ((k : Nat) : Int).toNat = k by omega]; exact h1), h2⟩
def LRAt (H : Hp) (refs : List V) (xss : List (List V)) : Prop := All2 (fun v xs => ∃ a, v = V.ref a ∧ RawAt H a (.lst xs)) refs xss
theorem LRAt.mono {H H' : Hp} {refs : List V} {xss : List (List V)} (h : LRAt H refs xss) (s : Same H H') : LRAt H' refs xss := All2.mono (fun _ _ ⟨a, e, q⟩ => ⟨a, e, q.mono s⟩) h
theorem LRAt.at {H : Hp} {refs : List V} {n k : Nat} {g : Nat → List V} (h : LRAt H refs ((List.range n).map g)) (hk : k < n) : ∃ a, atI refs ((k : Nat) : Int) = some (.ref a) ∧ RawAt H a (.lst (g k)) := by
  obtain ⟨v, h1, a, rfl, h2⟩ := All2.get h (i := k) (b := g k) (by rw [List.getElem?_map, List.getElem?_range hk]; rfl)
  exact ⟨a, atI_ok (by omega) (by rw [show ((k : Nat) : Int).toNat = k by omega]; exact h1), h2⟩
theorem fll {H : Hp} {ad : Nat → Addr} {f : Nat → List Nat} : ∀ {n : Nat}, (∀ c ∈ fcells n ad f, H c.1 = some c.2) → LRAt H (frefs n ad) ((List.range n).map fun k => natsV (f k))
  | 0, _ => .nil
  | n + 1, h => by
    unfold frefs
    rw [range_snoc, range_snoc]
    have e : fcells (n + 1) ad f = fcells n ad f ++ [(ad n, .lst (natsV (f n)))] := by unfold fcells; rw [range_snoc]
    rw [e] at h
    exact All2.snoc (fll fun c hc => h c (List.mem_append_left _ hc)) ⟨ad n, rfl, h (ad n, .lst (natsV (f n))) (by simp)⟩
theorem plc14_last : ∀ (cs : List Int) (p : Nat), plc14 p cs = (plc14 p cs).take cs.length ++ [end14 p cs]
  | [], p => rfl
  | c :: cs, p => by
    have := plc14_last cs (p + size14 (c % 13))
    rw [plc14, end14, List.length_cons, List.take_succ_cons, List.cons_append, ← this]
theorem plc14_next {c : Int} : ∀ (cs : List Int) (p i : Nat), cs[i]? = some c → (plc14 p cs).take (i + 1) = (plc14 p cs).take i ++ [end14 p (cs.take i)]
  | [], _, _, h => by simp at h
  | d :: cs, p, 0, h => by simp [plc14, end14]
  | d :: cs, p, i + 1, h => by
    have := plc14_next cs (p + size14 (d % 13)) i (by simpa using h)
    rw [plc14, List.take_succ_cons, this, List.take_succ_cons, List.take_succ_cons, end14]
    rfl
theorem end14_next {c : Int} : ∀ (cs : List Int) (p i : Nat), cs[i]? = some c → end14 p (cs.take (i + 1)) = end14 p (cs.take i) + size14 (c % 13)
  | [], _, _, h => by simp at h
  | d :: cs, p, 0, h => by
    simp at h
    subst h
    simp [end14]
  | d :: cs, p, i + 1, h => by
    rw [List.take_succ_cons, List.take_succ_cons, end14, end14]
    exact end14_next cs _ i (by simpa using h)
section
variable {K : PySem.W.Frag}
def sp_l_places (K : PySem.W.Frag) : Sp := fun vs H Q _ => ∃ ga grefs d, vs = [.ref ga, .int (d.lead : Nat), .int (d.turn : Nat)] ∧ LsAt K H ga grefs ∧ LLAt K H grefs ((List.range d.many).map fun k => (d.G k).map V.int) ∧ D14.Ok d ∧ (∀ k, (d.G k).length ≤ 24) ∧ d.many ≤ 4 ∧
  ∀ H' p refs, Same H H' → H' p = some (.lst refs) → LRAt H' refs ((List.range d.many).map fun k => natsV (d.plK k)) → Q (.ref p) H'
theorem p_l_places (vs : List V) (H : Hp) (Q : VK) (E : XK) (h : sp_l_places K vs H Q E) : t_l_places K (sp_l_size K) { nx := fun _ H' => Q .non H', rt := Q } (L2.start n_l_places vs) H := by
  obtain ⟨ga, grefs, d, rfl, hg, hgl, o, hG, h4, q⟩ := h
  have hglen : grefs.length = d.many := by
    have := All2.len hgl
    rw [List.length_map, List.length_range] at this
    exact this
  have hmany := o.many
  unfold t_l_places
  walk_at "w"
  refine w_lenL hg.seq ?_
  rw [hglen]
  walk_at "w"
  refine w_r1 (by omega) (by omega) ?_
  rw [show ((d.many : Nat) : Int).toNat = d.many by omega]
  refine fun D hD => lc_range (Pv := fun i H' => ∃ ad : Nat → Addr, Own H H' ((D, .lst (frefs i ad)) :: fcells i ad fun _ => [])) ⟨fun _ => D, (Own.nil (Same.refl H)).take (o := .lst []) hD⟩ ?_ ?_
  · rintro i H' hi ⟨ad, w⟩
    refine ⟨rfl, ?_⟩
    walk_at "w"
    refine fun u hu => ?_
    have w1 := w.take (o := .lst []) hu
    refine ⟨_, w1.ix 1 rfl, ?_, fun j => if j = i then u else ad j, ?_⟩
    · rw [frefs, List.length_map, List.length_range]
      exact lim_lt (by unfold LIM; omega)
    · have e1 : frefs (i + 1) (fun j => if j = i then u else ad j) = frefs i ad ++ [.ref u] := by
        unfold frefs
        rw [range_snoc]
        dsimp only
        rw [if_pos rfl]
        congr 1
        apply List.map_congr_left
        intro j hj
        rw [if_neg (by have := List.mem_range.mp hj; omega)]
      have e2 : fcells (i + 1) (fun j => if j = i then u else ad j) (fun _ => []) = fcells i ad (fun _ => []) ++ [(u, .lst [])] := by
        unfold fcells
        rw [range_snoc]
        dsimp only
        rw [if_pos rfl]
        congr 1
        apply List.map_congr_left
        intro j hj
        rw [if_neg (by have := List.mem_range.mp hj; omega)]
      rw [e1, e2]
      exact (w1.set 1 (.lst (frefs i ad ++ [.ref u])) rfl).perm ((List.Perm.swap _ _ _).trans (.cons _ (List.perm_append_singleton _ _).symm))
  rintro H1 ⟨ad, w⟩
  walk_at "w"
  refine w_r1 (by omega) (by omega) ?_
  rw [show ((d.many : Nat) : Int).toNat = d.many by omega]
  refine for_range (Pv := fun pl σ H' => ∃ f : Nat → List Nat, Own H H' ((D, .lst (frefs d.many ad)) :: fcells d.many ad f) ∧ (∀ k, k < d.many → f k = if d.idx k < pl then d.plK k else []) ∧
      ∃ x5 x7 x8, σ = [some (.ref ga), some (.int (d.lead : Nat)), some (.int (d.turn : Nat)), some (.int (d.many : Nat)), some (.ref D), x5, some (.int (d.S pl : Nat)), x7, x8])
    ⟨fun _ => [], w, fun k _ => by rw [if_neg (by omega)], _, _, _, rfl⟩ ?_ ?_
  · rintro pl σ H' hpl ⟨f, w, hf, x5, x7, x8, rfl⟩
    have hkk : d.kk pl < d.many := Nat.mod_lt _ o.many
    have hidx : d.idx (d.kk pl) = pl := by
      unfold D14.idx D14.kk
      have h1 := o.turn
      by_cases c : pl + d.turn < d.many
      · rw [Nat.mod_eq_of_lt c, show pl + d.turn + d.many - d.turn = pl + d.many by omega, Nat.add_mod_right, Nat.mod_eq_of_lt hpl]
      · have e3 : (pl + d.turn) % d.many = pl + d.turn - d.many := by
          rw [Nat.mod_eq_sub_mod (by omega), Nat.mod_eq_of_lt (by omega)]
        rw [e3, show pl + d.turn - d.many + d.many - d.turn = pl by omega, Nat.mod_eq_of_lt hpl]
    walk_at "w"
    refine w_mod (by omega) ?_
    have ek : ((0 : Int) + (pl : Nat) + (d.turn : Nat)) % ((d.many : Nat) : Int) = ((d.kk pl : Nat) : Int) := by
      unfold D14.kk
      rw [Int.natCast_emod, Int.natCast_add, Int.zero_add]
    rw [ek]
    walk_at "w"
    have hg1 := hg.mono w.same
    obtain ⟨gk, g1, g2⟩ := (hgl.mono w.same).at hkk
    refine w_ixL hg1.seq g1 ?_
    have hf0 : f (d.kk pl) = [] := by rw [hf _ hkk, hidx, if_neg (by omega)]
    have hplK : d.plK (d.kk pl) = plc14 (d.S pl) (d.G (d.kk pl)) := by unfold D14.plK; rw [hidx]
    refine ⟨gk, rfl, ⟨_, g2.seq⟩, for_list (xs := (d.G (d.kk pl)).map V.int) (fun i σ H' => ∃ f' : Nat → List Nat, Own H H' ((D, .lst (frefs d.many ad)) :: fcells d.many ad f') ∧ (∀ k, k < d.many → k ≠ d.kk pl → f' k = f k) ∧
        f' (d.kk pl) = (plc14 (d.S pl) (d.G (d.kk pl))).take i ∧ LsAt K H' gk ((d.G (d.kk pl)).map V.int) ∧
        ∃ x8, σ = [some (.ref ga), some (.int (d.lead : Nat)), some (.int (d.turn : Nat)), some (.int (d.many : Nat)), some (.ref D), some (.int (d.kk pl : Nat)), some (.int (end14 (d.S pl) ((d.G (d.kk pl)).take i) : Nat)), some (.int (0 + (pl : Nat))), x8])
      ⟨f, w, fun _ _ _ => rfl, by rw [hf0, List.take_zero], g2, _, rfl⟩ (fun i σ H' _ h => by obtain ⟨_, _, _, _, h, _⟩ := h; exact h.seq) ?_ ?_⟩
    · rintro i x σ H2 hx ⟨f', w, hf1, hf2, hgk, x8', rfl⟩
      rw [List.getElem?_map] at hx
      cases hz : (d.G (d.kk pl))[i]? with
      | none => rw [hz] at hx; cases hx
      | some c =>
      rw [hz] at hx
      cases hx
      have hD := w.ix 0 rfl
      have ha := w.ix (d.kk pl + 1) (by rw [List.getElem?_cons_succ]; exact fget hkk)
      walk_at "w"
      refine w_ixL (SqL.of hD) (frefs_at hkk) ?_
      walk_at "w"
      refine w_app ha ?_ ?_
      · rw [hf2, natsV, List.length_map, List.length_take, plc14_len]
        exact lim_lt (by unfold LIM; have := hG (d.kk pl); omega)
      have w2 := w.set (d.kk pl + 1) (.lst (natsV (f' (d.kk pl)) ++ [.int (end14 (d.S pl) ((d.G (d.kk pl)).take i) : Nat)])) (by rw [List.getElem?_cons_succ]; exact fget hkk)
      have e1 : natsV (f' (d.kk pl)) ++ [.int (end14 (d.S pl) ((d.G (d.kk pl)).take i) : Nat)] = natsV ((fun j => if j = d.kk pl then (plc14 (d.S pl) (d.G (d.kk pl))).take (i + 1) else f' j) (d.kk pl)) := by
        simp only [if_true]
        rw [plc14_next _ _ _ hz, hf2, natsV, natsV, List.map_append]
        rfl
      rw [e1] at w2 ⊢
      rw [List.set_cons_succ, fset hkk (f := f') (f' := fun j => if j = d.kk pl then (plc14 (d.S pl) (d.G (d.kk pl))).take (i + 1) else f' j) (fun j _ hj => by rw [if_neg hj])] at w2
      have gk2 : LsAt K _ gk ((d.G (d.kk pl)).map V.int) := w2.same.seq (by
        have := (hgl).at hkk
        obtain ⟨a2, z1, z2⟩ := this
        rw [g1] at z1
        cases z1
        exact z2.seq)
      generalize upd H2 (ad (d.kk pl)) _ = H3 at w2 gk2 ⊢
      walk_at "w"
      refine ⟨c % 13, rfl, (kd14 c).1, (kd14 c).2, fun H4 s4 => ?_⟩
      walk_at "w"
      refine ⟨_, w2.kept s4, fun k hk hne => by rw [if_neg hne]; exact hf1 k hk hne, by rw [if_pos rfl], gk2.mono s4, some (.int c), ?_⟩
      rw [end14_next _ _ _ hz, Int.natCast_add]
      rfl
    · rintro σ H2 ⟨f', w, hf1, hf2, hgk, x8', rfl⟩
      rw [List.length_map] at hf2 ⊢
      rw [List.take_length]
      have hD := w.ix 0 rfl
      have ha := w.ix (d.kk pl + 1) (by rw [List.getElem?_cons_succ]; exact fget hkk)
      walk_at "w"
      refine w_ixL (SqL.of hD) (frefs_at hkk) ?_
      walk_at "w"
      refine w_app ha ?_ ?_
      · rw [hf2, natsV, List.length_map, List.length_take, plc14_len]
        exact lim_lt (by unfold LIM; have := hG (d.kk pl); omega)
      have w2 := w.set (d.kk pl + 1) (.lst (natsV (f' (d.kk pl)) ++ [.int (end14 (d.S pl) (d.G (d.kk pl)) : Nat)])) (by rw [List.getElem?_cons_succ]; exact fget hkk)
      have e1 : natsV (f' (d.kk pl)) ++ [.int (end14 (d.S pl) (d.G (d.kk pl)) : Nat)] = natsV ((fun j => if j = d.kk pl then d.plK (d.kk pl) else f' j) (d.kk pl)) := by
        simp only [if_true]
        rw [hplK, plc14_last, hf2, natsV, natsV, List.map_append]
        simp
      rw [e1] at w2 ⊢
      rw [List.set_cons_succ, fset hkk (f := f') (f' := fun j => if j = d.kk pl then d.plK (d.kk pl) else f' j) (fun j _ hj => by rw [if_neg hj])] at w2
      generalize upd H2 (ad (d.kk pl)) _ = H3 at w2 ⊢
      walk_at "w"
      refine ⟨_, w2, fun k hk => ?_, some (.int (d.kk pl : Nat)), some (.int (0 + (pl : Nat))), x8', ?_⟩
      · by_cases e : k = d.kk pl
        · rw [if_pos e, e, hidx, if_pos (by omega)]
        · rw [if_neg e, hf1 k hk e, hf k hk]
          have : d.idx k ≠ pl := fun z => e (by
            have := (D14.kk_idx o hk).1
            rw [z] at this
            exact this.symm)
          by_cases c : d.idx k < pl
          · rw [if_pos c, if_pos (by omega)]
          · rw [if_neg c, if_neg (by omega)]
      · rw [D14.S, Int.natCast_add]
        rfl
  · rintro σ H' ⟨f, w, hf, x5, x7, x8, rfl⟩
    walk_at "w"
    refine q _ D _ w.same (w.ix 0 rfl) ?_
    have := fll (H := H') (ad := ad) (f := f) (n := d.many) fun c hc => w.get (List.mem_cons_of_mem _ hc)
    have e : ((List.range d.many).map fun k => natsV (f k)) = (List.range d.many).map fun k => natsV (d.plK k) := by
      apply List.map_congr_left
      intro k hk
      have hk := List.mem_range.mp hk
      rw [hf k hk, if_pos (D14.kk_idx o hk).2]
    rw [← e]
    exact this
end
end U

set_option maxHeartbeats 8000000
namespace U
open PySem PySem.Spec PyProof.Rows L2 Un
local macro_rules | `(tactic| walk_at "w1") => `(tactic| first
  | with_reducible refine w_seq ?_
  | with_reducible refine w_asg ?_
  | with_reducible refine w_op ?_
  | ((with_reducible refine' w_var ?h1 ?_); (case h1 => rfl))
  | with_reducible refine w_c ?_
  | with_reducible refine w_name ?_
  | with_reducible refine w_tFd ?_
  | ((with_reducible refine' w_fld ?h1 ?h2 ?_); (case h1 => assumption); (case h2 => rfl))
  | with_reducible refine w_if ?_
  | with_reducible refine w_test ?_
  | with_reducible refine w_eqS ?_
  | with_reducible refine w_eqI ?_
  | with_reducible refine w_neS ?_
  | with_reducible refine w_neI ?_
  | with_reducible refine w_isN ?_
  | with_reducible refine w_isnN ?_
  | with_reducible refine w_bl ?_
  | with_reducible refine w_ret ?_
  | with_reducible refine w_drop ?_
  | with_reducible refine w_next ?_
  | with_reducible refine w_cons ?_
  | with_reducible refine w_nil ?_
  | with_reducible refine w_call ?_
  | with_reducible refine w_cb ?_
  | with_reducible refine w_meth ?_
  | ((with_reducible refine' w_recv ?h1 ?h2 ?_); (case h1 => assumption); (case h2 => rfl))
  | with_reducible refine w_sFd ?_
  | ((with_reducible refine' w_put ?h1 ?h2 ?_); (case h1 => assumption); (case h2 => exact Nat.le_of_ble_eq_true rfl))
  | with_reducible refine w_add ?_
  | with_reducible refine w_sub ?_
  | with_reducible refine w_lt ?_
  | with_reducible refine w_le ?_
  | with_reducible refine w_gt ?_
  | with_reducible refine w_ge ?_
  | with_reducible refine w_bm ?_
  | with_reducible refine w_bm0 ?_
  | ((with_reducible refine' w_ty ?h1 ?_); (case h1 => assumption))
  | with_reducible refine w_tup ?_
  | with_reducible refine w_lst ?_
  | ((with_reducible refine' w_new ?h1 ?_); (case h1 => exact Nat.le_of_ble_eq_true rfl))
  | with_reducible refine w_gsub ?_
  | with_reducible refine w_make ?_
  | with_reducible refine w_lc ?_
  | with_reducible refine w_iList ?_
  | with_reducible refine w_for ?_
  | with_reducible refine w_yes ?_
  | with_reducible refine w_tSl ?_
  | with_reducible refine w_part ?_
  | with_reducible refine w_nopart ?_
  | with_reducible refine w_i ?_
  | with_reducible refine w_rng1 ?_
  | with_reducible refine w_rng2 ?_
  | with_reducible refine w_isiII ?_
  | with_reducible refine w_isiIB ?_
  | with_reducible refine w_isiSS ?_
  | ((with_reducible refine w_mod ?h1 ?_); (case h1 => decide))
  | ((with_reducible refine w_fdC' ?h1 ?h2 ?_); (case h1 => decide); (case h2 => decide))
  | ((with_reducible refine w_mulR ?h1 ?h2 ?_); (case h1 => decide); (case h2 => decide))
  | ((with_reducible refine w_mulL ?h1 ?h2 ?_); (case h1 => decide); (case h2 => decide))
  | ((with_reducible refine w_pow' ?h1 ?h2 ?h3 ?_); (case h1 => decide); (case h2 => decide); (case h3 => decide))
  | with_reducible refine w_andV ?_
  | with_reducible refine w_orV ?_
  | with_reducible refine w_notV ?_
  | with_reducible refine w_B ?_
  | with_reducible refine w_not ?_
  | with_reducible refine w_and ?_
  | with_reducible refine w_or ?_
  | with_reducible refine w_ifx ?_
  | with_reducible refine w_un ?_
  | ((with_reducible refine w_T ?h1 ?_); (case h1 => with_reducible rfl))
  | ((with_reducible refine w_F ?h1 ?_); (case h1 => with_reducible rfl))
  | ((with_reducible refine w_T ?h1 ?_); (case h1 => decide +kernel))
  | ((with_reducible refine w_F ?h1 ?_); (case h1 => decide +kernel)))
local macro_rules | `(tactic| walk_at "w") => `(tactic| repeat walk_at "w1")

theorem for_enumK {K : PySem.W.Frag} {a : Addr} {xs : List V} {g : TG} {tb : TS} {D : Ends} {σ : L2.St} {H : Hp} (Pv : Nat → L2.St → Hp → Prop) (h0 : Pv 0 σ H) (hq : ∀ i σ H, Pv i σ H → SqL K H a xs)
    (hs : ∀ (i : Nat) (x : V) (σ : L2.St) (H : Hp) (T : Addr), xs[i]? = some x → Pv i σ H → H T = none → g (.ref T) σ (upd H T (.tup [.int (i : Nat), x])) fun σ2 H2 => tb { D with nx := Pv (i + 1), ct := Pv (i + 1), bk := D.nx } σ2 H2) (hd : ∀ σ H, Pv xs.length σ H → D.nx σ H) :
    ∃ W : Nat → Nat → L2.St → Hp → Prop, (∃ m, W 0 m σ H) ∧ ∀ i m σ H, W i m σ H →
      ((Ite K a).stop i H ∧ D.nx σ H) ∨ ((Ite K a).go i H ∧ ∃ N : L2.St → Hp → Prop, (∀ σ' H', N σ' H' → ∃ m', m' < m ∧ W (i + 1) m' σ' H') ∧ ∀ v H', (Ite K a).yld i H v H' → g v σ H' fun σ2 H2 => tb { D with nx := N, ct := N, bk := D.nx } σ2 H2) := by
  refine ⟨fun i m σ H => m = xs.length - i ∧ i ≤ xs.length ∧ Pv i σ H, ⟨xs.length, rfl, Nat.zero_le _, h0⟩, ?_⟩
  rintro i m σ H ⟨rfl, hi, p⟩
  have q := hq i σ H p
  by_cases hlt : i < xs.length
  · refine .inr ⟨⟨xs, _, q, List.getElem?_eq_getElem hlt⟩, Pv (i + 1), fun σ' H' p' => ⟨xs.length - (i + 1), by omega, rfl, hlt, p'⟩, fun v H' y => ?_⟩
    obtain ⟨T, x, rfl, hT, rfl, y⟩ := y
    exact hs i x σ H T (y xs q) p hT
  · have e : i = xs.length := by omega
    subst e
    exact .inl ⟨⟨xs, q, Nat.le_refl _⟩, hd σ H p⟩
theorem w_iEnumK {K : PySem.W.Frag} {σ : L2.St} {H : Hp} {ta : TA} {R : It → Hp → Prop} (h : ta σ H fun vs H1 => ∃ a xs, vs = [.ref a] ∧ SqL K H1 a xs ∧ R (Ite K a) H1) : iEnum K ta σ H R := h
theorem grps14_snoc (pl ev : List Nat) (n nb many : Nat) (c : Int) : ∀ (cs : List Int) (i : Nat), grps14 pl ev n nb many i (cs ++ [c]) = grps14 pl ev n nb many i cs ++ group14 c (c % 13) (near14 pl n (i + cs.length) c) (far14 ev c) nb many
  | [], i => by simp [grps14]
  | d :: cs, i => by
    rw [List.cons_append, grps14, grps14_snoc pl ev n nb many c cs, grps14, List.append_assoc, List.length_cons, show i + 1 + cs.length = i + (cs.length + 1) by omega]
theorem group14_len (c near far nb many : Int) : (group14 c (c % 13) near far nb many).length ≤ 5 := by
  rw [← ann14_rows c (c % 13) near far nb many 0 0, List.length_map, ann14_len (kd14 c).1 (kd14 c).2]
  exact D14.size14_le _
theorem grps14_len (pl ev : List Nat) (n nb many : Nat) : ∀ (cs : List Int) (i : Nat), (grps14 pl ev n nb many i cs).length ≤ 5 * cs.length
  | [], _ => Nat.zero_le _
  | c :: cs, i => by
    have := grps14_len pl ev n nb many cs (i + 1)
    have := group14_len c (near14 pl n i c) (far14 ev c) nb many
    simp only [grps14, List.length_append, List.length_cons]
    omega
theorem fnsR_len {d : D14} (hG : ∀ k, (d.G k).length ≤ 24) : ∀ n, (d.fnsR n).length ≤ 122 * n
  | 0 => Nat.le_refl _
  | n + 1 => by
    have := fnsR_len hG n
    have := grps14_len (d.plK (d.kk n)) d.every (d.G (d.kk n)).length d.nb d.many (d.G (d.kk n)) 0
    have := hG (d.kk n)
    simp only [D14.fnsR, D14.fnR, List.length_append, List.length_cons, List.length_nil]
    omega
theorem small_sz {n : Nat} (h : n ≤ 1000) : n ≤ sizeLine := Nat.le_trans h (by rw [sizeLine_eq]; decide)
section
variable {K : PySem.W.Frag}
def sp_l_code (K : PySem.W.Frag) : Sp := fun vs H Q _ => ∃ ga grefs pa prefs d, vs = [.ref ga, .ref pa, .int (d.lead : Nat), .int (d.turn : Nat), .int (d.nb : Nat)] ∧ LsAt K H ga grefs ∧ LLAt K H grefs ((List.range d.many).map fun k => (d.G k).map V.int) ∧
  LsAt K H pa prefs ∧ LRAt H prefs ((List.range d.many).map fun k => natsV (d.plK k)) ∧ D14.Ok d ∧ (∀ k, (d.G k).length ≤ 24) ∧ d.many ≤ 4 ∧
  ∀ H' p lc le ws, Same H H' → H' p = some (.tup [.ref lc, .ref le]) → H' lc = some (.lst ws) → H' le = some (.lst (natsV d.every)) → All2 (IsRow K H') ws d.codeR → Q (.ref p) H'
theorem p_l_code (vs : List V) (H : Hp) (Q : VK) (E : XK) (h : sp_l_code K vs H Q E) : t_l_code K (sp_l_group K) { nx := fun _ H' => Q .non H', rt := Q } (L2.start n_l_code vs) H := by
  obtain ⟨ga, grefs, pa, prefs, d, rfl, hg, hgl, hp, hpl, o, hG, h4, q⟩ := h
  have hmany := o.many
  have hnb := o.nb
  have hev := D14.every_pos o
  have hlead := o.lead
  have hglen : grefs.length = d.many := by
    have := All2.len hgl
    rw [List.length_map, List.length_range] at this
    exact this
  have hplen : prefs.length = d.many := by
    have := All2.len hpl
    rw [List.length_map, List.length_range] at this
    exact this
  unfold t_l_code
  walk_at "w"
  refine w_lenL hg.seq ?_
  rw [hglen]
  walk_at "w"
  refine fun e0 he0 => ?_
  have sm := same_lay (o := .lst []) he0
  have g0 : RawAt (upd H e0 (.lst [])) e0 (.lst []) := upd_same
  generalize upd H e0 (.lst []) = H1 at sm g0 ⊢
  walk_at "w"
  have everyLe : ∀ n, n ≤ d.many → ((List.range n).flatMap d.plK).length ≤ 25 * n := by
    intro n
    induction n with
    | zero => intro _; simp
    | succ n ih =>
      intro hn
      have := ih (by omega)
      have := hG n
      rw [List.range_succ, List.flatMap_append, List.length_append]
      simp only [List.flatMap_cons, List.flatMap_nil, List.append_nil, D14.plK, plc14_len]
      omega
  refine ⟨pa, rfl, ⟨_, sm.seq hp.seq⟩, for_list (xs := prefs) (fun i σ H' => ∃ le x7, Same H H' ∧ RawAt H' le (.lst (natsV ((List.range i).flatMap d.plK))) ∧
      σ = [some (.ref ga), some (.ref pa), some (.int (d.lead : Nat)), some (.int (d.turn : Nat)), some (.int (d.nb : Nat)), some (.int (d.many : Nat)), some (.ref le), x7, none, none, none, none, none, none])
    ⟨e0, _, sm, g0, rfl⟩ (fun i σ H' _ h => by obtain ⟨_, _, s, _⟩ := h; exact s.seq hp.seq) ?_ ?_⟩
  · rintro i x σ H' hx ⟨le, x7, s, ge, rfl⟩
    have hi : i < d.many := by
      rw [← hplen]
      rcases Nat.lt_or_ge i prefs.length with z | z
      · exact z
      · rw [List.getElem?_eq_none z] at hx; cases hx
    obtain ⟨a, h1, h2⟩ := (hpl.mono s).at hi
    have hxa : x = .ref a := by
      have : atI prefs ((i : Nat) : Int) = some x := atI_ok (by omega) (by rw [show ((i : Nat) : Int).toNat = i by omega]; exact hx)
      rw [h1] at this
      cases this
      rfl
    subst hxa
    have el := everyLe i (by omega)
    have ek : (d.plK i).length ≤ 25 := by rw [D14.plK, plc14_len]; have := hG i; omega
    walk_at "w"
    refine w_cat ge h2 (small_sz (by simp only [natsV, List.length_map]; omega)) fun le2 hle2 => ?_
    have s1 := same_lay (o := .lst (natsV ((List.range i).flatMap d.plK) ++ natsV (d.plK i))) hle2
    walk_at "w"
    refine ⟨le2, _, s.trans s1, ?_, rfl⟩
    rw [List.range_succ, List.flatMap_append]
    simp only [List.flatMap_cons, List.flatMap_nil, List.append_nil]
    rw [show natsV ((List.range i).flatMap d.plK ++ d.plK i) = natsV ((List.range i).flatMap d.plK) ++ natsV (d.plK i) from List.map_append]
    exact upd_same
  rintro σ H2 ⟨le, x7, s, ge, rfl⟩
  rw [hplen] at ge
  replace ge : RawAt H2 le (.lst (natsV d.every)) := ge
  clear g0 sm
  walk_at "w"
  refine fun u1 h1 => ?_
  have s1 := same_lay (o := .tup [.str "put", .int 5]) h1
  have g1 : IsTup K (upd H2 u1 (.tup [.str "put", .int 5])) (.ref u1) [.str "put", .int 5] := new_tup
  replace s := s.trans s1
  replace ge := ge.mono s1
  clear s1 h1
  generalize upd H2 u1 _ = H2 at s ge g1 ⊢
  walk_at "w"
  refine fun u2 h2 => ?_
  have s1 := same_lay (o := .tup [.str "back"]) h2
  have g2 : IsTup K (upd H2 u2 (.tup [.str "back"])) (.ref u2) [.str "back"] := new_tup
  replace s := s.trans s1
  replace ge := ge.mono s1
  replace g1 := g1.mono s1
  clear s1 h2
  generalize upd H2 u2 _ = H2 at s ge g1 g2 ⊢
  walk_at "w"
  refine fun u3 h3 => ?_
  have s1 := same_lay (o := .tup [.str "put", .int 6]) h3
  have g3 : IsTup K (upd H2 u3 (.tup [.str "put", .int 6])) (.ref u3) [.str "put", .int 6] := new_tup
  replace s := s.trans s1
  replace ge := ge.mono s1
  replace g1 := g1.mono s1
  replace g2 := g2.mono s1
  clear s1 h3
  generalize upd H2 u3 _ = H2 at s ge g1 g2 g3 ⊢
  walk_at "w"
  refine fun u4 h4' => ?_
  have s1 := same_lay (o := .tup [.str "raise"]) h4'
  have g4 : IsTup K (upd H2 u4 (.tup [.str "raise"])) (.ref u4) [.str "raise"] := new_tup
  replace s := s.trans s1
  replace ge := ge.mono s1
  replace g1 := g1.mono s1
  replace g2 := g2.mono s1
  replace g3 := g3.mono s1
  clear s1 h4'
  generalize upd H2 u4 _ = H2 at s ge g1 g2 g3 g4 ⊢
  walk_at "w"
  refine fun u5 h5 => ?_
  have s1 := same_lay (o := .lst [.ref u1, .ref u2, .ref u3, .ref u4]) h5
  have g5 : LsAt K (upd H2 u5 (.lst [.ref u1, .ref u2, .ref u3, .ref u4])) u5 [.ref u1, .ref u2, .ref u3, .ref u4] := LsAt.of upd_same
  replace s := s.trans s1
  replace ge := ge.mono s1
  have r5 : All2 (IsRow K (upd H2 u5 (.lst [.ref u1, .ref u2, .ref u3, .ref u4]))) [.ref u1, .ref u2, .ref u3, .ref u4] [Rw.put 5, .back, .put 6, .raise] := .cons (g1.mono s1) (.cons (g2.mono s1) (.cons (g3.mono s1) (.cons (g4.mono s1) .nil)))
  clear s1 h5 g1 g2 g3 g4
  generalize upd H2 u5 _ = H2 at s ge g5 r5 ⊢
  walk_at "w"
  refine w_slL g5.seq fun u6 h6 => ?_
  rw [cut_to]
  have s1 := same_lay (o := .lst (([V.ref u1, .ref u2, .ref u3, .ref u4]).take d.lead)) h6
  have g6 : RawAt (upd H2 u6 (.lst (([V.ref u1, .ref u2, .ref u3, .ref u4]).take d.lead))) u6 (.lst (([V.ref u1, .ref u2, .ref u3, .ref u4]).take d.lead)) := upd_same
  have r6 : All2 (IsRow K (upd H2 u6 (.lst (([V.ref u1, .ref u2, .ref u3, .ref u4]).take d.lead)))) (([V.ref u1, .ref u2, .ref u3, .ref u4]).take d.lead) d.leadR := by
    have r := rows_mono s1 r5
    unfold D14.leadR
    rcases hlead with e | e | e <;> rw [e] at r ⊢
    · exact .nil
    · cases r with
      | cons a r =>
        cases r with
        | cons b r => exact .cons a (.cons b .nil)
    · exact r
  replace s := s.trans s1
  replace ge := ge.mono s1
  clear s1 h6 g5 r5
  generalize ([V.ref u1, .ref u2, .ref u3, .ref u4]).take d.lead = ws6 at s ge g6 r6 ⊢
  generalize upd H2 u6 _ = H2 at s ge g6 r6 ⊢
  have lleadR : d.leadR.length ≤ 4 := by unfold D14.leadR; rw [List.length_take]; simp only [List.length_cons, List.length_nil]; omega
  walk_at "w"
  refine w_r1 (by omega) (by omega) ?_
  rw [show ((d.many : Nat) : Int).toNat = d.many by omega]
  refine for_range (Pv := fun pl σ H' => ∃ lc ws, Same H H' ∧ RawAt H' le (.lst (natsV d.every)) ∧ RawAt H' lc (.lst ws) ∧ All2 (IsRow K H') ws (d.leadR ++ d.fnsR pl) ∧
      ∃ x7 x9 x10 x11 x12 x13, σ = [some (.ref ga), some (.ref pa), some (.int (d.lead : Nat)), some (.int (d.turn : Nat)), some (.int (d.nb : Nat)), some (.int (d.many : Nat)), some (.ref le), x7, some (.ref lc), x9, x10, x11, x12, x13])
    ⟨u6, ws6, s, ge, g6, by rw [D14.fnsR, List.append_nil]; exact r6, _, _, _, _, _, _, rfl⟩ ?_ ?_
  · clear s ge g6 r6
    rintro pl σ H' hpl2 ⟨lc, ws, s, ge, gc, r, x7, x9, x10, x11, x12, x13, rfl⟩
    have hkk : d.kk pl < d.many := Nat.mod_lt _ o.many
    have hfl := fnsR_len (d := d) hG pl
    walk_at "w"
    refine w_mod (by omega) ?_
    have ek : ((0 : Int) + (pl : Nat) + (d.turn : Nat)) % ((d.many : Nat) : Int) = ((d.kk pl : Nat) : Int) := by
      unfold D14.kk
      rw [Int.natCast_emod, Int.natCast_add, Int.zero_add]
    rw [ek]
    walk_at "w"
    with_reducible refine w_iEnumK ?_
    walk_at "w"
    obtain ⟨gk, gi1, gi2⟩ := hgl.at hkk
    refine w_ixL (s.seq hg.seq) gi1 ?_
    walk_at "w"
    have hGk := hG (d.kk pl)
    refine ⟨gk, _, rfl, s.seq gi2.seq, for_enumK (xs := (d.G (d.kk pl)).map V.int) (fun i σ H' => ∃ lc ws, Same H H' ∧ RawAt H' le (.lst (natsV d.every)) ∧ RawAt H' lc (.lst ws) ∧
        All2 (IsRow K H') ws (d.leadR ++ d.fnsR pl ++ grps14 (d.plK (d.kk pl)) d.every (d.G (d.kk pl)).length d.nb d.many 0 ((d.G (d.kk pl)).take i)) ∧
        ∃ x7 x9 x11 x12 x13, σ = [some (.ref ga), some (.ref pa), some (.int (d.lead : Nat)), some (.int (d.turn : Nat)), some (.int (d.nb : Nat)), some (.int (d.many : Nat)), some (.ref le), x7, some (.ref lc), x9, some (.int (d.kk pl : Nat)), x11, x12, x13])
      ⟨lc, ws, s, ge, gc, by rw [List.take_zero, grps14, List.append_nil]; exact r, _, _, _, _, _, rfl⟩ (fun i σ H' h => by obtain ⟨_, _, s, _⟩ := h; exact s.seq gi2.seq) ?_ ?_⟩
    · clear s ge gc r
      rintro i x σ H' T hx ⟨lc, ws, s, ge, gc, r, x7, x9, x11, x12, x13, rfl⟩ hT
      rw [List.getElem?_map] at hx
      cases hz : (d.G (d.kk pl))[i]? with
      | none => rw [hz] at hx; cases hx
      | some c =>
      rw [hz] at hx
      cases hx
      have hi : i < (d.G (d.kk pl)).length := by
        rcases Nat.lt_or_ge i (d.G (d.kk pl)).length with z | z
        · exact z
        · rw [List.getElem?_eq_none z] at hz; cases hz
      refine ⟨T, _, rfl, SqT.of upd_same, rfl, ?_⟩
      have s1 := same_lay (o := .tup [.int (i : Nat), .int c]) hT
      replace s := s.trans s1
      replace ge := ge.mono s1
      replace gc := gc.mono s1
      replace r := rows_mono s1 r
      clear s1 hT
      change gCons _ _ _ _ (upd H' T (.tup [.int (i : Nat), .int c])) _
      generalize upd H' T (.tup [.int (i : Nat), .int c]) = H' at s ge gc r ⊢
      refine ⟨_, _, rfl, ?_⟩
      walk_at "w"
      refine ⟨_, _, rfl, ?_⟩
      walk_at "w"
      refine ⟨rfl, ?_⟩
      walk_at "w"
      obtain ⟨pk, pi1, pi2⟩ := (hpl.mono s).at hkk
      refine w_ixL (s.seq hp.seq) pi1 ?_
      walk_at "w"
      refine w_ixL (s.seq hg.seq) gi1 ?_
      walk_at "w"
      refine w_lenL (s.seq gi2.seq) ?_
      rw [List.length_map]
      walk_at "w"
      refine w_mod (by omega) ?_
      walk_at "w"
      have x1 := Int.emod_lt_of_pos (c / 5000) (show (0 : Int) < ((d.G (d.kk pl)).length : Int) - (i : Nat) by omega)
      have x2 := Int.emod_nonneg (c / 5000) (show ((d.G (d.kk pl)).length : Int) - (i : Nat) ≠ 0 by omega)
      have hpkl : (d.plK (d.kk pl)).length = (d.G (d.kk pl)).length + 1 := by rw [D14.plK, plc14_len]
      refine w_ixL (v := .int (near14 (d.plK (d.kk pl)) (d.G (d.kk pl)).length i c : Nat)) (SqL.of pi2) ?_ ?_
      · have e : ((i : Nat) : Int) + 1 + c / 5000 % (((d.G (d.kk pl)).length : Int) - (i : Nat)) = ((i + 1 + (c / 5000 % (((d.G (d.kk pl)).length : Int) - (i : Nat))).toNat : Nat) : Int) := by omega
        rw [e]
        exact nats_at (by omega)
      walk_at "w"
      refine w_lenL (SqL.of ge) ?_
      rw [natsV, List.length_map]
      walk_at "w"
      refine w_mod (by omega) ?_
      walk_at "w"
      have x3 := Int.emod_lt_of_pos (c / 3000) (show (0 : Int) < (d.every.length : Int) by omega)
      have x4 := Int.emod_nonneg (c / 3000) (show (d.every.length : Int) ≠ 0 by omega)
      refine w_ixL (v := .int (far14 d.every c : Nat)) (SqL.of ge) ?_ ?_
      · have e : c / 3000 % (d.every.length : Int) = (((c / 3000 % (d.every.length : Int)).toNat : Nat) : Int) := by omega
        rw [e]
        exact nats_at (by omega)
      walk_at "w"
      refine ⟨c, _, _, _, _, rfl, by omega, by omega, fun H4 l4 ws4 s4 h4 hr4 => ?_⟩
      replace s := s.trans s4
      replace ge := ge.mono s4
      replace gc := gc.mono s4
      replace r := rows_mono s4 r
      have lr := r.len
      have lg := hr4.len
      have lgl := group14_len c (near14 (d.plK (d.kk pl)) (d.G (d.kk pl)).length i c) (far14 d.every c) d.nb d.many
      have lgs := grps14_len (d.plK (d.kk pl)) d.every (d.G (d.kk pl)).length d.nb d.many ((d.G (d.kk pl)).take i) 0
      rw [List.length_take] at lgs
      simp only [List.length_append] at lr
      walk_at "w"
      refine w_cat gc h4 (small_sz (by omega)) fun p6 h6 => ?_
      have s1 := same_lay (o := .lst (ws ++ ws4)) h6
      walk_at "w"
      refine ⟨p6, ws ++ ws4, s.trans s1, ge.mono s1, upd_same, ?_, _, _, _, _, _, rfl⟩
      rw [take_one hz, grps14_snoc, ← List.append_assoc, List.length_take, Nat.zero_add, show min i (d.G (d.kk pl)).length = i by omega]
      exact rows_mono s1 (All2.app r hr4)
    · clear s ge gc r
      rintro σ H' ⟨lc, ws, s, ge, gc, r, x7, x9, x11, x12, x13, rfl⟩
      rw [List.length_map, List.take_length] at r
      have lr := r.len
      have lgs := grps14_len (d.plK (d.kk pl)) d.every (d.G (d.kk pl)).length d.nb d.many (d.G (d.kk pl)) 0
      simp only [List.length_append] at lr
      walk_at "w"
      refine w_mod (by omega) ?_
      have ek2 : (((d.kk pl : Nat) : Int) + (d.turn : Nat)) % ((d.nb : Nat) : Int) = (((d.kk pl + d.turn) % d.nb : Nat) : Int) := by
        rw [Int.natCast_emod, Int.natCast_add]
      rw [ek2]
      walk_at "w"
      refine fun u1 h1 => ?_
      have s1 := same_lay (o := .tup [.str "get", .int ((d.kk pl + d.turn) % d.nb : Nat)]) h1
      have g1 : IsTup K (upd H' u1 (.tup [.str "get", .int ((d.kk pl + d.turn) % d.nb : Nat)])) (.ref u1) [.str "get", .int ((d.kk pl + d.turn) % d.nb : Nat)] := new_tup
      replace s := s.trans s1
      replace ge := ge.mono s1
      replace gc := gc.mono s1
      replace r := rows_mono s1 r
      clear s1 h1
      generalize upd H' u1 _ = H' at s ge gc r g1 ⊢
      walk_at "w"
      refine fun u2 h2 => ?_
      have s1 := same_lay (o := .tup [.str "back"]) h2
      have g2 : IsTup K (upd H' u2 (.tup [.str "back"])) (.ref u2) [.str "back"] := new_tup
      replace s := s.trans s1
      replace ge := ge.mono s1
      replace gc := gc.mono s1
      replace r := rows_mono s1 r
      replace g1 := g1.mono s1
      clear s1 h2
      generalize upd H' u2 _ = H' at s ge gc r g1 g2 ⊢
      walk_at "w"
      refine fun u3 h3 => ?_
      have s1 := same_lay (o := .lst [.ref u1, .ref u2]) h3
      have g3 : RawAt (upd H' u3 (.lst [.ref u1, .ref u2])) u3 (.lst [.ref u1, .ref u2]) := upd_same
      replace s := s.trans s1
      replace ge := ge.mono s1
      replace gc := gc.mono s1
      replace r := rows_mono s1 r
      replace g1 := g1.mono s1
      replace g2 := g2.mono s1
      clear s1 h3
      generalize upd H' u3 _ = H' at s ge gc r g1 g2 g3 ⊢
      refine w_cat gc g3 (small_sz (by simp only [List.length_cons, List.length_nil]; omega)) fun p6 h6 => ?_
      have s1 := same_lay (o := .lst (ws ++ [.ref u1, .ref u2])) h6
      walk_at "w"
      refine ⟨p6, ws ++ [V.ref u1, V.ref u2], s.trans s1, ge.mono s1, upd_same, ?_, _, _, _, _, _, _, rfl⟩
      have := All2.app (rows_mono s1 r) (.cons (b := Rw.get (((d.kk pl + d.turn) % d.nb : Nat) : Int)) (bs := [.back]) (g1.mono s1) (.cons (b := Rw.back) (bs := []) (g2.mono s1) .nil))
      rw [D14.fnsR, D14.fnR, ← List.append_assoc, ← List.append_assoc]
      exact this
  · clear s ge g6 r6
    rintro σ H' ⟨lc, ws, s, ge, gc, r, x7, x9, x10, x11, x12, x13, rfl⟩
    walk_at "w"
    refine fun p hp' => ?_
    have s1 := same_lay (o := .tup [.ref lc, .ref le]) hp'
    exact q _ p lc le ws (s.trans s1) upd_same (s1 _ _ gc) (s1 _ _ ge) (rows_mono s1 r)
end
end U

set_option maxHeartbeats 8000000
namespace U
open PySem PySem.Spec PyProof.Rows L2 Un
local macro_rules | `(tactic| walk_at "w1") => `(tactic| first
  | with_reducible refine w_seq ?_
  | with_reducible refine w_asg ?_
  | with_reducible refine w_op ?_
  | ((with_reducible refine' w_var ?h1 ?_); (case h1 => rfl))
  | with_reducible refine w_c ?_
  | with_reducible refine w_name ?_
  | with_reducible refine w_tFd ?_
  | ((with_reducible refine' w_fld ?h1 ?h2 ?_); (case h1 => assumption); (case h2 => rfl))
  | with_reducible refine w_if ?_
  | with_reducible refine w_test ?_
  | with_reducible refine w_eqS ?_
  | with_reducible refine w_eqI ?_
  | with_reducible refine w_neS ?_
  | with_reducible refine w_neI ?_
  | with_reducible refine w_isN ?_
  | with_reducible refine w_isnN ?_
  | with_reducible refine w_bl ?_
  | with_reducible refine w_ret ?_
  | with_reducible refine w_drop ?_
  | with_reducible refine w_next ?_
  | with_reducible refine w_cons ?_
  | with_reducible refine w_nil ?_
  | with_reducible refine w_call ?_
  | with_reducible refine w_cb ?_
  | with_reducible refine w_meth ?_
  | ((with_reducible refine' w_recv ?h1 ?h2 ?_); (case h1 => assumption); (case h2 => rfl))
  | with_reducible refine w_sFd ?_
  | ((with_reducible refine' w_put ?h1 ?h2 ?_); (case h1 => assumption); (case h2 => exact Nat.le_of_ble_eq_true rfl))
  | with_reducible refine w_add ?_
  | with_reducible refine w_sub ?_
  | with_reducible refine w_lt ?_
  | with_reducible refine w_le ?_
  | with_reducible refine w_gt ?_
  | with_reducible refine w_ge ?_
  | with_reducible refine w_bm ?_
  | with_reducible refine w_bm0 ?_
  | ((with_reducible refine' w_ty ?h1 ?_); (case h1 => assumption))
  | with_reducible refine w_tup ?_
  | with_reducible refine w_lst ?_
  | ((with_reducible refine' w_new ?h1 ?_); (case h1 => exact Nat.le_of_ble_eq_true rfl))
  | with_reducible refine w_gsub ?_
  | with_reducible refine w_make ?_
  | with_reducible refine w_lc ?_
  | with_reducible refine w_iList ?_
  | with_reducible refine w_for ?_
  | with_reducible refine w_yes ?_
  | with_reducible refine w_tSl ?_
  | with_reducible refine w_part ?_
  | with_reducible refine w_nopart ?_
  | with_reducible refine w_i ?_
  | with_reducible refine w_rng1 ?_
  | with_reducible refine w_rng2 ?_
  | with_reducible refine w_isiII ?_
  | with_reducible refine w_isiIB ?_
  | with_reducible refine w_isiSS ?_
  | ((with_reducible refine w_mod ?h1 ?_); (case h1 => decide))
  | ((with_reducible refine w_fdC' ?h1 ?h2 ?_); (case h1 => decide); (case h2 => decide))
  | ((with_reducible refine w_mulR ?h1 ?h2 ?_); (case h1 => decide); (case h2 => decide))
  | ((with_reducible refine w_mulL ?h1 ?h2 ?_); (case h1 => decide); (case h2 => decide))
  | ((with_reducible refine w_pow' ?h1 ?h2 ?h3 ?_); (case h1 => decide); (case h2 => decide); (case h3 => decide))
  | with_reducible refine w_andV ?_
  | with_reducible refine w_orV ?_
  | with_reducible refine w_notV ?_
  | with_reducible refine w_B ?_
  | with_reducible refine w_not ?_
  | with_reducible refine w_and ?_
  | with_reducible refine w_or ?_
  | with_reducible refine w_ifx ?_
  | with_reducible refine w_un ?_
  | ((with_reducible refine w_T ?h1 ?_); (case h1 => with_reducible rfl))
  | ((with_reducible refine w_F ?h1 ?_); (case h1 => with_reducible rfl))
  | ((with_reducible refine w_T ?h1 ?_); (case h1 => decide +kernel))
  | ((with_reducible refine w_F ?h1 ?_); (case h1 => decide +kernel)))
local macro_rules | `(tactic| walk_at "w") => `(tactic| repeat walk_at "w1")

theorem lc_enumK {K : PySem.W.Frag} {a : Addr} {xs : List V} {g : TG} {tt : TT} {te : TE} {vs : List Nat} {σ : L2.St} {H1 : Hp} {D : Addr} {Qd : Hp → Prop} (Pv : Nat → Hp → Prop) (h0 : Pv 0 (upd H1 D (.lst []))) (hl : ∀ i H, Pv i H → SqL K H a xs)
    (hs : ∀ (i : Nat) x H T, xs[i]? = some x → Pv i H → H T = none → g (.ref T) (wipe σ vs) (upd H T (.tup [.int (i : Nat), x])) fun σ2 H2 => wipe σ2 vs = wipe σ vs ∧ tt σ2 H2 fun b H3 =>
      if b = true then te σ2 H3 fun y H4 => ∃ acc, H4 D = some (.lst acc) ∧ acc.length < sizeLine ∧ Pv (i + 1) (upd H4 D (.lst (acc ++ [y]))) else Pv (i + 1) H3) (hd : ∀ H, Pv xs.length H → Qd H) :
    ∃ W : Nat → Nat → Hp → Prop, (∃ m, W 0 m (upd H1 D (.lst []))) ∧ ∀ i m H, W i m H →
      ((Ite K a).stop i H ∧ Qd H) ∨ ((Ite K a).go i H ∧ ∃ Nx : Hp → Prop, (∀ H', Nx H' → ∃ m', m' < m ∧ W (i + 1) m' H') ∧ ∀ x H', (Ite K a).yld i H x H' → g x (wipe σ vs) H' fun σ2 H2 => wipe σ2 vs = wipe σ vs ∧ tt σ2 H2 fun b H3 =>
        if b = true then te σ2 H3 fun y H4 => ∃ acc, H4 D = some (.lst acc) ∧ acc.length < sizeLine ∧ Nx (upd H4 D (.lst (acc ++ [y]))) else Nx H3) := by
  refine ⟨fun i m H => m = xs.length - i ∧ i ≤ xs.length ∧ Pv i H, ⟨xs.length, rfl, Nat.zero_le _, h0⟩, ?_⟩
  rintro i m H ⟨rfl, hi, p⟩
  have q := hl i H p
  by_cases hlt : i < xs.length
  · refine .inr ⟨⟨xs, _, q, List.getElem?_eq_getElem hlt⟩, Pv (i + 1), fun H' p' => ⟨xs.length - (i + 1), by omega, rfl, hlt, p'⟩, fun v H' y => ?_⟩
    obtain ⟨T, x, rfl, hT, rfl, y⟩ := y
    exact hs i x H T (y xs q) p hT
  · have e : i = xs.length := by omega
    subst e
    exact .inl ⟨⟨xs, q, Nat.le_refl _⟩, hd H p⟩
theorem ints_mod {sp : List Int} (h : 0 < sp.length) (c : Int) : ∃ z, atI (sp.map V.int) (c % (sp.length : Int)) = some (.int z) := by
  have h1 := Int.emod_lt_of_pos c (show (0 : Int) < (sp.length : Int) by omega)
  have h2 := Int.emod_nonneg c (show (sp.length : Int) ≠ 0 by omega)
  refine ⟨sp.getD (c % (sp.length : Int)).toNat 0, atI_ok h2 ?_⟩
  rw [List.getElem?_map, List.getD_eq_getElem?_getD, List.getElem?_eq_getElem (by omega)]
  rfl
section
variable {K : PySem.W.Frag}
def sp_l_stretches (K : PySem.W.Frag) : Sp := fun vs H Q _ => ∃ ca lc la, ∃ (cells : List Int) (ws : List V) (rows : List Rw) (gl : List Nat), vs = [.ref ca, .ref lc, .ref la] ∧ SqL K H ca (cells.map V.int) ∧ SqL K H lc ws ∧ All2 (IsRow K H) ws rows ∧ SqL K H la (natsV gl) ∧ gl.length = cells.length ∧ 0 < rows.length ∧ rows.length ≤ 1000 ∧ cells.length ≤ 63 ∧
  ∀ H' p us S, Same H H' → H' p = some (.lst us) → All2 (IsStr K H') us S → S.length ≤ cells.length → (∀ s ∈ S, s.2.1 ≤ (rows.length : Int) ∧ ∃ g ∈ gl, s.2.2 = ((g : Nat) : Int)) → Q (.ref p) H'
theorem p_l_stretches (vs : List V) (H : Hp) (Q : VK) (E : XK) (h : sp_l_stretches K vs H Q E) : t_l_stretches K { nx := fun _ H' => Q .non H', rt := Q } (L2.start n_l_stretches vs) H := by
  obtain ⟨ca, lc, la, cells, ws, rows, gl, rfl, hc, hw, hr, hla, hgl, hr0, hr1, hcl, q⟩ := h
  have hwl := hr.len
  unfold t_l_stretches
  walk_at "w"
  with_reducible refine w_iEnumK ?_
  walk_at "w"
  refine ⟨lc, ws, rfl, hw, fun D hD => lc_enumK (xs := ws) (fun i H' => ∃ sp : List Int, sp.length ≤ i ∧ i ≤ ws.length ∧ Own H H' [(D, .lst (sp.map V.int))]) ⟨[], Nat.le_refl _, Nat.zero_le _, (Own.nil (Same.refl H)).take (o := .lst []) hD⟩
    (fun i H' h => by obtain ⟨_, _, _, w⟩ := h; exact w.same.seq hw) ?_ ?_⟩
  · rintro i x H' T hx ⟨sp, hsp, hi, w⟩ hT
    have hi2 : i < ws.length := by
      rcases Nat.lt_or_ge i ws.length with z | z
      · exact z
      · rw [List.getElem?_eq_none z] at hx; cases hx
    obtain ⟨row, ⟨rw0, rfl, hrow⟩, _⟩ := hr.drop i hx
    replace w := w.lay (o := .tup [.int (i : Nat), .ref rw0]) hT
    refine ⟨T, _, rfl, SqT.of upd_same, rfl, ?_⟩
    change gCons _ _ _ _ (upd H' T (.tup [.int (i : Nat), .ref rw0])) _
    generalize upd H' T (.tup [.int (i : Nat), .ref rw0]) = H2 at w ⊢
    refine ⟨_, _, rfl, ?_⟩
    walk_at "w"
    refine ⟨_, _, rfl, ?_⟩
    walk_at "w"
    refine ⟨rfl, ?_⟩
    refine ⟨rfl, ?_⟩
    walk_at "w"
    refine w_ixT (same_tup w.same hrow) (words_0 row) ?_
    walk_at "w"
    refine fun p hp => ?_
    refine w_inT (SqT.of upd_same) rfl rfl ?_
    replace w := w.lay (o := .tup [.str "share", .str "call", .str "raise"]) hp
    generalize upd H2 p _ = H2 at w ⊢
    refine ⟨_, rfl, ?_⟩
    refine w_2 (fun _ => ?_) (fun _ => ⟨sp, by omega, hi2, w⟩)
    walk_at "w"
    refine ⟨_, w.ix 0 rfl, ?_, sp ++ [(i : Int)], by simp; omega, hi2, ?_⟩
    · rw [List.length_map]
      exact lim_lt (by unfold LIM; omega)
    · rw [List.map_append]
      exact w.set 0 _ rfl
  rintro H1 ⟨sp, hsp, _, w⟩
  have gD : LsAt K H1 D (sp.map V.int) := LsAt.of (w.ix 0 rfl)
  have s := w.same
  clear w
  walk_at "w"
  refine fun lf hlf => ?_
  have w := (Own.nil (Same.refl H1)).take (o := .lst []) hlf
  generalize upd H1 lf (.lst []) = H2 at w ⊢
  walk_at "w"
  with_reducible refine w_iEnumK ?_
  walk_at "w"
  refine ⟨ca, _, rfl, w.same.seq (s.seq hc), for_enumK (xs := cells.map V.int) (fun i σ H' => ∃ us S x7 x8 x9 x10, Own H1 H' [(lf, .lst us)] ∧ All2 (IsStr K H') us S ∧ S.length ≤ i ∧ i ≤ cells.length ∧ (∀ s ∈ S, s.2.1 ≤ (rows.length : Int) ∧ ∃ g ∈ gl, s.2.2 = ((g : Nat) : Int)) ∧
      σ = [some (.ref ca), some (.ref lc), some (.ref la), some (.ref D), none, none, some (.ref lf), x7, x8, x9, x10])
    ⟨[], [], _, _, _, _, w, .nil, Nat.le_refl _, Nat.zero_le _, fun s hs => by simp at hs, rfl⟩ (fun i σ H' h => by obtain ⟨_, _, _, _, _, _, w, _⟩ := h; exact w.same.seq (s.seq hc)) ?_ ?_⟩
  · rintro i x σ H' T hx ⟨us, S, x7, x8, x9, x10, w, hS, hSl, hi, hSp, rfl⟩ hT
    rw [List.getElem?_map] at hx
    cases hz : cells[i]? with
    | none => rw [hz] at hx; cases hx
    | some c =>
    rw [hz] at hx
    cases hx
    have hi2 : i < cells.length := by
      rcases Nat.lt_or_ge i cells.length with z | z
      · exact z
      · rw [List.getElem?_eq_none z] at hz; cases hz
    replace hS := strs_mono (same_lay (o := .tup [.int (i : Nat), .int c]) hT) hS
    replace w := w.lay (o := .tup [.int (i : Nat), .int c]) hT
    refine ⟨T, _, rfl, SqT.of upd_same, rfl, ?_⟩
    change gCons _ _ _ _ (upd H' T (.tup [.int (i : Nat), .int c])) _
    generalize upd H' T (.tup [.int (i : Nat), .int c]) = H' at w hS ⊢
    refine ⟨_, _, rfl, ?_⟩
    walk_at "w"
    refine ⟨_, _, rfl, ?_⟩
    walk_at "w"
    refine ⟨rfl, ?_⟩
    walk_at "w"
    have hwc : SqL K H' lc ws := w.same.seq (s.seq hw)
    refine w_lenL hwc ?_
    rw [hwl]
    refine w_mod (by omega) ?_
    have x1 := Int.emod_lt_of_pos (c / 2) (show (0 : Int) < (rows.length : Int) by omega)
    have x2 := Int.emod_nonneg (c / 2) (show (rows.length : Int) ≠ 0 by omega)
    walk_at "w"
    refine w_lenL hwc ?_
    rw [hwl]
    walk_at "w"
    refine w_mod (by omega) ?_
    have x3 := Int.emod_lt_of_pos (c / 300) (show (0 : Int) < (rows.length : Int) - c / 2 % (rows.length : Int) + 1 by omega)
    walk_at "w1"
    with_reducible refine w_name ?_
    have hb0 : c / 2 % (rows.length : Int) + c / 300 % ((rows.length : Int) - c / 2 % (rows.length : Int) + 1) ≤ (rows.length : Int) := by omega
    generalize c / 2 % (rows.length : Int) + c / 300 % ((rows.length : Int) - c / 2 % (rows.length : Int) + 1) = bh at hb0 ⊢
    generalize c / 2 % (rows.length : Int) = fs at *
    with_reducible refine w_cut (fun σ' H2 => ∃ f b : Int, σ' = [some (.ref ca), some (.ref lc), some (.ref la), some (.ref D), none, none, some (.ref lf), some (.int (i : Nat)), some (.int c), some (.int f), some (.int b)] ∧ b ≤ (rows.length : Int) ∧
      Own H1 H2 [(lf, .lst us)] ∧ All2 (IsStr K H2) us S) ?_ fun N hN => ?_
    · rintro σ' H2 ⟨f, b, rfl, hb, w, hS⟩
      have hlf := w.ix 0 rfl
      walk_at "w"
      refine w_ixL (w.same.seq (s.seq hla)) (nats_at (by omega)) ?_
      walk_at "w"
      refine fun p hp => ?_
      have n1 : IsTup K (upd H2 p (.tup [.int f, .int b, .int (gl.getD i 0 : Nat)])) (.ref p) [.int f, .int b, .int (gl.getD i 0 : Nat)] := new_tup
      have hS1 := strs_mono (same_lay (o := .tup [.int f, .int b, .int (gl.getD i 0 : Nat)]) hp) hS
      have w1 := w.lay (o := .tup [.int f, .int b, .int (gl.getD i 0 : Nat)]) hp
      have hlf1 := w1.ix 0 rfl
      have hul := hS.len
      walk_at "w"
      refine w_app hlf1 (lim_lt (by unfold LIM; omega)) ?_
      walk_at "w"
      refine ⟨us ++ [.ref p], S ++ [(f, b, ((gl.getD i 0 : Nat) : Int))], _, _, _, _, w1.set 0 (.lst (us ++ [.ref p])) rfl, (strs_put hlf1 hS1).snoc (IsTup.put hlf1 n1), by simp; omega, hi2, fun z hz => ?_, rfl⟩
      rcases List.mem_append.mp hz with e | e
      · exact hSp z e
      · rw [List.mem_singleton.mp e]
        exact ⟨hb, _, getD_mem (by omega), rfl⟩
    · walk_at "w"
      refine w_D (fun c1 => ?_) (fun c1 => ?_)
      · walk_at "w"
        refine fun e1 he1 => ?_
        have s1 := same_lay (o := .lst []) he1
        have ge : RawAt (upd H' e1 (.lst [])) e1 (.lst []) := upd_same
        replace hS := strs_mono s1 hS
        replace w := w.lay (o := .lst []) he1
        clear s1 he1 hwc
        generalize upd H' e1 (.lst []) = H' at w hS ge ⊢
        have gD1 := gD.mono w.same
        refine w_neD (.lst gD1.seq (dp_ints sp)) (.lst (SqL.of ge) .nil) (shaped_ints sp) (shaped_ints []) ?_
        have en : PyData.eqv (.list (sp.map PyData.int)) (.list []) = sp.isEmpty := by
          cases sp <;> simp [PyData.eqv, PyData.eqvAll]
        rw [en]
        refine ⟨_, rfl, ?_⟩
        cases hsp0 : sp with
        | nil =>
          refine w_F rfl ?_
          walk_at "w"
          exact hN _ _ ⟨fs, bh, rfl, hb0, w, hS⟩
        | cons z0 zs =>
          refine w_T rfl ?_
          have hpos : 0 < sp.length := by rw [hsp0]; simp
          walk_at "w"
          refine w_lenL gD1.seq ?_
          rw [List.length_map]
          refine w_mod (by omega) ?_
          obtain ⟨z, hzz⟩ := ints_mod hpos (c / 2)
          refine w_ixL gD1.seq hzz ?_
          walk_at "w"
          refine ⟨_, _, rfl, ?_⟩
          walk_at "w"
          refine w_lenL (w.same.seq (s.seq hw)) ?_
          rw [hwl]
          walk_at "w"
          refine ⟨_, _, rfl, ?_⟩
          walk_at "w"
          refine hN _ _ ⟨_, _, rfl, ?_, w, hS⟩
          split <;> omega
      · walk_at "w"
        exact hN _ _ ⟨fs, bh, rfl, hb0, w, hS⟩
  · rintro σ H' ⟨us, S, x7, x8, x9, x10, w, hS, hSl, hi, hSp, rfl⟩
    rw [List.length_map] at hSl
    walk_at "w"
    exact q _ lf us S (s.trans w.same) (w.ix 0 rfl) hS hSl hSp
end
end U

set_option maxHeartbeats 8000000
namespace U
open PySem PySem.Spec PyProof.Rows L2 Un
local macro_rules | `(tactic| walk_at "w1") => `(tactic| first
  | with_reducible refine w_seq ?_
  | with_reducible refine w_asg ?_
  | with_reducible refine w_op ?_
  | ((with_reducible refine' w_var ?h1 ?_); (case h1 => rfl))
  | with_reducible refine w_c ?_
  | with_reducible refine w_name ?_
  | with_reducible refine w_tFd ?_
  | ((with_reducible refine' w_fld ?h1 ?h2 ?_); (case h1 => assumption); (case h2 => rfl))
  | with_reducible refine w_if ?_
  | with_reducible refine w_test ?_
  | with_reducible refine w_eqS ?_
  | with_reducible refine w_eqI ?_
  | with_reducible refine w_neS ?_
  | with_reducible refine w_neI ?_
  | with_reducible refine w_isN ?_
  | with_reducible refine w_isnN ?_
  | with_reducible refine w_bl ?_
  | with_reducible refine w_ret ?_
  | with_reducible refine w_drop ?_
  | with_reducible refine w_next ?_
  | with_reducible refine w_cons ?_
  | with_reducible refine w_nil ?_
  | with_reducible refine w_call ?_
  | with_reducible refine w_cb ?_
  | with_reducible refine w_meth ?_
  | ((with_reducible refine' w_recv ?h1 ?h2 ?_); (case h1 => assumption); (case h2 => rfl))
  | with_reducible refine w_sFd ?_
  | ((with_reducible refine' w_put ?h1 ?h2 ?_); (case h1 => assumption); (case h2 => exact Nat.le_of_ble_eq_true rfl))
  | with_reducible refine w_add ?_
  | with_reducible refine w_sub ?_
  | with_reducible refine w_lt ?_
  | with_reducible refine w_le ?_
  | with_reducible refine w_gt ?_
  | with_reducible refine w_ge ?_
  | with_reducible refine w_bm ?_
  | with_reducible refine w_bm0 ?_
  | ((with_reducible refine' w_ty ?h1 ?_); (case h1 => assumption))
  | with_reducible refine w_tup ?_
  | with_reducible refine w_lst ?_
  | ((with_reducible refine' w_new ?h1 ?_); (case h1 => exact Nat.le_of_ble_eq_true rfl))
  | with_reducible refine w_gsub ?_
  | with_reducible refine w_make ?_
  | with_reducible refine w_lc ?_
  | with_reducible refine w_iList ?_
  | with_reducible refine w_for ?_
  | with_reducible refine w_yes ?_
  | with_reducible refine w_tSl ?_
  | with_reducible refine w_part ?_
  | with_reducible refine w_nopart ?_
  | with_reducible refine w_i ?_
  | with_reducible refine w_rng1 ?_
  | with_reducible refine w_rng2 ?_
  | with_reducible refine w_isiII ?_
  | with_reducible refine w_isiIB ?_
  | with_reducible refine w_isiSS ?_
  | ((with_reducible refine w_mod ?h1 ?_); (case h1 => decide))
  | ((with_reducible refine w_fdC' ?h1 ?h2 ?_); (case h1 => decide); (case h2 => decide))
  | ((with_reducible refine w_mulR ?h1 ?h2 ?_); (case h1 => decide); (case h2 => decide))
  | ((with_reducible refine w_mulL ?h1 ?h2 ?_); (case h1 => decide); (case h2 => decide))
  | ((with_reducible refine w_pow' ?h1 ?h2 ?h3 ?_); (case h1 => decide); (case h2 => decide); (case h3 => decide))
  | with_reducible refine w_andV ?_
  | with_reducible refine w_orV ?_
  | with_reducible refine w_notV ?_
  | with_reducible refine w_B ?_
  | with_reducible refine w_not ?_
  | with_reducible refine w_and ?_
  | with_reducible refine w_or ?_
  | with_reducible refine w_ifx ?_
  | with_reducible refine w_un ?_
  | ((with_reducible refine w_T ?h1 ?_); (case h1 => with_reducible rfl))
  | ((with_reducible refine w_F ?h1 ?_); (case h1 => with_reducible rfl))
  | ((with_reducible refine w_T ?h1 ?_); (case h1 => decide +kernel))
  | ((with_reducible refine w_F ?h1 ?_); (case h1 => decide +kernel)))
local macro_rules | `(tactic| walk_at "w") => `(tactic| repeat walk_at "w1")

def pickI (cs : List Int) (k m : Nat) : List Int := (pickIx (some (k : Int)) none (some (m : Int)) cs.length).filterMap (cs[·]?)
theorem step_ints (cs : List Int) (k m : Nat) : stepV (cs.map V.int) (some (k : Int)) none (some (m : Int)) = (pickI cs k m).map V.int := by
  unfold stepV pickI
  rw [List.length_map, List.map_filterMap]
  congr 1
  funext i
  rw [List.getElem?_map]
theorem pickI_len (cs : List Int) {k m : Nat} (hm : 0 < m) : (pickI cs k m).length ≤ cs.length := by
  unfold pickI
  refine Nat.le_trans (List.length_filterMap_le ..) ?_
  unfold pickIx sliceRange
  rw [List.length_map, List.length_range]
  have h1 : (sliceBounds (some (k : Int)) none (some (m : Int)) cs.length).2.2 = (m : Int) := rfl
  have h2 : (sliceBounds (some (k : Int)) none (some (m : Int)) cs.length).2.1 = (cs.length : Int) := by
    simp only [sliceBounds, Option.getD_some]
    rw [if_pos (by omega)]
  have h3 : 0 ≤ (sliceBounds (some (k : Int)) none (some (m : Int)) cs.length).1 := by
    simp only [sliceBounds, Option.getD_some]
    split <;> split <;> omega
  rw [h1, h2]
  generalize (sliceBounds (some (k : Int)) none (some (m : Int)) cs.length).1 = st at h3 ⊢
  rw [if_pos (by omega)]
  split
  · have := ceilDiv_le ((cs.length : Int) - st) (m : Int) (by omega) (by omega)
    omega
  · omega
theorem cut_24 (ns : List Int) : ∃ ms : List Int, cutV (ns.map V.int) (some 3) (some 27) = ms.map V.int ∧ ms.length ≤ 24 := by
  unfold cutV
  rw [List.length_map, ← List.map_drop, ← List.map_take]
  refine ⟨_, rfl, ?_⟩
  rw [List.length_take]
  have e1 := HT.sIx_nat ns.length ns.length 27
  have e2 := HT.sIx_nat ns.length 0 3
  have e1' : HT.sIx ns.length ns.length (some 27) = min 27 ns.length := e1
  have e2' : HT.sIx ns.length 0 (some 3) = min 3 ns.length := e2
  rw [e1', e2']
  omega
def gcells (n : Nat) (ad : Nat → Addr) (g : Nat → List V) : List Cell := (List.range n).map fun k => (ad k, .lst (g k))
theorem gll {K : PySem.W.Frag} {H : Hp} {ad : Nat → Addr} {g : Nat → List V} : ∀ {n : Nat}, (∀ c ∈ gcells n ad g, H c.1 = some c.2) → LLAt K H (frefs n ad) ((List.range n).map g)
  | 0, _ => .nil
  | n + 1, h => by
    unfold frefs
    rw [range_snoc, range_snoc]
    have e : gcells (n + 1) ad g = gcells n ad g ++ [(ad n, .lst (g n))] := by unfold gcells; rw [range_snoc]
    rw [e] at h
    exact All2.snoc (gll fun c hc => h c (List.mem_append_left _ hc)) ⟨ad n, rfl, LsAt.of (h (ad n, .lst (g n)) (by simp))⟩
section
variable {K : PySem.W.Frag}
theorem w_tSlK {te : TE} {tl th ts : TO} {σ : L2.St} {H : Hp} {Q : VK} (h : te σ H fun x H1 => tl σ H1 fun l H2 => th σ H2 fun u H3 => ts σ H3 fun s H4 => rSlK K x l u s H4 Q) : tSlK K te tl th ts σ H Q := h
def sp_l_drawn (K : PySem.W.Frag) : Sp := fun vs H Q _ => ∃ (a : Addr) (ns : List Int), vs = [.ref a] ∧ LsAt K H a (ns.map V.int) ∧
  ∀ H' p (d : D14) (str : List Stretch) lc ls lt wsc uss, Same H H' → H' p = some (.tup [.ref lc, .ref ls, .ref lt, .int (d.nb : Nat)]) → H' lc = some (.lst wsc) → All2 (IsRow K H') wsc (d.P str).code → H' ls = some (.lst uss) → All2 (IsStr K H') uss str →
    H' lt = some (.lst (d.starts.map V.int)) → D14.Ok d → (∀ s ∈ str, s.2.1 ≤ (d.T : Int) ∧ ∃ g ∈ D14.gpl d.every d.nb d.T d.gs, s.2.2 = ((g : Nat) : Int)) → (∀ k, (d.G k).length ≤ 24) → d.many ≤ 4 → d.gs.length ≤ 5 → d.nb ≤ 6 → str.length ≤ 63 → Q (.ref p) H'
theorem p_l_drawn (vs : List V) (H : Hp) (Q : VK) (E : XK) (h : sp_l_drawn K vs H Q E) : t_l_drawn K (sp_l_cell_at K) (sp_l_places K) (sp_l_code K) (sp_l_goals K) (sp_l_stretches K) { nx := fun _ H' => Q .non H', rt := Q } (L2.start n_l_drawn vs) H := by
  obtain ⟨a, ns, rfl, hS, q⟩ := h
  unfold t_l_drawn
  walk_at "w"
  refine ⟨a, ns, 0, rfl, hS.seq, by decide, ?_⟩
  generalize cellAt ns 0 = c0
  walk_at "w"
  have hF0 := Int.emod_nonneg (c0 * 48271) (show (1000003 : Int) ≠ 0 by decide)
  generalize c0 * 48271 % 1000003 = F at hF0 ⊢
  obtain ⟨many, hmany⟩ : ∃ n : Nat, 1 + F % 4 = (n : Int) := ⟨(1 + F % 4).toNat, by omega⟩
  obtain ⟨nb, hnb⟩ : ∃ n : Nat, 2 + F / 4 % 5 = (n : Int) := ⟨(2 + F / 4 % 5).toNat, by omega⟩
  obtain ⟨lead, hlead⟩ : ∃ n : Nat, 2 * (F / 20 % 3) = (n : Int) := ⟨(2 * (F / 20 % 3)).toNat, by omega⟩
  rw [hmany, hnb, hlead]
  refine w_mod (by omega) ?_
  have t1 := Int.emod_nonneg (F / 60) (show ((many : Nat) : Int) ≠ 0 by omega)
  have t2 := Int.emod_lt_of_pos (F / 60) (show (0 : Int) < ((many : Nat) : Int) by omega)
  obtain ⟨turn, hturn⟩ : ∃ n : Nat, F / 60 % ((many : Nat) : Int) = (n : Int) := ⟨(F / 60 % ((many : Nat) : Int)).toNat, by omega⟩
  rw [hturn]
  have many4 : many ≤ 4 := by omega
  have many0 : 0 < many := by omega
  have nb6 : nb ≤ 6 := by omega
  have nb0 : 0 < nb := by omega
  have lead3 : lead = 0 ∨ lead = 2 ∨ lead = 4 := by omega
  have turn4 : turn < many := by omega
  clear hturn t1 t2 hlead hnb hmany
  obtain ⟨nm, hnm⟩ : ∃ n : Nat, F / 240 % 6 = (n : Int) := ⟨(F / 240 % 6).toNat, by omega⟩
  have nm5 : nm ≤ 5 := by omega
  generalize hmore : ((List.range nm).map fun i : Nat => (F + 104729 * (1 + (i : Int))) * 48271 % 1000003) = more
  have hml : more.length = nm := by rw [← hmore, List.length_map, List.length_range]
  generalize hgs : (more.map fun c => c / 7) = gs
  have gsl : gs.length = more.length := by rw [← hgs, List.length_map]
  -- the cells
  walk_at "w"
  with_reducible refine w_iEnumK ?_
  walk_at "w"
  refine w_slL hS.seq fun p1 h1 => ?_
  obtain ⟨ms, em, lm⟩ := cut_24 ns
  rw [em]
  have sm := same_lay (o := .lst (ms.map V.int)) h1
  have g1 : LsAt K (upd H p1 (.lst (ms.map V.int))) p1 (ms.map V.int) := LsAt.of upd_same
  clear h1 em
  generalize upd H p1 (.lst (ms.map V.int)) = H1 at sm g1 ⊢
  walk_at "w"
  refine ⟨p1, _, rfl, g1.seq, fun D hD => lc_enumK (xs := ms.map V.int) (fun i H' => ∃ cs : List Int, cs.length = i ∧ i ≤ ms.length ∧ Own H1 H' [(D, .lst (cs.map V.int))]) ⟨[], rfl, Nat.zero_le _, (Own.nil (Same.refl H1)).take (o := .lst []) hD⟩
    (fun i H' h => by obtain ⟨_, _, _, w⟩ := h; exact w.same.seq g1.seq) ?_ ?_⟩
  · rintro i x H' T hx ⟨cs, hcs, hi, w⟩ hT
    rw [List.getElem?_map] at hx
    cases hz : ms[i]? with
    | none => rw [hz] at hx; cases hx
    | some c =>
    rw [hz] at hx
    cases hx
    have hi2 : i < ms.length := by
      rcases Nat.lt_or_ge i ms.length with z | z
      · exact z
      · rw [List.getElem?_eq_none z] at hz; cases hz
    replace w := w.lay (o := .tup [.int (i : Nat), .int c]) hT
    refine ⟨T, _, rfl, SqT.of upd_same, rfl, ?_⟩
    change gCons _ _ _ _ (upd H' T (.tup [.int (i : Nat), .int c])) _
    generalize upd H' T (.tup [.int (i : Nat), .int c]) = H2 at w ⊢
    refine ⟨_, _, rfl, ?_⟩
    walk_at "w"
    refine ⟨_, _, rfl, ?_⟩
    walk_at "w"
    refine ⟨rfl, ?_⟩
    refine ⟨rfl, ?_⟩
    walk_at "w"
    refine ⟨_, w.ix 0 rfl, ?_, cs ++ [(c + 7919 * (i : Int)) * 48271 % 1000003], by simp; omega, hi2, ?_⟩
    · rw [List.length_map]
      exact lim_lt (by unfold LIM; omega)
    · rw [List.map_append]
      exact w.set 0 _ rfl
  rintro H2 ⟨cells, hcl, _, w⟩
  rw [List.length_map] at hcl
  have gc : LsAt K H2 D (cells.map V.int) := LsAt.of (w.ix 0 rfl)
  have cl24 : cells.length ≤ 24 := by omega
  replace sm := sm.trans w.same
  clear w g1 hcl lm
  walk_at "w"
  refine w_r1 (by omega) (by omega) ?_
  rw [show ((many : Nat) : Int).toNat = many by omega]
  refine fun D2 hD2 => lc_range (Pv := fun i H' => ∃ ad : Nat → Addr, Own H2 H' ((D2, .lst (frefs i ad)) :: gcells i ad fun k => (pickI cells k many).map V.int)) ⟨fun _ => D2, (Own.nil (Same.refl H2)).take (o := .lst []) hD2⟩ ?_ ?_
  · rintro i H' hi ⟨ad, w⟩
    refine ⟨rfl, ?_⟩
    walk_at "w"
    with_reducible refine w_tSlK ?_
    walk_at "w"
    rw [Int.zero_add]
    refine ⟨D, _, rfl, (gc.mono w.same).seq, by simp; omega, ?_, fun u hu => ?_⟩
    · rw [step_ints, List.length_map]
      exact small_sz (Nat.le_trans (pickI_len cells many0) (by omega))
    rw [step_ints]
    have w1 := w.take (o := .lst ((pickI cells i many).map V.int)) hu
    refine ⟨_, w1.ix 1 rfl, ?_, fun j => if j = i then u else ad j, ?_⟩
    · rw [frefs, List.length_map, List.length_range]
      exact lim_lt (by unfold LIM; omega)
    · have e1 : frefs (i + 1) (fun j => if j = i then u else ad j) = frefs i ad ++ [.ref u] := by
        unfold frefs
        rw [range_snoc]
        dsimp only
        rw [if_pos rfl]
        congr 1
        apply List.map_congr_left
        intro j hj
        rw [if_neg (by have := List.mem_range.mp hj; omega)]
      have e2 : gcells (i + 1) (fun j => if j = i then u else ad j) (fun k => (pickI cells k many).map V.int) = gcells i ad (fun k => (pickI cells k many).map V.int) ++ [(u, .lst ((pickI cells i many).map V.int))] := by
        unfold gcells
        rw [range_snoc]
        dsimp only
        rw [if_pos rfl]
        congr 1
        apply List.map_congr_left
        intro j hj
        rw [if_neg (by have := List.mem_range.mp hj; omega)]
      rw [e1, e2]
      exact (w1.set 1 (.lst (frefs i ad ++ [.ref u])) rfl).perm ((List.Perm.swap _ _ _).trans (.cons _ (List.perm_append_singleton _ _).symm))
  rintro H3 ⟨ad, w⟩
  have gg : LsAt K H3 D2 (frefs many ad) := LsAt.of (w.ix 0 rfl)
  have gl : LLAt K H3 (frefs many ad) ((List.range many).map fun k => (pickI cells k many).map V.int) := gll fun c hc => w.get (List.mem_cons_of_mem _ hc)
  replace sm := sm.trans w.same
  clear w gc
  have hGl : ∀ k, (pickI cells k many).length ≤ 24 := fun k => Nat.le_trans (pickI_len cells many0) cl24
  -- the places and the code; the goals' cells are not known yet
  walk_at "w"
  have ok0 : D14.Ok ⟨many, turn, nb, lead, fun k => pickI cells k many, gs⟩ := ⟨many0, turn4, nb0, lead3⟩
  refine ⟨D2, _, ⟨many, turn, nb, lead, fun k => pickI cells k many, gs⟩, rfl, gg, gl, ok0, hGl, many4, fun H4 pp prefs s4 hp4 hpl4 => ?_⟩
  replace sm := sm.trans s4
  replace gg := gg.mono s4
  replace gl := gl.mono s4
  have gp : LsAt K H4 pp prefs := LsAt.of hp4
  clear hp4 s4
  walk_at "w"
  refine ⟨D2, _, pp, prefs, ⟨many, turn, nb, lead, fun k => pickI cells k many, gs⟩, rfl, gg, gl, gp, hpl4, ok0, hGl, many4, fun H5 p5 lc le wsc s5 hp5 hlc hle hr => ?_⟩
  replace sm := sm.trans s5
  replace gp := gp.mono s5
  replace hpl4 := hpl4.mono s5
  clear s5 gg gl
  refine ⟨p5, _, rfl, SqT.of hp5, rfl, ?_⟩
  change gCons _ _ _ _ H5 _
  refine ⟨_, _, rfl, ?_⟩
  walk_at "w"
  refine ⟨_, _, rfl, ?_⟩
  walk_at "w"
  refine ⟨rfl, ?_⟩
  replace hlc : RawAt H5 lc (.lst wsc) := hlc
  replace hle : RawAt H5 le (.lst _) := hle
  walk_at "w"
  rw [hnm]
  refine ⟨_, _, rfl, by omega, ?_⟩
  rw [show ((1 : Int) + (nm : Nat) - 1).toNat = nm by omega]
  refine fun D3 hD3 => lc_range (Pv := fun i H' => Own H5 H' [(D3, .lst (((List.range i).map fun i : Nat => (F + 104729 * (1 + (i : Int))) * 48271 % 1000003).map V.int))]) ((Own.nil (Same.refl H5)).take (o := .lst []) hD3) ?_ ?_
  · rintro i H' hi w
    refine ⟨rfl, ?_⟩
    walk_at "w"
    refine ⟨_, w.ix 0 rfl, ?_, ?_⟩
    · rw [List.length_map, List.length_map, List.length_range]
      exact lim_lt (by unfold LIM; omega)
    · rw [range_snoc, List.map_append]
      exact w.set 0 _ rfl
  intro H6 w
  rw [hmore] at w
  have gm : LsAt K H6 D3 (more.map V.int) := LsAt.of (w.ix 0 rfl)
  replace sm := sm.trans w.same
  replace gp := gp.mono w.same
  replace hpl4 := hpl4.mono w.same
  replace hlc := hlc.mono w.same
  replace hle := hle.mono w.same
  replace hr := rows_mono w.same hr
  clear w hp5
  walk_at "w"
  refine w_refL gm.seq fun D4 hD4 => lc_list (xs := more.map V.int) (fun i H' => Own H6 H' [(D4, .lst (((more.take i).map fun c => c / 7).map V.int))])
    ((Own.nil (Same.refl H6)).take (o := .lst []) hD4) (fun i H' _ w => w.same.seq gm.seq) ?_ ?_
  · rintro i x H' hx w
    rw [List.getElem?_map] at hx
    cases hz : more[i]? with
    | none => rw [hz] at hx; cases hx
    | some c =>
    rw [hz] at hx
    cases hx
    refine ⟨rfl, ?_⟩
    walk_at "w"
    refine ⟨_, w.ix 0 rfl, ?_, ?_⟩
    · rw [List.length_map, List.length_map, List.length_take]
      exact lim_lt (by unfold LIM; omega)
    · rw [take_one hz, List.map_append, List.map_append]
      exact w.set 0 _ rfl
  intro H7 w
  rw [List.length_map, List.take_length] at w
  rw [hgs] at w
  have g7 : LsAt K H7 D4 (gs.map V.int) := LsAt.of (w.ix 0 rfl)
  replace sm := sm.trans w.same
  replace gp := gp.mono w.same
  replace hpl4 := hpl4.mono w.same
  replace hlc := hlc.mono w.same
  replace hle := hle.mono w.same
  replace hr := rows_mono w.same hr
  replace gm := gm.mono w.same
  clear w
  generalize hd : (⟨many, turn, nb, lead, fun k => pickI cells k many, gs⟩ : D14) = d at *
  have d1 : d.many = many := by rw [← hd]
  have d2 : d.nb = nb := by rw [← hd]
  have d3 : d.gs = gs := by rw [← hd]
  have d4 : ∀ k, (d.G k).length ≤ 24 := by rw [← hd]; exact hGl
  have hrl := hr.len
  have hT : d.codeR.length = d.T := by
    have e1 := D14.fnsA_len (d := d) d.L d.many
    have e2 := D14.leadA_len ok0 d.L
    have e3 : d.codeR = (d.leadA d.L ++ d.fnsA d.L d.many).map (·.row) := by rw [List.map_append, D14.leadA_rows, D14.fnsA_rows]; rfl
    rw [e3, List.length_map, List.length_append, e2]
    exact e1
  have hTb := D14.S_bound (d := d) d4 d.many
  have hlead' := ok0.lead
  have hTl : d.T ≤ 500 := by unfold D14.T; omega
  have hT0 : 0 < d.T := by
    have := D14.S_le (d := d) (n := 1) (m := d.many) (by omega)
    have e : d.S 1 = end14 (d.S 0) (d.G (d.kk 0)) + 2 := rfl
    unfold D14.T
    omega
  walk_at "w"
  refine w_lenL (SqL.of hlc) ?_
  rw [hrl, hT]
  walk_at "w"
  refine ⟨D4, le, gs, d.every, d.T, nb, rfl, g7.seq, SqL.of hle, nb0, D14.every_pos ok0, by omega, fun H8 p8 lr lf wsr s8 hp8 hlr hlf hrr => ?_⟩
  replace sm := sm.trans s8
  replace gp := gp.mono s8
  replace hpl4 := hpl4.mono s8
  replace hlc := hlc.mono s8
  replace hr := rows_mono s8 hr
  replace gm := gm.mono s8
  replace hlr : RawAt H8 lr (.lst wsr) := hlr
  replace hlf : RawAt H8 lf (.lst _) := hlf
  clear g7 s8 hle
  refine ⟨p8, _, rfl, SqT.of hp8, rfl, ?_⟩
  change gCons _ _ _ _ H8 _
  refine ⟨_, _, rfl, ?_⟩
  walk_at "w"
  refine ⟨_, _, rfl, ?_⟩
  walk_at "w"
  refine ⟨rfl, ?_⟩
  clear hp8
  walk_at "w"
  have hgr := D14.goalsR_len d.every nb gs
  have hrrl := hrr.len
  refine w_cat hlc hlr (small_sz (by omega)) fun l9 hl9 => ?_
  have s9 := same_lay (o := .lst (wsc ++ wsr)) hl9
  have g9 : RawAt (upd H8 l9 (.lst (wsc ++ wsr))) l9 (.lst (wsc ++ wsr)) := upd_same
  have r9 := rows_mono s9 (All2.app hr hrr)
  replace sm := sm.trans s9
  replace gp := gp.mono s9
  replace hpl4 := hpl4.mono s9
  replace hlc := hlc.mono s9
  replace hr := rows_mono s9 hr
  replace gm := gm.mono s9
  replace hlf := hlf.mono s9
  clear s9 hl9 hlr hrr
  generalize upd H8 l9 _ = H9 at sm gp hpl4 hlc hr gm hlf g9 r9 ⊢
  walk_at "w"
  refine ⟨D3, lc, lf, more, wsc, d.codeR, D14.gpl d.every nb d.T gs, rfl, gm.seq, SqL.of hlc, hr, SqL.of hlf, by rw [gpl_len, gsl], by omega, by omega, by omega, fun H10 l10 uss str s10 h10 hstr hsl hsp => ?_⟩
  replace sm := sm.trans s10
  replace gp := gp.mono s10
  replace hpl4 := hpl4.mono s10
  replace g9 := g9.mono s10
  replace r9 := rows_mono s10 r9
  replace h10 : RawAt H10 l10 (.lst uss) := h10
  clear s10 hlc hr gm hlf
  have hplen : prefs.length = d.many := by
    have := All2.len hpl4
    rw [List.length_map, List.length_range] at this
    exact this
  walk_at "w"
  refine w_refL gp.seq fun D5 hD5 => lc_list (xs := prefs) (fun i H' => Own H10 H' [(D5, .lst ((d.starts.take i).map V.int))]) ((Own.nil (Same.refl H10)).take (o := .lst []) hD5) (fun i H' _ w => w.same.seq gp.seq) ?_ ?_
  · rintro i x H' hx w
    have hi : i < d.many := by
      rw [← hplen]
      rcases Nat.lt_or_ge i prefs.length with z | z
      · exact z
      · rw [List.getElem?_eq_none z] at hx; cases hx
    obtain ⟨a1, z1, z2⟩ := (hpl4.mono w.same).at hi
    have hxa : x = .ref a1 := by
      have : atI prefs ((i : Nat) : Int) = some x := atI_ok (by omega) (by rw [show ((i : Nat) : Int).toNat = i by omega]; exact hx)
      rw [z1] at this
      cases this
      rfl
    subst hxa
    refine ⟨rfl, ?_⟩
    walk_at "w"
    refine w_ixL (v := .int (d.S (d.idx i) : Nat)) (SqL.of z2) (atI_ok (by decide) ?_) ?_
    · show (natsV (d.plK i))[0]? = _
      unfold D14.plK
      cases d.G i <;> rfl
    have hst : d.starts[i]? = some ((d.S (d.idx i) : Nat) : Int) := by
      unfold D14.starts
      rw [List.getElem?_map, List.getElem?_range hi]
      rfl
    refine ⟨_, w.ix 0 rfl, ?_, ?_⟩
    · rw [List.length_map, List.length_take, D14.starts, List.length_map, List.length_range]
      exact lim_lt (by unfold LIM; omega)
    · rw [take_one hst, List.map_append]
      exact w.set 0 _ rfl
  intro H11 w
  have hsl2 : d.starts.length = d.many := by rw [D14.starts, List.length_map, List.length_range]
  rw [hplen, ← hsl2, List.take_length] at w
  have g11 : RawAt H11 D5 (.lst (d.starts.map V.int)) := w.ix 0 rfl
  replace sm := sm.trans w.same
  replace g9 := g9.mono w.same
  replace r9 := rows_mono w.same r9
  replace h10 := h10.mono w.same
  replace hstr := strs_mono w.same hstr
  clear w
  walk_at "w"
  refine fun p12 hp12 => ?_
  have s12 := same_lay (o := .tup [.ref l9, .ref l10, .ref D5, .int (nb : Nat)]) hp12
  refine q _ p12 d str l9 l10 D5 (wsc ++ wsr) uss (sm.trans s12) (by rw [d2]; exact upd_same) (s12 _ _ g9) (by
    have := rows_mono s12 r9
    show All2 _ _ (d.codeR ++ D14.goalsR d.every d.nb d.gs)
    rw [d2, d3]
    exact this) (s12 _ _ h10) (strs_mono s12 hstr) (s12 _ _ g11) ok0 (fun z hz => ?_) d4 (by omega) (by rw [d3]; omega) (by omega) (by omega)
  obtain ⟨y1, y2⟩ := hsp z hz
  rw [hT] at y1
  rw [d2, d3]
  exact ⟨y1, y2⟩
end
end U

namespace U
open PySem PySem.Spec PyProof.Rows L2
/-! readings of the defs -/
def t_l_goal (K : PySem.W.Frag) : TS :=
  (tSeq (tAsg (tLc (iList K (tVar 0)) (gName 3) (tAnd (tTest (tOp rLeI (tOp (rIxT K) (tVar 3) (tC (.int 0))) (tVar 1))) (tTest (tOp rLtI (tVar 1) (tOp (rIxT K) (tVar 3) (tC (.int 1)))))) (tOp (rIxT K) (tVar 3) (tC (.int 2))) [3]) (gName 2))
    (tSeq (tIfS (tTest (tOp (rEqD K) (tVar 2) (tLst tNil))) (tRet (tC .non)) tNext)
    (tRet (tOp (rIxL K) (tVar 2) (tC (.int 0))))))
def n_l_goal : List Str := ["_law_stretches_here", "_law_place", "_law_found", "_law_row"]
def t_l_fault (K : PySem.W.Frag) (sp_l_goal : Sp) : TS :=
  (tSeq (tWhile (tTest (tOp (rNeD K) (tDGet (tVar 0) (tC (.str "frames"))) (tLst tNil))) (tSeq (tAsg (tOp (rIxL K) (tDGet (tVar 0) (tC (.str "frames"))) (tUn (rU fun i => .int (-i)) (tC (.int 1)))) (gName 2))
    (tSeq (tAsg (tCall sp_l_goal [] E0 (tCons (tDGet (tVar 0) (tC (.str "stretches"))) (tCons (tOp (rIxL K) (tVar 2) (tC (.int 0))) tNil))) (gName 3))
    (tSeq (tIfS (tTest (tOp rIsNotNo (tVar 3) (tC .non))) (tSeq (tAsg (tVar 3) (gSub (tVar 2) (tC (.int 0)) rSetL))
    (tSeq (tAsg (tLst (tCons (tVar 1) tNil)) (gSub (tVar 2) (tC (.int 2)) rSetL))
    tRetN)) tNext)
    (tDrop (tBM0 K "list" rPop (tDGet (tVar 0) (tC (.str "frames")))))))))
    (tAsg (tTup (tCons (tC (.str "fault")) (tCons (tVar 1) tNil))) (gSub (tVar 0) (tC (.str "ended")) rSetD)))
def n_l_fault : List Str := ["_law_state", "_law_number_here", "_law_frame", "_law_goal_here"]
def t_l_turn (K : PySem.W.Frag) : TS :=
  (tSeq (tIfS (tTest (tOp rEq (tDGet (tVar 0) (tC (.str "turns"))) (tC (.int 0)))) (tSeq (tAsg (tTup (tCons (tC (.str "tired")) (tCons (tC (.int 0)) tNil))) (gSub (tVar 0) (tC (.str "ended")) rSetD))
    (tRet (tC (.bl false)))) tNext)
    (tSeq (tAsg (tOp rSubI (tDGet (tVar 0) (tC (.str "turns"))) (tC (.int 1))) (gSub (tVar 0) (tC (.str "turns")) rSetD))
    (tRet (tC (.bl true)))))
def n_l_turn : List Str := ["_law_state"]
def t_l_two (K : PySem.W.Frag) (sp_l_fault : Sp) : TS :=
  (tSeq (tAsg (tBM0 K "list" rPop (tOp (rIxL K) (tVar 1) (tC (.int 2)))) (gName 3))
    (tSeq (tAsg (tBM0 K "list" rPop (tOp (rIxL K) (tVar 1) (tC (.int 2)))) (gName 4))
    (tSeq (tIfS (tAnd (tTest (tOp rEq (tVar 2) (tC (.str "share")))) (tTest (tOp rEq (tVar 3) (tC (.int 0))))) (tSeq (tDrop (tCall sp_l_fault [] E0 (tCons (tVar 0) (tCons (tC (.int 101)) tNil))))
    tRetN) tNext)
    (tSeq (tIfS (tTest (tOp rEq (tVar 2) (tC (.str "add")))) (tDrop (tBM K "list" rAppend (tOp (rIxL K) (tVar 1) (tC (.int 2))) (tCons (tOp rAddI (tVar 4) (tVar 3)) tNil))) (tIfS (tTest (tOp rEq (tVar 2) (tC (.str "sub")))) (tDrop (tBM K "list" rAppend (tOp (rIxL K) (tVar 1) (tC (.int 2))) (tCons (tOp rSubI (tVar 4) (tVar 3)) tNil))) (tIfS (tTest (tOp rEq (tVar 2) (tC (.str "less")))) (tDrop (tBM K "list" rAppend (tOp (rIxL K) (tVar 1) (tC (.int 2))) (tCons (tCB rIntB (tCons (tOp rLtI (tVar 4) (tVar 3)) tNil)) tNil))) (tDrop (tBM K "list" rAppend (tOp (rIxL K) (tVar 1) (tC (.int 2))) (tCons (tOp rFd (tVar 4) (tVar 3)) tNil))))))
    (tAsg (tOp rAddI (tOp (rIxL K) (tVar 1) (tC (.int 0))) (tC (.int 1))) (gSub (tVar 1) (tC (.int 0)) rSetL))))))
def n_l_two : List Str := ["_law_state", "_law_frame", "_law_word", "_law_other", "_law_one"]
def t_l_called (K : PySem.W.Frag) (sp_l_turn sp_l_fault : Sp) : TS :=
  (tSeq (tAsg (tBM0 K "list" rPop (tOp (rIxL K) (tVar 1) (tC (.int 2)))) (gName 3))
    (tSeq (tIfS (tNot (tB (tCall sp_l_turn [] E0 (tCons (tVar 0) tNil)))) tRetN tNext)
    (tIfS (tTest (tOp rEq (tCB (rLenQ K) (tCons (tDGet (tVar 0) (tC (.str "frames"))) tNil)) (tC (.int 8)))) (tDrop (tCall sp_l_fault [] E0 (tCons (tVar 0) (tCons (tC (.int 102)) tNil)))) (tDrop (tBM K "list" rAppend (tDGet (tVar 0) (tC (.str "frames"))) (tCons (tLst (tCons (tOp (rIxL K) (tDGet (tVar 0) (tC (.str "starts"))) (tVar 2)) (tCons (tOp rCat (tLst (tCons (tVar 3) tNil)) (tOp rRep (tLst (tCons (tC (.int 0)) tNil)) (tOp rSubI (tDGet (tVar 0) (tC (.str "boxes"))) (tC (.int 1))))) (tCons (tLst tNil) tNil)))) tNil))))))
def n_l_called : List Str := ["_law_state", "_law_frame", "_law_function", "_law_number_here"]
def t_l_given (K : PySem.W.Frag) : TS :=
  (tSeq (tDrop (tBM0 K "list" rPop (tDGet (tVar 0) (tC (.str "frames")))))
    (tIfS (tTest (tOp (rEqD K) (tDGet (tVar 0) (tC (.str "frames"))) (tLst tNil))) (tAsg (tTup (tCons (tC (.str "answer")) (tCons (tVar 1) tNil))) (gSub (tVar 0) (tC (.str "ended")) rSetD)) (tSeq (tAsg (tOp (rIxL K) (tDGet (tVar 0) (tC (.str "frames"))) (tUn (rU fun i => .int (-i)) (tC (.int 1)))) (gName 2))
    (tSeq (tDrop (tBM K "list" rAppend (tOp (rIxL K) (tVar 2) (tC (.int 2))) (tCons (tVar 1) tNil)))
    (tAsg (tOp rAddI (tOp (rIxL K) (tVar 2) (tC (.int 0))) (tC (.int 1))) (gSub (tVar 2) (tC (.int 0)) rSetL))))))
def n_l_given : List Str := ["_law_state", "_law_number_here", "_law_frame"]
def t_l_plain (K : PySem.W.Frag) (sp_l_turn : Sp) : TS :=
  (tSeq (tAsg (tOrV (tOp rEq (tOp (rIxT K) (tVar 2) (tC (.int 0))) (tC (.str "go"))) (tAndV (tOp rEq (tOp (rIxT K) (tVar 2) (tC (.int 0))) (tC (.str "nought"))) (tOp rEq (tBM0 K "list" rPop (tOp (rIxL K) (tVar 1) (tC (.int 2)))) (tC (.int 0))))) (gName 3))
    (tSeq (tIfS (tTest (tOp rEq (tOp (rIxT K) (tVar 2) (tC (.int 0))) (tC (.str "put")))) (tDrop (tBM K "list" rAppend (tOp (rIxL K) (tVar 1) (tC (.int 2))) (tCons (tOp (rIxT K) (tVar 2) (tC (.int 1))) tNil))) (tIfS (tTest (tOp rEq (tOp (rIxT K) (tVar 2) (tC (.int 0))) (tC (.str "get")))) (tDrop (tBM K "list" rAppend (tOp (rIxL K) (tVar 1) (tC (.int 2))) (tCons (tOp (rIxL K) (tOp (rIxL K) (tVar 1) (tC (.int 1))) (tOp (rIxT K) (tVar 2) (tC (.int 1)))) tNil))) (tIfS (tTest (tOp rEq (tOp (rIxT K) (tVar 2) (tC (.int 0))) (tC (.str "set")))) (tAsg (tBM0 K "list" rPop (tOp (rIxL K) (tVar 1) (tC (.int 2)))) (gSub (tOp (rIxL K) (tVar 1) (tC (.int 1))) (tOp (rIxT K) (tVar 2) (tC (.int 1))) rSetL)) (tIfS (tTest (tOp rEq (tOp (rIxT K) (tVar 2) (tC (.int 0))) (tC (.str "say")))) (tDrop (tBM K "list" rAppend (tDGet (tVar 0) (tC (.str "said"))) (tCons (tBM0 K "list" rPop (tOp (rIxL K) (tVar 1) (tC (.int 2)))) tNil))) (tIfS (tAnd (tTest (tOp rEq (tOp (rIxT K) (tVar 2) (tC (.int 0))) (tC (.str "turn")))) (tNot (tB (tCall sp_l_turn [] E0 (tCons (tVar 0) tNil))))) tRetN tNext)))))
    (tAsg (tIf (tB (tVar 3)) (tOp (rIxT K) (tVar 2) (tC (.int 1))) (tOp rAddI (tOp (rIxL K) (tVar 1) (tC (.int 0))) (tC (.int 1)))) (gSub (tVar 1) (tC (.int 0)) rSetL))))
def n_l_plain : List Str := ["_law_state", "_law_frame", "_law_row", "_law_goes"]
def t_l_step (K : PySem.W.Frag) (sp_l_two sp_l_called sp_l_given sp_l_fault sp_l_plain : Sp) : TS :=
  (tSeq (tAsg (tOp (rIxL K) (tDGet (tVar 0) (tC (.str "frames"))) (tUn (rU fun i => .int (-i)) (tC (.int 1)))) (gName 1))
    (tSeq (tAsg (tOp (rIxL K) (tDGet (tVar 0) (tC (.str "code"))) (tOp (rIxL K) (tVar 1) (tC (.int 0)))) (gName 2))
    (tIfS (tTest (tOp (rIn K false) (tOp (rIxT K) (tVar 2) (tC (.int 0))) (tTup (tCons (tC (.str "add")) (tCons (tC (.str "sub")) (tCons (tC (.str "less")) (tCons (tC (.str "share")) tNil))))))) (tDrop (tCall sp_l_two [] E0 (tCons (tVar 0) (tCons (tVar 1) (tCons (tOp (rIxT K) (tVar 2) (tC (.int 0))) tNil))))) (tIfS (tTest (tOp rEq (tOp (rIxT K) (tVar 2) (tC (.int 0))) (tC (.str "call")))) (tDrop (tCall sp_l_called [] E0 (tCons (tVar 0) (tCons (tVar 1) (tCons (tOp (rIxT K) (tVar 2) (tC (.int 1))) tNil))))) (tIfS (tTest (tOp rEq (tOp (rIxT K) (tVar 2) (tC (.int 0))) (tC (.str "back")))) (tDrop (tCall sp_l_given [] E0 (tCons (tVar 0) (tCons (tBM0 K "list" rPop (tOp (rIxL K) (tVar 1) (tC (.int 2)))) tNil)))) (tIfS (tTest (tOp rEq (tOp (rIxT K) (tVar 2) (tC (.int 0))) (tC (.str "raise")))) (tDrop (tCall sp_l_fault [] E0 (tCons (tVar 0) (tCons (tBM0 K "list" rPop (tOp (rIxL K) (tVar 1) (tC (.int 2)))) tNil)))) (tIfS (tTest (tOp rEq (tOp (rIxT K) (tVar 2) (tC (.int 0))) (tC (.str "on")))) (tAsg (tOp (rIxL K) (tOp (rIxL K) (tVar 1) (tC (.int 1))) (tOp (rIxT K) (tVar 2) (tC (.int 1)))) (gSub (tVar 1) (tC (.int 0)) rSetL)) (tDrop (tCall sp_l_plain [] E0 (tCons (tVar 0) (tCons (tVar 1) (tCons (tVar 2) tNil))))))))))))
def n_l_step : List Str := ["_law_state", "_law_frame", "_law_row"]
def t_l_gone (K : PySem.W.Frag) (sp_l_step : Sp) : TS :=
  (tSeq (tAsg (tDisp [((tC (.str "code")), (tOp (rIxT K) (tVar 0) (tC (.int 0)))), ((tC (.str "stretches")), (tOp (rIxT K) (tVar 0) (tC (.int 1)))), ((tC (.str "starts")), (tOp (rIxT K) (tVar 0) (tC (.int 2)))), ((tC (.str "boxes")), (tOp (rIxT K) (tVar 0) (tC (.int 3)))), ((tC (.str "turns")), (tVar 2))]) (gName 3))
    (tSeq (tAsg (tLst tNil) (gSub (tVar 3) (tC (.str "said")) rSetD))
    (tSeq (tAsg (tC .non) (gSub (tVar 3) (tC (.str "ended")) rSetD))
    (tSeq (tAsg (tLst (tCons (tLst (tCons (tOp (rIxL K) (tOp (rIxT K) (tVar 0) (tC (.int 2))) (tC (.int 0))) (tCons (tOp rCat (tLst (tCons (tVar 1) tNil)) (tOp rRep (tLst (tCons (tC (.int 0)) tNil)) (tOp rSubI (tOp (rIxT K) (tVar 0) (tC (.int 3))) (tC (.int 1))))) (tCons (tLst tNil) tNil)))) tNil)) (gSub (tVar 3) (tC (.str "frames")) rSetD))
    (tSeq (tWhile (tTest (tOp rIsNo (tDGet (tVar 3) (tC (.str "ended"))) (tC .non))) (tDrop (tCall sp_l_step [] E0 (tCons (tVar 3) tNil))))
    (tRet (tTup (tCons (tDGet (tVar 3) (tC (.str "said"))) (tCons (tOp (rIxT K) (tDGet (tVar 3) (tC (.str "ended"))) (tC (.int 0))) (tCons (tOp (rIxT K) (tDGet (tVar 3) (tC (.str "ended"))) (tC (.int 1))) tNil))))))))))
def n_l_gone : List Str := ["_law_parts", "_law_given_here", "_law_turns", "_law_state"]
end U

set_option maxHeartbeats 4000000
namespace U
open PySem PySem.Spec PyProof.Rows L2 Un
theorem w_ixO {K : PySem.W.Frag} {H : Hp} {Q : VK} {p : Addr} {xs : List V} {i : Int} {v : V} (h : H p = some (.lst xs)) (ha : atI xs i = some v) (q : Q v H) : rIxL K (.ref p) (.int i) H Q := w_ixL (SqL.of h) ha q
theorem w_neg {H : Hp} {Q : VK} {i : Int} (q : Q (.int (-i)) H) : rU (fun i => .int (-i)) (.int i) H Q := ⟨i, rfl, q⟩
local macro_rules | `(tactic| walk_at "w1") => `(tactic| first
  | with_reducible refine w_tDGet ?_
  | ((with_reducible refine' w_dget ?h1 ?h2 ?_); (case h1 => assumption); (case h2 => rfl))
  | with_reducible refine w_neg ?_
  | ((with_reducible refine' w_ixT ?h1 ?h2 ?_); (case h1 => assumption); (case h2 => rfl))
  | ((with_reducible refine' w_ixO ?h1 ?h2 ?_); (case h1 => assumption); (case h2 => rfl)))
local macro_rules | `(tactic| walk_at "w1") => `(tactic| first
  | with_reducible refine w_seq ?_
  | with_reducible refine w_asg ?_
  | with_reducible refine w_op ?_
  | ((with_reducible refine' w_var ?h1 ?_); (case h1 => rfl))
  | with_reducible refine w_c ?_
  | with_reducible refine w_name ?_
  | with_reducible refine w_tFd ?_
  | ((with_reducible refine' w_fld ?h1 ?h2 ?_); (case h1 => assumption); (case h2 => rfl))
  | with_reducible refine w_if ?_
  | with_reducible refine w_test ?_
  | with_reducible refine w_eqS ?_
  | with_reducible refine w_eqI ?_
  | with_reducible refine w_neS ?_
  | with_reducible refine w_neI ?_
  | with_reducible refine w_isN ?_
  | with_reducible refine w_isnN ?_
  | with_reducible refine w_bl ?_
  | with_reducible refine w_ret ?_
  | with_reducible refine w_drop ?_
  | with_reducible refine w_next ?_
  | with_reducible refine w_cons ?_
  | with_reducible refine w_nil ?_
  | with_reducible refine w_call ?_
  | with_reducible refine w_cb ?_
  | with_reducible refine w_meth ?_
  | ((with_reducible refine' w_recv ?h1 ?h2 ?_); (case h1 => assumption); (case h2 => rfl))
  | with_reducible refine w_sFd ?_
  | ((with_reducible refine' w_put ?h1 ?h2 ?_); (case h1 => assumption); (case h2 => exact Nat.le_of_ble_eq_true rfl))
  | with_reducible refine w_add ?_
  | with_reducible refine w_sub ?_
  | with_reducible refine w_lt ?_
  | with_reducible refine w_le ?_
  | with_reducible refine w_gt ?_
  | with_reducible refine w_ge ?_
  | with_reducible refine w_bm ?_
  | with_reducible refine w_bm0 ?_
  | ((with_reducible refine' w_ty ?h1 ?_); (case h1 => assumption))
  | with_reducible refine w_tup ?_
  | with_reducible refine w_lst ?_
  | ((with_reducible refine' w_new ?h1 ?_); (case h1 => exact Nat.le_of_ble_eq_true rfl))
  | with_reducible refine w_gsub ?_
  | with_reducible refine w_make ?_
  | with_reducible refine w_lc ?_
  | with_reducible refine w_iList ?_
  | with_reducible refine w_for ?_
  | with_reducible refine w_yes ?_
  | with_reducible refine w_tSl ?_
  | with_reducible refine w_part ?_
  | with_reducible refine w_nopart ?_
  | with_reducible refine w_i ?_
  | with_reducible refine w_rng1 ?_
  | with_reducible refine w_rng2 ?_
  | with_reducible refine w_isiII ?_
  | with_reducible refine w_isiIB ?_
  | with_reducible refine w_isiSS ?_
  | ((with_reducible refine w_mod ?h1 ?_); (case h1 => decide))
  | ((with_reducible refine w_fdC' ?h1 ?h2 ?_); (case h1 => decide); (case h2 => decide))
  | ((with_reducible refine w_mulR ?h1 ?h2 ?_); (case h1 => decide); (case h2 => decide))
  | ((with_reducible refine w_mulL ?h1 ?h2 ?_); (case h1 => decide); (case h2 => decide))
  | ((with_reducible refine w_pow' ?h1 ?h2 ?h3 ?_); (case h1 => decide); (case h2 => decide); (case h3 => decide))
  | with_reducible refine w_andV ?_
  | with_reducible refine w_orV ?_
  | with_reducible refine w_notV ?_
  | with_reducible refine w_B ?_
  | with_reducible refine w_not ?_
  | with_reducible refine w_and ?_
  | with_reducible refine w_or ?_
  | with_reducible refine w_ifx ?_
  | with_reducible refine w_un ?_
  | ((with_reducible refine w_T ?h1 ?_); (case h1 => with_reducible rfl))
  | ((with_reducible refine w_F ?h1 ?_); (case h1 => with_reducible rfl))
  | ((with_reducible refine w_T ?h1 ?_); (case h1 => decide +kernel))
  | ((with_reducible refine w_F ?h1 ?_); (case h1 => decide +kernel)))
local macro_rules | `(tactic| walk_at "w") => `(tactic| repeat walk_at "w1")

/-! ### the law's own machine: a dict; its frames are lists -/
def gK (c st sr : Addr) (nb t : Int) (s : Addr) (e : V) (l : Addr) : List (Key × V) :=
  [(.inr "code", .ref c), (.inr "stretches", .ref st), (.inr "starts", .ref sr), (.inr "boxes", .int nb), (.inr "turns", .int t), (.inr "said", .ref s), (.inr "ended", e), (.inr "frames", .ref l)]
abbrev frL (p : Int) (b q : Addr) : HO := .lst [.int p, .ref b, .ref q]
def grCells : List FA → List Fr → List Cell
  | x :: xs, f :: fs => (x.a, frL f.place x.b x.q) :: (x.b, .lst (f.boxes.map V.int)) :: (x.q, .lst (pileV f.pile)) :: grCells xs fs
  | _, _ => []
def gcCells (w : Wh) (nb : Int) (d : Ad) (e : V) (M : Mc) : List Cell :=
  (w.m, .dK (gK w.c w.st w.sr nb M.turns d.s e d.l)) :: (d.l, .lst (refsV d.fas)) :: (d.s, .lst (M.said.map V.int)) :: grCells d.fas M.frames
structure GAt (H0 H : Hp) (w : Wh) (nb : Int) (M : Mc) (d : Ad) (e : V) : Prop where
  own : Own H0 H (gcCells w nb d e M)
  len : d.fas.length = M.frames.length
  endd : EndAt H e M.ended
def GIn (H0 H : Hp) (w : Wh) (nb : Int) (M : Mc) : Prop := ∃ d e, GAt H0 H w nb M d e
theorem GAt.noend {H0 H : Hp} {wh : Wh} {nb : Int} {M : Mc} {d : Ad} (w : GAt H0 H wh nb M d .non) : M.ended = none := by
  have q := w.endd
  cases e : M.ended with
  | none => rfl
  | some z =>
    rw [e] at q
    obtain ⟨t, h1, _⟩ := q
    cases h1
theorem GAt.laid {H0 H : Hp} {wh : Wh} {nb : Int} {M : Mc} {d : Ad} {p : Addr} {o : HO} (w : GAt H0 H wh nb M d .non) (h : H p = none) : GAt H0 (upd H p o) wh nb M d .non := by
  refine ⟨w.own.lay h, w.len, ?_⟩
  rw [w.noend]
  exact rfl
theorem GAt.kept {H0 H H' : Hp} {wh : Wh} {nb : Int} {M : Mc} {d : Ad} (w : GAt H0 H wh nb M d .non) (s : Same H H') : GAt H0 H' wh nb M d .non := by
  refine ⟨w.own.kept s, w.len, ?_⟩
  rw [w.noend]
  exact rfl

/-! ### is the list of frames empty? -/
theorem pileV_map : ∀ p : List Int, pileV p = p.reverse.map V.int
  | [] => rfl
  | n :: p => by simp [pileV, pileV_map p]
def frD (f : Fr) : PyData := .list [.int f.place, .list (f.boxes.map PyData.int), .list (f.pile.reverse.map PyData.int)]
def frsD : List Fr → List PyData
  | [] => []
  | f :: fs => frsD fs ++ [frD f]
theorem dpAll_snoc {K : PySem.W.Frag} {H : Hp} {v : V} {d : PyData} (h : Dp K H v d) : ∀ {vs : List V} {ds : List PyData}, DpAll K H vs ds → DpAll K H (vs ++ [v]) (ds ++ [d])
  | _, _, .nil => .cons h .nil
  | _, _, .cons a b => .cons a (dpAll_snoc h b)
theorem dp_frs {K : PySem.W.Frag} {H : Hp} : ∀ (fas : List FA) (fs : List Fr), fas.length = fs.length → (∀ a o, (a, o) ∈ grCells fas fs → H a = some o) → DpAll K H (refsV fas) (frsD fs)
  | [], [], _, _ => .nil
  | [], _ :: _, h, _ => absurd h (by simp)
  | _ :: _, [], h, _ => absurd h (by simp)
  | x :: xs, f :: fs, hl, h => by
    refine dpAll_snoc ?_ (dp_frs xs fs (by simpa using hl) fun a o q => h a o (by simp [grCells, q]))
    have h1 := h x.a _ (by simp [grCells]; exact .inl rfl)
    have h2 := h x.b _ (by simp [grCells]; exact .inr (.inl rfl))
    have h3 := h x.q _ (by simp [grCells]; exact .inr (.inr (.inl rfl)))
    rw [pileV_map] at h3
    exact .lst (SqL.of h1) (.cons (.int _) (.cons (.lst (SqL.of h2) (dp_ints _)) (.cons (.lst (SqL.of h3) (dp_ints _)) .nil)))
theorem lay_frs : ∀ fs : List Fr, PyData.canLayAll0 (frsD fs) = true ∧ PyData.depthAll (frsD fs) ≤ 3
  | [] => ⟨rfl, by decide⟩
  | f :: fs => by
    have ih := lay_frs fs
    have ap : ∀ (xs : List PyData) (d : PyData), PyData.canLayAll0 xs = true → d.canLay0 = true → PyData.canLayAll0 (xs ++ [d]) = true := by
      intro xs d h1 h2
      induction xs with
      | nil => simp [PyData.canLayAll0, h2]
      | cons x xs ih => simp [PyData.canLayAll0] at h1 ⊢; exact ⟨h1.1, ih h1.2⟩
    have dp : ∀ (xs : List PyData) (d : PyData), PyData.depthAll xs ≤ 3 → d.depth ≤ 3 → PyData.depthAll (xs ++ [d]) ≤ 3 := by
      intro xs d h1 h2
      induction xs with
      | nil => simp [PyData.depthAll]; exact h2
      | cons x xs ih =>
        simp only [PyData.depthAll, List.cons_append] at h1 ⊢
        have := ih (by omega)
        omega
    have l1 := lay_ints f.boxes
    have l2 := lay_ints f.pile.reverse
    exact ⟨ap _ _ ih.1 (by simp only [frD, PyData.canLay0, PyData.canLayAll0, l1.1, l2.1]; rfl), dp _ _ ih.2 (by simp only [frD, PyData.depth, PyData.depthAll, l1.2, l2.2]; decide)⟩
theorem shaped_frs (fs : List Fr) : SeqAt.shaped (.list (frsD fs)) = true := by
  have h := lay_frs fs
  exact shaped_of (by simp [PyData.canLay0, h.1]) (by simp only [PyData.depth]; omega)
theorem eqv_nil (xs : List PyData) : PyData.eqv (.list xs) (.list []) = xs.isEmpty := by
  cases xs <;> simp [PyData.eqv, PyData.eqvAll]
theorem frsD_emp (fs : List Fr) : (frsD fs).isEmpty = fs.isEmpty := by
  cases fs <;> simp [frsD]
theorem shaped_nil : SeqAt.shaped (.list []) = true := by decide +kernel
theorem GAt.ne {K : PySem.W.Frag} {H0 H : Hp} {wh : Wh} {nb : Int} {M : Mc} {d : Ad} {p : Addr} {Q : VK} (w : GAt H0 H wh nb M d .non) (hp : H p = some (.lst [])) (q : Q (.bl (!M.frames.isEmpty)) H) : rNeD K (.ref d.l) (.ref p) H Q := by
  refine w_neD (.lst (SqL.of (w.own.ix 1 rfl)) (dp_frs _ _ w.len fun a o h => w.own.get (List.mem_cons_of_mem _ (List.mem_cons_of_mem _ (List.mem_cons_of_mem _ h))))) (.lst (SqL.of hp) .nil) (shaped_frs _) shaped_nil ?_
  rw [eqv_nil, frsD_emp]
  exact q
theorem GAt.eq {K : PySem.W.Frag} {H0 H : Hp} {wh : Wh} {nb : Int} {M : Mc} {d : Ad} {p : Addr} {Q : VK} (w : GAt H0 H wh nb M d .non) (hp : H p = some (.lst [])) (q : Q (.bl M.frames.isEmpty) H) : rEqD K (.ref d.l) (.ref p) H Q := by
  refine w_eqD (.lst (SqL.of (w.own.ix 1 rfl)) (dp_frs _ _ w.len fun a o h => w.own.get (List.mem_cons_of_mem _ (List.mem_cons_of_mem _ (List.mem_cons_of_mem _ h))))) (.lst (SqL.of hp) .nil) (shaped_frs _) shaped_nil ?_
  rw [eqv_nil, frsD_emp]
  exact q
theorem atI_neg {α : Type} {xs : List α} {v : α} : atI (xs ++ [v]) (-1) = some v := by
  unfold atI ixN
  rw [if_neg (by decide), if_pos (by simp; omega)]
  simp
  rw [show (-1 + ((xs.length : Int) + 1)).toNat = xs.length by omega]
  simp
theorem refs_neg {x : FA} {xs : List FA} : atI (refsV (x :: xs)) (-1) = some (.ref x.a) := atI_neg

/-! ### _law_goal -/
def goalsIn : List Stretch → Int → List Int
  | [], _ => []
  | s :: r, p => if s.1 ≤ p ∧ p < s.2.1 then s.2.2 :: goalsIn r p else goalsIn r p
theorem goalOf_in (p : Int) : ∀ S : List Stretch, goalOf S p = (goalsIn S p).head?
  | [] => rfl
  | s :: r => by
    unfold goalOf goalsIn
    split
    · rfl
    · exact goalOf_in p r
theorem goalsIn_app (p : Int) (T : List Stretch) : ∀ S : List Stretch, goalsIn (S ++ T) p = goalsIn S p ++ goalsIn T p
  | [] => rfl
  | s :: r => by
    simp only [List.cons_append, goalsIn]
    split <;> simp [goalsIn_app p T r]
theorem goalsIn_len (p : Int) : ∀ S : List Stretch, (goalsIn S p).length ≤ S.length
  | [] => Nat.le_refl _
  | s :: r => by
    have := goalsIn_len p r
    unfold goalsIn
    split <;> simp <;> omega
theorem goalsIn_take {S : List Stretch} {p : Int} {i : Nat} {s : Stretch} (h : S.drop i = s :: S.drop (i + 1)) : goalsIn (S.take (i + 1)) p = goalsIn (S.take i) p ++ goalsIn [s] p := by
  have e : S[i]? = some s := by
    have q : (S.drop i)[0]? = some s := by rw [h]; rfl
    rwa [List.getElem?_drop] at q
  rw [List.take_succ, e, goalsIn_app]
  rfl
def sp_l_goal (K : PySem.W.Frag) : Sp := fun vs H Q _ => ∃ a ss S p, vs = [.ref a, .int p] ∧ SqL K H a ss ∧ All2 (IsStr K H) ss S ∧ S.length < LIM ∧ ∀ H', Same H H' → Q (goalV (goalOf S p)) H'
theorem p_l_goal {K : PySem.W.Frag} (vs : List V) (H : Hp) (Q : VK) (E : XK) (h : sp_l_goal K vs H Q E) : t_l_goal K { nx := fun _ H' => Q .non H', rt := Q } (L2.start n_l_goal vs) H := by
  obtain ⟨a, ss, S, p, rfl, hS, hR, hL, q⟩ := h
  have hlen := hR.len
  unfold t_l_goal
  walk_at "w"
  refine w_refL hS fun D hD => lc_list (xs := ss) (fun i H' => i ≤ ss.length ∧ H' = upd H D (.lst ((goalsIn (S.take i) p).map V.int))) ⟨Nat.zero_le _, rfl⟩ (fun i H' _ e => e.2 ▸ (same_lay hD).seq hS) ?_ ?_
  · rintro i x H' hx ⟨hi, rfl⟩
    have hi2 : i < ss.length := by
      rcases Nat.lt_or_ge i ss.length with h | h
      · exact h
      · rw [List.getElem?_eq_none h] at hx; cases hx
    obtain ⟨s, ⟨b, rfl, hb⟩, hd⟩ := hR.drop i hx
    replace hb := same_tup (same_lay (o := .lst ((goalsIn (S.take i) p).map V.int)) hD) hb
    have hn := goalsIn_take (p := p) hd
    have no : ¬ (s.1 ≤ p ∧ p < s.2.1) → goalsIn (S.take (i + 1)) p = goalsIn (S.take i) p := fun c => by
      rw [hn, goalsIn, if_neg c, goalsIn, List.append_nil]
    refine ⟨rfl, ?_⟩
    walk_at "w"
    refine w_D (fun c1 => ?_) (fun c1 => ?_)
    · walk_at "w"
      refine w_D (fun c2 => ?_) (fun c2 => ?_)
      · walk_at "w"
        refine ⟨_, upd_same, ?_, hi2, ?_⟩
        · rw [List.length_map]
          refine lim_lt (Nat.lt_of_le_of_lt (goalsIn_len _ _) ?_)
          rw [List.length_take]
          omega
        · rw [upd_upd, hn, goalsIn, if_pos ⟨c1, c2⟩, goalsIn, List.map_append]
          rfl
      · refine ⟨hi2, ?_⟩
        rw [no (fun z => c2 z.2)]
    · refine ⟨hi2, ?_⟩
      rw [no (fun z => c1 z.1)]
  · rintro H' ⟨_, rfl⟩
    rw [hlen, List.take_length]
    rw [goalOf_in] at q
    generalize goalsIn S p = gs at q ⊢
    have s1 := same_lay (o := .lst (gs.map V.int)) hD
    have hf : upd H D (.lst (gs.map V.int)) D = some (.lst (gs.map V.int)) := upd_same
    generalize upd H D (.lst (gs.map V.int)) = H1 at s1 hf ⊢
    walk_at "w"
    refine fun e he => ?_
    have s2 := same_lay (o := .lst []) he
    have he' : upd H1 e (.lst []) e = some (.lst []) := upd_same
    replace hf := s2 _ _ hf
    have s3 := s1.trans s2
    generalize upd H1 e (.lst []) = H1 at s3 hf he' ⊢
    refine w_eqD (.lst (SqL.of hf) (dp_ints gs)) (.lst (SqL.of he') .nil) (shaped_ints gs) shaped_nil ?_
    rw [eqv_nil]
    cases gs with
    | nil =>
      walk_at "w"
      exact q _ s3
    | cons g gs =>
      refine ⟨_, rfl, ?_⟩
      refine w_F rfl ?_
      walk_at "w"
      refine w_ixO (v := .int g) hf (atI_ok (by decide) rfl) ?_
      exact q _ s3

/-! ### _law_turn -/
def sp_l_turn (K : PySem.W.Frag) : Sp := fun vs H Q _ => ∃ H0 wh nb M d, vs = [.ref wh.m] ∧ Own H0 H (gcCells wh nb d .non M) ∧
  (M.turns = 0 → ∀ H' t, Own H0 H' (gcCells wh nb d (.ref t) M) → H' t = some (.tup [.str "tired", .int 0]) → Q (.bl false) H') ∧
  (M.turns ≠ 0 → ∀ H', Own H0 H' (gcCells wh nb d .non { M with turns := M.turns - 1 }) → Q (.bl true) H')
theorem p_l_turn {K : PySem.W.Frag} (vs : List V) (H : Hp) (Q : VK) (E : XK) (h : sp_l_turn K vs H Q E) : t_l_turn K { nx := fun _ H' => Q .non H', rt := Q } (L2.start n_l_turn vs) H := by
  obtain ⟨H0, wh, nb, M, d, rfl, w, k0, k1⟩ := h
  have hm := w.ix 0 rfl
  unfold t_l_turn
  walk_at "w"
  refine w_D (fun c => ?_) (fun c => ?_)
  · walk_at "w"
    refine fun t ht => ?_
    have w1 := w.lay (o := .tup [.str "tired", .int 0]) ht
    have hm1 := w1.ix 0 rfl
    walk_at "w"
    refine w_dset hm1 (Nat.le_of_ble_eq_true rfl) ?_
    walk_at "w"
    refine k0 (by omega) _ t (w1.set 0 (.dK (gK wh.c wh.st wh.sr nb M.turns d.s (.ref t) d.l)) rfl) ?_
    rw [upd_ne (ne_of_none hm ht).symm, upd_same]
  · walk_at "w"
    refine w_dset hm (Nat.le_of_ble_eq_true rfl) ?_
    walk_at "w"
    refine k1 (by omega) _ ?_
    have e : ((M.turns : Nat) : Int) - 1 = ((M.turns - 1 : Nat) : Int) := by omega
    rw [e]
    exact w.set 0 (.dK (gK wh.c wh.st wh.sr nb ((M.turns - 1 : Nat) : Int) d.s .non d.l)) rfl

/-! ### _law_fault -/
def sp_l_fault (K : PySem.W.Frag) : Sp := fun vs H Q _ => ∃ H0 wh P M d n, vs = [.ref wh.m, .int n] ∧ GAt H0 H wh P.boxes M d .non ∧ PartsIn K H0 wh.c wh.st wh.sr P ∧ P.str.length < LIM ∧
  ∀ H', GIn H0 H' wh P.boxes (M.fault P n) → Q .non H'
theorem p_l_fault {K : PySem.W.Frag} (vs : List V) (H : Hp) (Q : VK) (E : XK) (h : sp_l_fault K vs H Q E) : t_l_fault K (sp_l_goal K) { nx := fun _ H' => Q .non H', rt := Q } (L2.start n_l_fault vs) H := by
  obtain ⟨H0, wh, P, M, d, n, rfl, w, pt, hL, k⟩ := h
  have he : M.ended = none := w.noend
  unfold t_l_fault
  refine w_seq ⟨fun m σ H1 => ∃ fs d1 x2 x3, m = fs.length ∧ σ = [some (.ref wh.m), some (.int n), x2, x3] ∧ faultF P.str n fs = faultF P.str n M.frames ∧ GAt H0 H1 wh P.boxes { M with frames := fs } d1 .non,
    ⟨_, M.frames, d, _, _, rfl, rfl, rfl, w⟩, ?_⟩
  rintro m σ H1 ⟨fs, d1, x2, x3, rfl, rfl, hf, w1⟩
  have hm := w1.own.ix 0 rfl
  walk_at "w"
  refine fun p hp => ?_
  replace w1 := w1.laid (o := .lst []) hp
  have hp' : upd H1 p (.lst []) p = some (.lst []) := upd_same
  clear hm hp
  generalize upd H1 p (.lst []) = H1 at w1 hp' ⊢
  refine w1.ne hp' ?_
  obtain ⟨dx, l, s, fas⟩ := d1
  cases fs with
  | cons f r =>
    cases fas with
    | nil => exact absurd w1.len (by simp)
    | cons x xs =>
    walk_at "w"
    refine ⟨_, fun _ _ z => z, ?_⟩
    have hm := w1.own.ix 0 rfl
    have hl := w1.own.ix 1 rfl
    have ha := w1.own.ix 3 rfl
    walk_at "w"
    refine w_ixO hl refs_neg ?_
    walk_at "w"
    obtain ⟨ss, s1, s2⟩ := pt.str
    refine ⟨wh.st, ss, P.str, f.place, rfl, w1.own.same.seq s1, s2.mono fun _ _ q => q.mono w1.own.same, hL, fun H2 sm => ?_⟩
    replace w1 := w1.kept sm
    clear hm hl ha sm hp'
    have hm := w1.own.ix 0 rfl
    have hl := w1.own.ix 1 rfl
    have ha := w1.own.ix 3 rfl
    walk_at "w"
    cases hg : goalOf P.str f.place with
    | some g =>
      refine w_T rfl ?_
      walk_at "w"
      refine w_setL ha (by decide) (by show (0 : Int) < 3; decide) ?_
      have w2 := w1.own.set 3 (frL g x.b x.q) rfl
      walk_at "w"
      refine fun q hq => ?_
      have w3 := w2.take (o := .lst [.int n]) hq
      have ha3 := w3.ix 4 rfl
      walk_at "w"
      refine w_setL ha3 (by decide) (by show (2 : Int) < 3; decide) ?_
      have w4 := w3.set 4 (frL g x.b q) rfl
      walk_at "w"
      refine k _ ⟨⟨dx, l, s, ⟨x.a, x.dx, x.b, q⟩ :: xs⟩, .non, ?_⟩
      have ef : M.fault P n = { M with frames := ⟨g, f.boxes, [n]⟩ :: r } := by
        unfold Mc.fault
        rw [← hf]
        simp only [faultF, hg]
      rw [ef]
      refine ⟨?_, w1.len, ?_⟩
      · exact w4.repl 5 (by simp [gcCells, grCells])
      · show EndAt _ V.non M.ended
        rw [he]
        exact rfl
    | none =>
      refine w_F rfl ?_
      walk_at "w"
      refine w_popB hl ?_
      have w2 : Own H0 _ (gcCells wh P.boxes ⟨dx, l, s, xs⟩ .non { M with frames := r }) := ((((w1.own.set 1 (.lst (refsV xs)) rfl).del 3).del 3).del 3)
      refine ⟨r.length, by simp, r, ⟨dx, l, s, xs⟩, _, _, rfl, rfl, ?_, w2, by simpa using w1.len, ?_⟩
      · rw [← hf]
        simp only [faultF, hg]
      · show EndAt _ V.non M.ended
        rw [he]
        exact rfl
  | nil =>
    refine ⟨_, rfl, ?_⟩
    refine w_F rfl ?_
    have hm := w1.own.ix 0 rfl
    walk_at "w"
    refine fun t ht => ?_
    have w2 := w1.own.lay (o := .tup [.str "fault", .int n]) ht
    have hm1 := w1.own.ix 0 rfl
    have hm2 := w2.ix 0 rfl
    walk_at "w"
    refine w_dset hm2 (Nat.le_of_ble_eq_true rfl) ?_
    walk_at "w"
    have ef : M.fault P n = { M with frames := [], ended := some (.fault, n) } := by
      unfold Mc.fault
      rw [← hf]
      simp only [faultF]
    refine k _ ⟨⟨dx, l, s, fas⟩, .ref t, ?_⟩
    rw [ef]
    refine ⟨w2.set 0 (.dK (gK wh.c wh.st wh.sr P.boxes M.turns s (.ref t) l)) rfl, w1.len, t, rfl, ?_⟩
    rw [upd_ne (ne_of_none hm1 ht).symm, upd_same]
    rfl
end U

set_option maxHeartbeats 4000000
namespace U
open PySem PySem.Spec PyProof.Rows L2 Un
local macro_rules | `(tactic| walk_at "w1") => `(tactic| first
  | with_reducible refine w_tDGet ?_
  | ((with_reducible refine' w_dget ?h1 ?h2 ?_); (case h1 => assumption); (case h2 => rfl))
  | with_reducible refine w_neg ?_
  | ((with_reducible refine' w_ixT ?h1 ?h2 ?_); (case h1 => assumption); (case h2 => rfl))
  | ((with_reducible refine' w_ixO ?h1 ?h2 ?_); (case h1 => assumption); (case h2 => rfl)))
local macro_rules | `(tactic| walk_at "w1") => `(tactic| first
  | with_reducible refine w_seq ?_
  | with_reducible refine w_asg ?_
  | with_reducible refine w_op ?_
  | ((with_reducible refine' w_var ?h1 ?_); (case h1 => rfl))
  | with_reducible refine w_c ?_
  | with_reducible refine w_name ?_
  | with_reducible refine w_tFd ?_
  | ((with_reducible refine' w_fld ?h1 ?h2 ?_); (case h1 => assumption); (case h2 => rfl))
  | with_reducible refine w_if ?_
  | with_reducible refine w_test ?_
  | with_reducible refine w_eqS ?_
  | with_reducible refine w_eqI ?_
  | with_reducible refine w_neS ?_
  | with_reducible refine w_neI ?_
  | with_reducible refine w_isN ?_
  | with_reducible refine w_isnN ?_
  | with_reducible refine w_bl ?_
  | with_reducible refine w_ret ?_
  | with_reducible refine w_drop ?_
  | with_reducible refine w_next ?_
  | with_reducible refine w_cons ?_
  | with_reducible refine w_nil ?_
  | with_reducible refine w_call ?_
  | with_reducible refine w_cb ?_
  | with_reducible refine w_meth ?_
  | ((with_reducible refine' w_recv ?h1 ?h2 ?_); (case h1 => assumption); (case h2 => rfl))
  | with_reducible refine w_sFd ?_
  | ((with_reducible refine' w_put ?h1 ?h2 ?_); (case h1 => assumption); (case h2 => exact Nat.le_of_ble_eq_true rfl))
  | with_reducible refine w_add ?_
  | with_reducible refine w_sub ?_
  | with_reducible refine w_lt ?_
  | with_reducible refine w_le ?_
  | with_reducible refine w_gt ?_
  | with_reducible refine w_ge ?_
  | with_reducible refine w_bm ?_
  | with_reducible refine w_bm0 ?_
  | ((with_reducible refine' w_ty ?h1 ?_); (case h1 => assumption))
  | with_reducible refine w_tup ?_
  | with_reducible refine w_lst ?_
  | ((with_reducible refine' w_new ?h1 ?_); (case h1 => exact Nat.le_of_ble_eq_true rfl))
  | with_reducible refine w_gsub ?_
  | with_reducible refine w_make ?_
  | with_reducible refine w_lc ?_
  | with_reducible refine w_iList ?_
  | with_reducible refine w_for ?_
  | with_reducible refine w_yes ?_
  | with_reducible refine w_tSl ?_
  | with_reducible refine w_part ?_
  | with_reducible refine w_nopart ?_
  | with_reducible refine w_i ?_
  | with_reducible refine w_rng1 ?_
  | with_reducible refine w_rng2 ?_
  | with_reducible refine w_isiII ?_
  | with_reducible refine w_isiIB ?_
  | with_reducible refine w_isiSS ?_
  | ((with_reducible refine w_mod ?h1 ?_); (case h1 => decide))
  | ((with_reducible refine w_fdC' ?h1 ?h2 ?_); (case h1 => decide); (case h2 => decide))
  | ((with_reducible refine w_mulR ?h1 ?h2 ?_); (case h1 => decide); (case h2 => decide))
  | ((with_reducible refine w_mulL ?h1 ?h2 ?_); (case h1 => decide); (case h2 => decide))
  | ((with_reducible refine w_pow' ?h1 ?h2 ?h3 ?_); (case h1 => decide); (case h2 => decide); (case h3 => decide))
  | with_reducible refine w_andV ?_
  | with_reducible refine w_orV ?_
  | with_reducible refine w_notV ?_
  | with_reducible refine w_B ?_
  | with_reducible refine w_not ?_
  | with_reducible refine w_and ?_
  | with_reducible refine w_or ?_
  | with_reducible refine w_ifx ?_
  | with_reducible refine w_un ?_
  | ((with_reducible refine w_T ?h1 ?_); (case h1 => with_reducible rfl))
  | ((with_reducible refine w_F ?h1 ?_); (case h1 => with_reducible rfl))
  | ((with_reducible refine w_T ?h1 ?_); (case h1 => decide +kernel))
  | ((with_reducible refine w_F ?h1 ?_); (case h1 => decide +kernel)))
local macro_rules | `(tactic| walk_at "w") => `(tactic| repeat walk_at "w1")

theorem GAt.go {H0 H : Hp} {wh : Wh} {nb p : Int} {f : Fr} {r : List Fr} {said : List Int} {t : Nat} {dx l s : Addr} {x : FA} {xs : List FA} (w : GAt H0 H wh nb ⟨f :: r, said, t, none⟩ ⟨dx, l, s, x :: xs⟩ .non) :
    GIn H0 (upd H x.a (frL p x.b x.q)) wh nb ⟨⟨p, f.boxes, f.pile⟩ :: r, said, t, none⟩ := ⟨⟨dx, l, s, x :: xs⟩, .non, ⟨w.own.set 3 (frL p x.b x.q) rfl, w.len, rfl⟩⟩
theorem GAt.pile {H0 H : Hp} {wh : Wh} {nb : Int} {f : Fr} {r : List Fr} {said : List Int} {t : Nat} {dx l s : Addr} {x : FA} {xs : List FA} (q : List Int) (w : GAt H0 H wh nb ⟨f :: r, said, t, none⟩ ⟨dx, l, s, x :: xs⟩ .non) :
    GAt H0 (upd H x.q (.lst (pileV q))) wh nb ⟨⟨f.place, f.boxes, q⟩ :: r, said, t, none⟩ ⟨dx, l, s, x :: xs⟩ .non := ⟨w.own.set 5 (.lst (pileV q)) rfl, w.len, rfl⟩
/-! ### _law_two -/
def sp_l_two (K : PySem.W.Frag) : Sp := fun vs H Q _ => ∃ H0 wh P f r said t dx l s x xs row M', vs = [.ref wh.m, .ref x.a, .str (wordOf row)] ∧
  GAt H0 H wh P.boxes ⟨f :: r, said, t, none⟩ ⟨dx, l, s, x :: xs⟩ .non ∧ PartsIn K H0 wh.c wh.st wh.sr P ∧ P.str.length < LIM ∧ meetW row = true ∧ meetRw P row f r ⟨f :: r, said, t, none⟩ = some M' ∧ f.pile.length < LIM ∧
  ∀ H', GIn H0 H' wh P.boxes M' → Q .non H'
theorem p_l_two {K : PySem.W.Frag} (vs : List V) (H : Hp) (Q : VK) (E : XK) (h : sp_l_two K vs H Q E) : t_l_two K (sp_l_fault K) { nx := fun _ H' => Q .non H', rt := Q } (L2.start n_l_two vs) H := by
  obtain ⟨H0, wh, P, f, r, said, t, dx, l, s, x, xs, row, M', rfl, w, pt, hL, hw, hM, hp, k⟩ := h
  obtain ⟨place, boxes, pile⟩ := f
  match pile, hM, w, hp with
  | [], hM, _, _ => cases hM
  | [_], hM, _, _ => cases hM
  | b :: a :: p, hM, w, hp =>
  have hq := w.own.ix 5 rfl
  have ha := w.own.ix 3 rfl
  unfold t_l_two
  walk_at "w"
  refine w_popB hq ?_
  have w1 := w.pile (a :: p)
  have hq1 := w1.own.ix 5 rfl
  have ha1 := w1.own.ix 3 rfl
  walk_at "w"
  refine w_popB hq1 ?_
  have w2 := w1.pile p
  clear w1 hq1 ha1 hq ha w
  dsimp only at w2
  generalize upd _ x.q (.lst (pileV p)) = H1 at w2 ⊢
  have hm2 := w2.own.ix 0 rfl
  have ha2 := w2.own.ix 3 rfl
  have hq2 := w2.own.ix 5 rfl
  have lp : (pileV p).length < LIM := by
    rw [pileV_len]
    exact Nat.lt_of_le_of_lt (by simp; omega) hp
  have lay : ∀ n : Int, some (⟨(⟨place, boxes, p⟩ : Un.Fr).lay n :: r, said, t, none⟩ : Mc) = some M' → tAsg (tOp rAddI (tOp (rIxL K) (tVar 1) (tC (.int 0))) (tC (.int 1))) (gSub (tVar 1) (tC (.int 0)) rSetL) { nx := fun _ H' => Q .non H', rt := Q } [some (.ref wh.m), some (.ref x.a), some (.str (wordOf row)), some (.int b), some (.int a)] (upd H1 x.q (.lst (pileV p ++ [.int n]))) := fun n e => by
    cases e
    have w3 := w2.pile (n :: p)
    have ha3 := w3.own.ix 3 rfl
    walk_at "w"
    refine w_setL ha3 (by decide) (by show (0 : Int) < 3; decide) ?_
    walk_at "w"
    exact k _ w3.go
  clear hp
  cases row with
  | add =>
    walk_at "w"
    refine w_app hq2 (lim_lt lp) ?_
    exact lay _ hM
  | sub =>
    walk_at "w"
    refine w_app hq2 (lim_lt lp) ?_
    exact lay _ hM
  | less =>
    walk_at "w"
    refine ⟨_, rfl, ?_⟩
    walk_at "w"
    refine w_app hq2 (lim_lt lp) ?_
    have e : (if decide (a < b) = true then (1 : Int) else 0) = if a < b then 1 else 0 := by
      by_cases c : a < b <;> simp [c]
    rw [e]
    refine lay _ ?_
    rw [← hM]
    rfl
  | share =>
    walk_at "w"
    refine w_D (fun c => ?_) (fun c => ?_)
    · simp only [meetRw, if_pos c] at hM
      cases hM
      walk_at "w"
      exact ⟨H0, wh, P, _, _, 101, rfl, w2, pt, hL, k⟩
    · simp only [meetRw, if_neg c] at hM
      walk_at "w"
      refine w_fd c ?_
      walk_at "w"
      refine w_app hq2 (lim_lt lp) ?_
      exact lay _ hM
  | _ => cases hw

/-! ### _law_called -/
def sp_l_called (K : PySem.W.Frag) : Sp := fun vs H Q _ => ∃ H0 wh P f r said t dx l s x xs g M', vs = [.ref wh.m, .ref x.a, .int g] ∧
  GAt H0 H wh P.boxes ⟨f :: r, said, t, none⟩ ⟨dx, l, s, x :: xs⟩ .non ∧ PartsIn K H0 wh.c wh.st wh.sr P ∧ P.str.length < LIM ∧ 0 ≤ P.boxes ∧ P.boxes < 16000000 ∧ r.length + 1 ≤ 8 ∧ stepRw P (.call g) f r ⟨f :: r, said, t, none⟩ = some M' ∧
  ∀ H', GIn H0 H' wh P.boxes M' → Q .non H'
theorem p_l_called {K : PySem.W.Frag} (vs : List V) (H : Hp) (Q : VK) (E : XK) (h : sp_l_called K vs H Q E) : t_l_called K (sp_l_turn K) (sp_l_fault K) { nx := fun _ H' => Q .non H', rt := Q } (L2.start n_l_called vs) H := by
  obtain ⟨H0, wh, P, f, r, said, t, dx, l, s, x, xs, g, M', rfl, w, pt, hL, hb0, hb, hfl, hM, k⟩ := h
  obtain ⟨place, boxes, pile⟩ := f
  cases pile with
  | nil => cases hM
  | cons v q =>
  have hq := w.own.ix 5 rfl
  have ha := w.own.ix 3 rfl
  unfold t_l_called
  walk_at "w"
  refine w_popB hq ?_
  have w1 := w.pile q
  clear hq ha w
  dsimp only at w1
  generalize upd _ x.q (.lst (pileV q)) = H1 at w1 ⊢
  walk_at "w"
  simp only [stepRw, Mc.enter] at hM
  refine ⟨H0, wh, P.boxes, _, _, rfl, w1.own, fun c H2 u w2 hu => ?_, fun c H2 w2 => ?_⟩
  · have c' : t = 0 := c
    walk_at "w"
    rw [if_pos c'] at hM
    cases hM
    exact k _ ⟨⟨dx, l, s, x :: xs⟩, .ref u, ⟨w2, w1.len, u, rfl, hu⟩⟩
  · have c' : ¬ t = 0 := c
    rw [if_neg c'] at hM
    have hm2 := w2.ix 0 rfl
    have hl2 := w2.ix 1 rfl
    have hlen : (refsV (x :: xs)).length = r.length + 1 := (refs_len _).trans (by simpa using w1.len)
    walk_at "w"
    refine w_lenL (SqL.of hl2) ?_
    walk_at "w"
    have w3 : GAt H0 H2 wh P.boxes ⟨⟨place, boxes, q⟩ :: r, said, t - 1, none⟩ ⟨dx, l, s, x :: xs⟩ .non := ⟨w2, w1.len, rfl⟩
    refine w_D (fun c2 => ?_) (fun c2 => ?_) <;> dsimp only at c2
    · have c3 : (⟨place, boxes, q⟩ :: r : List Fr).length = 8 := by rw [hlen] at c2; simp; omega
      rw [if_pos c3] at hM
      cases hM
      walk_at "w"
      exact ⟨H0, wh, P, _, _, 102, rfl, w3, pt, hL, k⟩
    · have c3 : ¬ (⟨place, boxes, q⟩ :: r : List Fr).length = 8 := by rw [hlen] at c2; simp; omega
      rw [if_neg c3] at hM
      cases hs : nth P.starts g with
      | none => rw [hs] at hM; cases hM
      | some st =>
        rw [hs] at hM
        cases hM
        walk_at "w"
        refine w_ixL (w2.same.seq pt.starts) (nth_at hs) ?_
        walk_at "w"
        refine fun p1 h1 => ?_
        walk_at "w"
        refine fun p2 h2 => ?_
        have w4 := (w2.lay (o := .lst [.int v]) h1).lay (o := .lst [.int 0]) h2
        have hm4 := w4.ix 0 rfl
        walk_at "w"
        refine w_rep1 upd_same (by omega) (by omega) fun p3 h3 => ?_
        have e1 : upd (upd (upd H2 p1 (.lst [.int v])) p2 (.lst [.int 0])) p3 (.lst (List.replicate (P.boxes - 1).toNat (.int 0))) p1 = some (.lst [.int v]) := by
          rw [upd_ne (ne_of_none (o := .lst [.int v]) (by rw [upd_ne (ne_of_none upd_same h2)]; exact upd_same) h3), upd_ne (ne_of_none upd_same h2), upd_same]
        refine w_cat e1 upd_same ?_ fun b hb => ?_
        · rw [List.length_replicate, sizeLine_eq]
          show 1 + _ ≤ _
          omega
        have w5 := (w4.lay (o := .lst (List.replicate (P.boxes - 1).toNat (.int 0))) h3).take (o := .lst ([.int v] ++ List.replicate (P.boxes - 1).toNat (.int 0))) hb
        have eb : [.int v] ++ List.replicate (P.boxes - 1).toNat (.int 0) = (newBoxes P.boxes v).map V.int := by simp [newBoxes]
        rw [eb] at w5 ⊢
        walk_at "w"
        refine fun q2 hq2 => ?_
        have w6 := w5.take (o := .lst []) hq2
        walk_at "w"
        refine fun fa hfa => ?_
        have w7 := w6.take (o := frL st b q2) hfa
        have hl7 := w7.ix 4 rfl
        walk_at "w"
        refine w_app hl7 (by rw [hlen]; exact lim_lt (by unfold LIM; omega)) ?_
        have w8 := w7.set 4 (.lst (refsV (x :: xs) ++ [.ref fa])) rfl
        walk_at "w"
        refine k _ ⟨⟨dx, l, s, ⟨fa, fa, b, q2⟩ :: x :: xs⟩, .non, ⟨?_, by simpa using w1.len, rfl⟩⟩
        have w9 := w8.perm (.cons _ (.swap _ _ _))
        exact w9.rot3

/-! ### _law_given -/
def sp_l_given (K : PySem.W.Frag) : Sp := fun vs H Q _ => ∃ H0 wh nb M d v, vs = [.ref wh.m, .int v] ∧ GAt H0 H wh nb M d .non ∧ M.frames ≠ [] ∧ (∀ f ∈ M.frames, f.pile.length < LIM) ∧
  ∀ H', GIn H0 H' wh nb (M.back v) → Q .non H'
theorem p_l_given {K : PySem.W.Frag} (vs : List V) (H : Hp) (Q : VK) (E : XK) (h : sp_l_given K vs H Q E) : t_l_given K { nx := fun _ H' => Q .non H', rt := Q } (L2.start n_l_given vs) H := by
  obtain ⟨H0, wh, nb, M, d, v, rfl, w, hne, hp, k⟩ := h
  have he := w.noend
  obtain ⟨fs, said, t, en⟩ := M
  obtain ⟨dx, l, s, fas⟩ := d
  dsimp only at he
  subst he
  unfold t_l_given
  match fs, fas, w, hne, hp with
  | [], _, _, hne, _ => exact absurd rfl hne
  | _ :: _, [], w, _, _ => exact absurd w.len (by simp)
  | f :: r, x :: xs, w, _, hp =>
  have hm := w.own.ix 0 rfl
  have hl := w.own.ix 1 rfl
  walk_at "w"
  refine w_popB hl ?_
  have w1 : GAt H0 _ wh nb ⟨r, said, t, none⟩ ⟨dx, l, s, xs⟩ .non := ⟨((((w.own.set 1 (.lst (refsV xs)) rfl).del 3).del 3).del 3), by simpa using w.len, rfl⟩
  clear hm hl
  generalize upd H l _ = H1 at w1 ⊢
  have hm := w1.own.ix 0 rfl
  walk_at "w"
  refine fun p h1 => ?_
  replace w1 := w1.laid (o := .lst []) h1
  have hp' : upd H1 p (.lst []) p = some (.lst []) := upd_same
  clear hm h1
  generalize upd H1 p (.lst []) = H1 at w1 hp' ⊢
  refine w1.eq hp' ?_
  have hm := w1.own.ix 0 rfl
  cases r with
  | nil =>
    refine ⟨_, rfl, ?_⟩
    refine w_T rfl ?_
    cases xs with
    | cons y ys => exact absurd w1.len (by simp)
    | nil =>
    walk_at "w"
    refine fun u hu => ?_
    have w2 := w1.own.lay (o := .tup [.str "answer", .int v]) hu
    have hm2 := w2.ix 0 rfl
    walk_at "w"
    refine w_dset hm2 (Nat.le_of_ble_eq_true rfl) ?_
    walk_at "w"
    refine k _ ⟨⟨dx, l, s, []⟩, .ref u, ⟨w2.set 0 (.dK (gK wh.c wh.st wh.sr nb t s (.ref u) l)) rfl, rfl, u, rfl, ?_⟩⟩
    rw [upd_ne (ne_of_none hm hu).symm, upd_same]
    rfl
  | cons g r =>
    refine ⟨_, rfl, ?_⟩
    refine w_F rfl ?_
    cases xs with
    | nil => exact absurd w1.len (by simp)
    | cons y ys =>
    have hl1 := w1.own.ix 1 rfl
    have ha1 := w1.own.ix 3 rfl
    have hq1 := w1.own.ix 5 rfl
    walk_at "w"
    refine w_ixO hl1 refs_neg ?_
    walk_at "w"
    refine w_app hq1 (by rw [pileV_len]; exact lim_lt (hp g (by simp))) ?_
    have w2 := w1.pile (v :: g.pile)
    have ha2 := w2.own.ix 3 rfl
    walk_at "w"
    refine w_setL ha2 (by decide) (by show (0 : Int) < 3; decide) ?_
    walk_at "w"
    exact k _ w2.go
end U

set_option maxHeartbeats 4000000
namespace U
open PySem PySem.Spec PyProof.Rows L2 Un
local macro_rules | `(tactic| walk_at "w1") => `(tactic| first
  | with_reducible refine w_tDGet ?_
  | ((with_reducible refine' w_dget ?h1 ?h2 ?_); (case h1 => assumption); (case h2 => rfl))
  | with_reducible refine w_neg ?_
  | ((with_reducible refine' w_ixT ?h1 ?h2 ?_); (case h1 => assumption); (case h2 => rfl))
  | ((with_reducible refine' w_ixO ?h1 ?h2 ?_); (case h1 => assumption); (case h2 => rfl)))
local macro_rules | `(tactic| walk_at "w1") => `(tactic| first
  | with_reducible refine w_seq ?_
  | with_reducible refine w_asg ?_
  | with_reducible refine w_op ?_
  | ((with_reducible refine' w_var ?h1 ?_); (case h1 => rfl))
  | with_reducible refine w_c ?_
  | with_reducible refine w_name ?_
  | with_reducible refine w_tFd ?_
  | ((with_reducible refine' w_fld ?h1 ?h2 ?_); (case h1 => assumption); (case h2 => rfl))
  | with_reducible refine w_if ?_
  | with_reducible refine w_test ?_
  | with_reducible refine w_eqS ?_
  | with_reducible refine w_eqI ?_
  | with_reducible refine w_neS ?_
  | with_reducible refine w_neI ?_
  | with_reducible refine w_isN ?_
  | with_reducible refine w_isnN ?_
  | with_reducible refine w_bl ?_
  | with_reducible refine w_ret ?_
  | with_reducible refine w_drop ?_
  | with_reducible refine w_next ?_
  | with_reducible refine w_cons ?_
  | with_reducible refine w_nil ?_
  | with_reducible refine w_call ?_
  | with_reducible refine w_cb ?_
  | with_reducible refine w_meth ?_
  | ((with_reducible refine' w_recv ?h1 ?h2 ?_); (case h1 => assumption); (case h2 => rfl))
  | with_reducible refine w_sFd ?_
  | ((with_reducible refine' w_put ?h1 ?h2 ?_); (case h1 => assumption); (case h2 => exact Nat.le_of_ble_eq_true rfl))
  | with_reducible refine w_add ?_
  | with_reducible refine w_sub ?_
  | with_reducible refine w_lt ?_
  | with_reducible refine w_le ?_
  | with_reducible refine w_gt ?_
  | with_reducible refine w_ge ?_
  | with_reducible refine w_bm ?_
  | with_reducible refine w_bm0 ?_
  | ((with_reducible refine' w_ty ?h1 ?_); (case h1 => assumption))
  | with_reducible refine w_tup ?_
  | with_reducible refine w_lst ?_
  | ((with_reducible refine' w_new ?h1 ?_); (case h1 => exact Nat.le_of_ble_eq_true rfl))
  | with_reducible refine w_gsub ?_
  | with_reducible refine w_make ?_
  | with_reducible refine w_lc ?_
  | with_reducible refine w_iList ?_
  | with_reducible refine w_for ?_
  | with_reducible refine w_yes ?_
  | with_reducible refine w_tSl ?_
  | with_reducible refine w_part ?_
  | with_reducible refine w_nopart ?_
  | with_reducible refine w_i ?_
  | with_reducible refine w_rng1 ?_
  | with_reducible refine w_rng2 ?_
  | with_reducible refine w_isiII ?_
  | with_reducible refine w_isiIB ?_
  | with_reducible refine w_isiSS ?_
  | ((with_reducible refine w_mod ?h1 ?_); (case h1 => decide))
  | ((with_reducible refine w_fdC' ?h1 ?h2 ?_); (case h1 => decide); (case h2 => decide))
  | ((with_reducible refine w_mulR ?h1 ?h2 ?_); (case h1 => decide); (case h2 => decide))
  | ((with_reducible refine w_mulL ?h1 ?h2 ?_); (case h1 => decide); (case h2 => decide))
  | ((with_reducible refine w_pow' ?h1 ?h2 ?h3 ?_); (case h1 => decide); (case h2 => decide); (case h3 => decide))
  | with_reducible refine w_andV ?_
  | with_reducible refine w_orV ?_
  | with_reducible refine w_notV ?_
  | with_reducible refine w_B ?_
  | with_reducible refine w_not ?_
  | with_reducible refine w_and ?_
  | with_reducible refine w_or ?_
  | with_reducible refine w_ifx ?_
  | with_reducible refine w_un ?_
  | ((with_reducible refine w_T ?h1 ?_); (case h1 => with_reducible rfl))
  | ((with_reducible refine w_F ?h1 ?_); (case h1 => with_reducible rfl))
  | ((with_reducible refine w_T ?h1 ?_); (case h1 => decide +kernel))
  | ((with_reducible refine w_F ?h1 ?_); (case h1 => decide +kernel)))
local macro_rules | `(tactic| walk_at "w") => `(tactic| repeat walk_at "w1")

/-! ### _law_plain -/
def plainW : Rw → Bool
  | .put _ | .get _ | .set _ | .say | .go _ | .nought _ | .turn => true
  | _ => false
def sp_l_plain (K : PySem.W.Frag) : Sp := fun vs H Q _ => ∃ H0 wh P f r said t dx l s x xs rw row M', vs = [.ref wh.m, .ref x.a, .ref rw] ∧
  GAt H0 H wh P.boxes ⟨f :: r, said, t, none⟩ ⟨dx, l, s, x :: xs⟩ .non ∧ SqT K H0 rw (words row) ∧ plainW row = true ∧ stepRw P row f r ⟨f :: r, said, t, none⟩ = some M' ∧ f.pile.length < LIM ∧ said.length < LIM ∧
  ∀ H', GIn H0 H' wh P.boxes M' → Q .non H'
theorem p_l_plain {K : PySem.W.Frag} (vs : List V) (H : Hp) (Q : VK) (E : XK) (h : sp_l_plain K vs H Q E) : t_l_plain K (sp_l_turn K) { nx := fun _ H' => Q .non H', rt := Q } (L2.start n_l_plain vs) H := by
  obtain ⟨H0, wh, P, f, r, said, t, dx, l, s, x, xs, rw, row, M', rfl, w, hrow, hw, hM, hp, hs, k⟩ := h
  have hr := same_tup w.own.same hrow
  have hm := w.own.ix 0 rfl
  have ha := w.own.ix 3 rfl
  have hb := w.own.ix 4 rfl
  have hq := w.own.ix 5 rfl
  have lp : (pileV f.pile).length < sizeLine := by rw [pileV_len]; exact lim_lt hp
  have fin : ∀ (H1 : Hp) (f' : Fr) (sd : List Int) (tn : Nat), GAt H0 H1 wh P.boxes ⟨f' :: r, sd, tn, none⟩ ⟨dx, l, s, x :: xs⟩ .non → some (⟨⟨f'.place + 1, f'.boxes, f'.pile⟩ :: r, sd, tn, none⟩ : Mc) = some M' →
      tAsg (tIf (tB (tVar 3)) (tOp (rIxT K) (tVar 2) (tC (.int 1))) (tOp rAddI (tOp (rIxL K) (tVar 1) (tC (.int 0))) (tC (.int 1)))) (gSub (tVar 1) (tC (.int 0)) rSetL) { nx := fun _ H' => Q .non H', rt := Q } [some (.ref wh.m), some (.ref x.a), some (.ref rw), some (.bl false)] H1 := fun H1 f' sd tn w3 e => by
    cases e
    have ha3 := w3.own.ix 3 rfl
    walk_at "w"
    refine w_setL ha3 (by decide) (by show (0 : Int) < 3; decide) ?_
    walk_at "w"
    exact k _ w3.go
  unfold t_l_plain
  cases row with
  | put n =>
    walk_at "w"
    refine w_app hq lp ?_
    exact fin _ ⟨f.place, f.boxes, n :: f.pile⟩ _ _ (w.pile (n :: f.pile)) hM
  | get j =>
    cases hv : nth f.boxes j with
    | none => rw [stepRw, moveRw, hv] at hM; cases hM
    | some v =>
      rw [stepRw, moveRw, hv] at hM
      walk_at "w"
      refine w_ixL (SqL.of hb) (nth_at hv) ?_
      walk_at "w"
      refine w_app hq lp ?_
      exact fin _ ⟨f.place, f.boxes, v :: f.pile⟩ _ _ (w.pile (v :: f.pile)) hM
  | set j =>
    obtain ⟨place, boxes, pile⟩ := f
    cases pile with
    | nil => cases hM
    | cons v p =>
      by_cases hj : 0 ≤ j ∧ j < boxes.length
      · simp only [stepRw, moveRw, if_pos hj] at hM
        walk_at "w"
        refine w_popB hq ?_
        have w1 := w.pile p
        have hr1 := same_tup w1.own.same hrow
        have ha1 := w1.own.ix 3 rfl
        have hb1 := w1.own.ix 4 rfl
        walk_at "w"
        refine w_setL hb1 hj.1 (by rw [List.length_map]; exact hj.2) ?_
        have w2 := w1.own.set 4 (.lst ((boxes.map V.int).set j.toNat (.int v))) rfl
        have e : (boxes.set j.toNat v).map V.int = (boxes.map V.int).set j.toNat (.int v) := List.map_set ..
        rw [← e] at w2 ⊢
        exact fin _ ⟨place, boxes.set j.toNat v, p⟩ _ _ ⟨w2, w.len, rfl⟩ hM
      · simp only [stepRw, moveRw, if_neg hj] at hM
        cases hM
  | say =>
    obtain ⟨place, boxes, pile⟩ := f
    cases pile with
    | nil => cases hM
    | cons v p =>
      have hs0 := w.own.ix 2 rfl
      walk_at "w"
      refine w_popB hq ?_
      have w1 := w.pile p
      have hs1 := w1.own.ix 2 rfl
      walk_at "w"
      refine w_app hs1 (by rw [List.length_map]; exact lim_lt hs) ?_
      have w2 := w1.own.set 2 (.lst (said.map V.int ++ [.int v])) rfl
      have e : (said ++ [v]).map V.int = said.map V.int ++ [.int v] := by simp
      rw [← e] at w2 ⊢
      exact fin _ ⟨place, boxes, p⟩ (said ++ [v]) t ⟨w2, w.len, rfl⟩ hM
  | go p =>
    cases hM
    walk_at "w"
    refine w_setL ha (by decide) (by show (0 : Int) < 3; decide) ?_
    walk_at "w"
    exact k _ w.go
  | nought p =>
    obtain ⟨place, boxes, pile⟩ := f
    cases pile with
    | nil => cases hM
    | cons v q =>
      walk_at "w"
      refine w_popB hq ?_
      have w1 := w.pile q
      have hr1 := same_tup w1.own.same hrow
      clear hm ha hb hq hr
      generalize upd H x.q _ = H1 at w1 hr1 ⊢
      simp only [stepRw, jumpRw] at hM
      have ha1 := w1.own.ix 3 rfl
      walk_at "w"
      by_cases c : v = 0
      · rw [if_pos c] at hM
        rw [decide_eq_true c]
        cases hM
        walk_at "w"
        refine w_setL ha1 (by decide) (by show (0 : Int) < 3; decide) ?_
        walk_at "w"
        exact k _ w1.go
      · rw [if_neg c] at hM
        rw [decide_eq_false c]
        cases hM
        walk_at "w"
        refine w_setL ha1 (by decide) (by show (0 : Int) < 3; decide) ?_
        walk_at "w"
        exact k _ w1.go
  | turn =>
    simp only [stepRw] at hM
    walk_at "w"
    refine ⟨H0, wh, P.boxes, _, _, rfl, w.own, fun c H1 u w4 hu => ?_, fun c H1 w4 => ?_⟩
    · have c' : t = 0 := c
      walk_at "w"
      rw [if_pos c'] at hM
      cases hM
      exact k _ ⟨⟨dx, l, s, x :: xs⟩, .ref u, ⟨w4, w.len, u, rfl, hu⟩⟩
    · have c' : ¬ t = 0 := c
      rw [if_neg c'] at hM
      have w5 : GAt H0 H1 wh P.boxes ⟨f :: r, said, t - 1, none⟩ ⟨dx, l, s, x :: xs⟩ .non := ⟨w4, w.len, rfl⟩
      have ha5 := w5.own.ix 3 rfl
      cases hM
      walk_at "w"
      refine w_setL ha5 (by decide) (by show (0 : Int) < 3; decide) ?_
      walk_at "w"
      exact k _ w5.go
  | _ => cases hw

/-! ### _law_step -/
structure GOk (P : Parts) : Prop where
  b0 : 0 ≤ P.boxes
  b1 : P.boxes < 16000000
  sl : P.str.length < LIM
def sp_l_step (K : PySem.W.Frag) : Sp := fun vs H Q _ => ∃ H0 wh P M d M', vs = [.ref wh.m] ∧ GAt H0 H wh P.boxes M d .non ∧ PartsIn K H0 wh.c wh.st wh.sr P ∧ P.str.length < LIM ∧ Bd P M ∧ rowStep P M = some M' ∧
  ∀ H', GIn H0 H' wh P.boxes M' → Q .non H'
theorem p_l_step {K : PySem.W.Frag} (vs : List V) (H : Hp) (Q : VK) (E : XK) (h : sp_l_step K vs H Q E) :
    t_l_step K (sp_l_two K) (sp_l_called K) (sp_l_given K) (sp_l_fault K) (sp_l_plain K) { nx := fun _ H' => Q .non H', rt := Q } (L2.start n_l_step vs) H := by
  obtain ⟨H0, wh, P, M, d, M', rfl, w, pt, hL, bd, hM, k⟩ := h
  have he := w.noend
  obtain ⟨fs, said, t, en⟩ := M
  obtain ⟨dx, l, s, fas⟩ := d
  dsimp only at he
  subst he
  match fs, fas, w, bd, hM with
  | [], _, _, _, hM => cases hM
  | _ :: _, [], w, _, _ => exact absurd w.len (by simp)
  | f :: r, x :: xs, w, bd, hM =>
  have hm := w.own.ix 0 rfl
  have hl := w.own.ix 1 rfl
  have ha := w.own.ix 3 rfl
  obtain ⟨cs, c1, c2⟩ := pt.code
  unfold rowStep at hM
  dsimp only at hM
  cases hrow : nth P.code f.place with
  | none => rw [hrow] at hM; cases hM
  | some row =>
  rw [hrow] at hM
  dsimp only at hM
  obtain ⟨v, hv, rw, rfl, hr0⟩ := nth_all c2 hrow
  have hr := same_tup w.own.same hr0
  have pb : f.pile.length < LIM := bd.pl f (by simp)
  unfold t_l_step
  walk_at "w"
  refine w_ixO hl refs_neg ?_
  walk_at "w"
  refine w_ixL (w.own.same.seq c1) hv ?_
  walk_at "w"
  refine w_ixT hr (words_0 row) ?_
  walk_at "w"
  refine fun p1 h1 => ?_
  refine w_inT (SqT.of upd_same) rfl rfl ?_
  have w1 : GAt H0 _ wh P.boxes ⟨f :: r, said, t, none⟩ ⟨dx, l, s, x :: xs⟩ .non := w.laid (o := .tup [.str "add", .str "sub", .str "less", .str "share"]) h1
  clear hm hl ha hr h1
  generalize upd H p1 _ = H1 at w1 ⊢
  have hm := w1.own.ix 0 rfl
  have ha := w1.own.ix 3 rfl
  have hb := w1.own.ix 4 rfl
  have hq := w1.own.ix 5 rfl
  have hr := same_tup w1.own.same hr0
  refine ⟨_, rfl, ?_⟩
  have pop : ∀ v q, f.pile = v :: q → ∀ g ∈ (⟨f.place, f.boxes, q⟩ :: r : List Fr), g.pile.length < LIM := fun v q e g hg => by
    rcases List.mem_cons.mp hg with e2 | e2
    · subst e2
      rw [e] at pb
      exact Nat.lt_of_le_of_lt (by simp) pb
    · exact bd.pl g (List.mem_cons_of_mem _ e2)
  have two : meetW row = true → meetRw P row f r ⟨f :: r, said, t, none⟩ = some M' → sp_l_two K [.ref wh.m, .ref x.a, .str (wordOf row)] H1 (fun _ H' => Q .non H') E0 :=
    fun hw hM => ⟨H0, wh, P, f, r, said, t, dx, l, s, x, xs, row, M', rfl, w1, pt, hL, hw, hM, pb, k⟩
  by_cases hmeet : meetW row = true
  · refine w_T (by cases row <;> first | (cases hmeet; done) | (dsimp only [wordOf]; decide +kernel)) ?_
    walk_at "w"
    refine w_ixT hr (words_0 row) ?_
    walk_at "w"
    exact two hmeet (by cases row <;> first | exact hM | (cases hmeet; done))
  refine w_F (by cases row <;> first | (exact absurd rfl hmeet) | (dsimp only [wordOf]; decide +kernel)) ?_
  by_cases hpl : plainW row = true
  · have pl : sp_l_plain K [.ref wh.m, .ref x.a, .ref rw] H1 (fun _ H' => Q .non H') E0 := ⟨H0, wh, P, f, r, said, t, dx, l, s, x, xs, rw, row, M', rfl, w1, hr0, hpl, hM, pb, bd.sd, k⟩
    cases row <;> first | (cases hpl; done) | (walk_at "w"; exact pl)
  cases row with
  | call g =>
    walk_at "w"
    exact ⟨H0, wh, P, f, r, said, t, dx, l, s, x, xs, g, M', rfl, w1, pt, hL, bd.b0, bd.b1, by simpa using bd.fr, hM, k⟩
  | back =>
    obtain ⟨place, boxes, pile⟩ := f
    cases pile with
    | nil => cases hM
    | cons v q =>
      cases hM
      walk_at "w"
      refine w_popB hq ?_
      have w2 := w1.pile q
      walk_at "w"
      exact ⟨H0, wh, P.boxes, _, _, v, rfl, w2, by simp, pop v q rfl, k⟩
  | raise =>
    obtain ⟨place, boxes, pile⟩ := f
    cases pile with
    | nil => cases hM
    | cons v q =>
      cases hM
      walk_at "w"
      refine w_popB hq ?_
      have w2 := w1.pile q
      walk_at "w"
      exact ⟨H0, wh, P, _, _, v, rfl, w2, pt, hL, k⟩
  | on j =>
    cases hv : nth f.boxes j with
    | none => rw [stepRw, jumpRw, hv] at hM; cases hM
    | some v =>
      rw [stepRw, jumpRw, hv] at hM
      cases hM
      walk_at "w"
      refine w_ixL (SqL.of hb) (nth_at hv) ?_
      walk_at "w"
      refine w_setL ha (by decide) (by show (0 : Int) < 3; decide) ?_
      walk_at "w"
      exact k _ w1.go
  | add | sub | less | share => exact absurd rfl hmeet
  | put _ | get _ | set _ | say | go _ | nought _ | turn => exact absurd rfl hpl
end U

set_option maxHeartbeats 4000000
namespace U
open PySem PySem.Spec PyProof.Rows L2 Un
local macro_rules | `(tactic| walk_at "w1") => `(tactic| first
  | with_reducible refine w_tDGet ?_
  | ((with_reducible refine' w_dget ?h1 ?h2 ?_); (case h1 => assumption); (case h2 => rfl))
  | with_reducible refine w_neg ?_
  | ((with_reducible refine' w_ixT ?h1 ?h2 ?_); (case h1 => assumption); (case h2 => rfl))
  | ((with_reducible refine' w_ixO ?h1 ?h2 ?_); (case h1 => assumption); (case h2 => rfl)))
local macro_rules | `(tactic| walk_at "w1") => `(tactic| first
  | with_reducible refine w_seq ?_
  | with_reducible refine w_asg ?_
  | with_reducible refine w_op ?_
  | ((with_reducible refine' w_var ?h1 ?_); (case h1 => rfl))
  | with_reducible refine w_c ?_
  | with_reducible refine w_name ?_
  | with_reducible refine w_tFd ?_
  | ((with_reducible refine' w_fld ?h1 ?h2 ?_); (case h1 => assumption); (case h2 => rfl))
  | with_reducible refine w_if ?_
  | with_reducible refine w_test ?_
  | with_reducible refine w_eqS ?_
  | with_reducible refine w_eqI ?_
  | with_reducible refine w_neS ?_
  | with_reducible refine w_neI ?_
  | with_reducible refine w_isN ?_
  | with_reducible refine w_isnN ?_
  | with_reducible refine w_bl ?_
  | with_reducible refine w_ret ?_
  | with_reducible refine w_drop ?_
  | with_reducible refine w_next ?_
  | with_reducible refine w_cons ?_
  | with_reducible refine w_nil ?_
  | with_reducible refine w_call ?_
  | with_reducible refine w_cb ?_
  | with_reducible refine w_meth ?_
  | ((with_reducible refine' w_recv ?h1 ?h2 ?_); (case h1 => assumption); (case h2 => rfl))
  | with_reducible refine w_sFd ?_
  | ((with_reducible refine' w_put ?h1 ?h2 ?_); (case h1 => assumption); (case h2 => exact Nat.le_of_ble_eq_true rfl))
  | with_reducible refine w_add ?_
  | with_reducible refine w_sub ?_
  | with_reducible refine w_lt ?_
  | with_reducible refine w_le ?_
  | with_reducible refine w_gt ?_
  | with_reducible refine w_ge ?_
  | with_reducible refine w_bm ?_
  | with_reducible refine w_bm0 ?_
  | ((with_reducible refine' w_ty ?h1 ?_); (case h1 => assumption))
  | with_reducible refine w_tup ?_
  | with_reducible refine w_lst ?_
  | ((with_reducible refine' w_new ?h1 ?_); (case h1 => exact Nat.le_of_ble_eq_true rfl))
  | with_reducible refine w_gsub ?_
  | with_reducible refine w_make ?_
  | with_reducible refine w_lc ?_
  | with_reducible refine w_iList ?_
  | with_reducible refine w_for ?_
  | with_reducible refine w_yes ?_
  | with_reducible refine w_tSl ?_
  | with_reducible refine w_part ?_
  | with_reducible refine w_nopart ?_
  | with_reducible refine w_i ?_
  | with_reducible refine w_rng1 ?_
  | with_reducible refine w_rng2 ?_
  | with_reducible refine w_isiII ?_
  | with_reducible refine w_isiIB ?_
  | with_reducible refine w_isiSS ?_
  | ((with_reducible refine w_mod ?h1 ?_); (case h1 => decide))
  | ((with_reducible refine w_fdC' ?h1 ?h2 ?_); (case h1 => decide); (case h2 => decide))
  | ((with_reducible refine w_mulR ?h1 ?h2 ?_); (case h1 => decide); (case h2 => decide))
  | ((with_reducible refine w_mulL ?h1 ?h2 ?_); (case h1 => decide); (case h2 => decide))
  | ((with_reducible refine w_pow' ?h1 ?h2 ?h3 ?_); (case h1 => decide); (case h2 => decide); (case h3 => decide))
  | with_reducible refine w_andV ?_
  | with_reducible refine w_orV ?_
  | with_reducible refine w_notV ?_
  | with_reducible refine w_B ?_
  | with_reducible refine w_not ?_
  | with_reducible refine w_and ?_
  | with_reducible refine w_or ?_
  | with_reducible refine w_ifx ?_
  | with_reducible refine w_un ?_
  | ((with_reducible refine w_T ?h1 ?_); (case h1 => with_reducible rfl))
  | ((with_reducible refine w_F ?h1 ?_); (case h1 => with_reducible rfl))
  | ((with_reducible refine w_T ?h1 ?_); (case h1 => decide +kernel))
  | ((with_reducible refine w_F ?h1 ?_); (case h1 => decide +kernel)))
local macro_rules | `(tactic| walk_at "w") => `(tactic| repeat walk_at "w1")

/-! ### _law_gone -/
theorem w_disp' {σ : L2.St} {H : Hp} {Q : VK} {trs : List (TE × TE)} (h : ∀ p, H p = none → tPairs trs σ (upd H p (.dK [])) fun ps H2 => H2 p = some (.dK []) ∧ ∃ kvs : List (Key × V), ps = kvs.map (fun kv => (kV kv.1, kv.2)) ∧ kvs.length ≤ 15 ∧ Q (.ref p) (upd H2 p (.dK (mergeK [] kvs)))) : tDisp trs σ H Q := h
theorem perm6g (l a b q s m : Cell) : List.Perm [l, a, q, b, s, m] [m, l, s, a, b, q] :=
  (List.perm_append_comm (l₁ := [l, a, q, b, s]) (l₂ := [m])).trans (.cons _ (.cons _ ((List.perm_append_comm (l₁ := [a, q, b]) (l₂ := [s])).trans (.cons _ (.cons _ (.swap _ _ _))))))
abbrev k5 (c st sr : Addr) (nb t : Int) : List (Key × V) := [(.inr "code", .ref c), (.inr "stretches", .ref st), (.inr "starts", .ref sr), (.inr "boxes", .int nb), (.inr "turns", .int t)]
theorem put_said (c st sr : Addr) (nb t : Int) (v : V) : putK (k5 c st sr nb t) (.inr "said") v = k5 c st sr nb t ++ [(.inr "said", v)] := rfl
theorem put_ended (c st sr : Addr) (nb t : Int) (u v : V) : putK (k5 c st sr nb t ++ [(.inr "said", u)]) (.inr "ended") v = k5 c st sr nb t ++ [(.inr "said", u), (.inr "ended", v)] := rfl
theorem put_frames (c st sr : Addr) (nb t : Int) (s l : Addr) (e : V) : putK (k5 c st sr nb t ++ [(.inr "said", .ref s), (.inr "ended", e)]) (.inr "frames") (.ref l) = gK c st sr nb t s e l := rfl
def sp_l_gone (K : PySem.W.Frag) : Sp := fun vs H Q _ => ∃ a c st sr P number turns M0 n M x z, vs = [.ref a, .int number, .int (turns : Nat)] ∧ SqT K H a [.ref c, .ref st, .ref sr, .int P.boxes] ∧ PartsIn K H c st sr P ∧
  P.str.length < LIM ∧ 0 ≤ P.boxes ∧ P.boxes < 16000000 ∧ begun P number turns = some M0 ∧ rowSteps P n M0 = some M ∧ M.ended = some (x, z) ∧ (∀ j Mj, j < n → rowSteps P j M0 = some Mj → Bd P Mj) ∧
  ∀ H' p s, Same H H' → H' s = some (.lst (M.said.map V.int)) → H' p = some (.tup [.ref s, .str x.str, .int z]) → Q (.ref p) H'
theorem p_l_gone {K : PySem.W.Frag} (vs : List V) (H : Hp) (Q : VK) (E : XK) (h : sp_l_gone K vs H Q E) :
    t_l_gone K (sp_l_step K) { nx := fun _ H' => Q .non H', rt := Q } (L2.start n_l_gone vs) H := by
  obtain ⟨a, c, st, sr, P, number, turns, M0, n, M, x, z, rfl, ha, pt, hL, hb0, hb, hM0, hn, hend, hbd, k⟩ := h
  unfold begun at hM0
  cases hs : nth P.starts 0 with
  | none => rw [hs] at hM0; cases hM0
  | some p0 =>
  rw [hs] at hM0
  cases hM0
  unfold t_l_gone
  walk_at "w"
  refine w_disp' fun m hm0 => ?_
  have w := (Own.nil (Same.refl H)).take (o := .dK []) hm0
  generalize upd H m (.dK []) = H1 at w ⊢
  have ha1 := same_tup w.same ha
  simp only [tPairs]
  walk_at "w"
  refine ⟨w.ix 0 rfl, k5 c st sr P.boxes turns, rfl, (Nat.le_of_ble_eq_true rfl), ?_⟩
  have em : mergeK [] (k5 c st sr P.boxes turns) = k5 c st sr P.boxes turns := rfl
  rw [em]
  have w : Own H _ [(m, .dK (k5 c st sr P.boxes turns))] := w.set 0 (.dK (k5 c st sr P.boxes turns)) rfl
  clear ha1
  generalize upd H1 m _ = H1 at w ⊢
  walk_at "w"
  refine fun s hs0 => ?_
  have w := w.take (o := .lst []) hs0
  generalize upd H1 s (.lst []) = H1 at w ⊢
  have hm := w.ix 1 rfl
  walk_at "w"
  refine w_dset hm (Nat.le_of_ble_eq_true rfl) ?_
  rw [put_said]
  have w : Own H _ [(s, .lst []), (m, .dK (k5 c st sr P.boxes turns ++ [(.inr "said", .ref s)]))] := w.set 1 (.dK (k5 c st sr P.boxes turns ++ [(.inr "said", .ref s)])) rfl
  clear hm
  generalize upd H1 m _ = H1 at w ⊢
  have hm := w.ix 1 rfl
  walk_at "w"
  refine w_dset hm (Nat.le_of_ble_eq_true rfl) ?_
  rw [put_ended]
  have w : Own H _ [(s, .lst []), (m, .dK (k5 c st sr P.boxes turns ++ [(.inr "said", .ref s), (.inr "ended", .non)]))] := w.set 1 (.dK (k5 c st sr P.boxes turns ++ [(.inr "said", .ref s), (.inr "ended", .non)])) rfl
  clear hm
  generalize upd H1 m _ = H1 at w ⊢
  have ha1 := same_tup w.same ha
  walk_at "w"
  refine w_ixL (w.same.seq pt.starts) (nth_at hs) ?_
  walk_at "w"
  refine fun p1 h1 => ?_
  walk_at "w"
  refine fun p2 h2 => ?_
  have w4 := (w.lay (o := .lst [.int number]) h1).lay (o := .lst [.int 0]) h2
  have ha4 := same_tup w4.same ha
  walk_at "w"
  refine w_rep1 upd_same (by omega) (by omega) fun p3 h3 => ?_
  have e1 : upd (upd (upd H1 p1 (.lst [.int number])) p2 (.lst [.int 0])) p3 (.lst (List.replicate (P.boxes - 1).toNat (.int 0))) p1 = some (.lst [.int number]) := by
    rw [upd_ne (ne_of_none (o := .lst [.int number]) (by rw [upd_ne (ne_of_none upd_same h2)]; exact upd_same) h3), upd_ne (ne_of_none upd_same h2), upd_same]
  refine w_cat e1 upd_same ?_ fun b hb => ?_
  · rw [List.length_replicate, sizeLine_eq]
    show 1 + _ ≤ _
    omega
  have w5 := (w4.lay (o := .lst (List.replicate (P.boxes - 1).toNat (.int 0))) h3).take (o := .lst ([.int number] ++ List.replicate (P.boxes - 1).toNat (.int 0))) hb
  have eb : [.int number] ++ List.replicate (P.boxes - 1).toNat (.int 0) = (newBoxes P.boxes number).map V.int := by simp [newBoxes]
  rw [eb] at w5 ⊢
  clear ha1 ha4 e1
  generalize upd _ b (.lst ((newBoxes P.boxes number).map V.int)) = H2 at w5 ⊢
  walk_at "w"
  refine fun q2 hq2 => ?_
  have w6 := w5.take (o := .lst []) hq2
  generalize upd H2 q2 (.lst []) = H2 at w6 ⊢
  walk_at "w"
  refine fun fa hfa => ?_
  have w7 := w6.take (o := frL p0 b q2) hfa
  change Own H (upd H2 fa (.lst [.int p0, .ref b, .ref q2])) _ at w7
  generalize upd H2 fa (.lst [.int p0, .ref b, .ref q2]) = H2 at w7 ⊢
  walk_at "w"
  refine fun l hl => ?_
  have w8 := w7.take (o := .lst [.ref fa]) hl
  generalize upd H2 l (.lst [.ref fa]) = H2 at w8 ⊢
  have hm8 := w8.ix 5 rfl
  walk_at "w"
  refine w_dset hm8 (Nat.le_of_ble_eq_true rfl) ?_
  rw [put_frames]
  have w9 := w8.set 5 (.dK (gK c st sr P.boxes turns s .non l)) rfl
  have w10 : GAt H _ ⟨m, c, st, sr⟩ P.boxes ⟨[⟨p0, newBoxes P.boxes number, []⟩], [], turns, none⟩ ⟨l, l, s, [⟨fa, fa, b, q2⟩]⟩ .non := ⟨w9.perm (perm6g _ _ _ _ _ _), rfl, rfl⟩
  clear w9 hm8 w8 w7 w6 w5 w4 w
  generalize upd H2 m _ = H2 at w10 ⊢
  walk_at "w"
  refine ⟨fun j σ H2 => ∃ Mj, rowSteps P j Mj = some M ∧ (∀ i Mi, i < j → rowSteps P i Mj = some Mi → Bd P Mi) ∧ GIn H H2 ⟨m, c, st, sr⟩ P.boxes Mj ∧ σ = [some (.ref a), some (.int number), some (.int turns), some (.ref m)],
    ⟨n, _, hn, hbd, ⟨_, .non, w10⟩, rfl⟩, ?_⟩
  rintro j σ H2 ⟨Mj, hj, hbj, ⟨d2, e, w2⟩, rfl⟩
  have hm2 := w2.own.ix 0 rfl
  have hs2 := w2.own.ix 2 rfl
  walk_at "w"
  cases he : Mj.ended with
  | none =>
    have ee : e = .non := by
      have q := w2.endd
      rw [he] at q
      exact q
    subst ee
    refine w_T (decide_eq_true rfl) ?_
    cases j with
    | zero =>
      cases hj
      rw [he] at hend
      cases hend
    | succ i =>
      refine ⟨_, fun _ _ q => q, ?_⟩
      walk_at "w"
      unfold rowSteps at hj
      rw [he] at hj
      simp only [Option.isSome_none, Bool.false_eq_true, if_false] at hj
      cases hs : rowStep P Mj with
      | none => rw [hs] at hj; cases hj
      | some M1 =>
      rw [hs] at hj
      refine ⟨H, ⟨m, c, st, sr⟩, P, Mj, d2, M1, rfl, w2, pt, hL, hbj 0 Mj (by omega) rfl, hs, fun H3 w3 => ?_⟩
      refine ⟨i, Nat.lt_succ_self i, M1, hj, fun q Mq hq e2 => hbj (q + 1) Mq (by omega) ?_, w3, rfl⟩
      unfold rowSteps
      rw [he, hs]
      exact e2
  | some y =>
    cases j with
    | succ i =>
      unfold rowSteps at hj
      rw [he] at hj
      cases hj
    | zero =>
      cases hj
      rw [he] at hend
      cases hend
      have q := w2.endd
      rw [he] at q
      obtain ⟨t, rfl, ht⟩ := q
      have ht' : SqT K H2 t [.str x.str, .int z] := SqT.of ht
      refine w_F (decide_eq_false (by intro z; cases z)) ?_
      walk_at "w"
      refine fun p hp => ?_
      have sm := w2.own.same
      refine k _ p d2.s (sm.trans (same_lay hp)) (same_one hp hs2) upd_same
end U

namespace U
open PySem PySem.Spec PyProof.Rows L2
/-! readings of the defs -/
def t_l_is (K : PySem.W.Frag) (sp_l_whole : Sp) : TS :=
  (tSeq (tIfS (tOr (tNot (tB (tCB (rIsi K) (tCons (tVar 0) (tCons (tC (.ty "tuple")) tNil))))) (tOr (tTest (tOp rNe (tCB (rLenQ K) (tCons (tVar 0) tNil)) (tC (.int 3)))) (tNot (tB (tCB (rIsi K) (tCons (tOp (rIxT K) (tVar 0) (tC (.int 0))) (tCons (tC (.ty "list")) tNil))))))) (tRet (tC (.bl false))) tNext)
    (tSeq (tIfS (tOr (tTest (tOp rGtI (tCB (rLenQ K) (tCons (tLc (iList K (tOp (rIxT K) (tVar 0) (tC (.int 0)))) (gName 1) (tNot (tB (tCall sp_l_whole [] E0 (tCons (tVar 1) tNil)))) (tVar 1) [1]) tNil)) (tC (.int 0)))) (tNot (tB (tCall sp_l_whole [] E0 (tCons (tOp (rIxT K) (tVar 0) (tC (.int 2))) tNil))))) (tRet (tC (.bl false))) tNext)
    (tRet (tAndV (tCB (rIsi K) (tCons (tOp (rIxT K) (tVar 0) (tC (.int 1))) (tCons (tC (.ty "str")) tNil))) (tOrV (tOp (rIn K false) (tOp (rIxT K) (tVar 0) (tC (.int 1))) (tTup (tCons (tC (.str "answer")) (tCons (tC (.str "fault")) tNil)))) (tAndV (tOp rEq (tOp (rIxT K) (tVar 0) (tC (.int 1))) (tC (.str "tired"))) (tOp rEq (tOp (rIxT K) (tVar 0) (tC (.int 2))) (tC (.int 0)))))))))
def n_l_is : List Str := ["_law_found", "_law_x"]
end U

/-! a program that is not refused tells: totality, and how much is said -/
namespace Un
open PySem
section
variable {P : List (List Sm)}
/-- calls at this depth end from level c on -/
def CallsEnd (P : List (List Sm)) (dp c : Nat) : Prop := ∀ n, c ≤ n → ∀ (f v : Int) (w : Wd), w.deep = dp → 0 ≤ f → f < P.length → ∃ x, (ev P n).call f v w = some x
theorem tree_ends {dp c : Nat} (hc : CallsEnd P dp c) : ∀ (d n : Nat) (t : Un.Tree) (bx : List Int) (w : Wd), t.ok P.length d = true → c + d ≤ n → w.deep = dp → bx.length = 4 → ∃ x, (ev P n).tree t bx w = some x := by
  intro d
  induction d with
  | zero => intro n t bx w h; cases t <;> cases h
  | succ d ih =>
    intro n t bx w h hn hd hb
    obtain ⟨m, rfl⟩ : ∃ m, n = m + 1 := ⟨n - 1, by omega⟩
    have G := good_ev P m
    have e : (ev P (m + 1)).tree t bx w = treeS (ev P m) t bx w := rfl
    rw [e]
    unfold treeS
    cases t with
    | num k => exact ⟨_, rfl⟩
    | box k =>
      have h : decide (0 ≤ k ∧ k < 4) = true := h
      have h := of_decide_eq_true h
      have e : at? bx k = some (bx.getD k.toNat 0) := by
        rw [at?, if_pos h.1, List.getD_eq_getElem?_getD, List.getElem?_eq_getElem (by omega)]
        rfl
      simp only [e]
      exact ⟨_, rfl⟩
    | call f t =>
      have h : (decide (0 ≤ f ∧ f < (P.length : Nat)) && t.ok P.length d) = true := h
      rw [Bool.and_eq_true] at h
      have hf := of_decide_eq_true h.1
      obtain ⟨⟨⟨wy, z⟩, w1⟩, h1⟩ := ih m t bx w h.2 (by omega) hd hb
      have hd1 := (G.tree h1).deep
      simp only [h1]
      cases wy with
      | value => exact hc m (by omega) f z w1 (hd1.trans hd) hf.1 hf.2
      | _ => exact ⟨_, rfl⟩
    | bin o a b =>
      have h : (a.ok P.length d && b.ok P.length d) = true := h
      rw [Bool.and_eq_true] at h
      obtain ⟨⟨⟨wy, z⟩, w1⟩, h1⟩ := ih m a bx w h.1 (by omega) hd hb
      have hd1 := (G.tree h1).deep
      simp only [h1]
      cases wy with
      | value =>
        obtain ⟨⟨⟨wy2, z2⟩, w2⟩, h2⟩ := ih m b bx w1 h.2 (by omega) (hd1.trans hd) hb
        simp only [h2]
        cases wy2 <;> exact ⟨_, rfl⟩
      | _ => exact ⟨_, rfl⟩
theorem thenT_ends {dp c n : Nat} (hc : CallsEnd P dp c) {e : Un.Tree} {bx : List Int} {w : Wd} {k : Int → Wd → Option (Res × List Int × Wd)} (h : e.ok P.length 6 = true) (hn : c + 6 ≤ n) (hd : w.deep = dp) (hb : bx.length = 4)
    (hk : ∀ v w1, Le w w1 → ∃ x, k v w1 = some x) : ∃ x, thenT (ev P n) e bx w k = some x := by
  obtain ⟨⟨⟨wy, z⟩, w1⟩, h1⟩ := tree_ends hc 6 n e bx w h hn hd hb
  unfold thenT
  simp only [h1]
  cases wy with
  | value => exact hk _ _ ((good_ev P n).tree h1)
  | _ => exact ⟨_, rfl⟩
/-- blocks of depth d end from level c on -/
def BlocksEnd (P : List (List Sm)) (dp d c : Nat) : Prop := ∀ n, c ≤ n → ∀ (l : Bool) (b : List Sm) (bx : List Int) (w : Wd), oks P.length l d b = true → w.deep = dp → bx.length = 4 → ∃ x, (ev P n).block b bx w = some x
theorem oks_cons {c : Nat} {l : Bool} {n : Nat} {s : Sm} {b : List Sm} : oks c l n (s :: b) = (s.ok c l n && oks c l n b) := by rw [oks]
theorem loop_ends {dp c n : Nat} (hc : CallsEnd P dp c) {e : Un.Tree} {b : List Sm} (he : e.ok P.length 6 = true) (hn : c + 6 ≤ n) (hb : ∀ (bx : List Int) (w : Wd), w.deep = dp → bx.length = 4 → ∃ x, (ev P n).block b bx w = some x) :
    ∀ (k : Nat) (bx : List Int) (w : Wd), w.turns < k → w.deep = dp → bx.length = 4 → ∃ x, loopGo (ev P n) e b k bx w = some x := by
  intro k
  induction k with
  | zero => intro bx w h; omega
  | succ k ih =>
    intro bx w h hd hl
    unfold loopGo
    split
    · exact ⟨_, rfl⟩
    · rename_i ht
      refine thenT_ends hc he hn hd hl fun v w1 l1 => ?_
      split
      · exact ⟨_, rfl⟩
      · have l1t := l1.turns
        have l1d := l1.deep
        dsimp only at l1t l1d
        obtain ⟨⟨⟨wy, z⟩, bx2, w2⟩, h2⟩ := hb bx w1 (by rw [l1d, hd]) hl
        have g2 := (good_ev P n).block h2
        have g2t := g2.1.turns
        have g2d := g2.1.deep
        simp only [h2]
        cases wy with
        | on => exact ih bx2 w2 (by omega) (by rw [g2d, l1d, hd]) (by rw [g2.2, hl])
        | next => exact ih bx2 w2 (by omega) (by rw [g2d, l1d, hd]) (by rw [g2.2, hl])
        | _ => exact ⟨_, rfl⟩
theorem row_ends {dp c d cb : Nat} (hc : CallsEnd P dp c) (hcb : c + 6 ≤ cb) (hb : ∀ d', d' < d → BlocksEnd P dp d' cb) : ∀ n, cb + 2 ≤ n → ∀ (l : Bool) (s : Sm) (bx : List Int) (w : Wd), s.ok P.length l d = true → w.deep = dp → bx.length = 4 → ∃ x, (ev P n).row s bx w = some x := by
  intro n hn l s bx w h hd hl
  obtain ⟨m, rfl⟩ : ∃ m, n = m + 1 := ⟨n - 1, by omega⟩
  obtain ⟨q, rfl⟩ : ∃ q, m = q + 1 := ⟨m - 1, by omega⟩
  have e0 : (ev P (q + 1 + 1)).row s bx w = rowS (ev P (q + 1)) s bx w := rfl
  rw [e0]
  unfold rowS
  cases s with
  | leave => exact ⟨_, rfl⟩
  | next => exact ⟨_, rfl⟩
  | set k e =>
    have h : (decide (0 ≤ k ∧ k < 4) && e.ok P.length 6) = true := by cases d <;> exact h
    rw [Bool.and_eq_true] at h
    have hk := of_decide_eq_true h.1
    refine thenT_ends hc h.2 (by omega) hd hl fun v w1 _ => ?_
    rw [if_pos ⟨hk.1, by omega⟩]
    exact ⟨_, rfl⟩
  | say e => exact thenT_ends hc (by cases d <;> exact h) (by omega) hd hl fun v w1 _ => ⟨_, rfl⟩
  | give e => exact thenT_ends hc (by cases d <;> exact h) (by omega) hd hl fun v w1 _ => ⟨_, rfl⟩
  | raise e => exact thenT_ends hc (by cases d <;> exact h) (by omega) hd hl fun v w1 _ => ⟨_, rfl⟩
  | ife e a b =>
    cases d with
    | zero => cases h
    | succ d =>
    have h : (e.ok P.length 6 && (oks P.length l d a && oks P.length l d b)) = true := h
    rw [Bool.and_eq_true, Bool.and_eq_true] at h
    refine thenT_ends hc h.1 (by omega) hd hl fun v w1 l1 => ?_
    have l1d := l1.deep
    split
    · exact hb d (by omega) (q + 1) (by omega) l b bx w1 h.2.2 (by rw [l1d, hd]) hl
    · exact hb d (by omega) (q + 1) (by omega) l a bx w1 h.2.1 (by rw [l1d, hd]) hl
  | loop e b =>
    cases d with
    | zero => cases h
    | succ d =>
    have h : (e.ok P.length 6 && oks P.length true d b) = true := h
    rw [Bool.and_eq_true] at h
    exact loop_ends hc h.1 (by omega) (fun bx w hd hl => hb d (by omega) q (by omega) true b bx w h.2 hd hl) _ bx w (by omega) hd hl
  | ctch b m k a =>
    cases d with
    | zero => cases h
    | succ d =>
    have h : (oks P.length l d b && (decide (0 ≤ k ∧ k < 4) && oks P.length l d a)) = true := h
    rw [Bool.and_eq_true, Bool.and_eq_true] at h
    have hk := of_decide_eq_true h.2.1
    obtain ⟨⟨⟨wy, z⟩, bx2, w2⟩, h2⟩ := hb d (by omega) q (by omega) l b bx w h.1 hd hl
    have g2 := (good_ev P q).block h2
    have e1 : (ev P (q + 1)).ctch b m k a bx w = ctchS (ev P q) b m k a bx w := rfl
    show ∃ x, (ev P (q + 1)).ctch b m k a bx w = some x
    rw [e1]
    unfold ctchS
    simp only [h2]
    cases wy with
    | fault =>
      dsimp only
      split
      · exact ⟨_, rfl⟩
      · rw [if_pos ⟨hk.1, by rw [g2.2, hl]; omega⟩]
        exact hb d (by omega) q (by omega) l a _ w2 h.2.2 (by rw [g2.1.deep, hd]) (by rw [List.length_set, g2.2, hl])
    | _ => exact ⟨_, rfl⟩
  | endd b a =>
    cases d with
    | zero => cases h
    | succ d =>
    have h : (oks P.length l d b && oks P.length l d a) = true := h
    rw [Bool.and_eq_true] at h
    obtain ⟨⟨⟨wy, z⟩, bx2, w2⟩, h2⟩ := hb d (by omega) q (by omega) l b bx w h.1 hd hl
    have g2 := (good_ev P q).block h2
    obtain ⟨⟨⟨wy3, z3⟩, bx3, w3⟩, h3⟩ := hb d (by omega) q (by omega) l a bx2 w2 h.2 (by rw [g2.1.deep, hd]) (by rw [g2.2, hl])
    have e1 : (ev P (q + 1)).endd b a bx w = endS (ev P q) b a bx w := rfl
    show ∃ x, (ev P (q + 1)).endd b a bx w = some x
    rw [e1]
    unfold endS
    simp only [h2]
    cases wy with
    | tired => exact ⟨_, rfl⟩
    | _ =>
      simp only [h3]
      cases wy3 <;> exact ⟨_, rfl⟩
theorem block_of_rows {dp d cr : Nat} (hr : ∀ n, cr ≤ n → ∀ (l : Bool) (s : Sm) (bx : List Int) (w : Wd), s.ok P.length l d = true → w.deep = dp → bx.length = 4 → ∃ x, (ev P n).row s bx w = some x) : BlocksEnd P dp d (cr + 1) := by
  intro n hn l b bx w h hd hl
  obtain ⟨m, rfl⟩ : ∃ m, n = m + 1 := ⟨n - 1, by omega⟩
  show ∃ x, blockS (ev P m) b bx w = some x
  induction b generalizing bx w with
  | nil => exact ⟨_, rfl⟩
  | cons s b ih =>
    rw [oks_cons, Bool.and_eq_true] at h
    obtain ⟨⟨⟨wy, z⟩, bx2, w2⟩, h2⟩ := hr m (by omega) l s bx w h.1 hd hl
    have g2 := (good_ev P m).row h2
    unfold blockS
    simp only [h2]
    cases wy with
    | on => exact ih bx2 w2 h.2 (by rw [g2.1.deep, hd]) (by rw [g2.2, hl])
    | _ => exact ⟨_, rfl⟩
theorem BlocksEnd.up {dp d c c' : Nat} (h : BlocksEnd P dp d c) (hc : c ≤ c') : BlocksEnd P dp d c' := fun n hn => h n (by omega)
theorem blocks_end {dp c : Nat} (hc : CallsEnd P dp c) : ∀ d, BlocksEnd P dp d (c + 6 + 3 * (d + 1)) := by
  intro d
  induction d using Nat.strongRecOn with
  | ind d ih =>
    cases d with
    | zero => exact (block_of_rows (row_ends hc (Nat.le_refl _) (fun d' hd' => absurd hd' (by omega)))).up (by omega)
    | succ d =>
      refine (block_of_rows (row_ends hc (cb := c + 6 + 3 * (d + 1)) (by omega) fun d' hd' => (ih d' (by omega)).up (by omega))).up (by omega)
/-- r functions may stand within this one -/
theorem calls_end (hok : okProg P = true) : ∀ r dp, dp + r = 8 → CallsEnd P dp (1 + 32 * r) := by
  unfold okProg at hok
  rw [Bool.and_eq_true] at hok
  have hk2 := List.all_eq_true.mp hok.2
  intro r
  induction r with
  | zero =>
    intro dp hdp n hn f v w hd h0 h1
    obtain ⟨m, rfl⟩ : ∃ m, n = m + 1 := ⟨n - 1, by omega⟩
    show ∃ x, callS (ev P m) f v w = some x
    unfold callS
    split
    · exact ⟨_, rfl⟩
    · rw [if_pos (by omega)]
      exact ⟨_, rfl⟩
  | succ r ih =>
    intro dp hdp n hn f v w hd h0 h1
    obtain ⟨m, rfl⟩ : ∃ m, n = m + 1 := ⟨n - 1, by omega⟩
    obtain ⟨q, rfl⟩ : ∃ q, m = q + 1 := ⟨m - 1, by omega⟩
    show ∃ x, callS (ev P (q + 1)) f v w = some x
    unfold callS
    split
    · exact ⟨_, rfl⟩
    · rw [if_neg (by omega)]
      have eb : at? P f = some P[f.toNat] := by
        rw [at?, if_pos h0, List.getElem?_eq_getElem (by omega)]
      obtain ⟨x, hx⟩ := blocks_end (ih (dp + 1) (by omega)) 7 q (by omega) false P[f.toNat] [v, 0, 0, 0] { w with turns := w.turns - 1, deep := w.deep + 1 } (hk2 _ (List.getElem_mem _)) (by dsimp only; omega) rfl
      show ∃ x, enterS P (ev P q) f v { w with turns := w.turns - 1 } = some x
      unfold enterS
      rw [eb]
      dsimp only at hx ⊢
      rw [hx]
      exact ⟨_, rfl⟩
theorem enter_ends (hok : okProg P = true) (v : Int) (t : Nat) : ∃ x, (ev P 256).enter 0 v ⟨[], t, 0⟩ = some x := by
  have hc := calls_end hok 7 1 rfl
  unfold okProg at hok
  rw [Bool.and_eq_true] at hok
  have hk1 := of_decide_eq_true hok.1
  have hk2 := List.all_eq_true.mp hok.2
  have eb : at? P 0 = some P[0] := by
    rw [at?, if_pos (by decide)]
    exact List.getElem?_eq_getElem (by omega)
  obtain ⟨x, hx⟩ := blocks_end hc 7 255 (by omega) false P[0] [v, 0, 0, 0] ⟨[], t, 0 + 1⟩ (hk2 _ (List.getElem_mem _)) rfl rfl
  show ∃ x, enterS P (ev P 255) 0 v ⟨[], t, 0⟩ = some x
  unfold enterS
  rw [eb]
  dsimp only at hx ⊢
  rw [hx]
  exact ⟨_, rfl⟩
end
end Un

/-! how much is said -/
namespace Un
open PySem
mutual
def Sm.says : Sm → Nat
  | .say _ => 1
  | .ife _ a b => saysL a + saysL b
  | .loop _ b => saysL b
  | .ctch b _ _ h => saysL b + saysL h
  | .endd b l => saysL b + saysL l
  | .set _ _ => 0
  | .leave => 0
  | .next => 0
  | .give _ => 0
  | .raise _ => 0
def saysL : List Sm → Nat
  | [] => 0
  | s :: b => s.says + saysL b
end
def phi (M : Nat) (w : Wd) : Nat := w.said.length + w.turns * M
theorem phi_turn {M : Nat} {w : Wd} (h : w.turns ≠ 0) : phi M { w with turns := w.turns - 1 } + M = phi M w := by
  unfold phi
  dsimp only
  obtain ⟨t, e⟩ : ∃ t, w.turns = t + 1 := ⟨w.turns - 1, by omega⟩
  rw [e, Nat.add_sub_cancel, Nat.succ_mul]
  omega
theorem phi_deep {M : Nat} {w : Wd} {d : Nat} : phi M { w with deep := d } = phi M w := rfl
structure Sb (E : Ev) (M : Nat) : Prop where
  tree : ∀ {t bx w r w'}, E.tree t bx w = some (r, w') → phi M w' ≤ phi M w
  call : ∀ {f v w r w'}, E.call f v w = some (r, w') → phi M w' ≤ phi M w
  enter : ∀ {f v w r w'}, E.enter f v w = some (r, w') → phi M w' ≤ phi M w + M
  block : ∀ {b bx w r bx' w'}, saysL b ≤ M → E.block b bx w = some (r, bx', w') → phi M w' ≤ phi M w + saysL b
  row : ∀ {s bx w r bx' w'}, s.says ≤ M → E.row s bx w = some (r, bx', w') → phi M w' ≤ phi M w + s.says
  loop : ∀ {e b bx w r bx' w'}, saysL b ≤ M → E.loop e b bx w = some (r, bx', w') → phi M w' ≤ phi M w
  ctch : ∀ {b n k h bx w r bx' w'}, saysL b + saysL h ≤ M → E.ctch b n k h bx w = some (r, bx', w') → phi M w' ≤ phi M w + (saysL b + saysL h)
  endd : ∀ {b l bx w r bx' w'}, saysL b + saysL l ≤ M → E.endd b l bx w = some (r, bx', w') → phi M w' ≤ phi M w + (saysL b + saysL l)
theorem sb_no (M : Nat) : Sb Ev.no M := by
  constructor
  case block => intro _ _ _ _ _ _ _ h; cases h
  case row => intro _ _ _ _ _ _ _ h; cases h
  case loop => intro _ _ _ _ _ _ _ _ h; cases h
  case ctch => intro _ _ _ _ _ _ _ _ _ _ h; cases h
  case endd => intro _ _ _ _ _ _ _ _ h; cases h
  all_goals (intros; rename_i h; cases h)
theorem thenT_sb {E : Ev} {M : Nat} (S : Sb E M) {e : Un.Tree} {bx : List Int} {w : Wd} {k : Int → Wd → Option (Res × List Int × Wd)} {r : Res} {bx' : List Int} {w' : Wd} {a : Nat} (h : thenT E e bx w k = some (r, bx', w'))
    (hk : ∀ v w1, k v w1 = some (r, bx', w') → phi M w' ≤ phi M w1 + a) : phi M w' ≤ phi M w + a := by
  unfold thenT at h
  split at h
  · rename_i v w1 he
    have q := hk _ _ h
    have q2 := S.tree he
    omega
  · rename_i r1 w1 _ he
    cases h
    have q2 := S.tree he
    omega
  · cases h
theorem loopGo_sb {E : Ev} {M : Nat} (S : Sb E M) (e : Un.Tree) (b : List Sm) (hb : saysL b ≤ M) : ∀ (c : Nat) {bx : List Int} {w : Wd} {r : Res} {bx' : List Int} {w' : Wd}, loopGo E e b c bx w = some (r, bx', w') → phi M w' ≤ phi M w
  | 0, _, _, _, _, _, h => by cases h
  | c + 1, bx, w, r, bx', w', h => by
    unfold loopGo at h
    split at h
    · cases h
      exact Nat.le_refl _
    · rename_i ht
      have pt := phi_turn (M := M) ht
      have q := thenT_sb (a := M) S h fun v w1 hk => by
        split at hk
        · cases hk
          omega
        · split at hk
          · rename_i h2
            cases hk
            have := S.block hb h2
            omega
          · rename_i h2
            have := S.block hb h2
            have := loopGo_sb S e b hb c hk
            omega
          · rename_i h2
            have := S.block hb h2
            have := loopGo_sb S e b hb c hk
            omega
          · have := S.block hb hk
            omega
      omega
theorem blockS_sb {E : Ev} {M : Nat} (S : Sb E M) : ∀ (b : List Sm) {bx : List Int} {w : Wd} {r : Res} {bx' : List Int} {w' : Wd}, saysL b ≤ M → blockS E b bx w = some (r, bx', w') → phi M w' ≤ phi M w + saysL b
  | [], _, _, _, _, _, _, h => by
    cases h
    exact Nat.le_refl _
  | s :: b, bx, w, r, bx', w', hb, h => by
    rw [saysL] at hb ⊢
    unfold blockS at h
    split at h
    · rename_i hr
      have i := S.row (by omega) hr
      have j := blockS_sb S b (by omega) h
      omega
    · have i := S.row (by omega) h
      omega
theorem sb_ev {P : List (List Sm)} {M : Nat} (hP : ∀ b ∈ P, saysL b ≤ M) : ∀ n, Sb (ev P n) M
  | 0 => sb_no M
  | n + 1 => by
    have S := sb_ev hP n
    refine ⟨?_, ?_, ?_, fun hb h => blockS_sb S _ hb h, ?_, fun hb h => loopGo_sb S _ _ hb _ h, ?_, ?_⟩
    · intro t bx w r w' h
      have h : treeS (ev P n) t bx w = some (r, w') := h
      unfold treeS at h
      cases t with
      | num n => cases h; exact Nat.le_refl _
      | box k =>
        dsimp only at h
        cases hv : at? bx k with
        | none => rw [hv] at h; cases h
        | some v => rw [hv] at h; cases h; exact Nat.le_refl _
      | call f t =>
        dsimp only at h
        split at h
        · rename_i he
          exact Nat.le_trans (S.call h) (S.tree he)
        · exact S.tree h
      | bin o a b =>
        dsimp only at h
        split at h
        · rename_i ha
          split at h
          · rename_i hb
            cases h
            exact Nat.le_trans (S.tree hb) (S.tree ha)
          · exact Nat.le_trans (S.tree h) (S.tree ha)
        · exact S.tree h
    · intro f v w r w' h
      have h : callS (ev P n) f v w = some (r, w') := h
      unfold callS at h
      split at h
      · cases h; exact Nat.le_refl _
      · rename_i ht
        have pt := phi_turn (M := M) ht
        split at h
        · cases h
          omega
        · have := S.enter h
          omega
    · intro f v w r w' h
      have h : enterS P (ev P n) f v w = some (r, w') := h
      unfold enterS at h
      split at h
      · cases h
      · rename_i b hb
        cases hb2 : (ev P n).block b [v, 0, 0, 0] { w with deep := w.deep + 1 } with
        | none => rw [hb2] at h; cases h
        | some x =>
          obtain ⟨r1, bx1, w1⟩ := x
          rw [hb2] at h
          cases h
          have hm : b ∈ P := by
            unfold at? at hb
            split at hb
            · exact List.mem_of_getElem? hb
            · cases hb
          have i := S.block (hP b hm) hb2
          have hl := hP b hm
          have e1 : phi M { w with deep := w.deep + 1 } = phi M w := rfl
          have e2 : phi M { w1 with deep := w1.deep - 1 } = phi M w1 := rfl
          rw [e2]
          omega
    · intro s bx w r bx' w' hs h
      have h : rowS (ev P n) s bx w = some (r, bx', w') := h
      unfold rowS at h
      cases s with
      | leave => cases h; exact Nat.le_refl _
      | next => cases h; exact Nat.le_refl _
      | loop e b =>
        have hs : saysL b ≤ M := hs
        have := S.loop hs h
        omega
      | ctch b n k h' => exact S.ctch hs h
      | endd b l => exact S.endd hs h
      | ife e a b =>
        have hs : saysL a + saysL b ≤ M := hs
        refine thenT_sb S h fun v w1 hk => ?_
        show _ ≤ _ + (saysL a + saysL b)
        split at hk
        · have := S.block (by omega) hk
          omega
        · have := S.block (by omega) hk
          omega
      | give e => exact thenT_sb S h fun v w1 hk => by cases hk; exact Nat.le_add_right _ _
      | raise e => exact thenT_sb S h fun v w1 hk => by cases hk; exact Nat.le_add_right _ _
      | set k e =>
        refine thenT_sb S h fun v w1 hk => ?_
        split at hk
        · cases hk
          exact Nat.le_add_right _ _
        · cases hk
      | say e =>
        refine thenT_sb S h fun v w1 hk => ?_
        cases hk
        show phi M _ ≤ phi M w1 + 1
        unfold phi
        simp only [List.length_append, List.length_singleton]
        omega
    · intro b m k h' bx w r bx' w' hs h
      have h : ctchS (ev P n) b m k h' bx w = some (r, bx', w') := h
      unfold ctchS at h
      split at h
      · rename_i hb
        have i := S.block (by omega) hb
        split at h
        · cases h
          omega
        · split at h
          · have j := S.block (by omega) h
            omega
          · cases h
      · have := S.block (by omega) h
        omega
    · intro b l bx w r bx' w' hs h
      have h : endS (ev P n) b l bx w = some (r, bx', w') := h
      unfold endS at h
      split at h
      · rename_i hb
        cases h
        have := S.block (by omega) hb
        omega
      · rename_i hb
        have i := S.block (by omega) hb
        split at h
        · rename_i hl
          cases h
          have j := S.block (by omega) hl
          omega
        · have j := S.block (by omega) h
          omega
      · cases h
/-- what a program tells, and that it is short -/
theorem told_ends {P : List (List Sm)} (hok : okProg P = true) {M : Nat} (hP : ∀ b ∈ P, saysL b ≤ M) (v : Int) (t : Nat) : ∃ r w', (ev P 256).enter 0 v ⟨[], t, 0⟩ = some (r, w') ∧ w'.said.length ≤ (t + 1) * M := by
  obtain ⟨⟨r, w'⟩, h⟩ := enter_ends hok v t
  refine ⟨r, w', h, ?_⟩
  have q := (sb_ev hP 256).enter h
  unfold phi at q
  dsimp only at q
  rw [Nat.succ_mul]
  have : ([] : List Int).length = 0 := rfl
  have : 0 ≤ w'.turns * M := Nat.zero_le _
  omega
end Un

/-! a tree's way is never "on" -/
namespace Un
open PySem
structure NotOn (E : Ev) : Prop where
  tree : ∀ {t bx w r w'}, E.tree t bx w = some (r, w') → r.1 ≠ .on
  call : ∀ {f v w r w'}, E.call f v w = some (r, w') → r.1 ≠ .on
  enter : ∀ {f v w r w'}, E.enter f v w = some (r, w') → r.1 ≠ .on
theorem joinT_on (o : Op) (a b : Int) : (joinT o a b).1 ≠ .on := by
  cases o with
  | share =>
    unfold joinT
    split
    · rename_i h; cases h
    · rename_i h; cases h
    · rename_i h; cases h
    · split <;> (intro h; cases h)
  | _ => intro h; cases h
theorem outOf_on (r : Res) : (outOf r).1 ≠ .on := by
  obtain ⟨y, v⟩ := r
  cases y <;> (intro h; cases h)
theorem notOn_ev (P : List (List Sm)) : ∀ n, NotOn (ev P n)
  | 0 => by constructor <;> (intros; rename_i h; cases h)
  | n + 1 => by
    have N := notOn_ev P n
    refine ⟨?_, ?_, ?_⟩
    · intro t bx w r w' h
      have h : treeS (ev P n) t bx w = some (r, w') := h
      unfold treeS at h
      cases t with
      | num n => cases h; intro h; cases h
      | box k =>
        dsimp only at h
        cases hv : at? bx k with
        | none => rw [hv] at h; cases h
        | some v => rw [hv] at h; cases h; intro h; cases h
      | call f t =>
        dsimp only at h
        split at h
        · exact N.call h
        · exact N.tree h
      | bin o a b =>
        dsimp only at h
        split at h
        · split at h
          · cases h; exact joinT_on _ _ _
          · exact N.tree h
        · exact N.tree h
    · intro f v w r w' h
      have h : callS (ev P n) f v w = some (r, w') := h
      unfold callS at h
      split at h
      · cases h; intro h; cases h
      · split at h
        · cases h; intro h; cases h
        · exact N.enter h
    · intro f v w r w' h
      have h : enterS P (ev P n) f v w = some (r, w') := h
      unfold enterS at h
      split at h
      · cases h
      · rename_i b hb
        cases hb2 : (ev P n).block b [v, 0, 0, 0] { w with deep := w.deep + 1 } with
        | none => rw [hb2] at h; cases h
        | some x =>
          rw [hb2] at h
          cases h
          exact outOf_on _
end Un

/-! what is told at a level is told at every higher one -/
namespace Un
open PySem
structure LeE (E E' : Ev) : Prop where
  tree : ∀ {t bx w x}, E.tree t bx w = some x → E'.tree t bx w = some x
  call : ∀ {f v w x}, E.call f v w = some x → E'.call f v w = some x
  enter : ∀ {f v w x}, E.enter f v w = some x → E'.enter f v w = some x
  block : ∀ {b bx w x}, E.block b bx w = some x → E'.block b bx w = some x
  row : ∀ {s bx w x}, E.row s bx w = some x → E'.row s bx w = some x
  loop : ∀ {e b bx w x}, E.loop e b bx w = some x → E'.loop e b bx w = some x
  ctch : ∀ {b n k h bx w x}, E.ctch b n k h bx w = some x → E'.ctch b n k h bx w = some x
  endd : ∀ {b l bx w x}, E.endd b l bx w = some x → E'.endd b l bx w = some x
section
variable {E E' : Ev} (L : LeE E E')
include L
theorem leE_tree {t bx w x} (h : treeS E t bx w = some x) : treeS E' t bx w = some x := by
  unfold treeS at h ⊢
  cases t with
  | num n => exact h
  | box k => exact h
  | call f t =>
    dsimp only at h ⊢
    cases h1 : E.tree t bx w with
    | none => rw [h1] at h; cases h
    | some p =>
      rw [h1] at h
      rw [L.tree h1]
      obtain ⟨⟨y, z⟩, w1⟩ := p
      cases y with
      | value => exact L.call h
      | _ => exact h
  | bin o a b =>
    dsimp only at h ⊢
    cases h1 : E.tree a bx w with
    | none => rw [h1] at h; cases h
    | some p =>
      rw [h1] at h
      rw [L.tree h1]
      obtain ⟨⟨y, z⟩, w1⟩ := p
      cases y with
      | value =>
        dsimp only at h ⊢
        cases h2 : E.tree b bx w1 with
        | none => rw [h2] at h; cases h
        | some p =>
          rw [h2] at h
          rw [L.tree h2]
          exact h
      | _ => exact h
theorem leE_then {e bx w x} {k k' : Int → Wd → Option (Res × List Int × Wd)} (hk : ∀ v w1 x, k v w1 = some x → k' v w1 = some x) (h : thenT E e bx w k = some x) : thenT E' e bx w k' = some x := by
  unfold thenT at h ⊢
  cases h1 : E.tree e bx w with
  | none => rw [h1] at h; cases h
  | some p =>
    rw [h1] at h
    rw [L.tree h1]
    obtain ⟨⟨y, z⟩, w1⟩ := p
    cases y with
    | value => exact hk _ _ _ h
    | _ => exact h
theorem leE_loop {e b} : ∀ (c : Nat) {bx w x}, loopGo E e b c bx w = some x → loopGo E' e b c bx w = some x
  | 0, _, _, _, h => by cases h
  | c + 1, bx, w, x, h => by
    unfold loopGo at h ⊢
    split at h
    · rename_i ht
      rw [if_pos ht]
      exact h
    · rename_i ht
      rw [if_neg ht]
      refine leE_then L (fun v w1 x hx => ?_) h
      split at hx
      · rename_i hv
        rw [if_pos hv]
        exact hx
      · rename_i hv
        rw [if_neg hv]
        cases h1 : E.block b bx w1 with
        | none => rw [h1] at hx; cases hx
        | some p =>
          rw [h1] at hx
          rw [L.block h1]
          obtain ⟨⟨y, z⟩, bx2, w2⟩ := p
          cases y with
          | on => exact leE_loop c hx
          | next => exact leE_loop c hx
          | _ => exact hx
theorem leE_block : ∀ (b : List Sm) {bx w x}, blockS E b bx w = some x → blockS E' b bx w = some x
  | [], _, _, _, h => h
  | s :: b, bx, w, x, h => by
    unfold blockS at h ⊢
    cases h1 : E.row s bx w with
    | none => rw [h1] at h; cases h
    | some p =>
      rw [h1] at h
      rw [L.row h1]
      obtain ⟨⟨y, z⟩, bx2, w2⟩ := p
      cases y with
      | on => exact leE_block b h
      | _ => exact h
theorem leE_row {s bx w x} (h : rowS E s bx w = some x) : rowS E' s bx w = some x := by
  unfold rowS at h ⊢
  cases s with
  | leave => exact h
  | next => exact h
  | loop e b => exact L.loop h
  | ctch b n k h' => exact L.ctch h
  | endd b l => exact L.endd h
  | ife e a b => exact leE_then L (fun v w1 x hx => L.block hx) h
  | give e => exact leE_then L (fun v w1 x hx => hx) h
  | raise e => exact leE_then L (fun v w1 x hx => hx) h
  | set k e => exact leE_then L (fun v w1 x hx => hx) h
  | say e => exact leE_then L (fun v w1 x hx => hx) h
theorem leE_ctch {b n k h' bx w x} (h : ctchS E b n k h' bx w = some x) : ctchS E' b n k h' bx w = some x := by
  unfold ctchS at h ⊢
  cases h1 : E.block b bx w with
  | none => rw [h1] at h; cases h
  | some p =>
    rw [h1] at h
    rw [L.block h1]
    obtain ⟨⟨y, z⟩, bx2, w2⟩ := p
    cases y with
    | fault =>
      dsimp only at h ⊢
      split at h
      · rename_i hc
        rw [if_pos hc]
        exact h
      · rename_i hc
        rw [if_neg hc]
        split at h
        · rename_i hk
          rw [if_pos hk]
          exact L.block h
        · cases h
    | _ => exact h
theorem leE_endd {b l bx w x} (h : endS E b l bx w = some x) : endS E' b l bx w = some x := by
  unfold endS at h ⊢
  cases h1 : E.block b bx w with
  | none => rw [h1] at h; cases h
  | some p =>
    rw [h1] at h
    rw [L.block h1]
    obtain ⟨⟨y, z⟩, bx2, w2⟩ := p
    have go : ∀ r : Res, (match E.block l bx2 w2 with
        | some ((.on, _), bx2, w2) => some (r, bx2, w2)
        | r2 => r2) = some x → (match E'.block l bx2 w2 with
        | some ((.on, _), bx2, w2) => some (r, bx2, w2)
        | r2 => r2) = some x := fun r h => by
      cases h2 : E.block l bx2 w2 with
      | none => rw [h2] at h; cases h
      | some p =>
        rw [h2] at h
        rw [L.block h2]
        exact h
    cases y with
    | tired => exact h
    | _ => exact go _ h
theorem leE_call {f v w x} (h : callS E f v w = some x) : callS E' f v w = some x := by
  unfold callS at h ⊢
  split at h
  · rename_i ht
    rw [if_pos ht]
    exact h
  · rename_i ht
    rw [if_neg ht]
    split at h
    · rename_i hd
      rw [if_pos hd]
      exact h
    · rename_i hd
      rw [if_neg hd]
      exact L.enter h
theorem leE_enter {P : List (List Sm)} {f v w x} (h : enterS P E f v w = some x) : enterS P E' f v w = some x := by
  unfold enterS at h ⊢
  split at h
  · cases h
  · rename_i b hb
    cases h1 : E.block b [v, 0, 0, 0] { w with deep := w.deep + 1 } with
    | none => rw [h1] at h; cases h
    | some p =>
      rw [h1] at h
      rw [L.block h1]
      exact h
end
theorem leE_no (E : Ev) : LeE Ev.no E := by constructor <;> (intros; rename_i h; cases h)
theorem leE_ev (P : List (List Sm)) : ∀ n, LeE (ev P n) (ev P (n + 1))
  | 0 => leE_no _
  | n + 1 => by
    have L := leE_ev P n
    exact ⟨fun h => leE_tree L h, fun h => leE_call L h, fun h => leE_enter L h, fun h => leE_block L _ h, fun h => leE_row L h, fun h => leE_loop L _ h, fun h => leE_ctch L h, fun h => leE_endd L h⟩
end Un

/-! by which ways a good program is left -/
namespace Un
open PySem
def TW (r : Res) : Prop := r.1 = .value ∨ r.1 = .fault ∨ (r.1 = .tired ∧ r.2 = 0)
def BW (l : Bool) (r : Res) : Prop := r.1 = .on ∨ r.1 = .give ∨ r.1 = .fault ∨ (r.1 = .tired ∧ r.2 = 0) ∨ (l = true ∧ (r.1 = .leave ∨ r.1 = .next))
theorem TW.bw {r : Res} {l : Bool} (h : TW r) (hv : r.1 ≠ .value) : BW l r := by
  rcases h with h | h | h
  · exact absurd h hv
  · exact .inr (.inr (.inl h))
  · exact .inr (.inr (.inr (.inl h)))
structure Ways (P : List (List Sm)) (E : Ev) : Prop where
  tree : ∀ {t bx w r w'}, E.tree t bx w = some (r, w') → TW r
  call : ∀ {f v w r w'}, E.call f v w = some (r, w') → TW r
  enter : ∀ {f v w r w'}, E.enter f v w = some (r, w') → TW r
  block : ∀ {l d b bx w r bx' w'}, oks P.length l d b = true → E.block b bx w = some (r, bx', w') → BW l r
  row : ∀ {l d s bx w r bx' w'}, s.ok P.length l d = true → E.row s bx w = some (r, bx', w') → BW l r
  loop : ∀ {d e b bx w r bx' w'} (l : Bool), oks P.length true d b = true → E.loop e b bx w = some (r, bx', w') → BW l r
  ctch : ∀ {l d b n k h bx w r bx' w'}, oks P.length l d b = true → oks P.length l d h = true → E.ctch b n k h bx w = some (r, bx', w') → BW l r
  endd : ∀ {l d b a bx w r bx' w'}, oks P.length l d b = true → oks P.length l d a = true → E.endd b a bx w = some (r, bx', w') → BW l r
theorem ways_no (P : List (List Sm)) : Ways P Ev.no := by
  constructor
  case block => intro _ _ _ _ _ _ _ _ _ h; cases h
  case row => intro _ _ _ _ _ _ _ _ _ h; cases h
  case loop => intro _ _ _ _ _ _ _ _ _ _ h; cases h
  case ctch => intro _ _ _ _ _ _ _ _ _ _ _ _ _ h; cases h
  case endd => intro _ _ _ _ _ _ _ _ _ _ _ h; cases h
  all_goals (intros; rename_i h; cases h)
section
variable {P : List (List Sm)} {E : Ev} (W : Ways P E)
include W
theorem then_way {l : Bool} {e bx w r bx' w'} {k : Int → Wd → Option (Res × List Int × Wd)} (h : thenT E e bx w k = some (r, bx', w')) (hk : ∀ v w1, k v w1 = some (r, bx', w') → BW l r) : BW l r := by
  unfold thenT at h
  cases h1 : E.tree e bx w with
  | none => rw [h1] at h; cases h
  | some p =>
    obtain ⟨⟨y, z⟩, w1⟩ := p
    rw [h1] at h
    have t := W.tree h1
    cases y with
    | value => exact hk _ _ h
    | _ => cases h; exact t.bw (by intro h; cases h)
theorem loop_way {l : Bool} {d e b} (hb : oks P.length true d b = true) : ∀ (c : Nat) {bx w r bx' w'}, loopGo E e b c bx w = some (r, bx', w') → BW l r
  | 0, _, _, _, _, _, h => by cases h
  | c + 1, bx, w, r, bx', w', h => by
    unfold loopGo at h
    split at h
    · cases h
      exact .inr (.inr (.inr (.inl ⟨rfl, rfl⟩)))
    · refine then_way W h fun v w1 hk => ?_
      split at hk
      · cases hk
        exact .inl rfl
      · cases h1 : E.block b bx w1 with
        | none => rw [h1] at hk; cases hk
        | some p =>
          obtain ⟨⟨y, z⟩, bx2, w2⟩ := p
          rw [h1] at hk
          have t := W.block hb h1
          cases y with
          | on => exact loop_way hb c hk
          | next => exact loop_way hb c hk
          | leave => cases hk; exact .inl rfl
          | give => cases hk; exact .inr (.inl rfl)
          | fault => cases hk; exact .inr (.inr (.inl rfl))
          | tired =>
            cases hk
            rcases t with t | t | t | t | ⟨_, t | t⟩
            · cases t
            · cases t
            · cases t
            · exact .inr (.inr (.inr (.inl t)))
            · cases t
            · cases t
          | value =>
            cases hk
            rcases t with t | t | t | ⟨t, _⟩ | ⟨_, t | t⟩ <;> cases t
theorem block_way {l : Bool} {d : Nat} : ∀ (b : List Sm) {bx w r bx' w'}, oks P.length l d b = true → blockS E b bx w = some (r, bx', w') → BW l r
  | [], _, _, _, _, _, _, h => by cases h; exact .inl rfl
  | s :: b, bx, w, r, bx', w', hb, h => by
    rw [oks_cons, Bool.and_eq_true] at hb
    unfold blockS at h
    cases h1 : E.row s bx w with
    | none => rw [h1] at h; cases h
    | some p =>
      obtain ⟨⟨y, z⟩, bx2, w2⟩ := p
      rw [h1] at h
      have t := W.row hb.1 h1
      cases y with
      | on => exact block_way b hb.2 h
      | _ => cases h; exact t
theorem row_way {l : Bool} {d : Nat} {s bx w r bx' w'} (hs : s.ok P.length l d = true) (h : rowS E s bx w = some (r, bx', w')) : BW l r := by
  unfold rowS at h
  cases s with
  | leave =>
    cases h
    have : l = true := by cases d <;> exact hs
    exact .inr (.inr (.inr (.inr ⟨this, .inl rfl⟩)))
  | next =>
    cases h
    have : l = true := by cases d <;> exact hs
    exact .inr (.inr (.inr (.inr ⟨this, .inr rfl⟩)))
  | give e => exact then_way W h fun v w1 hk => by cases hk; exact .inr (.inl rfl)
  | raise e => exact then_way W h fun v w1 hk => by cases hk; exact .inr (.inr (.inl rfl))
  | set k e =>
    refine then_way W h fun v w1 hk => ?_
    split at hk
    · cases hk; exact .inl rfl
    · cases hk
  | say e => exact then_way W h fun v w1 hk => by cases hk; exact .inl rfl
  | ife e a b =>
    cases d with
    | zero => cases hs
    | succ d =>
    have hs : (e.ok P.length 6 && (oks P.length l d a && oks P.length l d b)) = true := hs
    rw [Bool.and_eq_true, Bool.and_eq_true] at hs
    refine then_way W h fun v w1 hk => ?_
    split at hk
    · exact W.block hs.2.2 hk
    · exact W.block hs.2.1 hk
  | loop e b =>
    cases d with
    | zero => cases hs
    | succ d =>
    have hs : (e.ok P.length 6 && oks P.length true d b) = true := hs
    rw [Bool.and_eq_true] at hs
    exact W.loop l hs.2 h
  | ctch b n k a =>
    cases d with
    | zero => cases hs
    | succ d =>
    have hs : (oks P.length l d b && (decide (0 ≤ k ∧ k < 4) && oks P.length l d a)) = true := hs
    rw [Bool.and_eq_true, Bool.and_eq_true] at hs
    exact W.ctch hs.1 hs.2.2 h
  | endd b a =>
    cases d with
    | zero => cases hs
    | succ d =>
    have hs : (oks P.length l d b && oks P.length l d a) = true := hs
    rw [Bool.and_eq_true] at hs
    exact W.endd hs.1 hs.2 h
theorem ctch_way {l : Bool} {d : Nat} {b n k a bx w r bx' w'} (hb : oks P.length l d b = true) (ha : oks P.length l d a = true) (h : ctchS E b n k a bx w = some (r, bx', w')) : BW l r := by
  unfold ctchS at h
  cases h1 : E.block b bx w with
  | none => rw [h1] at h; cases h
  | some p =>
    obtain ⟨⟨y, z⟩, bx2, w2⟩ := p
    rw [h1] at h
    have t := W.block hb h1
    cases y with
    | fault =>
      dsimp only at h
      split at h
      · cases h; exact t
      · split at h
        · exact W.block ha h
        · cases h
    | _ => cases h; exact t
theorem endd_way {l : Bool} {d : Nat} {b a bx w r bx' w'} (hb : oks P.length l d b = true) (ha : oks P.length l d a = true) (h : endS E b a bx w = some (r, bx', w')) : BW l r := by
  unfold endS at h
  cases h1 : E.block b bx w with
  | none => rw [h1] at h; cases h
  | some p =>
    obtain ⟨⟨y, z⟩, bx2, w2⟩ := p
    rw [h1] at h
    have t := W.block hb h1
    have go : ∀ q : Res, BW l q → (match E.block a bx2 w2 with
        | some ((.on, _), bx2, w2) => some (q, bx2, w2)
        | r2 => r2) = some (r, bx', w') → BW l r := fun q hq h => by
      cases h2 : E.block a bx2 w2 with
      | none => rw [h2] at h; cases h
      | some p =>
        obtain ⟨⟨y3, z3⟩, bx3, w3⟩ := p
        rw [h2] at h
        have t2 := W.block ha h2
        cases y3 <;> first | (cases h; exact hq) | (cases h; exact t2)
    cases y with
    | tired => cases h; exact t
    | _ => exact go _ t h
end
theorem joinT_way (o : Op) (a b : Int) : TW (joinT o a b) := by
  cases o with
  | share =>
    by_cases h : b = 0
    · rw [joinT, if_pos h]; exact .inr (.inl rfl)
    · rw [joinT, if_neg h]; exact .inl rfl
  | _ => exact .inl rfl
theorem ways_ev {P : List (List Sm)} (hok : okProg P = true) : ∀ n, Ways P (ev P n)
  | 0 => ways_no P
  | n + 1 => by
    have W := ways_ev hok n
    refine ⟨?_, ?_, ?_, fun hb h => block_way W _ hb h, fun hs h => row_way W hs h, fun l hb h => loop_way W hb _ h, fun hb ha h => ctch_way W hb ha h, fun hb ha h => endd_way W hb ha h⟩
    · intro t bx w r w' h
      have h : treeS (ev P n) t bx w = some (r, w') := h
      unfold treeS at h
      cases t with
      | num n => cases h; exact .inl rfl
      | box k =>
        dsimp only at h
        cases hv : at? bx k with
        | none => rw [hv] at h; cases h
        | some v => rw [hv] at h; cases h; exact .inl rfl
      | call f t =>
        dsimp only at h
        split at h
        · exact W.call h
        · exact W.tree h
      | bin o a b =>
        dsimp only at h
        split at h
        · split at h
          · cases h; exact joinT_way _ _ _
          · exact W.tree h
        · exact W.tree h
    · intro f v w r w' h
      have h : callS (ev P n) f v w = some (r, w') := h
      unfold callS at h
      split at h
      · cases h; exact .inr (.inr ⟨rfl, rfl⟩)
      · split at h
        · cases h; exact .inr (.inl rfl)
        · exact W.enter h
    · intro f v w r w' h
      have h : enterS P (ev P n) f v w = some (r, w') := h
      unfold enterS at h
      split at h
      · cases h
      · rename_i b hb
        have hm : b ∈ P := by
          unfold at? at hb
          split at hb
          · exact List.mem_of_getElem? hb
          · cases hb
        unfold okProg at hok
        rw [Bool.and_eq_true] at hok
        have hk := List.all_eq_true.mp hok.2 b hm
        cases hb2 : (ev P n).block b [v, 0, 0, 0] { w with deep := w.deep + 1 } with
        | none => rw [hb2] at h; cases h
        | some x =>
          obtain ⟨⟨y, z⟩, bx2, w2⟩ := x
          rw [hb2] at h
          have t := W.block hk hb2
          cases h
          rcases t with t | t | t | ⟨t, e⟩ | ⟨c, _⟩
          · cases t; exact .inl rfl
          · cases t; exact .inl rfl
          · cases t; exact .inr (.inl rfl)
          · cases t
            exact .inr (.inr ⟨rfl, e⟩)
          · cases c
end Un

set_option maxHeartbeats 4000000
namespace U
open PySem PySem.Spec PyProof.Rows L2 Un
/-! ### programs as data -/
def dT : Un.Tree → PyData
  | .num n => .tuple [.str "num", .int n]
  | .box k => .tuple [.str "box", .int k]
  | .call f t => .tuple [.str "call", .int f, dT t]
  | .bin o a b => .tuple [.str o.str, dT a, dT b]
def dN : Option Int → PyData
  | none => .none
  | some n => .int n
mutual
def dS : Sm → PyData
  | .set k e => .tuple [.str "set", .int k, dT e]
  | .say e => .tuple [.str "say", dT e]
  | .ife e a b => .tuple [.str "if", dT e, .list (dB a), .list (dB b)]
  | .loop e b => .tuple [.str "loop", dT e, .list (dB b)]
  | .leave => .tuple [.str "leave"]
  | .next => .tuple [.str "next"]
  | .give e => .tuple [.str "give", dT e]
  | .raise e => .tuple [.str "raise", dT e]
  | .ctch b n k h => .tuple [.str "catch", .list (dB b), dN n, .int k, .list (dB h)]
  | .endd b l => .tuple [.str "end", .list (dB b), .list (dB l)]
def dB : List Sm → List PyData
  | [] => []
  | s :: b => dS s :: dB b
end
def dP (P : List (List Sm)) : PyData := .list (P.map fun b => .list (dB b))
section
variable {K : PySem.W.Frag} {H : Hp}
theorem dp_tup {v : V} {xs : List V} {ds : List PyData} (h : IsTup K H v xs) (d : DpAll K H xs ds) : Dp K H v (.tuple ds) := by
  obtain ⟨a, e, h⟩ := h
  rw [e]
  exact .tup h d
theorem dp_tree : ∀ {t : Un.Tree} {v : V}, TreeAt K H t v → Dp K H v (dT t)
  | .num _, _, h => dp_tup h (.cons (.str _) (.cons (.int _) .nil))
  | .box _, _, h => dp_tup h (.cons (.str _) (.cons (.int _) .nil))
  | .call _ _, _, h => by
    obtain ⟨x, h1, h2⟩ := h
    exact dp_tup h1 (.cons (.str _) (.cons (.int _) (.cons (dp_tree h2) .nil)))
  | .bin _ _ _, _, h => by
    obtain ⟨x, y, h1, h2, h3⟩ := h
    exact dp_tup h1 (.cons (.str _) (.cons (dp_tree h2) (.cons (dp_tree h3) .nil)))
theorem dp_goal (n : Option Int) : Dp K H (goalV n) (dN n) := by
  cases n with
  | none => exact .non
  | some n => exact .int n
mutual
theorem dp_sm : ∀ (s : Sm) {v : V}, SmAt K H s v → Dp K H v (dS s)
  | .set _ _, _, h => by
    obtain ⟨x, h1, h2⟩ := h
    exact dp_tup h1 (.cons (.str _) (.cons (.int _) (.cons (dp_tree h2) .nil)))
  | .say _, _, h => by
    obtain ⟨x, h1, h2⟩ := h
    exact dp_tup h1 (.cons (.str _) (.cons (dp_tree h2) .nil))
  | .ife _ a b, _, h => by
    obtain ⟨x, p, q, ps, qs, h1, h2, h3, h4, h5, h6⟩ := h
    exact dp_tup h1 (.cons (.str _) (.cons (dp_tree h2) (.cons (.lst h3 (dp_sms a h4)) (.cons (.lst h5 (dp_sms b h6)) .nil))))
  | .loop _ b, _, h => by
    obtain ⟨x, p, ps, h1, h2, h3, h4⟩ := h
    exact dp_tup h1 (.cons (.str _) (.cons (dp_tree h2) (.cons (.lst h3 (dp_sms b h4)) .nil)))
  | .leave, _, h => dp_tup h (.cons (.str _) .nil)
  | .next, _, h => dp_tup h (.cons (.str _) .nil)
  | .give _, _, h => by
    obtain ⟨x, h1, h2⟩ := h
    exact dp_tup h1 (.cons (.str _) (.cons (dp_tree h2) .nil))
  | .raise _, _, h => by
    obtain ⟨x, h1, h2⟩ := h
    exact dp_tup h1 (.cons (.str _) (.cons (dp_tree h2) .nil))
  | .ctch a n _ b, _, h => by
    obtain ⟨p, q, ps, qs, h1, h3, h4, h5, h6⟩ := h
    exact dp_tup h1 (.cons (.str _) (.cons (.lst h3 (dp_sms a h4)) (.cons (dp_goal n) (.cons (.int _) (.cons (.lst h5 (dp_sms b h6)) .nil)))))
  | .endd a b, _, h => by
    obtain ⟨p, q, ps, qs, h1, h3, h4, h5, h6⟩ := h
    exact dp_tup h1 (.cons (.str _) (.cons (.lst h3 (dp_sms a h4)) (.cons (.lst h5 (dp_sms b h6)) .nil)))
theorem dp_sms : ∀ (b : List Sm) {vs : List V}, SmsAt K H b vs → DpAll K H vs (dB b)
  | [], _, h => by
    rw [show _ = [] from h]
    exact .nil
  | s :: b, _, h => by
    obtain ⟨v, vr, e, h1, h2⟩ := h
    rw [e]
    exact .cons (dp_sm s h1) (dp_sms b h2)
end
theorem dp_bls : ∀ {P : List (List Sm)} {vs : List V}, All2 (fun v b => BlAt K H b v) vs P → DpAll K H vs (P.map fun b => .list (dB b))
  | _, _, .nil => .nil
  | _, _, .cons h hs => by
    obtain ⟨p, ps, e, h1, h2⟩ := h
    rw [e]
    exact .cons (.lst h1 (dp_sms _ h2)) (dp_bls hs)
theorem dp_prog {P : List (List Sm)} {p : Addr} (h : ProgAt K H P p) : Dp K H (.ref p) (dP P) := by
  obtain ⟨vs, h1, h2⟩ := h
  exact .lst h1 (dp_bls h2)
end
theorem dT_lay {count : Nat} : ∀ {d : Nat} {t : Un.Tree}, t.ok count d = true → (dT t).canLay0 = true ∧ (dT t).depth ≤ d := by
  intro d
  induction d with
  | zero => intro t h; cases t <;> cases h
  | succ d ih =>
    intro t h
    cases t with
    | num n =>
      refine ⟨?_, ?_⟩
      · simp only [dT, PyData.canLay0, PyData.canLayAll0]; decide +kernel
      · simp [dT, PyData.depth, PyData.depthAll]
    | box n =>
      refine ⟨?_, ?_⟩
      · simp only [dT, PyData.canLay0, PyData.canLayAll0]; decide +kernel
      · simp [dT, PyData.depth, PyData.depthAll]
    | call f t =>
      have h : (decide (0 ≤ f ∧ f < (count : Nat)) && t.ok count d) = true := h
      rw [Bool.and_eq_true] at h
      obtain ⟨i1, i2⟩ := ih h.2
      refine ⟨?_, ?_⟩
      · simp only [dT, PyData.canLay0, PyData.canLayAll0, i1]; decide +kernel
      · simp [dT, PyData.depth, PyData.depthAll]; omega
    | bin o a b =>
      have h : (a.ok count d && b.ok count d) = true := h
      rw [Bool.and_eq_true] at h
      obtain ⟨i1, i2⟩ := ih h.1
      obtain ⟨j1, j2⟩ := ih h.2
      refine ⟨?_, ?_⟩
      · simp only [dT, PyData.canLay0, PyData.canLayAll0, i1, j1]
        cases o <;> decide +kernel
      · simp [dT, PyData.depth, PyData.depthAll]; omega
theorem dN_lay (n : Option Int) : (dN n).canLay0 = true ∧ (dN n).depth = 0 := by
  cases n <;> exact ⟨rfl, rfl⟩
mutual
theorem dS_lay {count : Nat} : ∀ (s : Sm) {l : Bool} {d : Nat}, s.ok count l d = true → (dS s).canLay0 = true ∧ (dS s).depth ≤ 2 * d + 7
  | .set k e, l, d, h => by
    have h : (decide (0 ≤ k ∧ k < 4) && e.ok count 6) = true := by cases d <;> exact h
    rw [Bool.and_eq_true] at h
    obtain ⟨i1, i2⟩ := dT_lay h.2
    refine ⟨?_, ?_⟩
    · simp only [dS, PyData.canLay0, PyData.canLayAll0, i1]; decide +kernel
    · simp [dS, PyData.depth, PyData.depthAll]; omega
  | .say e, l, d, h => by
    have h : e.ok count 6 = true := by cases d <;> exact h
    obtain ⟨i1, i2⟩ := dT_lay h
    refine ⟨?_, ?_⟩
    · simp only [dS, PyData.canLay0, PyData.canLayAll0, i1]; decide +kernel
    · simp [dS, PyData.depth, PyData.depthAll]; omega
  | .give e, l, d, h => by
    have h : e.ok count 6 = true := by cases d <;> exact h
    obtain ⟨i1, i2⟩ := dT_lay h
    refine ⟨?_, ?_⟩
    · simp only [dS, PyData.canLay0, PyData.canLayAll0, i1]; decide +kernel
    · simp [dS, PyData.depth, PyData.depthAll]; omega
  | .raise e, l, d, h => by
    have h : e.ok count 6 = true := by cases d <;> exact h
    obtain ⟨i1, i2⟩ := dT_lay h
    refine ⟨?_, ?_⟩
    · simp only [dS, PyData.canLay0, PyData.canLayAll0, i1]; decide +kernel
    · simp [dS, PyData.depth, PyData.depthAll]; omega
  | .leave, l, d, _ => by
    refine ⟨?_, ?_⟩
    · simp only [dS, PyData.canLay0, PyData.canLayAll0]; decide +kernel
    · simp [dS, PyData.depth, PyData.depthAll]
  | .next, l, d, _ => by
    refine ⟨?_, ?_⟩
    · simp only [dS, PyData.canLay0, PyData.canLayAll0]; decide +kernel
    · simp [dS, PyData.depth, PyData.depthAll]
  | .ife e a b, l, 0, h => by cases h
  | .ife e a b, l, d + 1, h => by
    have h : (e.ok count 6 && (oks count l d a && oks count l d b)) = true := h
    rw [Bool.and_eq_true, Bool.and_eq_true] at h
    obtain ⟨i1, i2⟩ := dT_lay h.1
    obtain ⟨j1, j2⟩ := dB_lay a h.2.1
    obtain ⟨k1, k2⟩ := dB_lay b h.2.2
    refine ⟨?_, ?_⟩
    · simp only [dS, PyData.canLay0, PyData.canLayAll0, i1, j1, k1]; decide +kernel
    · simp [dS, PyData.depth, PyData.depthAll]; omega
  | .loop e b, l, 0, h => by cases h
  | .loop e b, l, d + 1, h => by
    have h : (e.ok count 6 && oks count true d b) = true := h
    rw [Bool.and_eq_true] at h
    obtain ⟨i1, i2⟩ := dT_lay h.1
    obtain ⟨j1, j2⟩ := dB_lay b h.2
    refine ⟨?_, ?_⟩
    · simp only [dS, PyData.canLay0, PyData.canLayAll0, i1, j1]; decide +kernel
    · simp [dS, PyData.depth, PyData.depthAll]; omega
  | .ctch b n k a, l, 0, h => by cases h
  | .ctch b n k a, l, d + 1, h => by
    have h : (oks count l d b && (decide (0 ≤ k ∧ k < 4) && oks count l d a)) = true := h
    rw [Bool.and_eq_true, Bool.and_eq_true] at h
    obtain ⟨i1, i2⟩ := dN_lay n
    obtain ⟨j1, j2⟩ := dB_lay b h.1
    obtain ⟨k1, k2⟩ := dB_lay a h.2.2
    refine ⟨?_, ?_⟩
    · simp only [dS, PyData.canLay0, PyData.canLayAll0, i1, j1, k1]; decide +kernel
    · simp [dS, PyData.depth, PyData.depthAll, i2]; omega
  | .endd a b, l, 0, h => by cases h
  | .endd a b, l, d + 1, h => by
    have h : (oks count l d a && oks count l d b) = true := h
    rw [Bool.and_eq_true] at h
    obtain ⟨j1, j2⟩ := dB_lay a h.1
    obtain ⟨k1, k2⟩ := dB_lay b h.2
    refine ⟨?_, ?_⟩
    · simp only [dS, PyData.canLay0, PyData.canLayAll0, j1, k1]; decide +kernel
    · simp [dS, PyData.depth, PyData.depthAll]; omega
theorem dB_lay {count : Nat} : ∀ (b : List Sm) {l : Bool} {d : Nat}, oks count l d b = true → PyData.canLayAll0 (dB b) = true ∧ PyData.depthAll (dB b) ≤ 2 * d + 7
  | [], _, _, _ => ⟨rfl, by simp [dB, PyData.depthAll]⟩
  | s :: b, l, d, h => by
    rw [U.oks_cons, Bool.and_eq_true] at h
    obtain ⟨i1, i2⟩ := dS_lay s h.1
    obtain ⟨j1, j2⟩ := dB_lay b h.2
    refine ⟨?_, ?_⟩
    · simp only [dB, PyData.canLayAll0, i1, j1]; rfl
    · simp [dB, PyData.depthAll]; omega
end
theorem shaped_prog {P : List (List Sm)} (h : okProg P = true) : SeqAt.shaped (dP P) = true := by
  unfold okProg at h
  rw [Bool.and_eq_true] at h
  have hk := List.all_eq_true.mp h.2
  generalize P.length = count at hk
  have key : PyData.canLayAll0 (P.map fun b => PyData.list (dB b)) = true ∧ PyData.depthAll (P.map fun b => PyData.list (dB b)) ≤ 30 := by
    clear h
    induction P with
    | nil => exact ⟨rfl, by simp [PyData.depthAll]⟩
    | cons b P ih =>
      obtain ⟨i1, i2⟩ := dB_lay b (hk b (List.mem_cons_self ..))
      obtain ⟨j1, j2⟩ := ih fun x hx => hk x (List.mem_cons_of_mem _ hx)
      refine ⟨?_, ?_⟩
      · simp only [List.map_cons, PyData.canLayAll0, PyData.canLay0, i1, j1]; rfl
      · simp only [List.map_cons, PyData.depthAll, PyData.depth]; omega
  refine shaped_of (by simp only [dP, PyData.canLay0, key.1]) ?_
  simp only [dP, PyData.depth]
  have := key.2
  omega
end U

set_option maxHeartbeats 4000000
namespace U
open PySem PySem.Spec PyProof.Rows L2 Un
local macro_rules | `(tactic| walk_at "w1") => `(tactic| first
  | with_reducible refine w_seq ?_
  | with_reducible refine w_asg ?_
  | with_reducible refine w_op ?_
  | ((with_reducible refine' w_var ?h1 ?_); (case h1 => rfl))
  | with_reducible refine w_c ?_
  | with_reducible refine w_name ?_
  | with_reducible refine w_tFd ?_
  | ((with_reducible refine' w_fld ?h1 ?h2 ?_); (case h1 => assumption); (case h2 => rfl))
  | with_reducible refine w_if ?_
  | with_reducible refine w_test ?_
  | with_reducible refine w_eqS ?_
  | with_reducible refine w_eqI ?_
  | with_reducible refine w_neS ?_
  | with_reducible refine w_neI ?_
  | with_reducible refine w_isN ?_
  | with_reducible refine w_isnN ?_
  | with_reducible refine w_bl ?_
  | with_reducible refine w_ret ?_
  | with_reducible refine w_drop ?_
  | with_reducible refine w_next ?_
  | with_reducible refine w_cons ?_
  | with_reducible refine w_nil ?_
  | with_reducible refine w_call ?_
  | with_reducible refine w_cb ?_
  | with_reducible refine w_meth ?_
  | ((with_reducible refine' w_recv ?h1 ?h2 ?_); (case h1 => assumption); (case h2 => rfl))
  | with_reducible refine w_sFd ?_
  | ((with_reducible refine' w_put ?h1 ?h2 ?_); (case h1 => assumption); (case h2 => exact Nat.le_of_ble_eq_true rfl))
  | with_reducible refine w_add ?_
  | with_reducible refine w_sub ?_
  | with_reducible refine w_lt ?_
  | with_reducible refine w_le ?_
  | with_reducible refine w_gt ?_
  | with_reducible refine w_ge ?_
  | with_reducible refine w_bm ?_
  | with_reducible refine w_bm0 ?_
  | ((with_reducible refine' w_ty ?h1 ?_); (case h1 => assumption))
  | with_reducible refine w_tup ?_
  | with_reducible refine w_lst ?_
  | ((with_reducible refine' w_new ?h1 ?_); (case h1 => exact Nat.le_of_ble_eq_true rfl))
  | with_reducible refine w_gsub ?_
  | with_reducible refine w_make ?_
  | with_reducible refine w_lc ?_
  | with_reducible refine w_iList ?_
  | with_reducible refine w_for ?_
  | with_reducible refine w_yes ?_
  | with_reducible refine w_tSl ?_
  | with_reducible refine w_part ?_
  | with_reducible refine w_nopart ?_
  | with_reducible refine w_i ?_
  | with_reducible refine w_rng1 ?_
  | with_reducible refine w_rng2 ?_
  | with_reducible refine w_isiII ?_
  | with_reducible refine w_isiIB ?_
  | with_reducible refine w_isiSS ?_
  | ((with_reducible refine w_mod ?h1 ?_); (case h1 => decide))
  | ((with_reducible refine w_fdC' ?h1 ?h2 ?_); (case h1 => decide); (case h2 => decide))
  | ((with_reducible refine w_mulR ?h1 ?h2 ?_); (case h1 => decide); (case h2 => decide))
  | ((with_reducible refine w_mulL ?h1 ?h2 ?_); (case h1 => decide); (case h2 => decide))
  | ((with_reducible refine w_pow' ?h1 ?h2 ?h3 ?_); (case h1 => decide); (case h2 => decide); (case h3 => decide))
  | with_reducible refine w_andV ?_
  | with_reducible refine w_orV ?_
  | with_reducible refine w_notV ?_
  | with_reducible refine w_B ?_
  | with_reducible refine w_not ?_
  | with_reducible refine w_and ?_
  | with_reducible refine w_or ?_
  | with_reducible refine w_ifx ?_
  | with_reducible refine w_un ?_
  | ((with_reducible refine w_T ?h1 ?_); (case h1 => with_reducible rfl))
  | ((with_reducible refine w_F ?h1 ?_); (case h1 => with_reducible rfl))
  | ((with_reducible refine w_T ?h1 ?_); (case h1 => decide +kernel))
  | ((with_reducible refine w_F ?h1 ?_); (case h1 => decide +kernel)))
local macro_rules | `(tactic| walk_at "w") => `(tactic| repeat walk_at "w1")

section
variable {K : PySem.W.Frag}
def sp_l_is (K : PySem.W.Frag) : Sp := fun vs H Q _ => ∃ (c s : Addr) (y : Wy) (z : Int) (ns : List Int), vs = [.ref c] ∧ H c = some (.tup [.ref s, .str (wordT y), .int z]) ∧ H s = some (.lst (ns.map V.int)) ∧ TW (y, z) ∧ ∀ H', Same H H' → Q (.bl true) H'
theorem p_l_is (vs : List V) (H : Hp) (Q : VK) (E : XK) (h : sp_l_is K vs H Q E) : t_l_is K (sp_l_whole K) { nx := fun _ H' => Q .non H', rt := Q } (L2.start n_l_is vs) H := by
  obtain ⟨c, s, y, z, ns, rfl, hc, hs, tw, q⟩ := h
  have hc' : SqT K H c _ := SqT.of hc
  unfold t_l_is
  walk_at "w"
  refine w_isiTT hc ?_
  walk_at "w"
  refine w_lenT hc' ?_
  walk_at "w"
  refine w_ND (fun _ => ?_) (fun z => absurd rfl z)
  walk_at "w"
  refine w_ixT hc' rfl ?_
  walk_at "w"
  refine w_isiLL hs ?_
  walk_at "w"
  refine w_ixT hc' rfl ?_
  refine w_refL (SqL.of hs) ?_
  refine w_nowhole (SqL.of hs) (Nat.le_of_ble_eq_true rfl) fun D hD => ?_
  have s1 : Same H (upd H D (.lst [])) := same_lay hD
  have hc1 : SqT K (upd H D (.lst [])) c _ := same_tup s1 hc'
  have e1 : (upd H D (.lst [])) D = some (.lst []) := upd_same
  generalize upd H D (.lst []) = H1 at s1 hc1 e1 ⊢
  walk_at "w"
  refine w_lenL (SqL.of e1) ?_
  walk_at "w"
  refine w_ixT hc1 rfl ?_
  walk_at "w"
  refine ⟨_, rfl, ?_⟩
  walk_at "w"
  refine w_ixT hc1 rfl ?_
  walk_at "w"
  refine w_ixT hc1 rfl ?_
  walk_at "w"
  refine fun t ht => ?_
  refine w_inT (SqT.of upd_same) rfl rfl ?_
  have s2 : Same H (upd H1 t (.tup [.str "answer", .str "fault"])) := s1.trans (same_lay ht)
  have hc2 : SqT K (upd H1 t (.tup [.str "answer", .str "fault"])) c _ := same_tup (same_lay ht) hc1
  generalize upd H1 t (.tup [.str "answer", .str "fault"]) = H2 at s2 hc2 ⊢
  rcases tw with e | e | ⟨e, e0⟩
  · dsimp only at e
    subst e
    refine ⟨true, rfl, ?_⟩
    exact q _ s2
  · dsimp only at e
    subst e
    refine ⟨true, rfl, ?_⟩
    exact q _ s2
  · dsimp only at e e0
    subst e e0
    refine ⟨false, rfl, ?_⟩
    refine iteF ?_
    walk_at "w"
    refine w_ixT hc2 rfl ?_
    walk_at "w"
    refine w_ixT hc2 rfl ?_
    walk_at "w"
    exact q _ s2
end
end U

set_option maxHeartbeats 8000000
namespace U
open PySem PySem.Spec PyProof.Rows L2 Un
local macro_rules | `(tactic| walk_at "w1") => `(tactic| first
  | with_reducible refine w_seq ?_
  | with_reducible refine w_asg ?_
  | with_reducible refine w_op ?_
  | ((with_reducible refine' w_var ?h1 ?_); (case h1 => rfl))
  | with_reducible refine w_c ?_
  | with_reducible refine w_name ?_
  | with_reducible refine w_tFd ?_
  | ((with_reducible refine' w_fld ?h1 ?h2 ?_); (case h1 => assumption); (case h2 => rfl))
  | with_reducible refine w_if ?_
  | with_reducible refine w_test ?_
  | with_reducible refine w_eqS ?_
  | with_reducible refine w_eqI ?_
  | with_reducible refine w_neS ?_
  | with_reducible refine w_neI ?_
  | with_reducible refine w_isN ?_
  | with_reducible refine w_isnN ?_
  | with_reducible refine w_bl ?_
  | with_reducible refine w_ret ?_
  | with_reducible refine w_drop ?_
  | with_reducible refine w_next ?_
  | with_reducible refine w_cons ?_
  | with_reducible refine w_nil ?_
  | with_reducible refine w_call ?_
  | with_reducible refine w_cb ?_
  | with_reducible refine w_meth ?_
  | ((with_reducible refine' w_recv ?h1 ?h2 ?_); (case h1 => assumption); (case h2 => rfl))
  | with_reducible refine w_sFd ?_
  | ((with_reducible refine' w_put ?h1 ?h2 ?_); (case h1 => assumption); (case h2 => exact Nat.le_of_ble_eq_true rfl))
  | with_reducible refine w_add ?_
  | with_reducible refine w_sub ?_
  | with_reducible refine w_lt ?_
  | with_reducible refine w_le ?_
  | with_reducible refine w_gt ?_
  | with_reducible refine w_ge ?_
  | with_reducible refine w_bm ?_
  | with_reducible refine w_bm0 ?_
  | ((with_reducible refine' w_ty ?h1 ?_); (case h1 => assumption))
  | with_reducible refine w_tup ?_
  | with_reducible refine w_lst ?_
  | ((with_reducible refine' w_new ?h1 ?_); (case h1 => exact Nat.le_of_ble_eq_true rfl))
  | with_reducible refine w_gsub ?_
  | with_reducible refine w_make ?_
  | with_reducible refine w_lc ?_
  | with_reducible refine w_iList ?_
  | with_reducible refine w_for ?_
  | with_reducible refine w_yes ?_
  | with_reducible refine w_tSl ?_
  | with_reducible refine w_part ?_
  | with_reducible refine w_nopart ?_
  | with_reducible refine w_i ?_
  | with_reducible refine w_rng1 ?_
  | with_reducible refine w_rng2 ?_
  | with_reducible refine w_isiII ?_
  | with_reducible refine w_isiIB ?_
  | with_reducible refine w_isiSS ?_
  | ((with_reducible refine w_mod ?h1 ?_); (case h1 => decide))
  | ((with_reducible refine w_fdC' ?h1 ?h2 ?_); (case h1 => decide); (case h2 => decide))
  | ((with_reducible refine w_mulR ?h1 ?h2 ?_); (case h1 => decide); (case h2 => decide))
  | ((with_reducible refine w_mulL ?h1 ?h2 ?_); (case h1 => decide); (case h2 => decide))
  | ((with_reducible refine w_pow' ?h1 ?h2 ?h3 ?_); (case h1 => decide); (case h2 => decide); (case h3 => decide))
  | with_reducible refine w_andV ?_
  | with_reducible refine w_orV ?_
  | with_reducible refine w_notV ?_
  | with_reducible refine w_B ?_
  | with_reducible refine w_not ?_
  | with_reducible refine w_and ?_
  | with_reducible refine w_or ?_
  | with_reducible refine w_ifx ?_
  | with_reducible refine w_un ?_
  | ((with_reducible refine w_T ?h1 ?_); (case h1 => with_reducible rfl))
  | ((with_reducible refine w_F ?h1 ?_); (case h1 => with_reducible rfl))
  | ((with_reducible refine w_T ?h1 ?_); (case h1 => decide +kernel))
  | ((with_reducible refine w_F ?h1 ?_); (case h1 => decide +kernel)))
local macro_rules | `(tactic| walk_at "w") => `(tactic| repeat walk_at "w1")

theorem fault_end {P : Parts} {fs : List Fr} {said : List Int} {t : Nat} {n z : Int} (he : (Mc.fault P ⟨fs, said, t, none⟩ n).ended = some (.tired, z)) : False := by
  unfold Mc.fault at he
  dsimp only at he
  cases h : faultF P.str n fs with
  | nil => rw [h] at he; cases he
  | cons f r => rw [h] at he; cases he
theorem tired_step {P : Parts} {M M' : Mc} {z : Int} (h0 : M.ended = none) (e : rowStep P M = some M') (he : M'.ended = some (.tired, z)) : z = 0 := by
  obtain ⟨fs, said, t, en⟩ := M
  dsimp only at h0
  subst h0
  unfold rowStep at e
  cases fs with
  | nil => cases e
  | cons f r =>
  dsimp only at e
  cases hr : nth P.code f.place with
  | none => rw [hr] at e; cases e
  | some row =>
  rw [hr] at e
  dsimp only at e
  obtain ⟨place, boxes, pile⟩ := f
  cases row with
  | put n => cases e; cases he
  | get j =>
    simp only [stepRw, moveRw] at e
    cases hv : nth boxes j with
    | none => rw [hv] at e; cases e
    | some v => rw [hv] at e; cases e; cases he
  | set j =>
    cases pile with
    | nil => cases e
    | cons v p =>
      simp only [stepRw, moveRw] at e
      split at e
      · cases e; cases he
      · cases e
  | say =>
    cases pile with
    | nil => cases e
    | cons v p => cases e; cases he
  | add =>
    match pile, e with
    | b :: a :: p, e => cases e; cases he
  | sub =>
    match pile, e with
    | b :: a :: p, e => cases e; cases he
  | less =>
    match pile, e with
    | b :: a :: p, e => cases e; cases he
  | share =>
    match pile, e with
    | b :: a :: p, e =>
      simp only [stepRw, meetRw] at e
      split at e
      · cases e; exact (fault_end he).elim
      · cases e; cases he
  | go p => cases e; cases he
  | nought p =>
    cases pile with
    | nil => cases e
    | cons v q => cases e; cases he
  | on j =>
    simp only [stepRw, jumpRw] at e
    cases hv : nth boxes j with
    | none => rw [hv] at e; cases e
    | some v => rw [hv] at e; cases e; cases he
  | turn =>
    simp only [stepRw] at e
    split at e
    · cases e; cases he; rfl
    · cases e; cases he
  | call g =>
    cases pile with
    | nil => cases e
    | cons v q =>
      simp only [stepRw, Mc.enter] at e
      split at e
      · cases e; cases he; rfl
      · split at e
        · cases e; exact (fault_end he).elim
        · cases hv : nth P.starts g with
          | none => rw [hv] at e; cases e
          | some s => rw [hv] at e; cases e; cases he
  | back =>
    cases pile with
    | nil => cases e
    | cons v q =>
      simp only [stepRw, Mc.back] at e
      match r, e with
      | [], e => cases e; cases he
      | g :: r', e => cases e; cases he
  | raise =>
    cases pile with
    | nil => cases e
    | cons v q => cases e; exact (fault_end he).elim
theorem tired_steps {P : Parts} {z : Int} : ∀ {n : Nat} {M M' : Mc}, M.ended = none → rowSteps P n M = some M' → M'.ended = some (.tired, z) → z = 0
  | 0, M, M', h, e, he => by
    cases e
    rw [h] at he
    cases he
  | n + 1, M, M', h, e, he => by
    unfold rowSteps at e
    rw [h] at e
    simp only [Option.isSome_none, Bool.false_eq_true, if_false] at e
    cases hs : rowStep P M with
    | none => rw [hs] at e; cases e
    | some M1 =>
      rw [hs] at e
      have e : rowSteps P n M1 = some M' := e
      cases h1 : M1.ended with
      | none => exact tired_steps h1 e he
      | some y =>
        cases n with
        | zero =>
          cases e
          exact tired_step h hs he
        | succ n =>
          unfold rowSteps at e
          rw [h1] at e
          cases e
def wyOf : Ed → Wy
  | .answer => .value
  | .fault => .fault
  | .tired => .tired
theorem wy_word (x : Ed) : wordT (wyOf x) = x.str := by cases x <;> rfl
theorem lay_rows (rs : List Rw) : PyData.canLayAll0 (rs.map fun r => .tuple (wordsD r)) = true ∧ PyData.depthAll (rs.map fun r => .tuple (wordsD r)) ≤ 1 := by
  induction rs with
  | nil => exact ⟨rfl, by decide⟩
  | cons r rs ih =>
    have w := lay_words r
    refine ⟨by simp [PyData.canLayAll0, PyData.canLay0, ih.1, w.1], ?_⟩
    simp only [List.map_cons, PyData.depthAll, PyData.depth, w.2]
    have := ih.2
    omega
theorem lay_strs (S : List Stretch) : PyData.canLayAll0 (S.map fun s => .tuple [.int s.1, .int s.2.1, .int s.2.2]) = true ∧ PyData.depthAll (S.map fun s => .tuple [.int s.1, .int s.2.1, .int s.2.2]) ≤ 1 := by
  induction S with
  | nil => exact ⟨rfl, by decide⟩
  | cons s S ih =>
    refine ⟨by simp [PyData.canLayAll0, PyData.canLay0, ih.1], ?_⟩
    have := ih.2
    simp only [List.map_cons, PyData.depthAll, PyData.depth]
    omega
def partsD (rs : List Rw) (S : List Stretch) (st : List Int) (nb : Int) : PyData := .tuple [.list (rs.map fun r => .tuple (wordsD r)), .list (S.map fun s => .tuple [.int s.1, .int s.2.1, .int s.2.2]), .list (st.map PyData.int), .int nb]
theorem shaped_parts (rs : List Rw) (S : List Stretch) (st : List Int) (nb : Int) : SeqAt.shaped (partsD rs S st nb) = true := by
  have l1 := lay_rows rs
  have l2 := lay_strs S
  have l3 := lay_ints st
  refine shaped_of ?_ ?_
  · simp only [partsD, PyData.canLay0, PyData.canLayAll0, l1.1, l2.1, l3.1]; rfl
  · have := l1.2
    have := l2.2
    have := l3.2
    simp only [partsD, PyData.depth, PyData.depthAll]
    omega
section
variable {K : PySem.W.Frag}
theorem p_law (vs : List V) (H : Hp) (Q : VK) (E : XK) (h : spLaw K vs H Q E) : t_law K (sp_l_drawn K) (sp_l_number K) (sp_l_cell_at K) (sp_run0 K) (sp_l_is K) (sp_l_gone K) { nx := fun _ H' => Q .non H', rt := Q } (L2.start n_law vs) H := by
  obtain ⟨a, ns, rfl, hS, hlen, q⟩ := h
  unfold t_law
  walk_at "w"
  refine ⟨a, ns, rfl, hS, fun H1 p d str lc ls lt wsc uss sm hp hlc hr hls hs hlt ok hcond hG many4 gs5 nb6 str63 => ?_⟩
  replace hS : LsAt K H1 a (ns.map V.int) := sm.seq hS
  replace hp : RawAt H1 p (.tup [.ref lc, .ref ls, .ref lt, .int (d.nb : Nat)]) := hp
  replace hlc : RawAt H1 lc (.lst wsc) := hlc
  replace hls : RawAt H1 ls (.lst uss) := hls
  replace hlt : RawAt H1 lt (.lst (d.starts.map V.int)) := hlt
  clear sm
  walk_at "w"
  refine ⟨a, ns, 1, rfl, hS.seq, by decide, ?_⟩
  walk_at "w"
  refine ⟨_, rfl, ?_⟩
  generalize numberOf (cellAt ns 1) = given
  walk_at "w"
  refine ⟨a, ns, 2, rfl, hS.seq, by decide, ?_⟩
  walk_at "w"
  obtain ⟨t, ht⟩ : ∃ n : Nat, cellAt ns 2 % 26 = (n : Int) := ⟨(cellAt ns 2 % 26).toNat, by omega⟩
  have ht25 : t ≤ 25 := by omega
  rw [ht]
  refine w_ixT (SqT.of hp) rfl ?_
  walk_at "w"
  refine w_listQ (SqL.of hlc) fun l1 h1 => ?_
  have s1 := same_lay (o := .lst wsc) h1
  have g1 : RawAt (upd H1 l1 (.lst wsc)) l1 (.lst wsc) := upd_same
  replace hp := hp.mono s1
  replace hlc := hlc.mono s1
  replace hls := hls.mono s1
  replace hlt := hlt.mono s1
  replace hr := rows_mono s1 hr
  replace hs := strs_mono s1 hs
  clear s1 h1 hS
  generalize upd H1 l1 _ = H1 at hp hlc hls hlt hr hs g1 ⊢
  walk_at "w"
  refine w_ixT (SqT.of hp) rfl ?_
  walk_at "w"
  refine w_listQ (SqL.of hls) fun l2 h2 => ?_
  have s1 := same_lay (o := .lst uss) h2
  have g2 : RawAt (upd H1 l2 (.lst uss)) l2 (.lst uss) := upd_same
  replace hp := hp.mono s1
  replace hlc := hlc.mono s1
  replace hls := hls.mono s1
  replace hlt := hlt.mono s1
  replace hr := rows_mono s1 hr
  replace hs := strs_mono s1 hs
  replace g1 := g1.mono s1
  clear s1 h2
  generalize upd H1 l2 _ = H1 at hp hlc hls hlt hr hs g1 g2 ⊢
  walk_at "w"
  refine w_ixT (SqT.of hp) rfl ?_
  walk_at "w"
  refine w_listQ (SqL.of hlt) fun l3 h3 => ?_
  have s1 := same_lay (o := .lst (d.starts.map V.int)) h3
  have g3 : RawAt (upd H1 l3 (.lst (d.starts.map V.int))) l3 (.lst (d.starts.map V.int)) := upd_same
  replace hp := hp.mono s1
  replace hlc := hlc.mono s1
  replace hls := hls.mono s1
  replace hlt := hlt.mono s1
  replace hr := rows_mono s1 hr
  replace hs := strs_mono s1 hs
  replace g1 := g1.mono s1
  replace g2 := g2.mono s1
  clear s1 h3
  generalize upd H1 l3 _ = H1 at hp hlc hls hlt hr hs g1 g2 g3 ⊢
  walk_at "w"
  refine w_ixT (SqT.of hp) rfl ?_
  walk_at "w"
  refine fun l4 h4 => ?_
  have s1 := same_lay (o := .tup [.ref l1, .ref l2, .ref l3, .int (d.nb : Nat)]) h4
  have g4 : RawAt (upd H1 l4 (.tup [.ref l1, .ref l2, .ref l3, .int (d.nb : Nat)])) l4 (.tup [.ref l1, .ref l2, .ref l3, .int (d.nb : Nat)]) := upd_same
  replace hp := hp.mono s1
  replace hlc := hlc.mono s1
  replace hls := hls.mono s1
  replace hlt := hlt.mono s1
  replace hr := rows_mono s1 hr
  replace hs := strs_mono s1 hs
  replace g1 := g1.mono s1
  replace g2 := g2.mono s1
  replace g3 := g3.mono s1
  clear s1 h4
  generalize upd H1 l4 _ = H1 at hp hlc hls hlt hr hs g1 g2 g3 g4 ⊢
  obtain ⟨M0, n, M, x, z, hb, hn, he, hle⟩ := D14.ends ok hcond hG many4 gs5 given ht25
  have b0 : 0 ≤ (d.P str).boxes := by show (0 : Int) ≤ (d.nb : Int); omega
  have b1 : (d.P str).boxes < 16000000 := by show ((d.nb : Nat) : Int) < 16000000; omega
  have hsl : (d.P str).str.length < LIM := by show str.length < 16000000; omega
  have hbd : ∀ j Mj, j < n → rowSteps (d.P str) j M0 = some Mj → Bd (d.P str) Mj := fun j Mj hj e => by
    have bn := bnd_steps (bnd_begun hb) e
    exact ⟨b0, b1, bn.1, fun f hf => Nat.lt_of_le_of_lt (bn.2.1 f hf) (by unfold LIM; omega), Nat.lt_of_le_of_lt bn.2.2 (by unfold LIM; omega)⟩
  have hM0 : M0.ended = none := by
    unfold begun at hb
    cases h : nth (d.P str).starts 0 with
    | none => rw [h] at hb; cases hb
    | some s => rw [h] at hb; cases hb; rfl
  have tw : TW (wyOf x, z) := by
    cases x with
    | answer => exact .inl rfl
    | fault => exact .inr (.inl rfl)
    | tired => exact .inr (.inr ⟨rfl, tired_steps hM0 hn he⟩)
  walk_at "w"
  refine ⟨l4, l1, l2, l3, d.P str, given, t, M0, n, M, x, z, rfl, SqT.of g4, ⟨⟨wsc, SqL.of g1, hr⟩, ⟨uss, SqL.of g2, hs⟩, SqL.of g3⟩, b0, b1, hb, hn, he, hbd, fun H5 p5 s5 sm _ _ hs5 hp5 => ?_⟩
  replace hp := hp.mono sm
  replace hlc := hlc.mono sm
  replace hls := hls.mono sm
  replace hlt := hlt.mono sm
  replace hr := rows_mono sm hr
  replace hs := strs_mono sm hs
  replace g1 := g1.mono sm
  replace g2 := g2.mono sm
  replace g3 := g3.mono sm
  replace g4 := g4.mono sm
  clear sm
  walk_at "w"
  have dd1 : Dp K H5 (.ref l4) (partsD (d.P str).code str d.starts (d.nb : Int)) := .tup (SqT.of g4) (.cons (.lst (SqL.of g1) (dp_rows hr)) (.cons (.lst (SqL.of g2) (dp_strs hs)) (.cons (.lst (SqL.of g3) (dp_ints _)) (.cons (.int _) .nil))))
  have dd2 : Dp K H5 (.ref p) (partsD (d.P str).code str d.starts (d.nb : Int)) := .tup (SqT.of hp) (.cons (.lst (SqL.of hlc) (dp_rows hr)) (.cons (.lst (SqL.of hls) (dp_strs hs)) (.cons (.lst (SqL.of hlt) (dp_ints _)) (.cons (.int _) .nil))))
  refine w_neSame dd1 dd2 (shaped_parts _ _ _ _) ?_
  walk_at "w"
  refine ⟨p5, s5, wyOf x, z, _, rfl, by rw [wy_word]; exact hp5, hs5, tw, fun H6 sm => ?_⟩
  replace hp := hp.mono sm
  replace hlc := hlc.mono sm
  replace hls := hls.mono sm
  replace hlt := hlt.mono sm
  replace hr := rows_mono sm hr
  replace hs := strs_mono sm hs
  replace hs5 := sm _ _ hs5
  replace hp5 := sm _ _ hp5
  clear sm dd1 dd2 g1 g2 g3 g4
  walk_at "w"
  refine ⟨p, lc, ls, lt, d.P str, given, t, M0, n, M, x, z, rfl, SqT.of hp, ⟨⟨wsc, SqL.of hlc, hr⟩, ⟨uss, SqL.of hls, hs⟩, SqL.of hlt⟩, hsl, b0, b1, hb, hn, he, hbd, fun H7 p7 s7 sm hs7 hp7 => ?_⟩
  replace hs5 := sm _ _ hs5
  replace hp5 := sm _ _ hp5
  have sh := shaped_of (d := .tuple [.list (M.said.map PyData.int), .str x.str, .int z]) (by
    have l := lay_ints M.said
    cases x <;> (simp only [PyData.canLay0, PyData.canLayAll0, l.1]; decide +kernel)) (by simp [PyData.depth, PyData.depthAll, (lay_ints M.said).2])
  refine w_eqSame (.tup (SqT.of hp5) (.cons (.lst (SqL.of hs5) (dp_ints _)) (.cons (.str _) (.cons (.int _) .nil)))) (.tup (SqT.of hp7) (.cons (.lst (SqL.of hs7) (dp_ints _)) (.cons (.str _) (.cons (.int _) .nil)))) sh ?_
  exact q _
end
theorem FnR.vac {Z : Zt} {CX : CXT} {n : Nat} {f : Addr} {fd : FuncData} {ps : List Str} {sp : Sp} (no : ∀ vs H Q E, ¬ sp vs H Q E) : FnR Z CX n f fd ps sp :=
  ⟨fun vs H Q E h => absurd h (no vs H Q E), fun _ _ _ _ _ _ _ _ _ _ _ _ _ h => absurd h (no _ _ _ _)⟩
end U

set_option maxHeartbeats 8000000
namespace Lw
open PySem PySem.Spec PyProof.Rows L2 Un U

local macro_rules | `(tactic| walk_at "len") => `(tactic| (intro vs H Q E h; first
  | (obtain ⟨e, _⟩ := h; exact (congrArg List.length e).trans rfl) | (obtain ⟨_, e, _⟩ := h; exact (congrArg List.length e).trans rfl) | (obtain ⟨_, _, e, _⟩ := h; exact (congrArg List.length e).trans rfl) | (obtain ⟨_, _, _, e, _⟩ := h; exact (congrArg List.length e).trans rfl) | (obtain ⟨_, _, _, _, e, _⟩ := h; exact (congrArg List.length e).trans rfl) | (obtain ⟨_, _, _, _, _, e, _⟩ := h; exact (congrArg List.length e).trans rfl) | (obtain ⟨_, _, _, _, _, _, e, _⟩ := h; exact (congrArg List.length e).trans rfl) | (obtain ⟨_, _, _, _, _, _, _, e, _⟩ := h; exact (congrArg List.length e).trans rfl) | (obtain ⟨_, _, _, _, _, _, _, _, e, _⟩ := h; exact (congrArg List.length e).trans rfl) | (obtain ⟨_, _, _, _, _, _, _, _, _, e, _⟩ := h; exact (congrArg List.length e).trans rfl) | (obtain ⟨_, _, _, _, _, _, _, _, _, _, e, _⟩ := h; exact (congrArg List.length e).trans rfl) | (obtain ⟨_, _, _, _, _, _, _, _, _, _, _, e, _⟩ := h; exact (congrArg List.length e).trans rfl) | (obtain ⟨_, _, _, _, _, _, _, _, _, _, _, _, e, _⟩ := h; exact (congrArg List.length e).trans rfl) | (obtain ⟨_, _, _, _, _, _, _, _, _, _, _, _, _, e, _⟩ := h; exact (congrArg List.length e).trans rfl) | (obtain ⟨_, _, _, _, _, _, _, _, _, _, _, _, _, _, e, _⟩ := h; exact (congrArg List.length e).trans rfl) | (obtain ⟨_, _, _, _, _, _, _, _, _, _, _, _, _, _, _, e, _⟩ := h; exact (congrArg List.length e).trans rfl) | (obtain ⟨_, _, _, _, _, _, _, _, _, _, _, _, _, _, _, _, e, _⟩ := h; exact (congrArg List.length e).trans rfl) | (obtain ⟨_, _, _, _, _, _, _, _, _, _, _, _, _, _, _, _, _, e, _⟩ := h; exact (congrArg List.length e).trans rfl) | (obtain ⟨_, _, _, _, _, _, _, _, _, _, _, _, _, _, _, _, _, _, e, _⟩ := h; exact (congrArg List.length e).trans rfl) | (obtain ⟨_, _, _, _, _, _, _, _, _, _, _, _, _, _, _, _, _, _, _, e, _⟩ := h; exact (congrArg List.length e).trans rfl) | (obtain ⟨_, _, _, _, _, _, _, _, _, _, _, _, _, _, _, _, _, _, _, _, e, _⟩ := h; exact (congrArg List.length e).trans rfl) | (obtain ⟨_, _, _, _, _, _, _, _, _, _, _, _, _, _, _, _, _, _, _, _, _, e, _⟩ := h; exact (congrArg List.length e).trans rfl)))
structure Tx (Z : Zt) : Prop where
  says : He.SaysE fa fn Z.K
  kin : Z.K.In Z.base
  ns : Z.base.Ns mainGlobals Z.mg
  seer : Z.base.NoSeer
  tree : Z.P.given.tree = none
section
variable {Z : Zt}
theorem i_DEEPEST (T : Tx Z) : ∃ t, Z.mg "DEEPEST" = some (.int 8 t) := He.int_ok T.kin T.ns (T.says.fact 0 (f := .int "DEEPEST" 8) rfl)
theorem i_NOUGHT (T : Tx Z) : ∃ t, Z.mg "NOUGHT" = some (.int 101 t) := He.int_ok T.kin T.ns (T.says.fact 1 (f := .int "NOUGHT" 101) rfl)
theorem i_DEEP (T : Tx Z) : ∃ t, Z.mg "DEEP" = some (.int 102 t) := He.int_ok T.kin T.ns (T.says.fact 2 (f := .int "DEEP" 102) rfl)
theorem g_goal_of (T : Tx Z) : Z.mg "goal_of" = some (.ref (He.ga Z.K "goal_of")) := He.glo_ok T.kin T.ns (T.says.fact 3 (f := .glo "goal_of") rfl)
theorem kp_goal_of (T : Tx Z) : PySem.W.keepIn Z.K (.ref (He.ga Z.K "goal_of")) = true := He.keep_ok (T.says.fact 4 (f := .keep "goal_of") rfl)
theorem g_Frame (T : Tx Z) : Z.mg "Frame" = some (.ref (He.ga Z.K "Frame")) := He.glo_ok T.kin T.ns (T.says.fact 5 (f := .glo "Frame") rfl)
theorem cl_Frame (T : Tx Z) : Cls Z.K (He.ga Z.K "Frame") := He.cls_ok (T.says.fact 6 (f := .cls "Frame") rfl)
theorem na_Frame_boxes (T : Tx Z) : NoAttr Z.K (He.ga Z.K "Frame") "boxes" := He.noat_ok (T.says.fact 7 (f := .noat "Frame" "boxes") rfl)
theorem na_Frame_pile (T : Tx Z) : NoAttr Z.K (He.ga Z.K "Frame") "pile" := He.noat_ok (T.says.fact 8 (f := .noat "Frame" "pile") rfl)
theorem na_Frame_place (T : Tx Z) : NoAttr Z.K (He.ga Z.K "Frame") "place" := He.noat_ok (T.says.fact 9 (f := .noat "Frame" "place") rfl)
theorem mk_Frame (T : Tx Z) : Mk Z.K (He.ga Z.K "Frame") (He.ma Z.K (He.ga Z.K "Frame") "__init__") := He.mkr_ok (T.says.fact 10 (f := .mkr "Frame") rfl)
theorem m_Frame_lay (T : Tx Z) : Meth Z.K (He.ga Z.K "Frame") "lay" (He.ma Z.K (He.ga Z.K "Frame") "lay") := He.meth_ok (T.says.fact 11 (f := .meth "Frame" "lay") rfl)
theorem g_Machine (T : Tx Z) : Z.mg "Machine" = some (.ref (He.ga Z.K "Machine")) := He.glo_ok T.kin T.ns (T.says.fact 12 (f := .glo "Machine") rfl)
theorem cl_Machine (T : Tx Z) : Cls Z.K (He.ga Z.K "Machine") := He.cls_ok (T.says.fact 13 (f := .cls "Machine") rfl)
theorem na_Machine_boxes (T : Tx Z) : NoAttr Z.K (He.ga Z.K "Machine") "boxes" := He.noat_ok (T.says.fact 14 (f := .noat "Machine" "boxes") rfl)
theorem na_Machine_code (T : Tx Z) : NoAttr Z.K (He.ga Z.K "Machine") "code" := He.noat_ok (T.says.fact 15 (f := .noat "Machine" "code") rfl)
theorem na_Machine_ended (T : Tx Z) : NoAttr Z.K (He.ga Z.K "Machine") "ended" := He.noat_ok (T.says.fact 16 (f := .noat "Machine" "ended") rfl)
theorem na_Machine_frames (T : Tx Z) : NoAttr Z.K (He.ga Z.K "Machine") "frames" := He.noat_ok (T.says.fact 17 (f := .noat "Machine" "frames") rfl)
theorem na_Machine_said (T : Tx Z) : NoAttr Z.K (He.ga Z.K "Machine") "said" := He.noat_ok (T.says.fact 18 (f := .noat "Machine" "said") rfl)
theorem na_Machine_starts (T : Tx Z) : NoAttr Z.K (He.ga Z.K "Machine") "starts" := He.noat_ok (T.says.fact 19 (f := .noat "Machine" "starts") rfl)
theorem na_Machine_stretches (T : Tx Z) : NoAttr Z.K (He.ga Z.K "Machine") "stretches" := He.noat_ok (T.says.fact 20 (f := .noat "Machine" "stretches") rfl)
theorem na_Machine_turns (T : Tx Z) : NoAttr Z.K (He.ga Z.K "Machine") "turns" := He.noat_ok (T.says.fact 21 (f := .noat "Machine" "turns") rfl)
theorem mk_Machine (T : Tx Z) : Mk Z.K (He.ga Z.K "Machine") (He.ma Z.K (He.ga Z.K "Machine") "__init__") := He.mkr_ok (T.says.fact 22 (f := .mkr "Machine") rfl)
theorem m_Machine_step (T : Tx Z) : Meth Z.K (He.ga Z.K "Machine") "step" (He.ma Z.K (He.ga Z.K "Machine") "step") := He.meth_ok (T.says.fact 23 (f := .meth "Machine" "step") rfl)
theorem m_Machine_taken (T : Tx Z) : Meth Z.K (He.ga Z.K "Machine") "taken" (He.ma Z.K (He.ga Z.K "Machine") "taken") := He.meth_ok (T.says.fact 24 (f := .meth "Machine" "taken") rfl)
theorem m_Machine_move (T : Tx Z) : Meth Z.K (He.ga Z.K "Machine") "move" (He.ma Z.K (He.ga Z.K "Machine") "move") := He.meth_ok (T.says.fact 25 (f := .meth "Machine" "move") rfl)
theorem m_Machine_meet (T : Tx Z) : Meth Z.K (He.ga Z.K "Machine") "meet" (He.ma Z.K (He.ga Z.K "Machine") "meet") := He.meth_ok (T.says.fact 26 (f := .meth "Machine" "meet") rfl)
theorem m_Machine_jump (T : Tx Z) : Meth Z.K (He.ga Z.K "Machine") "jump" (He.ma Z.K (He.ga Z.K "Machine") "jump") := He.meth_ok (T.says.fact 27 (f := .meth "Machine" "jump") rfl)
theorem m_Machine_enter (T : Tx Z) : Meth Z.K (He.ga Z.K "Machine") "enter" (He.ma Z.K (He.ga Z.K "Machine") "enter") := He.meth_ok (T.says.fact 28 (f := .meth "Machine" "enter") rfl)
theorem m_Machine_back (T : Tx Z) : Meth Z.K (He.ga Z.K "Machine") "back" (He.ma Z.K (He.ga Z.K "Machine") "back") := He.meth_ok (T.says.fact 29 (f := .meth "Machine" "back") rfl)
theorem m_Machine_fault (T : Tx Z) : Meth Z.K (He.ga Z.K "Machine") "fault" (He.ma Z.K (He.ga Z.K "Machine") "fault") := He.meth_ok (T.says.fact 30 (f := .meth "Machine" "fault") rfl)
theorem g_run (T : Tx Z) : Z.mg "run" = some (.ref (He.ga Z.K "run")) := He.glo_ok T.kin T.ns (T.says.fact 31 (f := .glo "run") rfl)
theorem kp_run (T : Tx Z) : PySem.W.keepIn Z.K (.ref (He.ga Z.K "run")) = true := He.keep_ok (T.says.fact 32 (f := .keep "run") rfl)
theorem g_l_whole (T : Tx Z) : Z.mg "_law_whole" = some (.ref (He.ga Z.K "_law_whole")) := He.glo_ok T.kin T.ns (T.says.fact 33 (f := .glo "_law_whole") rfl)
theorem kp_l_whole (T : Tx Z) : PySem.W.keepIn Z.K (.ref (He.ga Z.K "_law_whole")) = true := He.keep_ok (T.says.fact 34 (f := .keep "_law_whole") rfl)
theorem g_l_cell_at (T : Tx Z) : Z.mg "_law_cell_at" = some (.ref (He.ga Z.K "_law_cell_at")) := He.glo_ok T.kin T.ns (T.says.fact 35 (f := .glo "_law_cell_at") rfl)
theorem kp_l_cell_at (T : Tx Z) : PySem.W.keepIn Z.K (.ref (He.ga Z.K "_law_cell_at")) = true := He.keep_ok (T.says.fact 36 (f := .keep "_law_cell_at") rfl)
theorem g_l_number (T : Tx Z) : Z.mg "_law_number" = some (.ref (He.ga Z.K "_law_number")) := He.glo_ok T.kin T.ns (T.says.fact 37 (f := .glo "_law_number") rfl)
theorem kp_l_number (T : Tx Z) : PySem.W.keepIn Z.K (.ref (He.ga Z.K "_law_number")) = true := He.keep_ok (T.says.fact 38 (f := .keep "_law_number") rfl)
theorem g_l_size (T : Tx Z) : Z.mg "_law_size" = some (.ref (He.ga Z.K "_law_size")) := He.glo_ok T.kin T.ns (T.says.fact 39 (f := .glo "_law_size") rfl)
theorem kp_l_size (T : Tx Z) : PySem.W.keepIn Z.K (.ref (He.ga Z.K "_law_size")) = true := He.keep_ok (T.says.fact 40 (f := .keep "_law_size") rfl)
theorem g_l_group (T : Tx Z) : Z.mg "_law_group" = some (.ref (He.ga Z.K "_law_group")) := He.glo_ok T.kin T.ns (T.says.fact 41 (f := .glo "_law_group") rfl)
theorem kp_l_group (T : Tx Z) : PySem.W.keepIn Z.K (.ref (He.ga Z.K "_law_group")) = true := He.keep_ok (T.says.fact 42 (f := .keep "_law_group") rfl)
theorem g_l_places (T : Tx Z) : Z.mg "_law_places" = some (.ref (He.ga Z.K "_law_places")) := He.glo_ok T.kin T.ns (T.says.fact 43 (f := .glo "_law_places") rfl)
theorem kp_l_places (T : Tx Z) : PySem.W.keepIn Z.K (.ref (He.ga Z.K "_law_places")) = true := He.keep_ok (T.says.fact 44 (f := .keep "_law_places") rfl)
theorem g_l_code (T : Tx Z) : Z.mg "_law_code" = some (.ref (He.ga Z.K "_law_code")) := He.glo_ok T.kin T.ns (T.says.fact 45 (f := .glo "_law_code") rfl)
theorem kp_l_code (T : Tx Z) : PySem.W.keepIn Z.K (.ref (He.ga Z.K "_law_code")) = true := He.keep_ok (T.says.fact 46 (f := .keep "_law_code") rfl)
theorem g_l_goals (T : Tx Z) : Z.mg "_law_goals" = some (.ref (He.ga Z.K "_law_goals")) := He.glo_ok T.kin T.ns (T.says.fact 47 (f := .glo "_law_goals") rfl)
theorem kp_l_goals (T : Tx Z) : PySem.W.keepIn Z.K (.ref (He.ga Z.K "_law_goals")) = true := He.keep_ok (T.says.fact 48 (f := .keep "_law_goals") rfl)
theorem g_l_stretches (T : Tx Z) : Z.mg "_law_stretches" = some (.ref (He.ga Z.K "_law_stretches")) := He.glo_ok T.kin T.ns (T.says.fact 49 (f := .glo "_law_stretches") rfl)
theorem kp_l_stretches (T : Tx Z) : PySem.W.keepIn Z.K (.ref (He.ga Z.K "_law_stretches")) = true := He.keep_ok (T.says.fact 50 (f := .keep "_law_stretches") rfl)
theorem g_l_drawn (T : Tx Z) : Z.mg "_law_drawn" = some (.ref (He.ga Z.K "_law_drawn")) := He.glo_ok T.kin T.ns (T.says.fact 51 (f := .glo "_law_drawn") rfl)
theorem kp_l_drawn (T : Tx Z) : PySem.W.keepIn Z.K (.ref (He.ga Z.K "_law_drawn")) = true := He.keep_ok (T.says.fact 52 (f := .keep "_law_drawn") rfl)
theorem g_l_is (T : Tx Z) : Z.mg "_law_is" = some (.ref (He.ga Z.K "_law_is")) := He.glo_ok T.kin T.ns (T.says.fact 53 (f := .glo "_law_is") rfl)
theorem kp_l_is (T : Tx Z) : PySem.W.keepIn Z.K (.ref (He.ga Z.K "_law_is")) = true := He.keep_ok (T.says.fact 54 (f := .keep "_law_is") rfl)
theorem g_l_goal (T : Tx Z) : Z.mg "_law_goal" = some (.ref (He.ga Z.K "_law_goal")) := He.glo_ok T.kin T.ns (T.says.fact 55 (f := .glo "_law_goal") rfl)
theorem kp_l_goal (T : Tx Z) : PySem.W.keepIn Z.K (.ref (He.ga Z.K "_law_goal")) = true := He.keep_ok (T.says.fact 56 (f := .keep "_law_goal") rfl)
theorem g_l_fault (T : Tx Z) : Z.mg "_law_fault" = some (.ref (He.ga Z.K "_law_fault")) := He.glo_ok T.kin T.ns (T.says.fact 57 (f := .glo "_law_fault") rfl)
theorem kp_l_fault (T : Tx Z) : PySem.W.keepIn Z.K (.ref (He.ga Z.K "_law_fault")) = true := He.keep_ok (T.says.fact 58 (f := .keep "_law_fault") rfl)
theorem g_l_turn (T : Tx Z) : Z.mg "_law_turn" = some (.ref (He.ga Z.K "_law_turn")) := He.glo_ok T.kin T.ns (T.says.fact 59 (f := .glo "_law_turn") rfl)
theorem kp_l_turn (T : Tx Z) : PySem.W.keepIn Z.K (.ref (He.ga Z.K "_law_turn")) = true := He.keep_ok (T.says.fact 60 (f := .keep "_law_turn") rfl)
theorem g_l_two (T : Tx Z) : Z.mg "_law_two" = some (.ref (He.ga Z.K "_law_two")) := He.glo_ok T.kin T.ns (T.says.fact 61 (f := .glo "_law_two") rfl)
theorem kp_l_two (T : Tx Z) : PySem.W.keepIn Z.K (.ref (He.ga Z.K "_law_two")) = true := He.keep_ok (T.says.fact 62 (f := .keep "_law_two") rfl)
theorem g_l_called (T : Tx Z) : Z.mg "_law_called" = some (.ref (He.ga Z.K "_law_called")) := He.glo_ok T.kin T.ns (T.says.fact 63 (f := .glo "_law_called") rfl)
theorem kp_l_called (T : Tx Z) : PySem.W.keepIn Z.K (.ref (He.ga Z.K "_law_called")) = true := He.keep_ok (T.says.fact 64 (f := .keep "_law_called") rfl)
theorem g_l_given (T : Tx Z) : Z.mg "_law_given" = some (.ref (He.ga Z.K "_law_given")) := He.glo_ok T.kin T.ns (T.says.fact 65 (f := .glo "_law_given") rfl)
theorem kp_l_given (T : Tx Z) : PySem.W.keepIn Z.K (.ref (He.ga Z.K "_law_given")) = true := He.keep_ok (T.says.fact 66 (f := .keep "_law_given") rfl)
theorem g_l_plain (T : Tx Z) : Z.mg "_law_plain" = some (.ref (He.ga Z.K "_law_plain")) := He.glo_ok T.kin T.ns (T.says.fact 67 (f := .glo "_law_plain") rfl)
theorem kp_l_plain (T : Tx Z) : PySem.W.keepIn Z.K (.ref (He.ga Z.K "_law_plain")) = true := He.keep_ok (T.says.fact 68 (f := .keep "_law_plain") rfl)
theorem g_l_step (T : Tx Z) : Z.mg "_law_step" = some (.ref (He.ga Z.K "_law_step")) := He.glo_ok T.kin T.ns (T.says.fact 69 (f := .glo "_law_step") rfl)
theorem kp_l_step (T : Tx Z) : PySem.W.keepIn Z.K (.ref (He.ga Z.K "_law_step")) = true := He.keep_ok (T.says.fact 70 (f := .keep "_law_step") rfl)
theorem g_l_gone (T : Tx Z) : Z.mg "_law_gone" = some (.ref (He.ga Z.K "_law_gone")) := He.glo_ok T.kin T.ns (T.says.fact 71 (f := .glo "_law_gone") rfl)
theorem kp_l_gone (T : Tx Z) : PySem.W.keepIn Z.K (.ref (He.ga Z.K "_law_gone")) = true := He.keep_ok (T.says.fact 72 (f := .keep "_law_gone") rfl)
theorem g_law (T : Tx Z) : Z.mg "law" = some (.ref (He.ga Z.K "law")) := He.glo_ok T.kin T.ns (T.says.fact 73 (f := .glo "law") rfl)
theorem kp_law (T : Tx Z) : PySem.W.keepIn Z.K (.ref (He.ga Z.K "law")) = true := He.keep_ok (T.says.fact 74 (f := .keep "law") rfl)
theorem g_bool (T : Tx Z) : Z.mg "bool" = none := He.free_ok T.kin T.ns (T.says.fact 75 (f := .free "bool") rfl)
theorem g_enumerate (T : Tx Z) : Z.mg "enumerate" = none := He.free_ok T.kin T.ns (T.says.fact 76 (f := .free "enumerate") rfl)
theorem g_int (T : Tx Z) : Z.mg "int" = none := He.free_ok T.kin T.ns (T.says.fact 77 (f := .free "int") rfl)
theorem g_isinstance (T : Tx Z) : Z.mg "isinstance" = none := He.free_ok T.kin T.ns (T.says.fact 78 (f := .free "isinstance") rfl)
theorem g_len (T : Tx Z) : Z.mg "len" = none := He.free_ok T.kin T.ns (T.says.fact 79 (f := .free "len") rfl)
theorem g_list (T : Tx Z) : Z.mg "list" = none := He.free_ok T.kin T.ns (T.says.fact 80 (f := .free "list") rfl)
theorem g_max (T : Tx Z) : Z.mg "max" = none := He.free_ok T.kin T.ns (T.says.fact 81 (f := .free "max") rfl)
theorem g_min (T : Tx Z) : Z.mg "min" = none := He.free_ok T.kin T.ns (T.says.fact 82 (f := .free "min") rfl)
theorem g_range (T : Tx Z) : Z.mg "range" = none := He.free_ok T.kin T.ns (T.says.fact 83 (f := .free "range") rfl)
theorem g_str (T : Tx Z) : Z.mg "str" = none := He.free_ok T.kin T.ns (T.says.fact 84 (f := .free "str") rfl)
theorem g_tuple (T : Tx Z) : Z.mg "tuple" = none := He.free_ok T.kin T.ns (T.says.fact 85 (f := .free "tuple") rfl)
theorem fx_goal_of (T : Tx Z) : ∃ fd, FunE Z.K "goal_of" "goal_of" s_goal_of (He.fAd Z.K ("goal_of", none)) fd := fun_of (T.says.def_ 0 (d := d_goal_of) rfl)
theorem fx_Frame___init__ (T : Tx Z) : ∃ fd, FunE Z.K "__init__" "Frame.__init__" s_Frame___init__ (He.fAd Z.K ("Frame", some "__init__")) fd := fun_of (T.says.def_ 1 (d := d_Frame___init__) rfl)
theorem fx_Frame_lay (T : Tx Z) : ∃ fd, FunE Z.K "lay" "Frame.lay" s_Frame_lay (He.fAd Z.K ("Frame", some "lay")) fd := fun_of (T.says.def_ 2 (d := d_Frame_lay) rfl)
theorem fx_Machine___init__ (T : Tx Z) : ∃ fd, FunE Z.K "__init__" "Machine.__init__" s_Machine___init__ (He.fAd Z.K ("Machine", some "__init__")) fd := fun_of (T.says.def_ 3 (d := d_Machine___init__) rfl)
theorem fx_Machine_step (T : Tx Z) : ∃ fd, FunE Z.K "step" "Machine.step" s_Machine_step (He.fAd Z.K ("Machine", some "step")) fd := fun_of (T.says.def_ 4 (d := d_Machine_step) rfl)
theorem fx_Machine_taken (T : Tx Z) : ∃ fd, FunE Z.K "taken" "Machine.taken" s_Machine_taken (He.fAd Z.K ("Machine", some "taken")) fd := fun_of (T.says.def_ 5 (d := d_Machine_taken) rfl)
theorem fx_Machine_move (T : Tx Z) : ∃ fd, FunE Z.K "move" "Machine.move" s_Machine_move (He.fAd Z.K ("Machine", some "move")) fd := fun_of (T.says.def_ 6 (d := d_Machine_move) rfl)
theorem fx_Machine_meet (T : Tx Z) : ∃ fd, FunE Z.K "meet" "Machine.meet" s_Machine_meet (He.fAd Z.K ("Machine", some "meet")) fd := fun_of (T.says.def_ 7 (d := d_Machine_meet) rfl)
theorem fx_Machine_jump (T : Tx Z) : ∃ fd, FunE Z.K "jump" "Machine.jump" s_Machine_jump (He.fAd Z.K ("Machine", some "jump")) fd := fun_of (T.says.def_ 8 (d := d_Machine_jump) rfl)
theorem fx_Machine_enter (T : Tx Z) : ∃ fd, FunE Z.K "enter" "Machine.enter" s_Machine_enter (He.fAd Z.K ("Machine", some "enter")) fd := fun_of (T.says.def_ 9 (d := d_Machine_enter) rfl)
theorem fx_Machine_back (T : Tx Z) : ∃ fd, FunE Z.K "back" "Machine.back" s_Machine_back (He.fAd Z.K ("Machine", some "back")) fd := fun_of (T.says.def_ 10 (d := d_Machine_back) rfl)
theorem fx_Machine_fault (T : Tx Z) : ∃ fd, FunE Z.K "fault" "Machine.fault" s_Machine_fault (He.fAd Z.K ("Machine", some "fault")) fd := fun_of (T.says.def_ 11 (d := d_Machine_fault) rfl)
theorem fx_run (T : Tx Z) : ∃ fd, FunE Z.K "run" "run" s_run (He.fAd Z.K ("run", none)) fd := fun_of (T.says.def_ 12 (d := d_run) rfl)
theorem fx_l_whole (T : Tx Z) : ∃ fd, FunE Z.K "_law_whole" "_law_whole" s_l_whole (He.fAd Z.K ("_law_whole", none)) fd := fun_of (T.says.def_ 13 (d := d_l_whole) rfl)
theorem fx_l_cell_at (T : Tx Z) : ∃ fd, FunE Z.K "_law_cell_at" "_law_cell_at" s_l_cell_at (He.fAd Z.K ("_law_cell_at", none)) fd := fun_of (T.says.def_ 14 (d := d_l_cell_at) rfl)
theorem fx_l_number (T : Tx Z) : ∃ fd, FunE Z.K "_law_number" "_law_number" s_l_number (He.fAd Z.K ("_law_number", none)) fd := fun_of (T.says.def_ 15 (d := d_l_number) rfl)
theorem fx_l_size (T : Tx Z) : ∃ fd, FunE Z.K "_law_size" "_law_size" s_l_size (He.fAd Z.K ("_law_size", none)) fd := fun_of (T.says.def_ 16 (d := d_l_size) rfl)
theorem fx_l_group (T : Tx Z) : ∃ fd, FunE Z.K "_law_group" "_law_group" s_l_group (He.fAd Z.K ("_law_group", none)) fd := fun_of (T.says.def_ 17 (d := d_l_group) rfl)
theorem fx_l_places (T : Tx Z) : ∃ fd, FunE Z.K "_law_places" "_law_places" s_l_places (He.fAd Z.K ("_law_places", none)) fd := fun_of (T.says.def_ 18 (d := d_l_places) rfl)
theorem fx_l_code (T : Tx Z) : ∃ fd, FunE Z.K "_law_code" "_law_code" s_l_code (He.fAd Z.K ("_law_code", none)) fd := fun_of (T.says.def_ 19 (d := d_l_code) rfl)
theorem fx_l_goals (T : Tx Z) : ∃ fd, FunE Z.K "_law_goals" "_law_goals" s_l_goals (He.fAd Z.K ("_law_goals", none)) fd := fun_of (T.says.def_ 20 (d := d_l_goals) rfl)
theorem fx_l_stretches (T : Tx Z) : ∃ fd, FunE Z.K "_law_stretches" "_law_stretches" s_l_stretches (He.fAd Z.K ("_law_stretches", none)) fd := fun_of (T.says.def_ 21 (d := d_l_stretches) rfl)
theorem fx_l_drawn (T : Tx Z) : ∃ fd, FunE Z.K "_law_drawn" "_law_drawn" s_l_drawn (He.fAd Z.K ("_law_drawn", none)) fd := fun_of (T.says.def_ 22 (d := d_l_drawn) rfl)
theorem fx_l_is (T : Tx Z) : ∃ fd, FunE Z.K "_law_is" "_law_is" s_l_is (He.fAd Z.K ("_law_is", none)) fd := fun_of (T.says.def_ 23 (d := d_l_is) rfl)
theorem fx_l_goal (T : Tx Z) : ∃ fd, FunE Z.K "_law_goal" "_law_goal" s_l_goal (He.fAd Z.K ("_law_goal", none)) fd := fun_of (T.says.def_ 24 (d := d_l_goal) rfl)
theorem fx_l_fault (T : Tx Z) : ∃ fd, FunE Z.K "_law_fault" "_law_fault" s_l_fault (He.fAd Z.K ("_law_fault", none)) fd := fun_of (T.says.def_ 25 (d := d_l_fault) rfl)
theorem fx_l_turn (T : Tx Z) : ∃ fd, FunE Z.K "_law_turn" "_law_turn" s_l_turn (He.fAd Z.K ("_law_turn", none)) fd := fun_of (T.says.def_ 26 (d := d_l_turn) rfl)
theorem fx_l_two (T : Tx Z) : ∃ fd, FunE Z.K "_law_two" "_law_two" s_l_two (He.fAd Z.K ("_law_two", none)) fd := fun_of (T.says.def_ 27 (d := d_l_two) rfl)
theorem fx_l_called (T : Tx Z) : ∃ fd, FunE Z.K "_law_called" "_law_called" s_l_called (He.fAd Z.K ("_law_called", none)) fd := fun_of (T.says.def_ 28 (d := d_l_called) rfl)
theorem fx_l_given (T : Tx Z) : ∃ fd, FunE Z.K "_law_given" "_law_given" s_l_given (He.fAd Z.K ("_law_given", none)) fd := fun_of (T.says.def_ 29 (d := d_l_given) rfl)
theorem fx_l_plain (T : Tx Z) : ∃ fd, FunE Z.K "_law_plain" "_law_plain" s_l_plain (He.fAd Z.K ("_law_plain", none)) fd := fun_of (T.says.def_ 30 (d := d_l_plain) rfl)
theorem fx_l_step (T : Tx Z) : ∃ fd, FunE Z.K "_law_step" "_law_step" s_l_step (He.fAd Z.K ("_law_step", none)) fd := fun_of (T.says.def_ 31 (d := d_l_step) rfl)
theorem fx_l_gone (T : Tx Z) : ∃ fd, FunE Z.K "_law_gone" "_law_gone" s_l_gone (He.fAd Z.K ("_law_gone", none)) fd := fun_of (T.says.def_ 32 (d := d_l_gone) rfl)
theorem fx_law (T : Tx Z) : ∃ fd, FunE Z.K "law" "law" s_law (He.fAd Z.K ("law", none)) fd := fun_of (T.says.def_ 33 (d := d_law) rfl)
end
section
variable {Z : Zt} {n : Nat}
theorem sc_goal_of : FnScope n_goal_of ["stretches", "place"] (defScope s_goal_of) := ⟨rfl, rfl, rfl, by decide +kernel, rfl, by decide +kernel, by decide +kernel⟩
theorem dv_goal_of (T : Tx Z) {sp : Sp} (len : ∀ vs H Q E, sp vs H Q E → vs.length = 2)
    (pure : ∀ (vs : List V) (H : Hp) (Q : VK) (E : XK), sp vs H Q E → t_goal_of Z.K { nx := fun _ H' => Q .non H', rt := Q } (L2.start n_goal_of vs) H) : Cal Z CX0 (n + 1) "goal_of" ["stretches", "place"] sp := by
  obtain ⟨fd, F⟩ := fx_goal_of T
  have B : L2.Binds Z.K fd ["stretches", "place"] [] := F.binds fun _ _ _ _ _ _ us hl => match us, hl with | [_, _], _ => rfl
  refine ⟨⟨_, fd, g_goal_of T, kp_goal_of T, B, mkR (tb := t_goal_of Z.K) F sc_goal_of len (fun cdv A outer s H E hr => ?_) pure⟩⟩
  skip
  exact (pss_cons (ps_for PassesOwn.never rfl (pi_list (pv 0)) (pg_name (i := 2) sc_goal_of.nd rfl (Or.inl rfl)) (pss_one (ps_if (PW.pt (pw_and (pt_cmpR op_leI (pe_ix ix_tup (pv 2) pe_int (fun _ _ => rfl)) (pv 1) (nomark _)) (pw_and1 (pt_cmpR op_ltI (pv 1) (pe_ix ix_tup (pv 2) pe_int (fun _ _ => rfl)) (nomark _))))) (pss_one (ps_ret (pe_ix ix_tup (pv 2) pe_int (fun _ _ => rfl)))) pss_nil)))
    (pss_one (ps_ret pe_non)))
theorem sc_Frame___init__ : FnScope n_Frame___init__ ["self", "place", "boxes", "number"] (defScope s_Frame___init__) := ⟨rfl, rfl, rfl, by decide +kernel, rfl, by decide +kernel, by decide +kernel⟩
theorem dv_Frame___init__ (T : Tx Z) {sp : Sp} (len : ∀ vs H Q E, sp vs H Q E → vs.length = 4)
    (pure : ∀ (vs : List V) (H : Hp) (Q : VK) (E : XK), sp vs H Q E → t_Frame___init__ Z.K { nx := fun _ H' => Q .non H', rt := Q } (L2.start n_Frame___init__ vs) H) : CalN Z CX0 (n + 1) "Frame" (He.ga Z.K "Frame") ["self", "place", "boxes", "number"] sp := by
  obtain ⟨fd, F⟩ := fx_Frame___init__ T
  have B : L2.Binds Z.K fd ["self", "place", "boxes", "number"] [] := F.binds fun _ _ _ _ _ _ us hl => match us, hl with | [_, _, _, _], _ => rfl
  refine ⟨⟨_, fd, mk_Frame T, g_Frame T, B, mkR (tb := t_Frame___init__ Z.K) F sc_Frame___init__ len (fun cdv A outer s H E hr => ?_) pure⟩⟩
  skip
  exact (pss_cons (psfd (cl_Frame T) (na_Frame_place T) (pv 0) (pv 1))
    (pss_cons (psfd (cl_Frame T) (na_Frame_boxes T) (pv 0) (pe_op op_cat (pe_lst (pa_cons (pv 3) pa_nil)) (pe_op op_rep (pe_lst (pa_cons pe_int pa_nil)) (pe_op op_subI (pv 2) pe_int))))
    (pss_one (psfd (cl_Frame T) (na_Frame_pile T) (pv 0) (pe_lst pa_nil)))))
theorem sc_Frame_lay : FnScope n_Frame_lay ["self", "number"] (defScope s_Frame_lay) := ⟨rfl, rfl, rfl, by decide +kernel, rfl, by decide +kernel, by decide +kernel⟩
theorem dv_Frame_lay (T : Tx Z) {sp : Sp} (len : ∀ vs H Q E, sp vs H Q E → vs.length = 2)
    (pure : ∀ (vs : List V) (H : Hp) (Q : VK) (E : XK), sp vs H Q E → t_Frame_lay Z.K { nx := fun _ H' => Q .non H', rt := Q } (L2.start n_Frame_lay vs) H) : CalM Z CX0 (n + 1) (He.ga Z.K "Frame") "lay" ["self", "number"] sp := by
  obtain ⟨fd, F⟩ := fx_Frame_lay T
  have B : L2.Binds Z.K fd ["self", "number"] [] := F.binds fun _ _ _ _ _ _ us hl => match us, hl with | [_, _], _ => rfl
  refine ⟨⟨_, fd, m_Frame_lay T, B, mkR (tb := t_Frame_lay Z.K) F sc_Frame_lay len (fun cdv A outer s H E hr => ?_) pure⟩⟩
  skip
  exact (pss_cons (ps_expr (pe_bm PySem.F.plainAttrs_list PySem.F.slot_list_append PySem.F.type_list_append mt_append (pfd (cl_Frame T) (na_Frame_pile T) (pv 0)) (pa_cons (pv 1) pa_nil)))
    (pss_one (psfd (cl_Frame T) (na_Frame_place T) (pv 0) (pe_op op_addI (pfd (cl_Frame T) (na_Frame_place T) (pv 0)) pe_int))))
theorem sc_Machine___init__ : FnScope n_Machine___init__ ["self", "parts", "number", "turns"] (defScope s_Machine___init__) := ⟨rfl, rfl, rfl, by decide +kernel, rfl, by decide +kernel, by decide +kernel⟩
theorem dv_Machine___init__ (T : Tx Z) {k_Frame___init__ : Nat} {ps_Frame___init__ : List Str} {sp_Frame___init__ : Sp} (c_Frame___init__ : CalN Z CX0 k_Frame___init__ "Frame" (He.ga Z.K "Frame") ps_Frame___init__ sp_Frame___init__) (h_Frame___init__ : k_Frame___init__ + 1 ≤ n) {sp : Sp} (len : ∀ vs H Q E, sp vs H Q E → vs.length = 4)
    (pure : ∀ (vs : List V) (H : Hp) (Q : VK) (E : XK), sp vs H Q E → t_Machine___init__ Z.K sp_Frame___init__ { nx := fun _ H' => Q .non H', rt := Q } (L2.start n_Machine___init__ vs) H) : CalN Z CX0 (n + 1) "Machine" (He.ga Z.K "Machine") ["self", "parts", "number", "turns"] sp := by
  obtain ⟨fd, F⟩ := fx_Machine___init__ T
  have B : L2.Binds Z.K fd ["self", "parts", "number", "turns"] [] := F.binds fun _ _ _ _ _ _ us hl => match us, hl with | [_, _, _, _], _ => rfl
  refine ⟨⟨_, fd, mk_Machine T, g_Machine T, B, mkR (tb := t_Machine___init__ Z.K sp_Frame___init__) F sc_Machine___init__ len (fun cdv A outer s H E hr => ?_) pure⟩⟩
  have r_Frame___init__ := hr.mono h_Frame___init__
  exact (pss_cons (psfd (cl_Machine T) (na_Machine_code T) (pv 0) (pe_ix ix_tup (pv 1) pe_int (fun _ _ => rfl)))
    (pss_cons (psfd (cl_Machine T) (na_Machine_stretches T) (pv 0) (pe_ix ix_tup (pv 1) pe_int (fun _ _ => rfl)))
    (pss_cons (psfd (cl_Machine T) (na_Machine_starts T) (pv 0) (pe_ix ix_tup (pv 1) pe_int (fun _ _ => rfl)))
    (pss_cons (psfd (cl_Machine T) (na_Machine_boxes T) (pv 0) (pe_ix ix_tup (pv 1) pe_int (fun _ _ => rfl)))
    (pss_cons (psfd (cl_Machine T) (na_Machine_turns T) (pv 0) (pv 3))
    (pss_cons (psfd (cl_Machine T) (na_Machine_said T) (pv 0) (pe_lst pa_nil))
    (pss_cons (psfd (cl_Machine T) (na_Machine_ended T) (pv 0) pe_non)
    (pss_one (psfd (cl_Machine T) (na_Machine_frames T) (pv 0) (pe_lst (pa_cons (pmak c_Frame___init__ r_Frame___init__ (by rfl) pass0 (pa_cons (pe_ix ix_list (pfd (cl_Machine T) (na_Machine_starts T) (pv 0)) pe_int (fun _ _ => rfl)) (pa_cons (pfd (cl_Machine T) (na_Machine_boxes T) (pv 0)) (pa_cons (pv 2) pa_nil)))) pa_nil)))))))))))
theorem sc_Machine_step : FnScope n_Machine_step ["self"] (defScope s_Machine_step) := ⟨rfl, rfl, rfl, by decide +kernel, rfl, by decide +kernel, by decide +kernel⟩
theorem dv_Machine_step (T : Tx Z) {k_Machine_meet : Nat} {ps_Machine_meet : List Str} {sp_Machine_meet : Sp} (c_Machine_meet : CalM Z CX0 k_Machine_meet (He.ga Z.K "Machine") "meet" ps_Machine_meet sp_Machine_meet) (h_Machine_meet : k_Machine_meet ≤ n) {k_Machine_move : Nat} {ps_Machine_move : List Str} {sp_Machine_move : Sp} (c_Machine_move : CalM Z CX0 k_Machine_move (He.ga Z.K "Machine") "move" ps_Machine_move sp_Machine_move) (h_Machine_move : k_Machine_move ≤ n) {k_Machine_jump : Nat} {ps_Machine_jump : List Str} {sp_Machine_jump : Sp} (c_Machine_jump : CalM Z CX0 k_Machine_jump (He.ga Z.K "Machine") "jump" ps_Machine_jump sp_Machine_jump) (h_Machine_jump : k_Machine_jump ≤ n) {k_Machine_taken : Nat} {ps_Machine_taken : List Str} {sp_Machine_taken : Sp} (c_Machine_taken : CalM Z CX0 k_Machine_taken (He.ga Z.K "Machine") "taken" ps_Machine_taken sp_Machine_taken) (h_Machine_taken : k_Machine_taken ≤ n) {k_Machine_enter : Nat} {ps_Machine_enter : List Str} {sp_Machine_enter : Sp} (c_Machine_enter : CalM Z CX0 k_Machine_enter (He.ga Z.K "Machine") "enter" ps_Machine_enter sp_Machine_enter) (h_Machine_enter : k_Machine_enter ≤ n) {k_Machine_back : Nat} {ps_Machine_back : List Str} {sp_Machine_back : Sp} (c_Machine_back : CalM Z CX0 k_Machine_back (He.ga Z.K "Machine") "back" ps_Machine_back sp_Machine_back) (h_Machine_back : k_Machine_back ≤ n) {k_Machine_fault : Nat} {ps_Machine_fault : List Str} {sp_Machine_fault : Sp} (c_Machine_fault : CalM Z CX0 k_Machine_fault (He.ga Z.K "Machine") "fault" ps_Machine_fault sp_Machine_fault) (h_Machine_fault : k_Machine_fault ≤ n) {sp : Sp} (len : ∀ vs H Q E, sp vs H Q E → vs.length = 1)
    (pure : ∀ (vs : List V) (H : Hp) (Q : VK) (E : XK), sp vs H Q E → t_Machine_step Z.K sp_Machine_meet sp_Machine_move sp_Machine_jump sp_Machine_taken sp_Machine_enter sp_Machine_back sp_Machine_fault { nx := fun _ H' => Q .non H', rt := Q } (L2.start n_Machine_step vs) H) : CalM Z CX0 (n + 1) (He.ga Z.K "Machine") "step" ["self"] sp := by
  obtain ⟨fd, F⟩ := fx_Machine_step T
  have B : L2.Binds Z.K fd ["self"] [] := F.binds fun _ _ _ _ _ _ us hl => match us, hl with | [_], _ => rfl
  refine ⟨⟨_, fd, m_Machine_step T, B, mkR (tb := t_Machine_step Z.K sp_Machine_meet sp_Machine_move sp_Machine_jump sp_Machine_taken sp_Machine_enter sp_Machine_back sp_Machine_fault) F sc_Machine_step len (fun cdv A outer s H E hr => ?_) pure⟩⟩
  have r_Machine_meet := hr.mono h_Machine_meet
  have r_Machine_move := hr.mono h_Machine_move
  have r_Machine_jump := hr.mono h_Machine_jump
  have r_Machine_taken := hr.mono h_Machine_taken
  have r_Machine_enter := hr.mono h_Machine_enter
  have r_Machine_back := hr.mono h_Machine_back
  have r_Machine_fault := hr.mono h_Machine_fault
  exact (pss_cons (ps_set (i := 1) sc_Machine_step.nd rfl (Or.inl rfl) (pe_ix ix_list (pfd (cl_Machine T) (na_Machine_frames T) (pv 0)) (pe_op op_subI (pe_callB call_lenQ (by rfl) (g_len T) PySem.boot_len (pa_cons (pfd (cl_Machine T) (na_Machine_frames T) (pv 0)) pa_nil)) pe_int) (fun _ _ => rfl)))
    (pss_cons (ps_set (i := 2) sc_Machine_step.nd rfl (Or.inl rfl) (pe_ix ix_list (pfd (cl_Machine T) (na_Machine_code T) (pv 0)) (pfd (cl_Frame T) (na_Frame_place T) (pv 1)) (fun _ _ => rfl)))
    (pss_cons (ps_set (i := 3) sc_Machine_step.nd rfl (Or.inl rfl) (pe_ix ix_tup (pv 2) pe_int (fun _ _ => rfl)))
    (pss_one (ps_if (pt_cmpR op_in_seq (pv 3) (pe_tup (pa_cons pe_str (pa_cons pe_str (pa_cons pe_str (pa_cons pe_str pa_nil))))) (by rfl)) (pss_one (ps_expr (pmet (pv 0) (cl_Machine T) c_Machine_meet r_Machine_meet pass0 (pa_cons (pv 1) (pa_cons (pv 3) pa_nil))))) (pss_one (ps_if (pt_cmpR op_in_seq (pv 3) (pe_tup (pa_cons pe_str (pa_cons pe_str (pa_cons pe_str (pa_cons pe_str pa_nil))))) (by rfl)) (pss_one (ps_expr (pmet (pv 0) (cl_Machine T) c_Machine_move r_Machine_move pass0 (pa_cons (pv 1) (pa_cons (pv 2) pa_nil))))) (pss_one (ps_if (pt_cmpR op_in_seq (pv 3) (pe_tup (pa_cons pe_str (pa_cons pe_str (pa_cons pe_str pa_nil)))) (by rfl)) (pss_one (ps_expr (pmet (pv 0) (cl_Machine T) c_Machine_jump r_Machine_jump pass0 (pa_cons (pv 1) (pa_cons (pv 2) pa_nil))))) (pss_one (ps_if (pt_cmpR op_eq (pv 3) pe_str (nomark _)) (pss_one (ps_if (pt_val (pmet0 (pv 0) (cl_Machine T) c_Machine_taken r_Machine_taken pass0)) (pss_one (psfd (cl_Frame T) (na_Frame_place T) (pv 1) (pe_op op_addI (pfd (cl_Frame T) (na_Frame_place T) (pv 1)) pe_int))) pss_nil)) (pss_one (ps_if (pt_cmpR op_eq (pv 3) pe_str (nomark _)) (pss_one (ps_expr (pmet (pv 0) (cl_Machine T) c_Machine_enter r_Machine_enter pass0 (pa_cons (pe_ix ix_tup (pv 2) pe_int (fun _ _ => rfl)) (pa_cons (pe_bm0 PySem.F.plainAttrs_list PySem.F.slot_list_pop PySem.F.type_list_pop mt_pop (pfd (cl_Frame T) (na_Frame_pile T) (pv 1))) pa_nil))))) (pss_one (ps_if (pt_cmpR op_eq (pv 3) pe_str (nomark _)) (pss_one (ps_expr (pmet (pv 0) (cl_Machine T) c_Machine_back r_Machine_back pass0 (pa_cons (pe_bm0 PySem.F.plainAttrs_list PySem.F.slot_list_pop PySem.F.type_list_pop mt_pop (pfd (cl_Frame T) (na_Frame_pile T) (pv 1))) pa_nil)))) (pss_one (ps_expr (pmet (pv 0) (cl_Machine T) c_Machine_fault r_Machine_fault pass0 (pa_cons (pe_bm0 PySem.F.plainAttrs_list PySem.F.slot_list_pop PySem.F.type_list_pop mt_pop (pfd (cl_Frame T) (na_Frame_pile T) (pv 1))) pa_nil)))))))))))))))))))
theorem sc_Machine_taken : FnScope n_Machine_taken ["self"] (defScope s_Machine_taken) := ⟨rfl, rfl, rfl, by decide +kernel, rfl, by decide +kernel, by decide +kernel⟩
theorem dv_Machine_taken (T : Tx Z) {sp : Sp} (len : ∀ vs H Q E, sp vs H Q E → vs.length = 1)
    (pure : ∀ (vs : List V) (H : Hp) (Q : VK) (E : XK), sp vs H Q E → t_Machine_taken Z.K { nx := fun _ H' => Q .non H', rt := Q } (L2.start n_Machine_taken vs) H) : CalM Z CX0 (n + 1) (He.ga Z.K "Machine") "taken" ["self"] sp := by
  obtain ⟨fd, F⟩ := fx_Machine_taken T
  have B : L2.Binds Z.K fd ["self"] [] := F.binds fun _ _ _ _ _ _ us hl => match us, hl with | [_], _ => rfl
  refine ⟨⟨_, fd, m_Machine_taken T, B, mkR (tb := t_Machine_taken Z.K) F sc_Machine_taken len (fun cdv A outer s H E hr => ?_) pure⟩⟩
  skip
  exact (pss_cons (ps_if (pt_cmpR op_eq (pfd (cl_Machine T) (na_Machine_turns T) (pv 0)) pe_int (nomark _)) (pss_cons (psfd (cl_Machine T) (na_Machine_ended T) (pv 0) (pe_tup (pa_cons pe_str (pa_cons pe_int pa_nil))))
    (pss_one (ps_ret pe_bl))) pss_nil)
    (pss_cons (psfd (cl_Machine T) (na_Machine_turns T) (pv 0) (pe_op op_subI (pfd (cl_Machine T) (na_Machine_turns T) (pv 0)) pe_int))
    (pss_one (ps_ret pe_bl))))
theorem sc_Machine_move : FnScope n_Machine_move ["self", "frame", "row"] (defScope s_Machine_move) := ⟨rfl, rfl, rfl, by decide +kernel, rfl, by decide +kernel, by decide +kernel⟩
theorem dv_Machine_move (T : Tx Z) {k_Frame_lay : Nat} {ps_Frame_lay : List Str} {sp_Frame_lay : Sp} (c_Frame_lay : CalM Z CX0 k_Frame_lay (He.ga Z.K "Frame") "lay" ps_Frame_lay sp_Frame_lay) (h_Frame_lay : k_Frame_lay ≤ n) {sp : Sp} (len : ∀ vs H Q E, sp vs H Q E → vs.length = 3)
    (pure : ∀ (vs : List V) (H : Hp) (Q : VK) (E : XK), sp vs H Q E → t_Machine_move Z.K sp_Frame_lay { nx := fun _ H' => Q .non H', rt := Q } (L2.start n_Machine_move vs) H) : CalM Z CX0 (n + 1) (He.ga Z.K "Machine") "move" ["self", "frame", "row"] sp := by
  obtain ⟨fd, F⟩ := fx_Machine_move T
  have B : L2.Binds Z.K fd ["self", "frame", "row"] [] := F.binds fun _ _ _ _ _ _ us hl => match us, hl with | [_, _, _], _ => rfl
  refine ⟨⟨_, fd, m_Machine_move T, B, mkR (tb := t_Machine_move Z.K sp_Frame_lay) F sc_Machine_move len (fun cdv A outer s H E hr => ?_) pure⟩⟩
  have r_Frame_lay := hr.mono h_Frame_lay
  exact (pss_cons (ps_if (pt_cmpR op_eq (pe_ix ix_tup (pv 2) pe_int (fun _ _ => rfl)) pe_str (nomark _)) (pss_cons (ps_expr (pmet (pv 1) (cl_Frame T) c_Frame_lay r_Frame_lay pass0 (pa_cons (pe_ix ix_tup (pv 2) pe_int (fun _ _ => rfl)) pa_nil)))
    (pss_one ps_retN)) pss_nil)
    (pss_cons (ps_if (pt_cmpR op_eq (pe_ix ix_tup (pv 2) pe_int (fun _ _ => rfl)) pe_str (nomark _)) (pss_cons (ps_expr (pmet (pv 1) (cl_Frame T) c_Frame_lay r_Frame_lay pass0 (pa_cons (pe_ix ix_list (pfd (cl_Frame T) (na_Frame_boxes T) (pv 1)) (pe_ix ix_tup (pv 2) pe_int (fun _ _ => rfl)) (fun _ _ => rfl)) pa_nil)))
    (pss_one ps_retN)) pss_nil)
    (pss_cons (ps_set (i := 3) sc_Machine_move.nd rfl (Or.inl rfl) (pe_bm0 PySem.F.plainAttrs_list PySem.F.slot_list_pop PySem.F.type_list_pop mt_pop (pfd (cl_Frame T) (na_Frame_pile T) (pv 1))))
    (pss_cons (ps_if (pt_cmpR op_eq (pe_ix ix_tup (pv 2) pe_int (fun _ _ => rfl)) pe_str (nomark _)) (pss_one (ps_asg (pv 3) (pg_sub (pfd (cl_Frame T) (na_Frame_boxes T) (pv 1)) (pe_ix ix_tup (pv 2) pe_int (fun _ _ => rfl)) set_list))) (pss_one (ps_expr (pe_bm PySem.F.plainAttrs_list PySem.F.slot_list_append PySem.F.type_list_append mt_append (pfd (cl_Machine T) (na_Machine_said T) (pv 0)) (pa_cons (pv 3) pa_nil)))))
    (pss_one (psfd (cl_Frame T) (na_Frame_place T) (pv 1) (pe_op op_addI (pfd (cl_Frame T) (na_Frame_place T) (pv 1)) pe_int)))))))
theorem sc_Machine_meet : FnScope n_Machine_meet ["self", "frame", "word"] (defScope s_Machine_meet) := ⟨rfl, rfl, rfl, by decide +kernel, rfl, by decide +kernel, by decide +kernel⟩
theorem dv_Machine_meet (T : Tx Z) {k_Frame_lay : Nat} {ps_Frame_lay : List Str} {sp_Frame_lay : Sp} (c_Frame_lay : CalM Z CX0 k_Frame_lay (He.ga Z.K "Frame") "lay" ps_Frame_lay sp_Frame_lay) (h_Frame_lay : k_Frame_lay ≤ n) {k_Machine_fault : Nat} {ps_Machine_fault : List Str} {sp_Machine_fault : Sp} (c_Machine_fault : CalM Z CX0 k_Machine_fault (He.ga Z.K "Machine") "fault" ps_Machine_fault sp_Machine_fault) (h_Machine_fault : k_Machine_fault ≤ n) {sp : Sp} (len : ∀ vs H Q E, sp vs H Q E → vs.length = 3)
    (pure : ∀ (vs : List V) (H : Hp) (Q : VK) (E : XK), sp vs H Q E → t_Machine_meet Z.K sp_Frame_lay sp_Machine_fault { nx := fun _ H' => Q .non H', rt := Q } (L2.start n_Machine_meet vs) H) : CalM Z CX0 (n + 1) (He.ga Z.K "Machine") "meet" ["self", "frame", "word"] sp := by
  obtain ⟨fd, F⟩ := fx_Machine_meet T
  have B : L2.Binds Z.K fd ["self", "frame", "word"] [] := F.binds fun _ _ _ _ _ _ us hl => match us, hl with | [_, _, _], _ => rfl
  refine ⟨⟨_, fd, m_Machine_meet T, B, mkR (tb := t_Machine_meet Z.K sp_Frame_lay sp_Machine_fault) F sc_Machine_meet len (fun cdv A outer s H E hr => ?_) pure⟩⟩
  have r_Frame_lay := hr.mono h_Frame_lay
  have r_Machine_fault := hr.mono h_Machine_fault
  exact (pss_cons (ps_set (i := 3) sc_Machine_meet.nd rfl (Or.inl rfl) (pe_bm0 PySem.F.plainAttrs_list PySem.F.slot_list_pop PySem.F.type_list_pop mt_pop (pfd (cl_Frame T) (na_Frame_pile T) (pv 1))))
    (pss_cons (ps_set (i := 4) sc_Machine_meet.nd rfl (Or.inl rfl) (pe_bm0 PySem.F.plainAttrs_list PySem.F.slot_list_pop PySem.F.type_list_pop mt_pop (pfd (cl_Frame T) (na_Frame_pile T) (pv 1))))
    (pss_one (ps_if (pt_cmpR op_eq (pv 2) pe_str (nomark _)) (pss_one (ps_expr (pmet (pv 1) (cl_Frame T) c_Frame_lay r_Frame_lay pass0 (pa_cons (pe_op op_addI (pv 4) (pv 3)) pa_nil)))) (pss_one (ps_if (pt_cmpR op_eq (pv 2) pe_str (nomark _)) (pss_one (ps_expr (pmet (pv 1) (cl_Frame T) c_Frame_lay r_Frame_lay pass0 (pa_cons (pe_op op_subI (pv 4) (pv 3)) pa_nil)))) (pss_one (ps_if (pt_cmpR op_eq (pv 2) pe_str (nomark _)) (pss_one (ps_expr (pmet (pv 1) (cl_Frame T) c_Frame_lay r_Frame_lay pass0 (pa_cons (pe_ifExp (pt_cmpR op_ltI (pv 4) (pv 3) (nomark _)) pe_int pe_int) pa_nil)))) (pss_one (ps_if (pt_cmpR op_eq (pv 3) pe_int (nomark _)) (pss_one (ps_expr (pmet (pv 0) (cl_Machine T) c_Machine_fault r_Machine_fault pass0 (pa_cons (pe_glob (by rfl) (i_NOUGHT T).choose_spec ⟨_, rfl⟩) pa_nil)))) (pss_one (ps_expr (pmet (pv 1) (cl_Frame T) c_Frame_lay r_Frame_lay pass0 (pa_cons (pe_op (op_fdZ T.seer T.tree rfl rfl rfl hr) (pv 4) (pv 3)) pa_nil))))))))))))))
theorem sc_Machine_jump : FnScope n_Machine_jump ["self", "frame", "row"] (defScope s_Machine_jump) := ⟨rfl, rfl, rfl, by decide +kernel, rfl, by decide +kernel, by decide +kernel⟩
theorem dv_Machine_jump (T : Tx Z) {sp : Sp} (len : ∀ vs H Q E, sp vs H Q E → vs.length = 3)
    (pure : ∀ (vs : List V) (H : Hp) (Q : VK) (E : XK), sp vs H Q E → t_Machine_jump Z.K { nx := fun _ H' => Q .non H', rt := Q } (L2.start n_Machine_jump vs) H) : CalM Z CX0 (n + 1) (He.ga Z.K "Machine") "jump" ["self", "frame", "row"] sp := by
  obtain ⟨fd, F⟩ := fx_Machine_jump T
  have B : L2.Binds Z.K fd ["self", "frame", "row"] [] := F.binds fun _ _ _ _ _ _ us hl => match us, hl with | [_, _, _], _ => rfl
  refine ⟨⟨_, fd, m_Machine_jump T, B, mkR (tb := t_Machine_jump Z.K) F sc_Machine_jump len (fun cdv A outer s H E hr => ?_) pure⟩⟩
  skip
  exact (pss_one (ps_if (pt_cmpR op_eq (pe_ix ix_tup (pv 2) pe_int (fun _ _ => rfl)) pe_str (nomark _)) (pss_one (psfd (cl_Frame T) (na_Frame_place T) (pv 1) (pe_ix ix_list (pfd (cl_Frame T) (na_Frame_boxes T) (pv 1)) (pe_ix ix_tup (pv 2) pe_int (fun _ _ => rfl)) (fun _ _ => rfl)))) (pss_one (ps_if (PW.pt (pw_or (pt_cmpR op_eq (pe_ix ix_tup (pv 2) pe_int (fun _ _ => rfl)) pe_str (nomark _)) (pw_or1 (pt_cmpR op_eq (pe_bm0 PySem.F.plainAttrs_list PySem.F.slot_list_pop PySem.F.type_list_pop mt_pop (pfd (cl_Frame T) (na_Frame_pile T) (pv 1))) pe_int (nomark _))))) (pss_one (psfd (cl_Frame T) (na_Frame_place T) (pv 1) (pe_ix ix_tup (pv 2) pe_int (fun _ _ => rfl)))) (pss_one (psfd (cl_Frame T) (na_Frame_place T) (pv 1) (pe_op op_addI (pfd (cl_Frame T) (na_Frame_place T) (pv 1)) pe_int)))))))
theorem sc_Machine_enter : FnScope n_Machine_enter ["self", "number", "given"] (defScope s_Machine_enter) := ⟨rfl, rfl, rfl, by decide +kernel, rfl, by decide +kernel, by decide +kernel⟩
theorem dv_Machine_enter (T : Tx Z) {k_Machine_taken : Nat} {ps_Machine_taken : List Str} {sp_Machine_taken : Sp} (c_Machine_taken : CalM Z CX0 k_Machine_taken (He.ga Z.K "Machine") "taken" ps_Machine_taken sp_Machine_taken) (h_Machine_taken : k_Machine_taken ≤ n) {k_Machine_fault : Nat} {ps_Machine_fault : List Str} {sp_Machine_fault : Sp} (c_Machine_fault : CalM Z CX0 k_Machine_fault (He.ga Z.K "Machine") "fault" ps_Machine_fault sp_Machine_fault) (h_Machine_fault : k_Machine_fault ≤ n) {k_Frame___init__ : Nat} {ps_Frame___init__ : List Str} {sp_Frame___init__ : Sp} (c_Frame___init__ : CalN Z CX0 k_Frame___init__ "Frame" (He.ga Z.K "Frame") ps_Frame___init__ sp_Frame___init__) (h_Frame___init__ : k_Frame___init__ + 1 ≤ n) {sp : Sp} (len : ∀ vs H Q E, sp vs H Q E → vs.length = 3)
    (pure : ∀ (vs : List V) (H : Hp) (Q : VK) (E : XK), sp vs H Q E → t_Machine_enter Z.K sp_Machine_taken sp_Machine_fault sp_Frame___init__ { nx := fun _ H' => Q .non H', rt := Q } (L2.start n_Machine_enter vs) H) : CalM Z CX0 (n + 1) (He.ga Z.K "Machine") "enter" ["self", "number", "given"] sp := by
  obtain ⟨fd, F⟩ := fx_Machine_enter T
  have B : L2.Binds Z.K fd ["self", "number", "given"] [] := F.binds fun _ _ _ _ _ _ us hl => match us, hl with | [_, _, _], _ => rfl
  refine ⟨⟨_, fd, m_Machine_enter T, B, mkR (tb := t_Machine_enter Z.K sp_Machine_taken sp_Machine_fault sp_Frame___init__) F sc_Machine_enter len (fun cdv A outer s H E hr => ?_) pure⟩⟩
  have r_Machine_taken := hr.mono h_Machine_taken
  have r_Machine_fault := hr.mono h_Machine_fault
  have r_Frame___init__ := hr.mono h_Frame___init__
  exact (pss_cons (ps_if (pt_not (pt_val (pmet0 (pv 0) (cl_Machine T) c_Machine_taken r_Machine_taken pass0))) (pss_one ps_retN) pss_nil)
    (pss_one (ps_if (pt_cmpR op_eq (pe_callB call_lenQ (by rfl) (g_len T) PySem.boot_len (pa_cons (pfd (cl_Machine T) (na_Machine_frames T) (pv 0)) pa_nil)) (pe_glob (by rfl) (i_DEEPEST T).choose_spec ⟨_, rfl⟩) (nomark _)) (pss_one (ps_expr (pmet (pv 0) (cl_Machine T) c_Machine_fault r_Machine_fault pass0 (pa_cons (pe_glob (by rfl) (i_DEEP T).choose_spec ⟨_, rfl⟩) pa_nil)))) (pss_one (ps_expr (pe_bm PySem.F.plainAttrs_list PySem.F.slot_list_append PySem.F.type_list_append mt_append (pfd (cl_Machine T) (na_Machine_frames T) (pv 0)) (pa_cons (pmak c_Frame___init__ r_Frame___init__ (by rfl) pass0 (pa_cons (pe_ix ix_list (pfd (cl_Machine T) (na_Machine_starts T) (pv 0)) (pv 1) (fun _ _ => rfl)) (pa_cons (pfd (cl_Machine T) (na_Machine_boxes T) (pv 0)) (pa_cons (pv 2) pa_nil)))) pa_nil)))))))
theorem sc_Machine_back : FnScope n_Machine_back ["self", "given"] (defScope s_Machine_back) := ⟨rfl, rfl, rfl, by decide +kernel, rfl, by decide +kernel, by decide +kernel⟩
theorem dv_Machine_back (T : Tx Z) {k_Frame_lay : Nat} {ps_Frame_lay : List Str} {sp_Frame_lay : Sp} (c_Frame_lay : CalM Z CX0 k_Frame_lay (He.ga Z.K "Frame") "lay" ps_Frame_lay sp_Frame_lay) (h_Frame_lay : k_Frame_lay ≤ n) {sp : Sp} (len : ∀ vs H Q E, sp vs H Q E → vs.length = 2)
    (pure : ∀ (vs : List V) (H : Hp) (Q : VK) (E : XK), sp vs H Q E → t_Machine_back Z.K sp_Frame_lay { nx := fun _ H' => Q .non H', rt := Q } (L2.start n_Machine_back vs) H) : CalM Z CX0 (n + 1) (He.ga Z.K "Machine") "back" ["self", "given"] sp := by
  obtain ⟨fd, F⟩ := fx_Machine_back T
  have B : L2.Binds Z.K fd ["self", "given"] [] := F.binds fun _ _ _ _ _ _ us hl => match us, hl with | [_, _], _ => rfl
  refine ⟨⟨_, fd, m_Machine_back T, B, mkR (tb := t_Machine_back Z.K sp_Frame_lay) F sc_Machine_back len (fun cdv A outer s H E hr => ?_) pure⟩⟩
  have r_Frame_lay := hr.mono h_Frame_lay
  exact (pss_cons (ps_expr (pe_bm0 PySem.F.plainAttrs_list PySem.F.slot_list_pop PySem.F.type_list_pop mt_pop (pfd (cl_Machine T) (na_Machine_frames T) (pv 0))))
    (pss_one (ps_if (pt_cmpR op_eq (pe_callB call_lenQ (by rfl) (g_len T) PySem.boot_len (pa_cons (pfd (cl_Machine T) (na_Machine_frames T) (pv 0)) pa_nil)) pe_int (nomark _)) (pss_one (psfd (cl_Machine T) (na_Machine_ended T) (pv 0) (pe_tup (pa_cons pe_str (pa_cons (pv 1) pa_nil))))) (pss_one (ps_expr (pmet (pe_ix ix_list (pfd (cl_Machine T) (na_Machine_frames T) (pv 0)) (pe_op op_subI (pe_callB call_lenQ (by rfl) (g_len T) PySem.boot_len (pa_cons (pfd (cl_Machine T) (na_Machine_frames T) (pv 0)) pa_nil)) pe_int) (fun _ _ => rfl)) (cl_Frame T) c_Frame_lay r_Frame_lay pass0 (pa_cons (pv 1) pa_nil)))))))
theorem sc_Machine_fault : FnScope n_Machine_fault ["self", "number"] (defScope s_Machine_fault) := ⟨rfl, rfl, rfl, by decide +kernel, rfl, by decide +kernel, by decide +kernel⟩
theorem dv_Machine_fault (T : Tx Z) {k_goal_of : Nat} {ps_goal_of : List Str} {sp_goal_of : Sp} (c_goal_of : Cal Z CX0 k_goal_of "goal_of" ps_goal_of sp_goal_of) (h_goal_of : k_goal_of ≤ n) {sp : Sp} (len : ∀ vs H Q E, sp vs H Q E → vs.length = 2)
    (pure : ∀ (vs : List V) (H : Hp) (Q : VK) (E : XK), sp vs H Q E → t_Machine_fault Z.K sp_goal_of { nx := fun _ H' => Q .non H', rt := Q } (L2.start n_Machine_fault vs) H) : CalM Z CX0 (n + 1) (He.ga Z.K "Machine") "fault" ["self", "number"] sp := by
  obtain ⟨fd, F⟩ := fx_Machine_fault T
  have B : L2.Binds Z.K fd ["self", "number"] [] := F.binds fun _ _ _ _ _ _ us hl => match us, hl with | [_, _], _ => rfl
  refine ⟨⟨_, fd, m_Machine_fault T, B, mkR (tb := t_Machine_fault Z.K sp_goal_of) F sc_Machine_fault len (fun cdv A outer s H E hr => ?_) pure⟩⟩
  have r_goal_of := hr.mono h_goal_of
  exact (pss_cons (ps_while PassesOwn.never (pt_cmpR op_gtI (pe_callB call_lenQ (by rfl) (g_len T) PySem.boot_len (pa_cons (pfd (cl_Machine T) (na_Machine_frames T) (pv 0)) pa_nil)) pe_int (nomark _)) (pss_cons (ps_set (i := 2) sc_Machine_fault.nd rfl (Or.inl rfl) (pe_ix ix_list (pfd (cl_Machine T) (na_Machine_frames T) (pv 0)) (pe_op op_subI (pe_callB call_lenQ (by rfl) (g_len T) PySem.boot_len (pa_cons (pfd (cl_Machine T) (na_Machine_frames T) (pv 0)) pa_nil)) pe_int) (fun _ _ => rfl)))
    (pss_cons (ps_set (i := 3) sc_Machine_fault.nd rfl (Or.inl rfl) (pcal c_goal_of r_goal_of (by rfl) pass0 (pa_cons (pfd (cl_Machine T) (na_Machine_stretches T) (pv 0)) (pa_cons (pfd (cl_Frame T) (na_Frame_place T) (pv 2)) pa_nil))))
    (pss_cons (ps_if (pt_cmpR op_isNotNo (pv 3) pe_non (nomark _)) (pss_cons (psfd (cl_Frame T) (na_Frame_pile T) (pv 2) (pe_lst (pa_cons (pv 1) pa_nil)))
    (pss_cons (psfd (cl_Frame T) (na_Frame_place T) (pv 2) (pv 3))
    (pss_one ps_retN))) pss_nil)
    (pss_one (ps_expr (pe_bm0 PySem.F.plainAttrs_list PySem.F.slot_list_pop PySem.F.type_list_pop mt_pop (pfd (cl_Machine T) (na_Machine_frames T) (pv 0)))))))))
    (pss_one (psfd (cl_Machine T) (na_Machine_ended T) (pv 0) (pe_tup (pa_cons pe_str (pa_cons (pv 1) pa_nil))))))
theorem sc_run : FnScope n_run ["parts", "number", "turns"] (defScope s_run) := ⟨rfl, rfl, rfl, by decide +kernel, rfl, by decide +kernel, by decide +kernel⟩
theorem vac_run (T : Tx Z) {sp : Sp} (no : ∀ vs H Q E, ¬ sp vs H Q E) : Cal Z CX0 n "run" ["parts", "number", "turns"] sp := by
  obtain ⟨fd, F⟩ := fx_run T
  have B : L2.Binds Z.K fd ["parts", "number", "turns"] [] := F.binds fun _ _ _ _ _ _ us hl => match us, hl with | [_, _, _], _ => rfl
  exact ⟨⟨_, fd, g_run T, kp_run T, B, FnR.vac no⟩⟩
theorem dv_run (T : Tx Z) {k_Machine___init__ : Nat} {ps_Machine___init__ : List Str} {sp_Machine___init__ : Sp} (c_Machine___init__ : CalN Z CX0 k_Machine___init__ "Machine" (He.ga Z.K "Machine") ps_Machine___init__ sp_Machine___init__) (h_Machine___init__ : k_Machine___init__ + 1 ≤ n) {k_Machine_step : Nat} {ps_Machine_step : List Str} {sp_Machine_step : Sp} (c_Machine_step : CalM Z CX0 k_Machine_step (He.ga Z.K "Machine") "step" ps_Machine_step sp_Machine_step) (h_Machine_step : k_Machine_step ≤ n) {sp : Sp} (len : ∀ vs H Q E, sp vs H Q E → vs.length = 3)
    (pure : ∀ (vs : List V) (H : Hp) (Q : VK) (E : XK), sp vs H Q E → t_run Z.K sp_Machine___init__ sp_Machine_step { nx := fun _ H' => Q .non H', rt := Q } (L2.start n_run vs) H) : Cal Z CX0 (n + 1) "run" ["parts", "number", "turns"] sp := by
  obtain ⟨fd, F⟩ := fx_run T
  have B : L2.Binds Z.K fd ["parts", "number", "turns"] [] := F.binds fun _ _ _ _ _ _ us hl => match us, hl with | [_, _, _], _ => rfl
  refine ⟨⟨_, fd, g_run T, kp_run T, B, mkR (tb := t_run Z.K sp_Machine___init__ sp_Machine_step) F sc_run len (fun cdv A outer s H E hr => ?_) pure⟩⟩
  have r_Machine___init__ := hr.mono h_Machine___init__
  have r_Machine_step := hr.mono h_Machine_step
  exact (pss_cons (ps_set (i := 3) sc_run.nd rfl (Or.inl rfl) (pmak c_Machine___init__ r_Machine___init__ (by rfl) pass0 (pa_cons (pv 0) (pa_cons (pv 1) (pa_cons (pv 2) pa_nil)))))
    (pss_cons (ps_while PassesOwn.never (pt_cmpR op_isNo (pfd (cl_Machine T) (na_Machine_ended T) (pv 3)) pe_non (nomark _)) (pss_one (ps_expr (pmet0 (pv 3) (cl_Machine T) c_Machine_step r_Machine_step pass0))))
    (pss_one (ps_ret (pe_tup (pa_cons (pfd (cl_Machine T) (na_Machine_said T) (pv 3)) (pa_cons (pe_ix ix_tup (pfd (cl_Machine T) (na_Machine_ended T) (pv 3)) pe_int (fun _ _ => rfl)) (pa_cons (pe_ix ix_tup (pfd (cl_Machine T) (na_Machine_ended T) (pv 3)) pe_int (fun _ _ => rfl)) pa_nil))))))))
theorem sc_l_whole : FnScope n_l_whole ["_law_found"] (defScope s_l_whole) := ⟨rfl, rfl, rfl, by decide +kernel, rfl, by decide +kernel, by decide +kernel⟩
theorem dv_l_whole (T : Tx Z) {sp : Sp} (len : ∀ vs H Q E, sp vs H Q E → vs.length = 1)
    (pure : ∀ (vs : List V) (H : Hp) (Q : VK) (E : XK), sp vs H Q E → t_l_whole Z.K { nx := fun _ H' => Q .non H', rt := Q } (L2.start n_l_whole vs) H) : Cal Z CX0 (n + 1) "_law_whole" ["_law_found"] sp := by
  obtain ⟨fd, F⟩ := fx_l_whole T
  have B : L2.Binds Z.K fd ["_law_found"] [] := F.binds fun _ _ _ _ _ _ us hl => match us, hl with | [_], _ => rfl
  refine ⟨⟨_, fd, g_l_whole T, kp_l_whole T, B, mkR (tb := t_l_whole Z.K) F sc_l_whole len (fun cdv A outer s H E hr => ?_) pure⟩⟩
  skip
  exact (pss_one (ps_ret (pe_and (pe_callB call_isi (by rfl) (g_isinstance T) (by decide +kernel) (pa_cons (pv 0) (pa_cons (pe_bltn (v := .ty "int") (by rfl) (g_int T) (by decide +kernel) rfl) pa_nil))) (pe_one (pe_not (pe_callB call_isi (by rfl) (g_isinstance T) (by decide +kernel) (pa_cons (pv 0) (pa_cons (pe_bltn (v := .ty "bool") (by rfl) (g_bool T) (by decide +kernel) rfl) pa_nil))))))))
theorem sc_l_cell_at : FnScope n_l_cell_at ["_law_script", "_law_k"] (defScope s_l_cell_at) := ⟨rfl, rfl, rfl, by decide +kernel, rfl, by decide +kernel, by decide +kernel⟩
theorem dv_l_cell_at (T : Tx Z) {sp : Sp} (len : ∀ vs H Q E, sp vs H Q E → vs.length = 2)
    (pure : ∀ (vs : List V) (H : Hp) (Q : VK) (E : XK), sp vs H Q E → t_l_cell_at Z.K { nx := fun _ H' => Q .non H', rt := Q } (L2.start n_l_cell_at vs) H) : Cal Z CX0 (n + 1) "_law_cell_at" ["_law_script", "_law_k"] sp := by
  obtain ⟨fd, F⟩ := fx_l_cell_at T
  have B : L2.Binds Z.K fd ["_law_script", "_law_k"] [] := F.binds fun _ _ _ _ _ _ us hl => match us, hl with | [_, _], _ => rfl
  refine ⟨⟨_, fd, g_l_cell_at T, kp_l_cell_at T, B, mkR (tb := t_l_cell_at Z.K) F sc_l_cell_at len (fun cdv A outer s H E hr => ?_) pure⟩⟩
  skip
  exact (pss_cons (ps_if (pt_cmpR op_ltI (pv 1) (pe_callB call_lenQ (by rfl) (g_len T) PySem.boot_len (pa_cons (pv 0) pa_nil)) (nomark _)) (pss_one (ps_ret (pe_ix ix_list (pv 0) (pv 1) (fun _ _ => rfl)))) pss_nil)
    (pss_one (ps_ret pe_int)))
theorem sc_l_number : FnScope n_l_number ["_law_cell"] (defScope s_l_number) := ⟨rfl, rfl, rfl, by decide +kernel, rfl, by decide +kernel, by decide +kernel⟩
theorem dv_l_number (T : Tx Z) {sp : Sp} (len : ∀ vs H Q E, sp vs H Q E → vs.length = 1)
    (pure : ∀ (vs : List V) (H : Hp) (Q : VK) (E : XK), sp vs H Q E → t_l_number Z.K { nx := fun _ H' => Q .non H', rt := Q } (L2.start n_l_number vs) H) : Cal Z CX0 (n + 1) "_law_number" ["_law_cell"] sp := by
  obtain ⟨fd, F⟩ := fx_l_number T
  have B : L2.Binds Z.K fd ["_law_cell"] [] := F.binds fun _ _ _ _ _ _ us hl => match us, hl with | [_], _ => rfl
  refine ⟨⟨_, fd, g_l_number T, kp_l_number T, B, mkR (tb := t_l_number Z.K) F sc_l_number len (fun cdv A outer s H E hr => ?_) pure⟩⟩
  skip
  exact (pss_cons (ps_if (pt_cmpR op_eq (pe_op op_modP (pv 0) pe_int) pe_int (nomark _)) (pss_one (ps_ret (pe_op op_subI (pe_op op_modP (pe_op op_fdC (pv 0) pe_int) (pe_op op_powI pe_int pe_int)) (pe_op op_mulI pe_int (pe_op op_powI pe_int pe_int))))) pss_nil)
    (pss_one (ps_ret (pe_op op_subI (pe_op op_modP (pe_op op_fdC (pv 0) pe_int) pe_int) pe_int))))
theorem sc_l_size : FnScope n_l_size ["_law_kind"] (defScope s_l_size) := ⟨rfl, rfl, rfl, by decide +kernel, rfl, by decide +kernel, by decide +kernel⟩
theorem dv_l_size (T : Tx Z) {sp : Sp} (len : ∀ vs H Q E, sp vs H Q E → vs.length = 1)
    (pure : ∀ (vs : List V) (H : Hp) (Q : VK) (E : XK), sp vs H Q E → t_l_size Z.K { nx := fun _ H' => Q .non H', rt := Q } (L2.start n_l_size vs) H) : Cal Z CX0 (n + 1) "_law_size" ["_law_kind"] sp := by
  obtain ⟨fd, F⟩ := fx_l_size T
  have B : L2.Binds Z.K fd ["_law_kind"] [] := F.binds fun _ _ _ _ _ _ us hl => match us, hl with | [_], _ => rfl
  refine ⟨⟨_, fd, g_l_size T, kp_l_size T, B, mkR (tb := t_l_size Z.K) F sc_l_size len (fun cdv A outer s H E hr => ?_) pure⟩⟩
  skip
  exact (pss_one (ps_ret (pe_ix ix_list (pe_lst (pa_cons pe_int (pa_cons pe_int (pa_cons pe_int (pa_cons pe_int (pa_cons pe_int (pa_cons pe_int (pa_cons pe_int (pa_cons pe_int (pa_cons pe_int (pa_cons pe_int (pa_cons pe_int (pa_cons pe_int (pa_cons pe_int pa_nil)))))))))))))) (pv 0) (fun _ _ => rfl))))
theorem sc_l_group : FnScope n_l_group ["_law_cell", "_law_near", "_law_far", "_law_boxes", "_law_many"] (defScope s_l_group) := ⟨rfl, rfl, rfl, by decide +kernel, rfl, by decide +kernel, by decide +kernel⟩
theorem dv_l_group (T : Tx Z) {sp : Sp} (len : ∀ vs H Q E, sp vs H Q E → vs.length = 5)
    (pure : ∀ (vs : List V) (H : Hp) (Q : VK) (E : XK), sp vs H Q E → t_l_group Z.K { nx := fun _ H' => Q .non H', rt := Q } (L2.start n_l_group vs) H) : Cal Z CX0 (n + 1) "_law_group" ["_law_cell", "_law_near", "_law_far", "_law_boxes", "_law_many"] sp := by
  obtain ⟨fd, F⟩ := fx_l_group T
  have B : L2.Binds Z.K fd ["_law_cell", "_law_near", "_law_far", "_law_boxes", "_law_many"] [] := F.binds fun _ _ _ _ _ _ us hl => match us, hl with | [_, _, _, _, _], _ => rfl
  refine ⟨⟨_, fd, g_l_group T, kp_l_group T, B, mkR (tb := t_l_group Z.K) F sc_l_group len (fun cdv A outer s H E hr => ?_) pure⟩⟩
  skip
  exact (pss_cons (ps_set (i := 5) sc_l_group.nd rfl (Or.inl rfl) (pe_op op_modP (pv 0) pe_int))
    (pss_cons (ps_set (i := 6) sc_l_group.nd rfl (Or.inl rfl) (pe_op op_modP (pe_op op_fdC (pv 0) pe_int) (pv 3)))
    (pss_cons (ps_set (i := 7) sc_l_group.nd rfl (Or.inl rfl) (pe_op op_subI (pe_op op_modP (pe_op op_fdC (pv 0) pe_int) pe_int) pe_int))
    (pss_cons (ps_set (i := 8) sc_l_group.nd rfl (Or.inl rfl) (pe_op op_modP (pe_op op_fdC (pv 0) pe_int) (pv 4)))
    (pss_cons (ps_if (pt_cmpR op_eq (pv 5) pe_int (nomark _)) (pss_one (ps_ret (pe_lst (pa_cons (pe_tup (pa_cons pe_str (pa_cons (pv 7) pa_nil))) (pa_cons (pe_tup (pa_cons pe_str pa_nil)) pa_nil))))) pss_nil)
    (pss_cons (ps_if (pt_cmpR op_eq (pv 5) pe_int (nomark _)) (pss_one (ps_ret (pe_lst (pa_cons (pe_tup (pa_cons pe_str (pa_cons (pv 6) pa_nil))) (pa_cons (pe_tup (pa_cons pe_str pa_nil)) pa_nil))))) pss_nil)
    (pss_cons (ps_if (pt_cmpR op_eq (pv 5) pe_int (nomark _)) (pss_one (ps_ret (pe_lst (pa_cons (pe_tup (pa_cons pe_str (pa_cons (pv 6) pa_nil))) (pa_cons (pe_tup (pa_cons pe_str (pa_cons (pv 7) pa_nil))) (pa_cons (pe_tup (pa_cons (pe_ix ix_list (pe_lst (pa_cons pe_str (pa_cons pe_str (pa_cons pe_str (pa_cons pe_str pa_nil))))) (pe_op op_modP (pe_op op_fdC (pv 0) pe_int) pe_int) (fun _ _ => rfl)) pa_nil)) (pa_cons (pe_tup (pa_cons pe_str (pa_cons (pv 6) pa_nil))) pa_nil))))))) pss_nil)
    (pss_cons (ps_if (pt_cmpR op_eq (pv 5) pe_int (nomark _)) (pss_one (ps_ret (pe_lst (pa_cons (pe_tup (pa_cons pe_str (pa_cons (pv 6) pa_nil))) (pa_cons (pe_tup (pa_cons pe_str (pa_cons (pv 1) pa_nil))) pa_nil))))) pss_nil)
    (pss_cons (ps_if (pt_cmpR op_eq (pv 5) pe_int (nomark _)) (pss_one (ps_ret (pe_lst (pa_cons (pe_tup (pa_cons pe_str (pa_cons (pv 1) pa_nil))) pa_nil)))) pss_nil)
    (pss_cons (ps_if (pt_cmpR op_eq (pv 5) pe_int (nomark _)) (pss_one (ps_ret (pe_lst (pa_cons (pe_tup (pa_cons pe_str (pa_cons (pv 1) pa_nil))) (pa_cons (pe_tup (pa_cons pe_str (pa_cons (pe_op op_subI (pv 3) pe_int) pa_nil))) (pa_cons (pe_tup (pa_cons pe_str (pa_cons (pe_op op_subI (pv 3) pe_int) pa_nil))) pa_nil)))))) pss_nil)
    (pss_cons (ps_if (pt_cmpR op_eq (pv 5) pe_int (nomark _)) (pss_one (ps_ret (pe_lst (pa_cons (pe_tup (pa_cons pe_str pa_nil)) (pa_cons (pe_tup (pa_cons pe_str (pa_cons (pv 2) pa_nil))) pa_nil))))) pss_nil)
    (pss_cons (ps_if (pt_cmpR op_eq (pv 5) pe_int (nomark _)) (pss_one (ps_ret (pe_lst (pa_cons (pe_tup (pa_cons pe_str pa_nil)) (pa_cons (pe_tup (pa_cons pe_str (pa_cons (pv 6) pa_nil))) (pa_cons (pe_tup (pa_cons pe_str (pa_cons (pv 2) pa_nil))) pa_nil)))))) pss_nil)
    (pss_cons (ps_if (pt_cmpR op_eq (pv 5) pe_int (nomark _)) (pss_one (ps_ret (pe_lst (pa_cons (pe_tup (pa_cons pe_str (pa_cons (pv 7) pa_nil))) (pa_cons (pe_tup (pa_cons pe_str (pa_cons (pv 6) pa_nil))) (pa_cons (pe_tup (pa_cons pe_str pa_nil)) (pa_cons (pe_tup (pa_cons pe_str (pa_cons (pv 8) pa_nil))) (pa_cons (pe_tup (pa_cons pe_str (pa_cons (pe_op op_modP (pe_op op_addI (pv 6) (pv 7)) (pv 3)) pa_nil))) pa_nil)))))))) pss_nil)
    (pss_cons (ps_if (pt_cmpR op_eq (pv 5) pe_int (nomark _)) (pss_one (ps_ret (pe_lst (pa_cons (pe_tup (pa_cons pe_str (pa_cons (pv 7) pa_nil))) (pa_cons (pe_tup (pa_cons pe_str (pa_cons (pv 6) pa_nil))) (pa_cons (pe_tup (pa_cons pe_str (pa_cons (pv 8) pa_nil))) (pa_cons (pe_tup (pa_cons pe_str pa_nil)) (pa_cons (pe_tup (pa_cons pe_str (pa_cons (pe_op op_modP (pe_op op_addI (pv 6) (pv 7)) (pv 3)) pa_nil))) pa_nil)))))))) pss_nil)
    (pss_cons (ps_if (pt_cmpR op_eq (pv 5) pe_int (nomark _)) (pss_one (ps_ret (pe_lst (pa_cons (pe_tup (pa_cons pe_str (pa_cons (pv 6) pa_nil))) (pa_cons (pe_tup (pa_cons pe_str pa_nil)) pa_nil))))) pss_nil)
    (pss_cons (ps_if (pt_cmpR op_eq (pv 5) pe_int (nomark _)) (pss_one (ps_ret (pe_lst (pa_cons (pe_tup (pa_cons pe_str (pa_cons (pv 7) pa_nil))) (pa_cons (pe_tup (pa_cons pe_str (pa_cons (pv 6) pa_nil))) (pa_cons (pe_tup (pa_cons pe_str pa_nil)) (pa_cons (pe_tup (pa_cons pe_str pa_nil)) pa_nil))))))) pss_nil)
    (pss_one (ps_ret (pe_lst (pa_cons (pe_tup (pa_cons pe_str (pa_cons (pv 6) pa_nil))) (pa_cons (pe_tup (pa_cons pe_str (pa_cons (pv 7) pa_nil))) (pa_cons (pe_tup (pa_cons pe_str pa_nil)) (pa_cons (pe_tup (pa_cons pe_str (pa_cons (pv 1) pa_nil))) pa_nil)))))))))))))))))))))))
theorem sc_l_places : FnScope n_l_places ["_law_groups", "_law_lead", "_law_turn_here"] (defScope s_l_places) := ⟨rfl, rfl, rfl, by decide +kernel, rfl, by decide +kernel, by decide +kernel⟩
theorem dv_l_places (T : Tx Z) {k_l_size : Nat} {ps_l_size : List Str} {sp_l_size : Sp} (c_l_size : Cal Z CX0 k_l_size "_law_size" ps_l_size sp_l_size) (h_l_size : k_l_size ≤ n) {sp : Sp} (len : ∀ vs H Q E, sp vs H Q E → vs.length = 3)
    (pure : ∀ (vs : List V) (H : Hp) (Q : VK) (E : XK), sp vs H Q E → t_l_places Z.K sp_l_size { nx := fun _ H' => Q .non H', rt := Q } (L2.start n_l_places vs) H) : Cal Z CX0 (n + 1) "_law_places" ["_law_groups", "_law_lead", "_law_turn_here"] sp := by
  obtain ⟨fd, F⟩ := fx_l_places T
  have B : L2.Binds Z.K fd ["_law_groups", "_law_lead", "_law_turn_here"] [] := F.binds fun _ _ _ _ _ _ us hl => match us, hl with | [_, _, _], _ => rfl
  refine ⟨⟨_, fd, g_l_places T, kp_l_places T, B, mkR (tb := t_l_places Z.K sp_l_size) F sc_l_places len (fun cdv A outer s H E hr => ?_) pure⟩⟩
  have r_l_size := hr.mono h_l_size
  exact (pss_cons (ps_set (i := 3) sc_l_places.nd rfl (Or.inl rfl) (pe_callB call_lenQ (by rfl) (g_len T) PySem.boot_len (pa_cons (pv 0) pa_nil)))
    (pss_cons (ps_setLc (i := 4) (own := [("_law_k", 5)]) (g := (gName 5)) (tt := tYes) rfl sc_l_places.nd rfl rfl (sw_true rfl rfl rfl (by decide +kernel)) (pi_range1 (by rfl) (g_range T) (pa_cons (pv 3) pa_nil)) (blkOk_by (N := ["_law_groups", "_law_lead", "_law_turn_here", "_law_many", "_law_places_here", "_law_k", "_law_at", "_law_place", "_law_cell"]) (sc := defScope s_l_places) (by decide +kernel)) (fun _ _ _ _ _ => pg_name (i := 5) sc_l_places.nd rfl (Or.inl rfl)) (fun _ _ _ _ _ => pts_nil) (fun _ _ _ _ _ => (pe_lst pa_nil)))
    (pss_cons (ps_set (i := 6) sc_l_places.nd rfl (Or.inl rfl) (pv 1))
    (pss_cons (ps_for PassesOwn.never rfl (pi_range1 (by rfl) (g_range T) (pa_cons (pv 3) pa_nil)) (pg_name (i := 7) sc_l_places.nd rfl (Or.inl rfl)) (pss_cons (ps_set (i := 5) sc_l_places.nd rfl (Or.inl rfl) (pe_op op_modP (pe_op op_addI (pv 7) (pv 2)) (pv 3)))
    (pss_cons (ps_for PassesOwn.never rfl (pi_list (pe_ix ix_list (pv 0) (pv 5) (fun _ _ => rfl))) (pg_name (i := 8) sc_l_places.nd rfl (Or.inl rfl)) (pss_cons (ps_expr (pe_bm PySem.F.plainAttrs_list PySem.F.slot_list_append PySem.F.type_list_append mt_append (pe_ix ix_list (pv 4) (pv 5) (fun _ _ => rfl)) (pa_cons (pv 6) pa_nil)))
    (pss_one (ps_set (i := 6) sc_l_places.nd rfl (Or.inl rfl) (pe_op op_addI (pv 6) (pcal c_l_size r_l_size (by rfl) pass0 (pa_cons (pe_op op_modP (pv 8) pe_int) pa_nil)))))))
    (pss_cons (ps_expr (pe_bm PySem.F.plainAttrs_list PySem.F.slot_list_append PySem.F.type_list_append mt_append (pe_ix ix_list (pv 4) (pv 5) (fun _ _ => rfl)) (pa_cons (pv 6) pa_nil)))
    (pss_one (ps_set (i := 6) sc_l_places.nd rfl (Or.inl rfl) (pe_op op_addI (pv 6) pe_int)))))))
    (pss_one (ps_ret (pv 4)))))))
theorem sc_l_code : FnScope n_l_code ["_law_groups", "_law_places_here", "_law_lead", "_law_turn_here", "_law_boxes"] (defScope s_l_code) := ⟨rfl, rfl, rfl, by decide +kernel, rfl, by decide +kernel, by decide +kernel⟩
theorem dv_l_code (T : Tx Z) {k_l_group : Nat} {ps_l_group : List Str} {sp_l_group : Sp} (c_l_group : Cal Z CX0 k_l_group "_law_group" ps_l_group sp_l_group) (h_l_group : k_l_group ≤ n) {sp : Sp} (len : ∀ vs H Q E, sp vs H Q E → vs.length = 5)
    (pure : ∀ (vs : List V) (H : Hp) (Q : VK) (E : XK), sp vs H Q E → t_l_code Z.K sp_l_group { nx := fun _ H' => Q .non H', rt := Q } (L2.start n_l_code vs) H) : Cal Z CX0 (n + 1) "_law_code" ["_law_groups", "_law_places_here", "_law_lead", "_law_turn_here", "_law_boxes"] sp := by
  obtain ⟨fd, F⟩ := fx_l_code T
  have B : L2.Binds Z.K fd ["_law_groups", "_law_places_here", "_law_lead", "_law_turn_here", "_law_boxes"] [] := F.binds fun _ _ _ _ _ _ us hl => match us, hl with | [_, _, _, _, _], _ => rfl
  refine ⟨⟨_, fd, g_l_code T, kp_l_code T, B, mkR (tb := t_l_code Z.K sp_l_group) F sc_l_code len (fun cdv A outer s H E hr => ?_) pure⟩⟩
  have r_l_group := hr.mono h_l_group
  exact (pss_cons (ps_set (i := 5) sc_l_code.nd rfl (Or.inl rfl) (pe_callB call_lenQ (by rfl) (g_len T) PySem.boot_len (pa_cons (pv 0) pa_nil)))
    (pss_cons (ps_set (i := 6) sc_l_code.nd rfl (Or.inl rfl) (pe_lst pa_nil))
    (pss_cons (ps_for PassesOwn.never rfl (pi_list (pv 1)) (pg_name (i := 7) sc_l_code.nd rfl (Or.inl rfl)) (pss_one (ps_set (i := 6) sc_l_code.nd rfl (Or.inl rfl) (pe_op op_cat (pv 6) (pv 7)))))
    (pss_cons (ps_set (i := 8) sc_l_code.nd rfl (Or.inl rfl) (pe_slice sl_list (pe_lst (pa_cons (pe_tup (pa_cons pe_str (pa_cons pe_int pa_nil))) (pa_cons (pe_tup (pa_cons pe_str pa_nil)) (pa_cons (pe_tup (pa_cons pe_str (pa_cons pe_int pa_nil))) (pa_cons (pe_tup (pa_cons pe_str pa_nil)) pa_nil))))) po_none (po_some (pv 2))))
    (pss_cons (ps_for PassesOwn.never rfl (pi_range1 (by rfl) (g_range T) (pa_cons (pv 5) pa_nil)) (pg_name (i := 9) sc_l_code.nd rfl (Or.inl rfl)) (pss_cons (ps_set (i := 10) sc_l_code.nd rfl (Or.inl rfl) (pe_op op_modP (pe_op op_addI (pv 9) (pv 3)) (pv 5)))
    (pss_cons (ps_for PassesOwn.never rfl (pi_enum (by rfl) (g_enumerate T) (pa_cons (pe_ix ix_list (pv 0) (pv 10) (fun _ _ => rfl)) pa_nil)) (pg_tup rfl (pgs_cons (pg_name (i := 11) sc_l_code.nd rfl (Or.inl rfl)) (pgs_cons (pg_name (i := 12) sc_l_code.nd rfl (Or.inl rfl)) pgs_nil))) (pss_cons (ps_set (i := 13) sc_l_code.nd rfl (Or.inl rfl) (pe_ix ix_list (pe_ix ix_list (pv 1) (pv 10) (fun _ _ => rfl)) (pe_op op_addI (pe_op op_addI (pv 11) pe_int) (pe_op op_modP (pe_op op_fdC (pv 12) pe_int) (pe_op op_subI (pe_callB call_lenQ (by rfl) (g_len T) PySem.boot_len (pa_cons (pe_ix ix_list (pv 0) (pv 10) (fun _ _ => rfl)) pa_nil)) (pv 11)))) (fun _ _ => rfl)))
    (pss_one (ps_set (i := 8) sc_l_code.nd rfl (Or.inl rfl) (pe_op op_cat (pv 8) (pcal c_l_group r_l_group (by rfl) pass0 (pa_cons (pv 12) (pa_cons (pv 13) (pa_cons (pe_ix ix_list (pv 6) (pe_op op_modP (pe_op op_fdC (pv 12) pe_int) (pe_callB call_lenQ (by rfl) (g_len T) PySem.boot_len (pa_cons (pv 6) pa_nil))) (fun _ _ => rfl)) (pa_cons (pv 4) (pa_cons (pv 5) pa_nil)))))))))))
    (pss_one (ps_set (i := 8) sc_l_code.nd rfl (Or.inl rfl) (pe_op op_cat (pv 8) (pe_lst (pa_cons (pe_tup (pa_cons pe_str (pa_cons (pe_op op_modP (pe_op op_addI (pv 10) (pv 3)) (pv 4)) pa_nil))) (pa_cons (pe_tup (pa_cons pe_str pa_nil)) pa_nil)))))))))
    (pss_one (ps_ret (pe_tup (pa_cons (pv 8) (pa_cons (pv 6) pa_nil))))))))))
theorem sc_l_goals : FnScope n_l_goals ["_law_cells", "_law_total", "_law_every", "_law_boxes"] (defScope s_l_goals) := ⟨rfl, rfl, rfl, by decide +kernel, rfl, by decide +kernel, by decide +kernel⟩
theorem dv_l_goals (T : Tx Z) {sp : Sp} (len : ∀ vs H Q E, sp vs H Q E → vs.length = 4)
    (pure : ∀ (vs : List V) (H : Hp) (Q : VK) (E : XK), sp vs H Q E → t_l_goals Z.K { nx := fun _ H' => Q .non H', rt := Q } (L2.start n_l_goals vs) H) : Cal Z CX0 (n + 1) "_law_goals" ["_law_cells", "_law_total", "_law_every", "_law_boxes"] sp := by
  obtain ⟨fd, F⟩ := fx_l_goals T
  have B : L2.Binds Z.K fd ["_law_cells", "_law_total", "_law_every", "_law_boxes"] [] := F.binds fun _ _ _ _ _ _ us hl => match us, hl with | [_, _, _, _], _ => rfl
  refine ⟨⟨_, fd, g_l_goals T, kp_l_goals T, B, mkR (tb := t_l_goals Z.K) F sc_l_goals len (fun cdv A outer s H E hr => ?_) pure⟩⟩
  skip
  exact (pss_cons (ps_set (i := 4) sc_l_goals.nd rfl (Or.inl rfl) (pe_lst pa_nil))
    (pss_cons (ps_set (i := 5) sc_l_goals.nd rfl (Or.inl rfl) (pe_lst pa_nil))
    (pss_cons (ps_for PassesOwn.never rfl (pi_list (pv 0)) (pg_name (i := 6) sc_l_goals.nd rfl (Or.inl rfl)) (pss_cons (ps_expr (pe_bm PySem.F.plainAttrs_list PySem.F.slot_list_append PySem.F.type_list_append mt_append (pv 5) (pa_cons (pe_op op_addI (pv 1) (pe_callB call_lenQ (by rfl) (g_len T) PySem.boot_len (pa_cons (pv 4) pa_nil))) pa_nil)))
    (pss_one (ps_if (pt_cmpR op_eq (pe_op op_modP (pv 6) pe_int) pe_int (nomark _)) (pss_one (ps_set (i := 4) sc_l_goals.nd rfl (Or.inl rfl) (pe_op op_cat (pv 4) (pe_lst (pa_cons (pe_tup (pa_cons pe_str pa_nil)) (pa_cons (pe_tup (pa_cons pe_str (pa_cons (pe_op op_addI pe_int (pe_op op_modP (pe_op op_fdC (pv 6) pe_int) pe_int)) pa_nil))) (pa_cons (pe_tup (pa_cons pe_str pa_nil)) pa_nil))))))) (pss_one (ps_if (pt_cmpR op_eq (pe_op op_modP (pv 6) pe_int) pe_int (nomark _)) (pss_one (ps_set (i := 4) sc_l_goals.nd rfl (Or.inl rfl) (pe_op op_cat (pv 4) (pe_lst (pa_cons (pe_tup (pa_cons pe_str (pa_cons (pe_op op_modP (pe_op op_fdC (pv 6) pe_int) (pv 3)) pa_nil))) (pa_cons (pe_tup (pa_cons pe_str pa_nil)) (pa_cons (pe_tup (pa_cons pe_str (pa_cons (pe_ix ix_list (pv 2) (pe_op op_modP (pe_op op_fdC (pv 6) pe_int) (pe_callB call_lenQ (by rfl) (g_len T) PySem.boot_len (pa_cons (pv 2) pa_nil))) (fun _ _ => rfl)) pa_nil))) pa_nil))))))) (pss_one (ps_set (i := 4) sc_l_goals.nd rfl (Or.inl rfl) (pe_op op_cat (pv 4) (pe_lst (pa_cons (pe_tup (pa_cons pe_str pa_nil)) pa_nil)))))))))))
    (pss_one (ps_ret (pe_tup (pa_cons (pv 4) (pa_cons (pv 5) pa_nil))))))))
theorem sc_l_stretches : FnScope n_l_stretches ["_law_cells", "_law_code_here", "_law_goals_here"] (defScope s_l_stretches) := ⟨rfl, rfl, rfl, by decide +kernel, rfl, by decide +kernel, by decide +kernel⟩
theorem dv_l_stretches (T : Tx Z) {sp : Sp} (len : ∀ vs H Q E, sp vs H Q E → vs.length = 3)
    (pure : ∀ (vs : List V) (H : Hp) (Q : VK) (E : XK), sp vs H Q E → t_l_stretches Z.K { nx := fun _ H' => Q .non H', rt := Q } (L2.start n_l_stretches vs) H) : Cal Z CX0 (n + 1) "_law_stretches" ["_law_cells", "_law_code_here", "_law_goals_here"] sp := by
  obtain ⟨fd, F⟩ := fx_l_stretches T
  have B : L2.Binds Z.K fd ["_law_cells", "_law_code_here", "_law_goals_here"] [] := F.binds fun _ _ _ _ _ _ us hl => match us, hl with | [_, _, _], _ => rfl
  refine ⟨⟨_, fd, g_l_stretches T, kp_l_stretches T, B, mkR (tb := t_l_stretches Z.K) F sc_l_stretches len (fun cdv A outer s H E hr => ?_) pure⟩⟩
  skip
  exact (pss_cons (ps_setLc (i := 3) (own := [("_law_k", 4), ("_law_row", 5)]) (g := (gTup _ 2 (gCons (gName 4) (gCons (gName 5) gNil)))) (tt := (tTest (tOp (rIn _ false) (tOp (rIxT _) (tVar 5) (tC (.int 0))) (tTup (tCons (tC (.str "share")) (tCons (tC (.str "call")) (tCons (tC (.str "raise")) tNil))))))) rfl sc_l_stretches.nd rfl rfl (sw_true rfl rfl rfl (by decide +kernel)) (pi_enum (by rfl) (g_enumerate T) (pa_cons (pv 1) pa_nil)) (blkOk_by (N := ["_law_cells", "_law_code_here", "_law_goals_here", "_law_spots", "_law_k", "_law_row", "_law_found", "_law_at", "_law_cell", "_law_first", "_law_behind"]) (sc := defScope s_l_stretches) (by decide +kernel)) (fun _ _ _ _ _ => pg_tup rfl (pgs_cons (pg_name (i := 4) sc_l_stretches.nd rfl (Or.inl rfl)) (pgs_cons (pg_name (i := 5) sc_l_stretches.nd rfl (Or.inl rfl)) pgs_nil))) (fun _ _ _ _ _ => pts_one (pt_cmpR op_in_seq (pe_ix ix_tup (pv 5) pe_int (fun _ _ => rfl)) (pe_tup (pa_cons pe_str (pa_cons pe_str (pa_cons pe_str pa_nil)))) (by rfl))) (fun _ _ _ _ _ => (pv 4)))
    (pss_cons (ps_set (i := 6) sc_l_stretches.nd rfl (Or.inl rfl) (pe_lst pa_nil))
    (pss_cons (ps_for PassesOwn.never rfl (pi_enum (by rfl) (g_enumerate T) (pa_cons (pv 0) pa_nil)) (pg_tup rfl (pgs_cons (pg_name (i := 7) sc_l_stretches.nd rfl (Or.inl rfl)) (pgs_cons (pg_name (i := 8) sc_l_stretches.nd rfl (Or.inl rfl)) pgs_nil))) (pss_cons (ps_set (i := 9) sc_l_stretches.nd rfl (Or.inl rfl) (pe_op op_modP (pe_op op_fdC (pv 8) pe_int) (pe_callB call_lenQ (by rfl) (g_len T) PySem.boot_len (pa_cons (pv 1) pa_nil))))
    (pss_cons (ps_set (i := 10) sc_l_stretches.nd rfl (Or.inl rfl) (pe_op op_addI (pv 9) (pe_op op_modP (pe_op op_fdC (pv 8) pe_int) (pe_op op_addI (pe_op op_subI (pe_callB call_lenQ (by rfl) (g_len T) PySem.boot_len (pa_cons (pv 1) pa_nil)) (pv 9)) pe_int))))
    (pss_cons (ps_if (PW.pt (pw_and (pt_cmpR op_eq (pe_op op_modP (pv 8) pe_int) pe_int (nomark _)) (pw_and1 (pt_cmpR (op_neD hr.hu) (pv 3) (pe_lst pa_nil) (nomark _))))) (pss_cons (ps_set (i := 9) sc_l_stretches.nd rfl (Or.inl rfl) (pe_callB (call_max2Q rfl) (by rfl) (g_max T) (by decide +kernel) (pa_cons pe_int (pa_cons (pe_op op_subI (pe_ix ix_list (pv 3) (pe_op op_modP (pe_op op_fdC (pv 8) pe_int) (pe_callB call_lenQ (by rfl) (g_len T) PySem.boot_len (pa_cons (pv 3) pa_nil))) (fun _ _ => rfl)) (pe_op op_modP (pe_op op_fdC (pv 8) pe_int) pe_int)) pa_nil))))
    (pss_one (ps_set (i := 10) sc_l_stretches.nd rfl (Or.inl rfl) (pe_callB (call_min2Q rfl) (by rfl) (g_min T) (by decide +kernel) (pa_cons (pe_callB call_lenQ (by rfl) (g_len T) PySem.boot_len (pa_cons (pv 1) pa_nil)) (pa_cons (pe_op op_addI (pv 9) (pe_op op_modP (pe_op op_fdC (pv 8) pe_int) pe_int)) pa_nil)))))) pss_nil)
    (pss_one (ps_expr (pe_bm PySem.F.plainAttrs_list PySem.F.slot_list_append PySem.F.type_list_append mt_append (pv 6) (pa_cons (pe_tup (pa_cons (pv 9) (pa_cons (pv 10) (pa_cons (pe_ix ix_list (pv 2) (pv 7) (fun _ _ => rfl)) pa_nil)))) pa_nil))))))))
    (pss_one (ps_ret (pv 6))))))
theorem sc_l_drawn : FnScope n_l_drawn ["_law_script"] (defScope s_l_drawn) := ⟨rfl, rfl, rfl, by decide +kernel, rfl, by decide +kernel, by decide +kernel⟩
theorem dv_l_drawn (T : Tx Z) {k_l_cell_at : Nat} {ps_l_cell_at : List Str} {sp_l_cell_at : Sp} (c_l_cell_at : Cal Z CX0 k_l_cell_at "_law_cell_at" ps_l_cell_at sp_l_cell_at) (h_l_cell_at : k_l_cell_at ≤ n) {k_l_places : Nat} {ps_l_places : List Str} {sp_l_places : Sp} (c_l_places : Cal Z CX0 k_l_places "_law_places" ps_l_places sp_l_places) (h_l_places : k_l_places ≤ n) {k_l_code : Nat} {ps_l_code : List Str} {sp_l_code : Sp} (c_l_code : Cal Z CX0 k_l_code "_law_code" ps_l_code sp_l_code) (h_l_code : k_l_code ≤ n) {k_l_goals : Nat} {ps_l_goals : List Str} {sp_l_goals : Sp} (c_l_goals : Cal Z CX0 k_l_goals "_law_goals" ps_l_goals sp_l_goals) (h_l_goals : k_l_goals ≤ n) {k_l_stretches : Nat} {ps_l_stretches : List Str} {sp_l_stretches : Sp} (c_l_stretches : Cal Z CX0 k_l_stretches "_law_stretches" ps_l_stretches sp_l_stretches) (h_l_stretches : k_l_stretches ≤ n) {sp : Sp} (len : ∀ vs H Q E, sp vs H Q E → vs.length = 1)
    (pure : ∀ (vs : List V) (H : Hp) (Q : VK) (E : XK), sp vs H Q E → t_l_drawn Z.K sp_l_cell_at sp_l_places sp_l_code sp_l_goals sp_l_stretches { nx := fun _ H' => Q .non H', rt := Q } (L2.start n_l_drawn vs) H) : Cal Z CX0 (n + 1) "_law_drawn" ["_law_script"] sp := by
  obtain ⟨fd, F⟩ := fx_l_drawn T
  have B : L2.Binds Z.K fd ["_law_script"] [] := F.binds fun _ _ _ _ _ _ us hl => match us, hl with | [_], _ => rfl
  refine ⟨⟨_, fd, g_l_drawn T, kp_l_drawn T, B, mkR (tb := t_l_drawn Z.K sp_l_cell_at sp_l_places sp_l_code sp_l_goals sp_l_stretches) F sc_l_drawn len (fun cdv A outer s H E hr => ?_) pure⟩⟩
  have r_l_cell_at := hr.mono h_l_cell_at
  have r_l_places := hr.mono h_l_places
  have r_l_code := hr.mono h_l_code
  have r_l_goals := hr.mono h_l_goals
  have r_l_stretches := hr.mono h_l_stretches
  exact (pss_cons (ps_set (i := 1) sc_l_drawn.nd rfl (Or.inr rfl) (pe_op op_modP (pe_op op_mulI (pcal c_l_cell_at r_l_cell_at (by rfl) pass0 (pa_cons (pv 0) (pa_cons pe_int pa_nil))) pe_int) pe_int))
    (pss_cons (ps_set (i := 2) sc_l_drawn.nd rfl (Or.inr rfl) (pe_op op_addI pe_int (pe_op op_modP (pv 1) pe_int)))
    (pss_cons (ps_set (i := 3) sc_l_drawn.nd rfl (Or.inl rfl) (pe_op op_addI pe_int (pe_op op_modP (pe_op op_fdC (pv 1) pe_int) pe_int)))
    (pss_cons (ps_set (i := 4) sc_l_drawn.nd rfl (Or.inl rfl) (pe_op op_mulI pe_int (pe_op op_modP (pe_op op_fdC (pv 1) pe_int) pe_int)))
    (pss_cons (ps_set (i := 5) sc_l_drawn.nd rfl (Or.inl rfl) (pe_op op_modP (pe_op op_fdC (pv 1) pe_int) (pv 2)))
    (pss_cons (ps_set (i := 6) sc_l_drawn.nd rfl (Or.inr rfl) (pe_lc (own := [("_law_k", 7), ("_law_cell", 8)]) (g := (gTup _ 2 (gCons (gName 7) (gCons (gName 8) gNil)))) (tt := tYes) rfl sc_l_drawn.nd (pi_enum (by rfl) (g_enumerate T) (pa_cons (pe_slice sl_list (pv 0) (po_some pe_int) (po_some pe_int)) pa_nil)) (blkOk_by (N := ["_law_script", "_law_first", "_law_many", "_law_boxes", "_law_lead", "_law_turn_here", "_law_cells", "_law_k", "_law_cell", "_law_groups", "_law_places_here", "_law_code_here", "_law_every", "_law_more", "_law_rows", "_law_goals_here", "_law_row"]) (sc := defScope s_l_drawn) (by decide +kernel)) (fun _ _ _ _ _ => pg_tup rfl (pgs_cons (pg_name (i := 7) sc_l_drawn.nd rfl (Or.inl rfl)) (pgs_cons (pg_name (i := 8) sc_l_drawn.nd rfl (Or.inl rfl)) pgs_nil))) (fun _ _ _ _ _ => pts_nil) (fun _ _ _ _ _ => (pe_op op_modP (pe_op op_mulI (pe_op op_addI (pv 8) (pe_op op_mulI pe_int (pv 7))) pe_int) pe_int))))
    (pss_cons (ps_setLc (i := 9) (own := [("_law_k", 7)]) (g := (gName 7)) (tt := tYes) rfl sc_l_drawn.nd rfl rfl (sw_true rfl rfl rfl (by decide +kernel)) (pi_range1 (by rfl) (g_range T) (pa_cons (pv 2) pa_nil)) (blkOk_by (N := ["_law_script", "_law_first", "_law_many", "_law_boxes", "_law_lead", "_law_turn_here", "_law_cells", "_law_k", "_law_cell", "_law_groups", "_law_places_here", "_law_code_here", "_law_every", "_law_more", "_law_rows", "_law_goals_here", "_law_row"]) (sc := defScope s_l_drawn) (by decide +kernel)) (fun _ _ _ _ _ => pg_name (i := 7) sc_l_drawn.nd rfl (Or.inl rfl)) (fun _ _ _ _ _ => pts_nil) (fun _ _ _ _ _ => (pe_sliceK (pv 6) (po_some (pv 7)) po_none (po_some (pv 2)))))
    (pss_cons (ps_set (i := 10) sc_l_drawn.nd rfl (Or.inl rfl) (pcal c_l_places r_l_places (by rfl) pass0 (pa_cons (pv 9) (pa_cons (pv 4) (pa_cons (pv 5) pa_nil)))))
    (pss_cons (ps_asg (pcal c_l_code r_l_code (by rfl) pass0 (pa_cons (pv 9) (pa_cons (pv 10) (pa_cons (pv 4) (pa_cons (pv 5) (pa_cons (pv 3) pa_nil)))))) (pg_tup rfl (pgs_cons (pg_name (i := 11) sc_l_drawn.nd rfl (Or.inl rfl)) (pgs_cons (pg_name (i := 12) sc_l_drawn.nd rfl (Or.inl rfl)) pgs_nil))))
    (pss_cons (ps_setLc (i := 13) (own := [("_law_k", 7)]) (g := (gName 7)) (tt := tYes) rfl sc_l_drawn.nd rfl rfl (sw_true rfl rfl rfl (by decide +kernel)) (pi_range2 (by rfl) (g_range T) (pa_cons pe_int (pa_cons (pe_op op_addI pe_int (pe_op op_modP (pe_op op_fdC (pv 1) pe_int) pe_int)) pa_nil))) (blkOk_by (N := ["_law_script", "_law_first", "_law_many", "_law_boxes", "_law_lead", "_law_turn_here", "_law_cells", "_law_k", "_law_cell", "_law_groups", "_law_places_here", "_law_code_here", "_law_every", "_law_more", "_law_rows", "_law_goals_here", "_law_row"]) (sc := defScope s_l_drawn) (by decide +kernel)) (fun _ _ _ _ _ => pg_name (i := 7) sc_l_drawn.nd rfl (Or.inl rfl)) (fun _ _ _ _ _ => pts_nil) (fun _ _ _ _ _ => (pe_op op_modP (pe_op op_mulI (pe_op op_addI (pv 1) (pe_op op_mulI pe_int (pv 7))) pe_int) pe_int)))
    (pss_cons (ps_asg (pcal c_l_goals r_l_goals (by rfl) pass0 (pa_cons (pe_lc (own := [("_law_cell", 8)]) (g := (gName 8)) (tt := tYes) rfl sc_l_drawn.nd (pi_list (pv 13)) (blkOk_by (N := ["_law_script", "_law_first", "_law_many", "_law_boxes", "_law_lead", "_law_turn_here", "_law_cells", "_law_k", "_law_cell", "_law_groups", "_law_places_here", "_law_code_here", "_law_every", "_law_more", "_law_rows", "_law_goals_here", "_law_row"]) (sc := defScope s_l_drawn) (by decide +kernel)) (fun _ _ _ _ _ => pg_name (i := 8) sc_l_drawn.nd rfl (Or.inl rfl)) (fun _ _ _ _ _ => pts_nil) (fun _ _ _ _ _ => (pe_op op_fdC (pv 8) pe_int))) (pa_cons (pe_callB call_lenQ (by rfl) (g_len T) PySem.boot_len (pa_cons (pv 11) pa_nil)) (pa_cons (pv 12) (pa_cons (pv 3) pa_nil))))) (pg_tup rfl (pgs_cons (pg_name (i := 14) sc_l_drawn.nd rfl (Or.inl rfl)) (pgs_cons (pg_name (i := 15) sc_l_drawn.nd rfl (Or.inl rfl)) pgs_nil))))
    (pss_one (ps_ret (pe_tup (pa_cons (pe_op op_cat (pv 11) (pv 14)) (pa_cons (pcal c_l_stretches r_l_stretches (by rfl) pass0 (pa_cons (pv 13) (pa_cons (pv 11) (pa_cons (pv 15) pa_nil)))) (pa_cons (pe_lc (own := [("_law_row", 16)]) (g := (gName 16)) (tt := tYes) rfl sc_l_drawn.nd (pi_list (pv 10)) (blkOk_by (N := ["_law_script", "_law_first", "_law_many", "_law_boxes", "_law_lead", "_law_turn_here", "_law_cells", "_law_k", "_law_cell", "_law_groups", "_law_places_here", "_law_code_here", "_law_every", "_law_more", "_law_rows", "_law_goals_here", "_law_row"]) (sc := defScope s_l_drawn) (by decide +kernel)) (fun _ _ _ _ _ => pg_name (i := 16) sc_l_drawn.nd rfl (Or.inl rfl)) (fun _ _ _ _ _ => pts_nil) (fun _ _ _ _ _ => (pe_ix ix_list (pv 16) pe_int (fun _ _ => rfl)))) (pa_cons (pv 3) pa_nil))))))))))))))))))
theorem sc_l_is : FnScope n_l_is ["_law_found"] (defScope s_l_is) := ⟨rfl, rfl, rfl, by decide +kernel, rfl, by decide +kernel, by decide +kernel⟩
theorem dv_l_is (T : Tx Z) {k_l_whole : Nat} {ps_l_whole : List Str} {sp_l_whole : Sp} (c_l_whole : Cal Z CX0 k_l_whole "_law_whole" ps_l_whole sp_l_whole) (h_l_whole : k_l_whole ≤ n) {sp : Sp} (len : ∀ vs H Q E, sp vs H Q E → vs.length = 1)
    (pure : ∀ (vs : List V) (H : Hp) (Q : VK) (E : XK), sp vs H Q E → t_l_is Z.K sp_l_whole { nx := fun _ H' => Q .non H', rt := Q } (L2.start n_l_is vs) H) : Cal Z CX0 (n + 1) "_law_is" ["_law_found"] sp := by
  obtain ⟨fd, F⟩ := fx_l_is T
  have B : L2.Binds Z.K fd ["_law_found"] [] := F.binds fun _ _ _ _ _ _ us hl => match us, hl with | [_], _ => rfl
  refine ⟨⟨_, fd, g_l_is T, kp_l_is T, B, mkR (tb := t_l_is Z.K sp_l_whole) F sc_l_is len (fun cdv A outer s H E hr => ?_) pure⟩⟩
  have r_l_whole := hr.mono h_l_whole
  exact (pss_cons (ps_if (PW.pt (pw_or (pt_not (pt_val (pe_callB call_isi (by rfl) (g_isinstance T) (by decide +kernel) (pa_cons (pv 0) (pa_cons (pe_bltn (v := .ty "tuple") (by rfl) (g_tuple T) (by decide +kernel) rfl) pa_nil))))) (pw_or (pt_cmpR op_ne (pe_callB call_lenQ (by rfl) (g_len T) PySem.boot_len (pa_cons (pv 0) pa_nil)) pe_int (nomark _)) (pw_or1 (pt_not (pt_val (pe_callB call_isi (by rfl) (g_isinstance T) (by decide +kernel) (pa_cons (pe_ix ix_tup (pv 0) pe_int (fun _ _ => rfl)) (pa_cons (pe_bltn (v := .ty "list") (by rfl) (g_list T) (by decide +kernel) rfl) pa_nil))))))))) (pss_one (ps_ret pe_bl)) pss_nil)
    (pss_cons (ps_if (PW.pt (pw_or (pt_cmpR op_gtI (pe_callB call_lenQ (by rfl) (g_len T) PySem.boot_len (pa_cons (pe_lc (own := [("_law_x", 1)]) (g := (gName 1)) (tt := (tNot (tB (tCall sp_l_whole [] E0 (tCons (tVar 1) tNil))))) rfl sc_l_is.nd (pi_list (pe_ix ix_tup (pv 0) pe_int (fun _ _ => rfl))) (blkOk_by (N := ["_law_found", "_law_x"]) (sc := defScope s_l_is) (by decide +kernel)) (fun _ _ _ _ _ => pg_name (i := 1) sc_l_is.nd rfl (Or.inl rfl)) (fun _ _ _ _ _ => pts_one (pt_not (pt_val (pcal c_l_whole r_l_whole (by rfl) pass0 (pa_cons (pv 1) pa_nil))))) (fun _ _ _ _ _ => (pv 1))) pa_nil)) pe_int (nomark _)) (pw_or1 (pt_not (pt_val (pcal c_l_whole r_l_whole (by rfl) pass0 (pa_cons (pe_ix ix_tup (pv 0) pe_int (fun _ _ => rfl)) pa_nil))))))) (pss_one (ps_ret pe_bl)) pss_nil)
    (pss_one (ps_ret (pe_and (pe_callB call_isi (by rfl) (g_isinstance T) (by decide +kernel) (pa_cons (pe_ix ix_tup (pv 0) pe_int (fun _ _ => rfl)) (pa_cons (pe_bltn (v := .ty "str") (by rfl) (g_str T) (by decide +kernel) rfl) pa_nil))) (pe_one (pe_or (pe_cmpR op_in_seq (pe_ix ix_tup (pv 0) pe_int (fun _ _ => rfl)) (pe_tup (pa_cons pe_str (pa_cons pe_str pa_nil))) (by rfl)) (pe_one (pe_and (pe_cmpR op_eq (pe_ix ix_tup (pv 0) pe_int (fun _ _ => rfl)) pe_str (nomark _)) (pe_one (pe_cmpR op_eq (pe_ix ix_tup (pv 0) pe_int (fun _ _ => rfl)) pe_int (nomark _))))))))))))
theorem sc_l_goal : FnScope n_l_goal ["_law_stretches_here", "_law_place"] (defScope s_l_goal) := ⟨rfl, rfl, rfl, by decide +kernel, rfl, by decide +kernel, by decide +kernel⟩
theorem dv_l_goal (T : Tx Z) {sp : Sp} (len : ∀ vs H Q E, sp vs H Q E → vs.length = 2)
    (pure : ∀ (vs : List V) (H : Hp) (Q : VK) (E : XK), sp vs H Q E → t_l_goal Z.K { nx := fun _ H' => Q .non H', rt := Q } (L2.start n_l_goal vs) H) : Cal Z CX0 (n + 1) "_law_goal" ["_law_stretches_here", "_law_place"] sp := by
  obtain ⟨fd, F⟩ := fx_l_goal T
  have B : L2.Binds Z.K fd ["_law_stretches_here", "_law_place"] [] := F.binds fun _ _ _ _ _ _ us hl => match us, hl with | [_, _], _ => rfl
  refine ⟨⟨_, fd, g_l_goal T, kp_l_goal T, B, mkR (tb := t_l_goal Z.K) F sc_l_goal len (fun cdv A outer s H E hr => ?_) pure⟩⟩
  skip
  exact (pss_cons (ps_setLc (i := 2) (own := [("_law_row", 3)]) (g := (gName 3)) (tt := (tAnd (tTest (tOp rLeI (tOp (rIxT _) (tVar 3) (tC (.int 0))) (tVar 1))) (tTest (tOp rLtI (tVar 1) (tOp (rIxT _) (tVar 3) (tC (.int 1))))))) rfl sc_l_goal.nd rfl rfl (sw_true rfl rfl rfl (by decide +kernel)) (pi_list (pv 0)) (blkOk_by (N := ["_law_stretches_here", "_law_place", "_law_found", "_law_row"]) (sc := defScope s_l_goal) (by decide +kernel)) (fun _ _ _ _ _ => pg_name (i := 3) sc_l_goal.nd rfl (Or.inl rfl)) (fun _ _ _ _ _ => pts_one (PW.pt (pw_and (pt_cmpR op_leI (pe_ix ix_tup (pv 3) pe_int (fun _ _ => rfl)) (pv 1) (nomark _)) (pw_and1 (pt_cmpR op_ltI (pv 1) (pe_ix ix_tup (pv 3) pe_int (fun _ _ => rfl)) (nomark _)))))) (fun _ _ _ _ _ => (pe_ix ix_tup (pv 3) pe_int (fun _ _ => rfl))))
    (pss_cons (ps_if (pt_cmpR (op_eqD hr.hu) (pv 2) (pe_lst pa_nil) (nomark _)) (pss_one (ps_ret pe_non)) pss_nil)
    (pss_one (ps_ret (pe_ix ix_list (pv 2) pe_int (fun _ _ => rfl))))))
theorem sc_l_fault : FnScope n_l_fault ["_law_state", "_law_number_here"] (defScope s_l_fault) := ⟨rfl, rfl, rfl, by decide +kernel, rfl, by decide +kernel, by decide +kernel⟩
theorem dv_l_fault (T : Tx Z) {k_l_goal : Nat} {ps_l_goal : List Str} {sp_l_goal : Sp} (c_l_goal : Cal Z CX0 k_l_goal "_law_goal" ps_l_goal sp_l_goal) (h_l_goal : k_l_goal ≤ n) {sp : Sp} (len : ∀ vs H Q E, sp vs H Q E → vs.length = 2)
    (pure : ∀ (vs : List V) (H : Hp) (Q : VK) (E : XK), sp vs H Q E → t_l_fault Z.K sp_l_goal { nx := fun _ H' => Q .non H', rt := Q } (L2.start n_l_fault vs) H) : Cal Z CX0 (n + 1) "_law_fault" ["_law_state", "_law_number_here"] sp := by
  obtain ⟨fd, F⟩ := fx_l_fault T
  have B : L2.Binds Z.K fd ["_law_state", "_law_number_here"] [] := F.binds fun _ _ _ _ _ _ us hl => match us, hl with | [_, _], _ => rfl
  refine ⟨⟨_, fd, g_l_fault T, kp_l_fault T, B, mkR (tb := t_l_fault Z.K sp_l_goal) F sc_l_fault len (fun cdv A outer s H E hr => ?_) pure⟩⟩
  have r_l_goal := hr.mono h_l_goal
  exact (pss_cons (ps_while PassesOwn.never (pt_cmpR (op_neD hr.hu) (pe_dget hr.du (pv 0) pe_str (fun _ _ => rfl)) (pe_lst pa_nil) (nomark _)) (pss_cons (ps_set (i := 2) sc_l_fault.nd rfl (Or.inl rfl) (pe_ix ix_list (pe_dget hr.du (pv 0) pe_str (fun _ _ => rfl)) (pe_un un_neg pe_int) (fun _ _ => rfl)))
    (pss_cons (ps_set (i := 3) sc_l_fault.nd rfl (Or.inl rfl) (pcal c_l_goal r_l_goal (by rfl) pass0 (pa_cons (pe_dget hr.du (pv 0) pe_str (fun _ _ => rfl)) (pa_cons (pe_ix ix_list (pv 2) pe_int (fun _ _ => rfl)) pa_nil))))
    (pss_cons (ps_if (pt_cmpR op_isNotNo (pv 3) pe_non (nomark _)) (pss_cons (ps_asg (pv 3) (pg_sub (pv 2) pe_int set_list))
    (pss_cons (ps_asg (pe_lst (pa_cons (pv 1) pa_nil)) (pg_sub (pv 2) pe_int set_list))
    (pss_one ps_retN))) pss_nil)
    (pss_one (ps_expr (pe_bm0 PySem.F.plainAttrs_list PySem.F.slot_list_pop PySem.F.type_list_pop mt_pop (pe_dget hr.du (pv 0) pe_str (fun _ _ => rfl)))))))))
    (pss_one (ps_asg (pe_tup (pa_cons pe_str (pa_cons (pv 1) pa_nil))) (pg_sub (pv 0) pe_str (set_dict hr.du)))))
theorem sc_l_turn : FnScope n_l_turn ["_law_state"] (defScope s_l_turn) := ⟨rfl, rfl, rfl, by decide +kernel, rfl, by decide +kernel, by decide +kernel⟩
theorem dv_l_turn (T : Tx Z) {sp : Sp} (len : ∀ vs H Q E, sp vs H Q E → vs.length = 1)
    (pure : ∀ (vs : List V) (H : Hp) (Q : VK) (E : XK), sp vs H Q E → t_l_turn Z.K { nx := fun _ H' => Q .non H', rt := Q } (L2.start n_l_turn vs) H) : Cal Z CX0 (n + 1) "_law_turn" ["_law_state"] sp := by
  obtain ⟨fd, F⟩ := fx_l_turn T
  have B : L2.Binds Z.K fd ["_law_state"] [] := F.binds fun _ _ _ _ _ _ us hl => match us, hl with | [_], _ => rfl
  refine ⟨⟨_, fd, g_l_turn T, kp_l_turn T, B, mkR (tb := t_l_turn Z.K) F sc_l_turn len (fun cdv A outer s H E hr => ?_) pure⟩⟩
  skip
  exact (pss_cons (ps_if (pt_cmpR op_eq (pe_dget hr.du (pv 0) pe_str (fun _ _ => rfl)) pe_int (nomark _)) (pss_cons (ps_asg (pe_tup (pa_cons pe_str (pa_cons pe_int pa_nil))) (pg_sub (pv 0) pe_str (set_dict hr.du)))
    (pss_one (ps_ret pe_bl))) pss_nil)
    (pss_cons (ps_asg (pe_op op_subI (pe_dget hr.du (pv 0) pe_str (fun _ _ => rfl)) pe_int) (pg_sub (pv 0) pe_str (set_dict hr.du)))
    (pss_one (ps_ret pe_bl))))
theorem sc_l_two : FnScope n_l_two ["_law_state", "_law_frame", "_law_word"] (defScope s_l_two) := ⟨rfl, rfl, rfl, by decide +kernel, rfl, by decide +kernel, by decide +kernel⟩
theorem dv_l_two (T : Tx Z) {k_l_fault : Nat} {ps_l_fault : List Str} {sp_l_fault : Sp} (c_l_fault : Cal Z CX0 k_l_fault "_law_fault" ps_l_fault sp_l_fault) (h_l_fault : k_l_fault ≤ n) {sp : Sp} (len : ∀ vs H Q E, sp vs H Q E → vs.length = 3)
    (pure : ∀ (vs : List V) (H : Hp) (Q : VK) (E : XK), sp vs H Q E → t_l_two Z.K sp_l_fault { nx := fun _ H' => Q .non H', rt := Q } (L2.start n_l_two vs) H) : Cal Z CX0 (n + 1) "_law_two" ["_law_state", "_law_frame", "_law_word"] sp := by
  obtain ⟨fd, F⟩ := fx_l_two T
  have B : L2.Binds Z.K fd ["_law_state", "_law_frame", "_law_word"] [] := F.binds fun _ _ _ _ _ _ us hl => match us, hl with | [_, _, _], _ => rfl
  refine ⟨⟨_, fd, g_l_two T, kp_l_two T, B, mkR (tb := t_l_two Z.K sp_l_fault) F sc_l_two len (fun cdv A outer s H E hr => ?_) pure⟩⟩
  have r_l_fault := hr.mono h_l_fault
  exact (pss_cons (ps_set (i := 3) sc_l_two.nd rfl (Or.inl rfl) (pe_bm0 PySem.F.plainAttrs_list PySem.F.slot_list_pop PySem.F.type_list_pop mt_pop (pe_ix ix_list (pv 1) pe_int (fun _ _ => rfl))))
    (pss_cons (ps_set (i := 4) sc_l_two.nd rfl (Or.inl rfl) (pe_bm0 PySem.F.plainAttrs_list PySem.F.slot_list_pop PySem.F.type_list_pop mt_pop (pe_ix ix_list (pv 1) pe_int (fun _ _ => rfl))))
    (pss_cons (ps_if (PW.pt (pw_and (pt_cmpR op_eq (pv 2) pe_str (nomark _)) (pw_and1 (pt_cmpR op_eq (pv 3) pe_int (nomark _))))) (pss_cons (ps_expr (pcal c_l_fault r_l_fault (by rfl) pass0 (pa_cons (pv 0) (pa_cons pe_int pa_nil))))
    (pss_one ps_retN)) pss_nil)
    (pss_cons (ps_if (pt_cmpR op_eq (pv 2) pe_str (nomark _)) (pss_one (ps_expr (pe_bm PySem.F.plainAttrs_list PySem.F.slot_list_append PySem.F.type_list_append mt_append (pe_ix ix_list (pv 1) pe_int (fun _ _ => rfl)) (pa_cons (pe_op op_addI (pv 4) (pv 3)) pa_nil)))) (pss_one (ps_if (pt_cmpR op_eq (pv 2) pe_str (nomark _)) (pss_one (ps_expr (pe_bm PySem.F.plainAttrs_list PySem.F.slot_list_append PySem.F.type_list_append mt_append (pe_ix ix_list (pv 1) pe_int (fun _ _ => rfl)) (pa_cons (pe_op op_subI (pv 4) (pv 3)) pa_nil)))) (pss_one (ps_if (pt_cmpR op_eq (pv 2) pe_str (nomark _)) (pss_one (ps_expr (pe_bm PySem.F.plainAttrs_list PySem.F.slot_list_append PySem.F.type_list_append mt_append (pe_ix ix_list (pv 1) pe_int (fun _ _ => rfl)) (pa_cons (pe_callTy call_intB (by rfl) (g_int T) (by decide +kernel) (pa_cons (pe_cmpR op_ltI (pv 4) (pv 3) (nomark _)) pa_nil)) pa_nil)))) (pss_one (ps_expr (pe_bm PySem.F.plainAttrs_list PySem.F.slot_list_append PySem.F.type_list_append mt_append (pe_ix ix_list (pv 1) pe_int (fun _ _ => rfl)) (pa_cons (pe_op (op_fdZ T.seer T.tree rfl rfl rfl hr) (pv 4) (pv 3)) pa_nil)))))))))
    (pss_one (ps_asg (pe_op op_addI (pe_ix ix_list (pv 1) pe_int (fun _ _ => rfl)) pe_int) (pg_sub (pv 1) pe_int set_list)))))))
theorem sc_l_called : FnScope n_l_called ["_law_state", "_law_frame", "_law_function"] (defScope s_l_called) := ⟨rfl, rfl, rfl, by decide +kernel, rfl, by decide +kernel, by decide +kernel⟩
theorem dv_l_called (T : Tx Z) {k_l_turn : Nat} {ps_l_turn : List Str} {sp_l_turn : Sp} (c_l_turn : Cal Z CX0 k_l_turn "_law_turn" ps_l_turn sp_l_turn) (h_l_turn : k_l_turn ≤ n) {k_l_fault : Nat} {ps_l_fault : List Str} {sp_l_fault : Sp} (c_l_fault : Cal Z CX0 k_l_fault "_law_fault" ps_l_fault sp_l_fault) (h_l_fault : k_l_fault ≤ n) {sp : Sp} (len : ∀ vs H Q E, sp vs H Q E → vs.length = 3)
    (pure : ∀ (vs : List V) (H : Hp) (Q : VK) (E : XK), sp vs H Q E → t_l_called Z.K sp_l_turn sp_l_fault { nx := fun _ H' => Q .non H', rt := Q } (L2.start n_l_called vs) H) : Cal Z CX0 (n + 1) "_law_called" ["_law_state", "_law_frame", "_law_function"] sp := by
  obtain ⟨fd, F⟩ := fx_l_called T
  have B : L2.Binds Z.K fd ["_law_state", "_law_frame", "_law_function"] [] := F.binds fun _ _ _ _ _ _ us hl => match us, hl with | [_, _, _], _ => rfl
  refine ⟨⟨_, fd, g_l_called T, kp_l_called T, B, mkR (tb := t_l_called Z.K sp_l_turn sp_l_fault) F sc_l_called len (fun cdv A outer s H E hr => ?_) pure⟩⟩
  have r_l_turn := hr.mono h_l_turn
  have r_l_fault := hr.mono h_l_fault
  exact (pss_cons (ps_set (i := 3) sc_l_called.nd rfl (Or.inl rfl) (pe_bm0 PySem.F.plainAttrs_list PySem.F.slot_list_pop PySem.F.type_list_pop mt_pop (pe_ix ix_list (pv 1) pe_int (fun _ _ => rfl))))
    (pss_cons (ps_if (pt_not (pt_val (pcal c_l_turn r_l_turn (by rfl) pass0 (pa_cons (pv 0) pa_nil)))) (pss_one ps_retN) pss_nil)
    (pss_one (ps_if (pt_cmpR op_eq (pe_callB call_lenQ (by rfl) (g_len T) PySem.boot_len (pa_cons (pe_dget hr.du (pv 0) pe_str (fun _ _ => rfl)) pa_nil)) pe_int (nomark _)) (pss_one (ps_expr (pcal c_l_fault r_l_fault (by rfl) pass0 (pa_cons (pv 0) (pa_cons pe_int pa_nil))))) (pss_one (ps_expr (pe_bm PySem.F.plainAttrs_list PySem.F.slot_list_append PySem.F.type_list_append mt_append (pe_dget hr.du (pv 0) pe_str (fun _ _ => rfl)) (pa_cons (pe_lst (pa_cons (pe_ix ix_list (pe_dget hr.du (pv 0) pe_str (fun _ _ => rfl)) (pv 2) (fun _ _ => rfl)) (pa_cons (pe_op op_cat (pe_lst (pa_cons (pv 3) pa_nil)) (pe_op op_rep (pe_lst (pa_cons pe_int pa_nil)) (pe_op op_subI (pe_dget hr.du (pv 0) pe_str (fun _ _ => rfl)) pe_int))) (pa_cons (pe_lst pa_nil) pa_nil)))) pa_nil))))))))
theorem sc_l_given : FnScope n_l_given ["_law_state", "_law_number_here"] (defScope s_l_given) := ⟨rfl, rfl, rfl, by decide +kernel, rfl, by decide +kernel, by decide +kernel⟩
theorem dv_l_given (T : Tx Z) {sp : Sp} (len : ∀ vs H Q E, sp vs H Q E → vs.length = 2)
    (pure : ∀ (vs : List V) (H : Hp) (Q : VK) (E : XK), sp vs H Q E → t_l_given Z.K { nx := fun _ H' => Q .non H', rt := Q } (L2.start n_l_given vs) H) : Cal Z CX0 (n + 1) "_law_given" ["_law_state", "_law_number_here"] sp := by
  obtain ⟨fd, F⟩ := fx_l_given T
  have B : L2.Binds Z.K fd ["_law_state", "_law_number_here"] [] := F.binds fun _ _ _ _ _ _ us hl => match us, hl with | [_, _], _ => rfl
  refine ⟨⟨_, fd, g_l_given T, kp_l_given T, B, mkR (tb := t_l_given Z.K) F sc_l_given len (fun cdv A outer s H E hr => ?_) pure⟩⟩
  skip
  exact (pss_cons (ps_expr (pe_bm0 PySem.F.plainAttrs_list PySem.F.slot_list_pop PySem.F.type_list_pop mt_pop (pe_dget hr.du (pv 0) pe_str (fun _ _ => rfl))))
    (pss_one (ps_if (pt_cmpR (op_eqD hr.hu) (pe_dget hr.du (pv 0) pe_str (fun _ _ => rfl)) (pe_lst pa_nil) (nomark _)) (pss_one (ps_asg (pe_tup (pa_cons pe_str (pa_cons (pv 1) pa_nil))) (pg_sub (pv 0) pe_str (set_dict hr.du)))) (pss_cons (ps_set (i := 2) sc_l_given.nd rfl (Or.inl rfl) (pe_ix ix_list (pe_dget hr.du (pv 0) pe_str (fun _ _ => rfl)) (pe_un un_neg pe_int) (fun _ _ => rfl)))
    (pss_cons (ps_expr (pe_bm PySem.F.plainAttrs_list PySem.F.slot_list_append PySem.F.type_list_append mt_append (pe_ix ix_list (pv 2) pe_int (fun _ _ => rfl)) (pa_cons (pv 1) pa_nil)))
    (pss_one (ps_asg (pe_op op_addI (pe_ix ix_list (pv 2) pe_int (fun _ _ => rfl)) pe_int) (pg_sub (pv 2) pe_int set_list))))))))
theorem sc_l_plain : FnScope n_l_plain ["_law_state", "_law_frame", "_law_row"] (defScope s_l_plain) := ⟨rfl, rfl, rfl, by decide +kernel, rfl, by decide +kernel, by decide +kernel⟩
theorem dv_l_plain (T : Tx Z) {k_l_turn : Nat} {ps_l_turn : List Str} {sp_l_turn : Sp} (c_l_turn : Cal Z CX0 k_l_turn "_law_turn" ps_l_turn sp_l_turn) (h_l_turn : k_l_turn ≤ n) {sp : Sp} (len : ∀ vs H Q E, sp vs H Q E → vs.length = 3)
    (pure : ∀ (vs : List V) (H : Hp) (Q : VK) (E : XK), sp vs H Q E → t_l_plain Z.K sp_l_turn { nx := fun _ H' => Q .non H', rt := Q } (L2.start n_l_plain vs) H) : Cal Z CX0 (n + 1) "_law_plain" ["_law_state", "_law_frame", "_law_row"] sp := by
  obtain ⟨fd, F⟩ := fx_l_plain T
  have B : L2.Binds Z.K fd ["_law_state", "_law_frame", "_law_row"] [] := F.binds fun _ _ _ _ _ _ us hl => match us, hl with | [_, _, _], _ => rfl
  refine ⟨⟨_, fd, g_l_plain T, kp_l_plain T, B, mkR (tb := t_l_plain Z.K sp_l_turn) F sc_l_plain len (fun cdv A outer s H E hr => ?_) pure⟩⟩
  have r_l_turn := hr.mono h_l_turn
  exact (pss_cons (ps_set (i := 3) sc_l_plain.nd rfl (Or.inl rfl) (pe_or (pe_cmpR op_eq (pe_ix ix_tup (pv 2) pe_int (fun _ _ => rfl)) pe_str (nomark _)) (pe_one (pe_and (pe_cmpR op_eq (pe_ix ix_tup (pv 2) pe_int (fun _ _ => rfl)) pe_str (nomark _)) (pe_one (pe_cmpR op_eq (pe_bm0 PySem.F.plainAttrs_list PySem.F.slot_list_pop PySem.F.type_list_pop mt_pop (pe_ix ix_list (pv 1) pe_int (fun _ _ => rfl))) pe_int (nomark _)))))))
    (pss_cons (ps_if (pt_cmpR op_eq (pe_ix ix_tup (pv 2) pe_int (fun _ _ => rfl)) pe_str (nomark _)) (pss_one (ps_expr (pe_bm PySem.F.plainAttrs_list PySem.F.slot_list_append PySem.F.type_list_append mt_append (pe_ix ix_list (pv 1) pe_int (fun _ _ => rfl)) (pa_cons (pe_ix ix_tup (pv 2) pe_int (fun _ _ => rfl)) pa_nil)))) (pss_one (ps_if (pt_cmpR op_eq (pe_ix ix_tup (pv 2) pe_int (fun _ _ => rfl)) pe_str (nomark _)) (pss_one (ps_expr (pe_bm PySem.F.plainAttrs_list PySem.F.slot_list_append PySem.F.type_list_append mt_append (pe_ix ix_list (pv 1) pe_int (fun _ _ => rfl)) (pa_cons (pe_ix ix_list (pe_ix ix_list (pv 1) pe_int (fun _ _ => rfl)) (pe_ix ix_tup (pv 2) pe_int (fun _ _ => rfl)) (fun _ _ => rfl)) pa_nil)))) (pss_one (ps_if (pt_cmpR op_eq (pe_ix ix_tup (pv 2) pe_int (fun _ _ => rfl)) pe_str (nomark _)) (pss_one (ps_asg (pe_bm0 PySem.F.plainAttrs_list PySem.F.slot_list_pop PySem.F.type_list_pop mt_pop (pe_ix ix_list (pv 1) pe_int (fun _ _ => rfl))) (pg_sub (pe_ix ix_list (pv 1) pe_int (fun _ _ => rfl)) (pe_ix ix_tup (pv 2) pe_int (fun _ _ => rfl)) set_list))) (pss_one (ps_if (pt_cmpR op_eq (pe_ix ix_tup (pv 2) pe_int (fun _ _ => rfl)) pe_str (nomark _)) (pss_one (ps_expr (pe_bm PySem.F.plainAttrs_list PySem.F.slot_list_append PySem.F.type_list_append mt_append (pe_dget hr.du (pv 0) pe_str (fun _ _ => rfl)) (pa_cons (pe_bm0 PySem.F.plainAttrs_list PySem.F.slot_list_pop PySem.F.type_list_pop mt_pop (pe_ix ix_list (pv 1) pe_int (fun _ _ => rfl))) pa_nil)))) (pss_one (ps_if (PW.pt (pw_and (pt_cmpR op_eq (pe_ix ix_tup (pv 2) pe_int (fun _ _ => rfl)) pe_str (nomark _)) (pw_and1 (pt_not (pt_val (pcal c_l_turn r_l_turn (by rfl) pass0 (pa_cons (pv 0) pa_nil))))))) (pss_one ps_retN) pss_nil)))))))))
    (pss_one (ps_asg (pe_ifExp (pt_val (pv 3)) (pe_ix ix_tup (pv 2) pe_int (fun _ _ => rfl)) (pe_op op_addI (pe_ix ix_list (pv 1) pe_int (fun _ _ => rfl)) pe_int)) (pg_sub (pv 1) pe_int set_list)))))
theorem sc_l_step : FnScope n_l_step ["_law_state"] (defScope s_l_step) := ⟨rfl, rfl, rfl, by decide +kernel, rfl, by decide +kernel, by decide +kernel⟩
theorem dv_l_step (T : Tx Z) {k_l_two : Nat} {ps_l_two : List Str} {sp_l_two : Sp} (c_l_two : Cal Z CX0 k_l_two "_law_two" ps_l_two sp_l_two) (h_l_two : k_l_two ≤ n) {k_l_called : Nat} {ps_l_called : List Str} {sp_l_called : Sp} (c_l_called : Cal Z CX0 k_l_called "_law_called" ps_l_called sp_l_called) (h_l_called : k_l_called ≤ n) {k_l_given : Nat} {ps_l_given : List Str} {sp_l_given : Sp} (c_l_given : Cal Z CX0 k_l_given "_law_given" ps_l_given sp_l_given) (h_l_given : k_l_given ≤ n) {k_l_fault : Nat} {ps_l_fault : List Str} {sp_l_fault : Sp} (c_l_fault : Cal Z CX0 k_l_fault "_law_fault" ps_l_fault sp_l_fault) (h_l_fault : k_l_fault ≤ n) {k_l_plain : Nat} {ps_l_plain : List Str} {sp_l_plain : Sp} (c_l_plain : Cal Z CX0 k_l_plain "_law_plain" ps_l_plain sp_l_plain) (h_l_plain : k_l_plain ≤ n) {sp : Sp} (len : ∀ vs H Q E, sp vs H Q E → vs.length = 1)
    (pure : ∀ (vs : List V) (H : Hp) (Q : VK) (E : XK), sp vs H Q E → t_l_step Z.K sp_l_two sp_l_called sp_l_given sp_l_fault sp_l_plain { nx := fun _ H' => Q .non H', rt := Q } (L2.start n_l_step vs) H) : Cal Z CX0 (n + 1) "_law_step" ["_law_state"] sp := by
  obtain ⟨fd, F⟩ := fx_l_step T
  have B : L2.Binds Z.K fd ["_law_state"] [] := F.binds fun _ _ _ _ _ _ us hl => match us, hl with | [_], _ => rfl
  refine ⟨⟨_, fd, g_l_step T, kp_l_step T, B, mkR (tb := t_l_step Z.K sp_l_two sp_l_called sp_l_given sp_l_fault sp_l_plain) F sc_l_step len (fun cdv A outer s H E hr => ?_) pure⟩⟩
  have r_l_two := hr.mono h_l_two
  have r_l_called := hr.mono h_l_called
  have r_l_given := hr.mono h_l_given
  have r_l_fault := hr.mono h_l_fault
  have r_l_plain := hr.mono h_l_plain
  exact (pss_cons (ps_set (i := 1) sc_l_step.nd rfl (Or.inl rfl) (pe_ix ix_list (pe_dget hr.du (pv 0) pe_str (fun _ _ => rfl)) (pe_un un_neg pe_int) (fun _ _ => rfl)))
    (pss_cons (ps_set (i := 2) sc_l_step.nd rfl (Or.inl rfl) (pe_ix ix_list (pe_dget hr.du (pv 0) pe_str (fun _ _ => rfl)) (pe_ix ix_list (pv 1) pe_int (fun _ _ => rfl)) (fun _ _ => rfl)))
    (pss_one (ps_if (pt_cmpR op_in_seq (pe_ix ix_tup (pv 2) pe_int (fun _ _ => rfl)) (pe_tup (pa_cons pe_str (pa_cons pe_str (pa_cons pe_str (pa_cons pe_str pa_nil))))) (by rfl)) (pss_one (ps_expr (pcal c_l_two r_l_two (by rfl) pass0 (pa_cons (pv 0) (pa_cons (pv 1) (pa_cons (pe_ix ix_tup (pv 2) pe_int (fun _ _ => rfl)) pa_nil)))))) (pss_one (ps_if (pt_cmpR op_eq (pe_ix ix_tup (pv 2) pe_int (fun _ _ => rfl)) pe_str (nomark _)) (pss_one (ps_expr (pcal c_l_called r_l_called (by rfl) pass0 (pa_cons (pv 0) (pa_cons (pv 1) (pa_cons (pe_ix ix_tup (pv 2) pe_int (fun _ _ => rfl)) pa_nil)))))) (pss_one (ps_if (pt_cmpR op_eq (pe_ix ix_tup (pv 2) pe_int (fun _ _ => rfl)) pe_str (nomark _)) (pss_one (ps_expr (pcal c_l_given r_l_given (by rfl) pass0 (pa_cons (pv 0) (pa_cons (pe_bm0 PySem.F.plainAttrs_list PySem.F.slot_list_pop PySem.F.type_list_pop mt_pop (pe_ix ix_list (pv 1) pe_int (fun _ _ => rfl))) pa_nil))))) (pss_one (ps_if (pt_cmpR op_eq (pe_ix ix_tup (pv 2) pe_int (fun _ _ => rfl)) pe_str (nomark _)) (pss_one (ps_expr (pcal c_l_fault r_l_fault (by rfl) pass0 (pa_cons (pv 0) (pa_cons (pe_bm0 PySem.F.plainAttrs_list PySem.F.slot_list_pop PySem.F.type_list_pop mt_pop (pe_ix ix_list (pv 1) pe_int (fun _ _ => rfl))) pa_nil))))) (pss_one (ps_if (pt_cmpR op_eq (pe_ix ix_tup (pv 2) pe_int (fun _ _ => rfl)) pe_str (nomark _)) (pss_one (ps_asg (pe_ix ix_list (pe_ix ix_list (pv 1) pe_int (fun _ _ => rfl)) (pe_ix ix_tup (pv 2) pe_int (fun _ _ => rfl)) (fun _ _ => rfl)) (pg_sub (pv 1) pe_int set_list))) (pss_one (ps_expr (pcal c_l_plain r_l_plain (by rfl) pass0 (pa_cons (pv 0) (pa_cons (pv 1) (pa_cons (pv 2) pa_nil))))))))))))))))))
theorem sc_l_gone : FnScope n_l_gone ["_law_parts", "_law_given_here", "_law_turns"] (defScope s_l_gone) := ⟨rfl, rfl, rfl, by decide +kernel, rfl, by decide +kernel, by decide +kernel⟩
theorem dv_l_gone (T : Tx Z) {k_l_step : Nat} {ps_l_step : List Str} {sp_l_step : Sp} (c_l_step : Cal Z CX0 k_l_step "_law_step" ps_l_step sp_l_step) (h_l_step : k_l_step ≤ n) {sp : Sp} (len : ∀ vs H Q E, sp vs H Q E → vs.length = 3)
    (pure : ∀ (vs : List V) (H : Hp) (Q : VK) (E : XK), sp vs H Q E → t_l_gone Z.K sp_l_step { nx := fun _ H' => Q .non H', rt := Q } (L2.start n_l_gone vs) H) : Cal Z CX0 (n + 1) "_law_gone" ["_law_parts", "_law_given_here", "_law_turns"] sp := by
  obtain ⟨fd, F⟩ := fx_l_gone T
  have B : L2.Binds Z.K fd ["_law_parts", "_law_given_here", "_law_turns"] [] := F.binds fun _ _ _ _ _ _ us hl => match us, hl with | [_, _, _], _ => rfl
  refine ⟨⟨_, fd, g_l_gone T, kp_l_gone T, B, mkR (tb := t_l_gone Z.K sp_l_step) F sc_l_gone len (fun cdv A outer s H E hr => ?_) pure⟩⟩
  have r_l_step := hr.mono h_l_step
  exact (pss_cons (ps_set (i := 3) sc_l_gone.nd rfl (Or.inl rfl) (pe_disp (pps_cons pe_str (pe_ix ix_tup (pv 0) pe_int (fun _ _ => rfl)) (pps_cons pe_str (pe_ix ix_tup (pv 0) pe_int (fun _ _ => rfl)) (pps_cons pe_str (pe_ix ix_tup (pv 0) pe_int (fun _ _ => rfl)) (pps_cons pe_str (pe_ix ix_tup (pv 0) pe_int (fun _ _ => rfl)) (pps_cons pe_str (pv 2) pps_nil))))) rfl rfl (by decide) (by decide)))
    (pss_cons (ps_asg (pe_lst pa_nil) (pg_sub (pv 3) pe_str (set_dict hr.du)))
    (pss_cons (ps_asg pe_non (pg_sub (pv 3) pe_str (set_dict hr.du)))
    (pss_cons (ps_asg (pe_lst (pa_cons (pe_lst (pa_cons (pe_ix ix_list (pe_ix ix_tup (pv 0) pe_int (fun _ _ => rfl)) pe_int (fun _ _ => rfl)) (pa_cons (pe_op op_cat (pe_lst (pa_cons (pv 1) pa_nil)) (pe_op op_rep (pe_lst (pa_cons pe_int pa_nil)) (pe_op op_subI (pe_ix ix_tup (pv 0) pe_int (fun _ _ => rfl)) pe_int))) (pa_cons (pe_lst pa_nil) pa_nil)))) pa_nil)) (pg_sub (pv 3) pe_str (set_dict hr.du)))
    (pss_cons (ps_while PassesOwn.never (pt_cmpR op_isNo (pe_dget hr.du (pv 3) pe_str (fun _ _ => rfl)) pe_non (nomark _)) (pss_one (ps_expr (pcal c_l_step r_l_step (by rfl) pass0 (pa_cons (pv 3) pa_nil)))))
    (pss_one (ps_ret (pe_tup (pa_cons (pe_dget hr.du (pv 3) pe_str (fun _ _ => rfl)) (pa_cons (pe_ix ix_tup (pe_dget hr.du (pv 3) pe_str (fun _ _ => rfl)) pe_int (fun _ _ => rfl)) (pa_cons (pe_ix ix_tup (pe_dget hr.du (pv 3) pe_str (fun _ _ => rfl)) pe_int (fun _ _ => rfl)) pa_nil)))))))))))
theorem sc_law : FnScope n_law ["_law_script"] (defScope s_law) := ⟨rfl, rfl, rfl, by decide +kernel, rfl, by decide +kernel, by decide +kernel⟩
theorem dv_law (T : Tx Z) {k_l_drawn : Nat} {ps_l_drawn : List Str} {sp_l_drawn : Sp} (c_l_drawn : Cal Z CX0 k_l_drawn "_law_drawn" ps_l_drawn sp_l_drawn) (h_l_drawn : k_l_drawn ≤ n) {k_l_number : Nat} {ps_l_number : List Str} {sp_l_number : Sp} (c_l_number : Cal Z CX0 k_l_number "_law_number" ps_l_number sp_l_number) (h_l_number : k_l_number ≤ n) {k_l_cell_at : Nat} {ps_l_cell_at : List Str} {sp_l_cell_at : Sp} (c_l_cell_at : Cal Z CX0 k_l_cell_at "_law_cell_at" ps_l_cell_at sp_l_cell_at) (h_l_cell_at : k_l_cell_at ≤ n) {k_run : Nat} {ps_run : List Str} {sp_run : Sp} (c_run : Cal Z CX0 k_run "run" ps_run sp_run) (h_run : k_run ≤ n) {k_l_is : Nat} {ps_l_is : List Str} {sp_l_is : Sp} (c_l_is : Cal Z CX0 k_l_is "_law_is" ps_l_is sp_l_is) (h_l_is : k_l_is ≤ n) {k_l_gone : Nat} {ps_l_gone : List Str} {sp_l_gone : Sp} (c_l_gone : Cal Z CX0 k_l_gone "_law_gone" ps_l_gone sp_l_gone) (h_l_gone : k_l_gone ≤ n) {sp : Sp} {fd : FuncData} (F : FunE Z.K "law" "law" s_law (He.fAd Z.K ("law", none)) fd) (len : ∀ vs H Q E, sp vs H Q E → vs.length = 1)
    (pure : ∀ (vs : List V) (H : Hp) (Q : VK) (E : XK), sp vs H Q E → t_law Z.K sp_l_drawn sp_l_number sp_l_cell_at sp_run sp_l_is sp_l_gone { nx := fun _ H' => Q .non H', rt := Q } (L2.start n_law vs) H) : FnR Z CX0 (n + 1) (He.ga Z.K "law") fd ["_law_script"] sp := by
  refine mkR (tb := t_law Z.K sp_l_drawn sp_l_number sp_l_cell_at sp_run sp_l_is sp_l_gone) F sc_law len (fun cdv A outer s H E hr => ?_) pure
  have r_l_drawn := hr.mono h_l_drawn
  have r_l_number := hr.mono h_l_number
  have r_l_cell_at := hr.mono h_l_cell_at
  have r_run := hr.mono h_run
  have r_l_is := hr.mono h_l_is
  have r_l_gone := hr.mono h_l_gone
  exact (pss_cons (ps_set (i := 1) sc_law.nd rfl (Or.inl rfl) (pcal c_l_drawn r_l_drawn (by rfl) pass0 (pa_cons (pv 0) pa_nil)))
    (pss_cons (ps_set (i := 2) sc_law.nd rfl (Or.inl rfl) (pcal c_l_number r_l_number (by rfl) pass0 (pa_cons (pcal c_l_cell_at r_l_cell_at (by rfl) pass0 (pa_cons (pv 0) (pa_cons pe_int pa_nil))) pa_nil)))
    (pss_cons (ps_set (i := 3) sc_law.nd rfl (Or.inl rfl) (pe_op op_modP (pcal c_l_cell_at r_l_cell_at (by rfl) pass0 (pa_cons (pv 0) (pa_cons pe_int pa_nil))) pe_int))
    (pss_cons (ps_set (i := 4) sc_law.nd rfl (Or.inl rfl) (pe_tup (pa_cons (pe_callTy call_listQ (by rfl) (g_list T) (by decide +kernel) (pa_cons (pe_ix ix_tup (pv 1) pe_int (fun _ _ => rfl)) pa_nil)) (pa_cons (pe_callTy call_listQ (by rfl) (g_list T) (by decide +kernel) (pa_cons (pe_ix ix_tup (pv 1) pe_int (fun _ _ => rfl)) pa_nil)) (pa_cons (pe_callTy call_listQ (by rfl) (g_list T) (by decide +kernel) (pa_cons (pe_ix ix_tup (pv 1) pe_int (fun _ _ => rfl)) pa_nil)) (pa_cons (pe_ix ix_tup (pv 1) pe_int (fun _ _ => rfl)) pa_nil))))))
    (pss_cons (ps_set (i := 5) sc_law.nd rfl (Or.inl rfl) (pcal c_run r_run (by rfl) pass0 (pa_cons (pv 4) (pa_cons (pv 2) (pa_cons (pv 3) pa_nil)))))
    (pss_cons (ps_if (PW.pt (pw_or (pt_cmpR (op_neD hr.hu) (pv 4) (pv 1) (nomark _)) (pw_or1 (pt_not (pt_val (pcal c_l_is r_l_is (by rfl) pass0 (pa_cons (pv 5) pa_nil))))))) (pss_one (ps_ret pe_bl)) pss_nil)
    (pss_one (ps_ret (pe_cmpR (op_eqD hr.hu) (pv 5) (pcal c_l_gone r_l_gone (by rfl) pass0 (pa_cons (pv 1) (pa_cons (pv 2) (pa_cons (pv 3) pa_nil)))) (nomark _))))))))))
end
section
variable {Z : Zt}
theorem ok_goal_of (T : Tx Z) : Cal Z CX0 1 "goal_of" ["stretches", "place"] (sp_goal_of Z.K) := dv_goal_of (n := 0) T (by walk_at "len") p_goal_of
theorem ok_Frame___init__ (T : Tx Z) : CalN Z CX0 1 "Frame" (He.ga Z.K "Frame") ["self", "place", "boxes", "number"] (sp_Frame___init__ Z.K) := dv_Frame___init__ (n := 0) T (by walk_at "len") p_Frame___init__
theorem ok_Frame_lay (T : Tx Z) : CalM Z CX0 1 (He.ga Z.K "Frame") "lay" ["self", "number"] (sp_Frame_lay Z.K) := dv_Frame_lay (n := 0) T (by walk_at "len") p_Frame_lay
theorem ok_Machine___init__ (T : Tx Z) : CalN Z CX0 3 "Machine" (He.ga Z.K "Machine") ["self", "parts", "number", "turns"] (sp_Machine___init__ Z.K) := dv_Machine___init__ (n := 2) T (ok_Frame___init__ T) (by decide) (by walk_at "len") p_Machine___init__
theorem ok_Machine_taken (T : Tx Z) : CalM Z CX0 1 (He.ga Z.K "Machine") "taken" ["self"] (sp_Machine_taken Z.K) := dv_Machine_taken (n := 0) T (by walk_at "len") p_Machine_taken
theorem ok_Machine_move (T : Tx Z) : CalM Z CX0 2 (He.ga Z.K "Machine") "move" ["self", "frame", "row"] (sp_Machine_move Z.K) := dv_Machine_move (n := 1) T (ok_Frame_lay T) (by decide) (by walk_at "len") p_Machine_move
theorem ok_Machine_jump (T : Tx Z) : CalM Z CX0 1 (He.ga Z.K "Machine") "jump" ["self", "frame", "row"] (sp_Machine_jump Z.K) := dv_Machine_jump (n := 0) T (by walk_at "len") p_Machine_jump
theorem ok_Machine_back (T : Tx Z) : CalM Z CX0 2 (He.ga Z.K "Machine") "back" ["self", "given"] (sp_Machine_back Z.K) := dv_Machine_back (n := 1) T (ok_Frame_lay T) (by decide) (by walk_at "len") p_Machine_back
theorem ok_Machine_fault (T : Tx Z) : CalM Z CX0 2 (He.ga Z.K "Machine") "fault" ["self", "number"] (sp_Machine_fault Z.K) := dv_Machine_fault (n := 1) T (ok_goal_of T) (by decide) (by walk_at "len") p_Machine_fault
theorem ok_Machine_meet (T : Tx Z) : CalM Z CX0 3 (He.ga Z.K "Machine") "meet" ["self", "frame", "word"] (sp_Machine_meet Z.K) := dv_Machine_meet (n := 2) T (ok_Frame_lay T) (by decide) (ok_Machine_fault T) (by decide) (by walk_at "len") p_Machine_meet
theorem ok_Machine_enter (T : Tx Z) : CalM Z CX0 3 (He.ga Z.K "Machine") "enter" ["self", "number", "given"] (sp_Machine_enter Z.K) := dv_Machine_enter (n := 2) T (ok_Machine_taken T) (by decide) (ok_Machine_fault T) (by decide) (ok_Frame___init__ T) (by decide) (by walk_at "len") p_Machine_enter
theorem ok_Machine_step (T : Tx Z) : CalM Z CX0 4 (He.ga Z.K "Machine") "step" ["self"] (sp_Machine_step Z.K) := dv_Machine_step (n := 3) T (ok_Machine_meet T) (by decide) (ok_Machine_move T) (by decide) (ok_Machine_jump T) (by decide) (ok_Machine_taken T) (by decide) (ok_Machine_enter T) (by decide) (ok_Machine_back T) (by decide) (ok_Machine_fault T) (by decide) (by walk_at "len") p_Machine_step
theorem ok_run (T : Tx Z) : Cal Z CX0 40 "run" ["parts", "number", "turns"] (sp_run0 Z.K) := dv_run (n := 39) T (ok_Machine___init__ T) (by decide) (ok_Machine_step T) (by decide) (by walk_at "len") p_run0
theorem ok_l_whole (T : Tx Z) : Cal Z CX0 1 "_law_whole" ["_law_found"] (sp_l_whole Z.K) := dv_l_whole (n := 0) T (by walk_at "len") p_l_whole
theorem ok_l_cell_at (T : Tx Z) : Cal Z CX0 1 "_law_cell_at" ["_law_script", "_law_k"] (sp_l_cell_at Z.K) := dv_l_cell_at (n := 0) T (by walk_at "len") p_l_cell_at
theorem ok_l_number (T : Tx Z) : Cal Z CX0 1 "_law_number" ["_law_cell"] (sp_l_number Z.K) := dv_l_number (n := 0) T (by walk_at "len") p_l_number
theorem ok_l_size (T : Tx Z) : Cal Z CX0 1 "_law_size" ["_law_kind"] (sp_l_size Z.K) := dv_l_size (n := 0) T (by walk_at "len") p_l_size
theorem ok_l_group (T : Tx Z) : Cal Z CX0 1 "_law_group" ["_law_cell", "_law_near", "_law_far", "_law_boxes", "_law_many"] (sp_l_group Z.K) := dv_l_group (n := 0) T (by walk_at "len") p_l_group
theorem ok_l_places (T : Tx Z) : Cal Z CX0 2 "_law_places" ["_law_groups", "_law_lead", "_law_turn_here"] (sp_l_places Z.K) := dv_l_places (n := 1) T (ok_l_size T) (by decide) (by walk_at "len") p_l_places
theorem ok_l_code (T : Tx Z) : Cal Z CX0 2 "_law_code" ["_law_groups", "_law_places_here", "_law_lead", "_law_turn_here", "_law_boxes"] (sp_l_code Z.K) := dv_l_code (n := 1) T (ok_l_group T) (by decide) (by walk_at "len") p_l_code
theorem ok_l_goals (T : Tx Z) : Cal Z CX0 1 "_law_goals" ["_law_cells", "_law_total", "_law_every", "_law_boxes"] (sp_l_goals Z.K) := dv_l_goals (n := 0) T (by walk_at "len") p_l_goals
theorem ok_l_stretches (T : Tx Z) : Cal Z CX0 1 "_law_stretches" ["_law_cells", "_law_code_here", "_law_goals_here"] (sp_l_stretches Z.K) := dv_l_stretches (n := 0) T (by walk_at "len") p_l_stretches
theorem ok_l_drawn (T : Tx Z) : Cal Z CX0 3 "_law_drawn" ["_law_script"] (sp_l_drawn Z.K) := dv_l_drawn (n := 2) T (ok_l_cell_at T) (by decide) (ok_l_places T) (by decide) (ok_l_code T) (by decide) (ok_l_goals T) (by decide) (ok_l_stretches T) (by decide) (by walk_at "len") p_l_drawn
theorem ok_l_is (T : Tx Z) : Cal Z CX0 2 "_law_is" ["_law_found"] (sp_l_is Z.K) := dv_l_is (n := 1) T (ok_l_whole T) (by decide) (by walk_at "len") p_l_is
theorem ok_l_goal (T : Tx Z) : Cal Z CX0 1 "_law_goal" ["_law_stretches_here", "_law_place"] (sp_l_goal Z.K) := dv_l_goal (n := 0) T (by walk_at "len") p_l_goal
theorem ok_l_fault (T : Tx Z) : Cal Z CX0 2 "_law_fault" ["_law_state", "_law_number_here"] (sp_l_fault Z.K) := dv_l_fault (n := 1) T (ok_l_goal T) (by decide) (by walk_at "len") p_l_fault
theorem ok_l_turn (T : Tx Z) : Cal Z CX0 1 "_law_turn" ["_law_state"] (sp_l_turn Z.K) := dv_l_turn (n := 0) T (by walk_at "len") p_l_turn
theorem ok_l_two (T : Tx Z) : Cal Z CX0 3 "_law_two" ["_law_state", "_law_frame", "_law_word"] (sp_l_two Z.K) := dv_l_two (n := 2) T (ok_l_fault T) (by decide) (by walk_at "len") p_l_two
theorem ok_l_called (T : Tx Z) : Cal Z CX0 3 "_law_called" ["_law_state", "_law_frame", "_law_function"] (sp_l_called Z.K) := dv_l_called (n := 2) T (ok_l_turn T) (by decide) (ok_l_fault T) (by decide) (by walk_at "len") p_l_called
theorem ok_l_given (T : Tx Z) : Cal Z CX0 1 "_law_given" ["_law_state", "_law_number_here"] (sp_l_given Z.K) := dv_l_given (n := 0) T (by walk_at "len") p_l_given
theorem ok_l_plain (T : Tx Z) : Cal Z CX0 2 "_law_plain" ["_law_state", "_law_frame", "_law_row"] (sp_l_plain Z.K) := dv_l_plain (n := 1) T (ok_l_turn T) (by decide) (by walk_at "len") p_l_plain
theorem ok_l_step (T : Tx Z) : Cal Z CX0 4 "_law_step" ["_law_state"] (sp_l_step Z.K) := dv_l_step (n := 3) T (ok_l_two T) (by decide) (ok_l_called T) (by decide) (ok_l_given T) (by decide) (ok_l_fault T) (by decide) (ok_l_plain T) (by decide) (by walk_at "len") p_l_step
theorem ok_l_gone (T : Tx Z) : Cal Z CX0 5 "_law_gone" ["_law_parts", "_law_given_here", "_law_turns"] (sp_l_gone Z.K) := dv_l_gone (n := 4) T (ok_l_step T) (by decide) (by walk_at "len") p_l_gone
theorem ok_law (T : Tx Z) {fd : FuncData} (F : FunE Z.K "law" "law" s_law (He.fAd Z.K ("law", none)) fd) : FnR Z CX0 41 (He.ga Z.K "law") fd ["_law_script"] (spLaw Z.K) := dv_law (n := 40) T (ok_l_drawn T) (by decide) (ok_l_number T) (by decide) (ok_l_cell_at T) (by decide) (ok_run T) (by decide) (ok_l_is T) (by decide) (ok_l_gone T) (by decide) F (by walk_at "len") p_law
end

theorem g_law0 {K : PySem.W.Frag} {h : Heap} {mg : Str → Option Value} (KX : K.In h) (G : h.Ns mainGlobals mg) (c : He.SaysE fa fn K) : mg "law" = some (.ref (He.ga K "law")) := He.glo_ok KX G (c.fact 73 (f := .glo "law") rfl)


theorem fin {w : World} {K : PySem.W.Frag} {h : Heap} {mg : Str → Option Value} (KX : K.In h) (G : h.Ns mainGlobals mg) (c : He.SaysE fa fn K) {fl : Addr} (hmg : mg "law" = some (.ref fl)) :
    ∃ (K : PySem.W.Frag) (fd : FuncData) (sp : Sp), K.In h ∧ (∀ (s : Shared) (u : Value), BindsTo s fd ⟨[u], []⟩ [("_law_script", u)]) ∧
      (∀ (H : Hp) (a : Addr) (ns : List Int), ns.length ≤ 63 → Only H → SqL K H a (ns.map V.int) → sp [.ref a] H (fun v _ => v = .bl true) fun _ _ _ => False) ∧
      ∀ base : Heap, K.In base → base.Ns mainGlobals mg → base.NoSeer → U.FnR ⟨(PySem.Challenge.rw_unwind_k14_whole_code_by_hand).prog, w, K, mg, base⟩ CX0 41 fl fd ["_law_script"] sp := by
  have e0 := hmg.symm.trans (g_law0 KX G c)
  cases e0
  obtain ⟨fd, F⟩ := fun_of (Z := ⟨PySem.Challenge.pw_unwind_k14_whole_code_by_hand, w, K, mg, h⟩) (f := He.fAd K ("law", none)) (x := "law") (qual := "law") (st := s_law) (c.def_ 33 (d := d_law) rfl)
  refine ⟨K, fd, spLaw K, KX, fun s u => ?_, fun H a ns hl _ hS => ⟨a, ns, rfl, hS, hl, fun _ => rfl⟩, fun base KB GB NB => ?_⟩
  · obtain ⟨oc, od, kV, doc, pm, an, cdv, ct, osl, rfl, _, _⟩ := F.ex
    exact .of_eq rfl
  · have T : Tx ⟨(PySem.Challenge.rw_unwind_k14_whole_code_by_hand).prog, w, K, mg, base⟩ := ⟨c, KB, GB, NB, rfl⟩
    exact ok_law T F


end Lw
open PySem PySem.W PySem.Calls PyProof.Rows
set_option maxRecDepth 100000 in
set_option maxHeartbeats 0 in
theorem PySem.Challenge.cw_unwind_k14_whole_code_by_hand_holds : PySem.Challenge.rw_unwind_k14_whole_code_by_hand.Holds := by
  w_on; o_law
  refine HandSHeadRun.head_any (r := OpenLaw.row PySem.Challenge.rw_unwind_k14_whole_code_by_hand) (q := view (OpenLaw.row PySem.Challenge.rw_unwind_k14_whole_code_by_hand).prog [29]) (H := Lw.hk) (ob := Lw.ob) (M := 30000) (loose := Lw.loose) (d := HandSHeadRun.topDef (OpenLaw.row PySem.Challenge.rw_unwind_k14_whole_code_by_hand).prog 29) (kwd := []) Lw.ob_eq
    (by kernel_rfl) (fun s => by kernel_rfl) Lw.run (by kernel_rfl) (by kernel_rfl) (by kernel_rfl) (by rfl) (by first | assumption | decide +kernel) (by decide +kernel) ⟨rfl, rfl, rfl, rfl, rfl, by decide +kernel⟩ ?hw ?hc
  case hw => w_witness2
  case hc =>
    refine U.walkU (l := PySem.Challenge.rw_unwind_k14_whole_code_by_hand) (n := 41) (x := "_law_script") rfl (by kernel_rfl) (by decide +kernel) (by decide) ?F
    intro w mg fa h Y G hmg0
    obtain ⟨K, KX, c⟩ := Y
    have e : (HandSHeadRun.topDef (OpenLaw.row PySem.Challenge.rw_unwind_k14_whole_code_by_hand).prog 29).name = ("law" : PySem.Str) := by kernel_rfl
    have hmg : mg ("law" : PySem.Str) = some (.ref fa) := by
      rw [← e]
      exact hmg0
    exact Lw.fin (w := w) KX G c hmg


