import PyProof.Rows.All
import Wide.All
import OpenK.AllK
import Wide.FinOn
import HandS.ForMost
import HandS.IsInst
import HandS.HeadHook1
import PyProof.NoPylong
import HandS.Head0
import HandS.Head1
import HandS.Head2
import HandS.HeadEnd
import PySem.Challenge.RW_unwind_k02_the_first_stretch
set_option Elab.async false
set_option linter.all false
set_option maxRecDepth 100000
set_option maxHeartbeats 4000000
namespace U
open PySem PySem.Spec PyProof.Rows L2

/-! ### room: one frame a level -/
structure Rm (n : Nat) (A : Around) : Prop where
  noh : A.handled = none
  fr : A.depth + n + 105 < recursionLimit
  cu : A.units + 4 * n + 400 < cLine
theorem Rm.mono {m n : Nat} {A : Around} (r : Rm n A) (h : m ≤ n) : Rm m A :=
  ⟨r.noh, by have q := r.fr; omega, by have q := r.cu; omega⟩
theorem Rm.down {n : Nat} {A : Around} (r : Rm (n + 1) A) (env : Env) : Rm n (A.deeper env) := by
  refine ⟨r.noh, ?_, ?_⟩
  · have q := r.fr
    show A.depth + 1 + n + 105 < _
    omega
  · have q := r.cu
    show A.units + 3 + 4 * n + 400 < _
    omega
theorem Rm.mk_ {n : Nat} {A : Around} (r : Rm (n + 1) A) (C : Addr) (us : List Value) (kw : List (Str × Value)) :
    Rm n (A.under (.builtin "type.__call__" ⟨.ref C :: us, kw⟩)) := by
  refine ⟨r.noh, ?_, ?_⟩
  · have q := r.fr
    rw [make_depth]
    omega
  · have q := r.cu
    rw [make_units]
    omega
theorem Rm.rm {n : Nat} {A : Around} (r : Rm n A) : Room 6 A :=
  ⟨r.noh, by have q := r.fr; omega, by have q := r.cu; omega⟩
theorem Rm.dep {n : Nat} {A : Around} (r : Rm n A) : A.depth < recursionLimit := by
  have q := r.fr
  omega
theorem Rm.hu {n : Nat} {A : Around} (r : Rm n A) : A.units + 64 < cLine := by
  have q := r.cu
  omega

/-! ### the surroundings of a text -/
structure Zt where
  P : Program
  w : World
  K : PySem.W.Frag
  mg : Str → Option Value
  base : Heap

/-- a def that keeps its promise wherever n more frames have room -/
structure FnR (Z : Zt) (CX : CXT) (n : Nat) (f : Addr) (fd : FuncData) (ps : List Str) (sp : Sp) : Prop where
  len : ∀ vs H Q E, sp vs H Q E → vs.length = ps.length
  run : ∀ (A : Around) (outer : List Env) (s : Shared) (H : Hp) (args : Args) (us : List Value) (vs : List V) (Q : VK) (E : XK),
    Rm n A → Env0 Z.P Z.w Z.K Z.mg Z.base A outer s H → BindsTo s fd args (ps.zip us) → Vals vs us → sp vs H Q E →
      codeAny (model Z.P Z.w) A (.call (.ref f) args) (CR CX outer Z.P Z.w H s Q E) s

theorem FnR.up {Z : Zt} {CX : CXT} {m n : Nat} {f : Addr} {fd : FuncData} {ps : List Str} {sp : Sp} (F : FnR Z CX m f fd ps sp) (h : m ≤ n) : FnR Z CX n f fd ps sp :=
  ⟨F.len, fun A outer s H args us vs Q E hr => F.run A outer s H args us vs Q E (hr.mono h)⟩

theorem FnR.toOk {Z : Zt} {CX : CXT} {n : Nat} {f : Addr} {fd : FuncData} {ps : List Str} {sp : Sp} (F : FnR Z CX n f fd ps sp) (h : n ≤ 500) :
    FnOk Z.P Z.w Z.K Z.mg Z.base CX 231 f fd ps sp := by
  refine ⟨F.len, fun A outer s H args us vs Q E hr => F.run A outer s H args us vs Q E ⟨hr.hd, ?_, ?_⟩⟩
  · have q := hr.dp
    omega
  · have q := hr.un
    omega

section
variable {X : Cx} {CX : CXT} {n : Nat} {f C : Addr} {fd : FuncData} {ps : List Str} {sp : Sp} {E : XK}

theorem runR {pins : List (Addr × Obj)} {σ : L2.St} {H : Hp} {s : Shared} {Q : VK} {us : List Value} {vs : List V} (F : FnR ⟨X.prog, X.w, X.K, X.mg, X.base⟩ CX n f fd ps sp) (hr : Rm n X.A)
    (hb : L2.Binds X.K fd ps []) (hx : Passes CX X E) (I : Inv X pins σ H s) (r : Vals vs us) (h : sp vs H Q E) :
    wpAny (model X.prog X.w) X.A (call (.ref f) us) (EP X pins σ Q) X.xe s := by
  have hlen : (us ++ []).length = ps.length := by
    rw [List.append_nil, ← r.length]
    exact F.len _ _ _ _ h
  have hbind := hb s us I.kIn hlen
  rw [List.append_nil] at hbind
  refine wpAny_call (codeAny_mono (F.run X.A X.stack s H ⟨us, []⟩ us vs Q E hr I.env0 hbind r h) fun res s' hq => ?_)
  match res, hq with
  | .error e, hq => exact hx pins σ H s e s' I hq
  | .ok (.ret u), hq => exact I.after hq
  | .ok .next, hq => exact hq.elim
  | .ok .brk, hq => exact hq.elim
  | .ok .cont, hq => exact hq.elim

theorem runMk {pins : List (Addr × Obj)} {σ : L2.St} {H : Hp} {s : Shared} {Q : VK} {us : List Value} {vs : List V} (M : Mk X.K C f) (F : FnR ⟨X.prog, X.w, X.K, X.mg, X.base⟩ CX n f fd ps sp) (hr : Rm (n + 1) X.A)
    (hb : L2.Binds X.K fd ps []) (hx : Passes CX X E) (I : Inv X pins σ H s) (r : Vals vs us)
    (h : ∀ x dx, H x = none → H dx = none → dx ≠ x → sp (.ref x :: (vs ++ [])) (upd (upd H dx (.own x)) x (.ins C dx [])) (fun v H2 => v = .non ∧ Q (.ref x) H2) E) :
    wpAny (model X.prog X.w) X.A (call (.ref C) us) (EP X pins σ Q) X.xe s := by
  have h1 := h (s.heap.objs.size + 1) s.heap.objs.size (I.hok.fresh (Nat.le_succ _)) (I.hok.fresh (Nat.le_refl _)) (Nat.ne_of_lt (Nat.lt_succ_self _))
  rw [List.append_nil] at h1
  have J := Inv.made (C := C) I
  have rr : Vals (V.ref (s.heap.objs.size + 1) :: vs) (Value.ref (s.heap.objs.size + 1) :: us) := .cons rfl r
  have hlen : ((Value.ref (s.heap.objs.size + 1) :: us) ++ []).length = ps.length := by
    rw [List.append_nil, ← rr.length]
    exact F.len _ _ _ _ h1
  have hbind := hb (Shared.mk _ _ _ _ _) (Value.ref (s.heap.objs.size + 1) :: us) J.kIn hlen
  rw [List.append_nil] at hbind
  refine wpAny_call (make_map (f := f) I.kIn M.makes M.init (beq_iff_eq.mp M.fn) (codeAny_mono (F.run _ X.stack _ _ ⟨Value.ref (s.heap.objs.size + 1) :: us, []⟩ _ _ _ E (hr.mk_ C us [])
    (J.env0.make C us []) hbind rr h1) fun res s' hq => ?_))
  match res, hq with
  | .error e, hq => exact hx pins σ _ _ e s' J hq
  | .ok (.ret u), hq =>
    obtain ⟨v, H', I3, rv, ev, q3⟩ := J.after hq
    subst ev
    exact ⟨rv, ⟨V.ref (s.heap.objs.size + 1), H', I3, rfl, q3⟩⟩
  | .ok .next, hq => exact hq.elim
  | .ok .brk, hq => exact hq.elim
  | .ok .cont, hq => exact hq.elim
end
end U

set_option maxHeartbeats 4000000
namespace U
open PySem PySem.Spec PyProof.Rows L2

/-! ### what may be called by name, as a method, as a class -/
structure Cal (Z : Zt) (CX : CXT) (n : Nat) (x : Str) (ps : List Str) (sp : Sp) : Prop where
  ex : ∃ f fd, Z.mg x = some (.ref f) ∧ PySem.W.keepIn Z.K (.ref f) = true ∧ L2.Binds Z.K fd ps [] ∧ FnR Z CX n f fd ps sp
structure CalM (Z : Zt) (CX : CXT) (n : Nat) (C : Addr) (m : Str) (ps : List Str) (sp : Sp) : Prop where
  ex : ∃ f fd, Meth Z.K C m f ∧ L2.Binds Z.K fd ps [] ∧ FnR Z CX n f fd ps sp
structure CalN (Z : Zt) (CX : CXT) (n : Nat) (x : Str) (C : Addr) (ps : List Str) (sp : Sp) : Prop where
  ex : ∃ f fd, Mk Z.K C f ∧ Z.mg x = some (.ref C) ∧ L2.Binds Z.K fd ps [] ∧ FnR Z CX n f fd ps sp

theorem Cal.up {Z : Zt} {CX : CXT} {m n : Nat} {x : Str} {ps : List Str} {sp : Sp} (c : Cal Z CX m x ps sp) (h : m ≤ n) : Cal Z CX n x ps sp := by
  obtain ⟨f, fd, h1, h2, h3, h4⟩ := c.ex
  exact ⟨f, fd, h1, h2, h3, h4.up h⟩
theorem CalM.up {Z : Zt} {CX : CXT} {m n : Nat} {C : Addr} {x : Str} {ps : List Str} {sp : Sp} (c : CalM Z CX m C x ps sp) (h : m ≤ n) : CalM Z CX n C x ps sp := by
  obtain ⟨f, fd, h1, h3, h4⟩ := c.ex
  exact ⟨f, fd, h1, h3, h4.up h⟩
theorem CalN.up {Z : Zt} {CX : CXT} {m n : Nat} {C : Addr} {x : Str} {ps : List Str} {sp : Sp} (c : CalN Z CX m x C ps sp) (h : m ≤ n) : CalN Z CX n x C ps sp := by
  obtain ⟨f, fd, h1, h2, h3, h4⟩ := c.ex
  exact ⟨f, fd, h1, h2, h3, h4.up h⟩

section
variable {X : Cx} {CX : CXT} {n : Nat} {C : Addr} {ps : List Str} {sp : Sp} {E : XK} {x m : Str} {p pos apos : Pos} {e o : Expr} {es : List Expr} {ta : TE} {t : TA}

theorem pcal (c : Cal ⟨X.prog, X.w, X.K, X.mg, X.base⟩ CX n x ps sp) (hr : Rm n X.A) (hg : Gl X x) (hx : Passes CX X E) (ha : PA X (e :: es) t)
    (hdb : (x == ("__debug__" : Str)) = false := by decide) (he : starEach (e :: es) X.env = (false, eval e X.env) :: starEach es X.env := by rfl)
    (hpl : (backTo pos (starEach es X.env)).any (·.1) = false := by rfl) : PE X (.Call (.Name x p) (e :: es) [] pos) (tCall sp [] E t) := by
  obtain ⟨f, fd, hm, hk, hb, F⟩ := c.ex
  constructor
  intro pins s σ H Q I h
  apply wpAny_Call_Name_kw
  apply ld_glob I hg hm _ hdb
  refine PySem.W.callWith_K (h₀ := X.base) I.ok.mod.kin hk ?_ he hpl
  refine thn (ha.run pos pins s σ H _ I h) ?_
  rintro us s1 ⟨vs, H1, I1, r, q⟩
  refine ⟨I1.kIn, ?_⟩
  have q' : sp (vs ++ []) H1 Q E := q
  rw [List.append_nil] at q'
  exact runR F hr hb hx I1 r q'

theorem pcal0 (c : Cal ⟨X.prog, X.w, X.K, X.mg, X.base⟩ CX n x ps sp) (hr : Rm n X.A) (hg : Gl X x) (hx : Passes CX X E)
    (hdb : (x == ("__debug__" : Str)) = false := by decide) : PE X (.Call (.Name x p) [] [] pos) (tCall sp [] E tNil) := by
  obtain ⟨f, fd, hm, hk, hb, F⟩ := c.ex
  constructor
  intro pins s σ H Q I h
  apply wpAny_Call_Name_kw
  apply ld_glob I hg hm _ hdb
  exact PySem.W.callWith_K0 I.kIn hk (runR (us := []) F hr hb hx I .nil h)

theorem pmet {pl : Sem Bool} (he : PE X o ta) (cl : Cls X.K C) (c : CalM ⟨X.prog, X.w, X.K, X.mg, X.base⟩ CX n C m ps sp) (hr : Rm n X.A) (hx : Passes CX X E) (ha : PA X (e :: es) t)
    (hst : starEach (e :: es) X.env = (false, eval e X.env) :: starEach es X.env := by rfl) (hpl : (backTo pos (starEach es X.env)).any (·.1) = false := by rfl)
    (ht : eval (.Call (.Attribute o m apos) (e :: es) [] pos) X.env = (do
      let ov ← eval o X.env; standAt apos.atName
      let (f, first) ← holding [ov] (getMethod ov m pl)
      callWith pos f first (backTo pos (starEach (e :: es) X.env)) (backToKw pos (keywordEach [] X.env))) := by rfl) :
    PE X (.Call (.Attribute o m apos) (e :: es) [] pos) (tMeth C m sp [] E ta t) := by
  obtain ⟨f, fd, hm, hb, F⟩ := c.ex
  constructor
  intro pins s σ H Q I h
  refine PySem.W.methodCall_KW (pl := pl) (thn (he.run pins s σ H _ I h) ?_) ht
  rintro u s1 ⟨y, H1, I1, ry, a, dx, fs, ey, ea, l, q⟩
  subst ey
  obtain rfl : u = Value.ref a := ry
  refine getmeth_ok I1 ea cl hm l ?_
  refine PySem.W.callWith_K (first := [.ref a]) (h₀ := X.base) I.ok.mod.kin hm.kp (thn (ha.run pos pins s1 σ H1 _ I1 q) ?_) hst hpl
  rintro us s2 ⟨vs, H2, I2, r, q2⟩
  refine ⟨I2.kIn, ?_⟩
  have q' : sp (.ref a :: (vs ++ [])) H2 Q E := q2
  rw [List.append_nil] at q'
  exact runR (us := .ref a :: us) (vs := .ref a :: vs) F hr hb hx I2 (.cons rfl r) q'

theorem pmet0 {pl : Sem Bool} (he : PE X o ta) (cl : Cls X.K C) (c : CalM ⟨X.prog, X.w, X.K, X.mg, X.base⟩ CX n C m ps sp) (hr : Rm n X.A) (hx : Passes CX X E)
    (ht : eval (.Call (.Attribute o m apos) [] [] pos) X.env = (do
      let ov ← eval o X.env; standAt apos.atName
      let (f, first) ← holding [ov] (getMethod ov m pl)
      callWith pos f first (backTo pos (starEach [] X.env)) (backToKw pos (keywordEach [] X.env))) := by rfl) :
    PE X (.Call (.Attribute o m apos) [] [] pos) (tMeth C m sp [] E ta tNil) := by
  obtain ⟨f, fd, hm, hb, F⟩ := c.ex
  constructor
  intro pins s σ H Q I h
  refine PySem.W.methodCall_KW (pl := pl) (thn (he.run pins s σ H _ I h) ?_) ht
  rintro u s1 ⟨y, H1, I1, ry, a, dx, fs, ey, ea, l, q⟩
  subst ey
  obtain rfl : u = Value.ref a := ry
  refine getmeth_ok I1 ea cl hm l ?_
  exact PySem.W.callWith_K0 (first := [.ref a]) I1.kIn hm.kp (runR (us := [.ref a]) (vs := [.ref a]) F hr hb hx I1 (.cons rfl .nil) q)

theorem pmak (c : CalN ⟨X.prog, X.w, X.K, X.mg, X.base⟩ CX n x C ps sp) (hr : Rm (n + 1) X.A) (hg : Gl X x) (hx : Passes CX X E) (ha : PA X (e :: es) t)
    (hdb : (x == ("__debug__" : Str)) = false := by decide) (he : starEach (e :: es) X.env = (false, eval e X.env) :: starEach es X.env := by rfl)
    (hpl : (backTo pos (starEach es X.env)).any (·.1) = false := by rfl) : PE X (.Call (.Name x p) (e :: es) [] pos) (tMake C sp [] E t) := by
  obtain ⟨f, fd, M, hm, hb, F⟩ := c.ex
  constructor
  intro pins s σ H Q I h
  apply wpAny_Call_Name_kw
  apply ld_glob I hg hm _ hdb
  refine PySem.W.callWith_K (h₀ := X.base) I.ok.mod.kin M.kp ?_ he hpl
  refine thn (ha.run pos pins s σ H _ I h) ?_
  rintro us s1 ⟨vs, H1, I1, r, q⟩
  exact ⟨I1.kIn, runMk M F hr hb hx I1 r q⟩

theorem pmak0 (c : CalN ⟨X.prog, X.w, X.K, X.mg, X.base⟩ CX n x C ps sp) (hr : Rm (n + 1) X.A) (hg : Gl X x) (hx : Passes CX X E)
    (hdb : (x == ("__debug__" : Str)) = false := by decide) : PE X (.Call (.Name x p) [] [] pos) (tMake C sp [] E tNil) := by
  obtain ⟨f, fd, M, hm, hb, F⟩ := c.ex
  constructor
  intro pins s σ H Q I h
  apply wpAny_Call_Name_kw
  apply ld_glob I hg hm _ hdb
  exact PySem.W.callWith_K0 I.kIn M.kp (runMk (us := []) M F hr hb hx I .nil h)

/-- // by any number but 0, in a def's own frame -/
def rFd : R2 := fun x y H Q => ∃ i j, x = .int i ∧ y = .int j ∧ j ≠ 0 ∧ Q (.int (i.fdiv j)) H
end

/-! ### a def by its body -/
structure FunE (K : PySem.W.Frag) (x qual : Str) (st : Stmt) (f : Addr) (fd : FuncData) : Prop where
  ex : ∃ (oc : Value) (od : Option Addr) (kV doc pm : Value) (an : Option Addr) (cdv ct : Value) (osl : Array (Option Value)),
    fd = PySem.W.fnOf x qual (defArgs st) (defBody st) (defScope st) .none kV doc pm an cdv ct ∧ K.lookup f = some ⟨oc, od, .func fd, osl⟩ ∧ PySem.W.codeIn K cdv qual = true
theorem FunE.binds {K : PySem.W.Frag} {x qual : Str} {st : Stmt} {f : Addr} {fd : FuncData} {ps : List Str} (F : FunE K x qual st f fd)
    (h : ∀ (kV doc pm : Value) (an : Option Addr) (cdv ct : Value) (us : List Value), us.length = ps.length → bindArgs (PySem.W.fnOf x qual (defArgs st) (defBody st) (defScope st) .none kV doc pm an cdv ct) ⟨us, []⟩ = pure (ps.zip us)) : L2.Binds K fd ps [] := by
  obtain ⟨oc, od, kV, doc, pm, an, cdv, ct, osl, rfl, lk, hcd⟩ := F.ex
  exact .all (h kV doc pm an cdv ct)
section
variable {Z : Zt} {x qual : Str} {st : Stmt} {f : Addr} {fd : FuncData} {N ps : List Str} {n : Nat} {sp : Sp}
theorem mkR0 {CX : CXT} (F : FunE Z.K x qual st f fd) (S : FnScope N ps (defScope st)) (len : ∀ vs H Q E, sp vs H Q E → vs.length = ps.length)
    (hbody : ∀ (cdv : Value) (A : Around) (outer : List Env) (s : Shared) (H : Hp) (vs : List V) (Q : VK) (E : XK), Rm n (A.deeper (envOfC qual (defScope st) s.heap.objs.size f cdv)) → sp vs H Q E →
      ∃ t, PSs (cxOf CX Z.P Z.w Z.K Z.mg Z.base N qual (defScope st) f cdv A outer s H E) (defBody st) t ∧ t { nx := fun _ H' => Q .non H', rt := Q } (start N vs) H) :
    FnR Z CX (n + 1) f fd ps sp := by
  obtain ⟨oc, od, kV, doc, pm, an, cdv, ct, osl, rfl, lk, hcd⟩ := F.ex
  refine ⟨len, fun A outer s H args us vs Q E hr e0 hb r hsp => ?_⟩
  have hl := len _ _ _ _ hsp
  have kx : Z.K.In s.heap := e0.mod.kin.keeps fun b o e => (e0.bs b o e).1
  have nl : s.heap.NoLimit := e0.mod.nolimit.keeps fun b o e => (e0.bs b o e).1
  refine codeAny_call_function hr.dep (kx _ _ lk) rfl S.co S.gen rfl (PySem.W.codeRec_of kx hcd) (hb _ _ _ _ ?_)
  refine wpAny_newFunctionEnv_cells S.kind ?_ ?_
  · rintro ⟨y, v⟩ hy
    rcases S.par y (List.of_mem_zip hy).1 with q | q
    · exact .inl q
    · exact .inr ⟨q, PySem.W.cellsFrom_some _ _ _ (.inl q)⟩
  · intro env he s1 hin
    subst he
    refine ⟨nl.keeps hin.toInCall.keep, codeAny_func ?_⟩
    obtain ⟨t, ht, hq⟩ := hbody cdv A outer s H vs Q E (hr.down _) hsp
    have I := inv_start (CX := CX) (E := E) S hr.noh e0 hl r hin
    refine wpAny_mono (ht.run [] s1 (start N vs) H _ I hq) ?_ fun e s' hs => hs
    intro fl s' hs
    match fl, hs with
    | .ret u, hs =>
      obtain ⟨v, σ', H', J, rv, q⟩ := hs
      exact ⟨v, H', J.os, J.bare, J.base, J.hok, rv, q⟩
    | .next, hs =>
      obtain ⟨σ', H', J, q⟩ := hs
      exact ⟨V.non, H', J.os, J.bare, J.base, J.hok, rfl, q⟩
    | .brk, hs =>
      obtain ⟨_, _, _, q⟩ := hs
      exact q.elim
    | .cont, hs =>
      obtain ⟨_, _, _, q⟩ := hs
      exact q.elim

/-- nothing leaves it by an exception -/
theorem mkR {tb : TS} (F : FunE Z.K x qual st f fd) (S : FnScope N ps (defScope st)) (len : ∀ vs H Q E, sp vs H Q E → vs.length = ps.length)
    (hbody : ∀ (cdv : Value) (A : Around) (outer : List Env) (s : Shared) (H : Hp) (E : XK), Rm n (A.deeper (envOfC qual (defScope st) s.heap.objs.size f cdv)) →
      PSs (cxOf CX0 Z.P Z.w Z.K Z.mg Z.base N qual (defScope st) f cdv A outer s H E).nox (defBody st) tb)
    (pure : ∀ (vs : List V) (H : Hp) (Q : VK) (E : XK), sp vs H Q E → tb { nx := fun _ H' => Q .non H', rt := Q } (start N vs) H) :
    FnR Z CX0 (n + 1) f fd ps sp :=
  mkR0 F S len fun cdv A outer s H vs Q E hr h => ⟨tb, (hbody cdv A outer s H E hr).nox, pure vs H Q E h⟩

theorem fun_of (F : ∃ oc od osl kV doc pm an cdv ct, Z.K.lookup f = some ⟨oc, od, .func (PySem.W.fnOf x qual (defArgs st) (defBody st) (defScope st) .none kV doc pm an cdv ct), osl⟩ ∧ PySem.W.codeIn Z.K cdv qual = true) :
    ∃ fd, FunE Z.K x qual st f fd := by
  obtain ⟨oc, od, osl, kV, doc, pm, an, cdv, ct, h1, h2⟩ := F
  exact ⟨_, ⟨oc, od, kV, doc, pm, an, cdv, ct, osl, rfl, h1, h2⟩⟩
end
end U

set_option maxHeartbeats 4000000
namespace U
open PySem PySem.Spec PyProof.Rows L2

/-! ### // by any number but 0 -/
theorem op_fdZ {X : Cx} {m : Nat} (hN : X.base.NoSeer) (ht : X.prog.given.tree = none) (hst : X.stack = X.env :: X.outer) (hgn : X.env.scope.isGenerator = false) (hco : X.env.scope.isCoroutine = false)
    (hr : Rm m X.A) : OpR X (binaryOp .FloorDiv) rFd := by
  intro pins s σ H x y v u Q I rx ry h
  obtain ⟨i, j, rfl, rfl, hj, q⟩ := h
  obtain ⟨t, rfl⟩ := rx
  obtain ⟨t', rfl⟩ := ry
  refine floordiv_int hj ?_ (.inr (PylongRoom.of I.nolimit ?_ ?_))
  · exact ⟨.int (i.fdiv j), H, I.tok _, ⟨_, rfl⟩, q⟩
  · have z := hr.fr
    have e : Builtin.pylongFrames = 100 := rfl
    omega
  · exact SeerAt.of (hN.keeps I.bk) ht (by rw [I.ok.frames, hst]) hgn hco I.ok.blt I.ok.glob

/-! ### the law's call -/
def scriptAt (a : Addr) (vs : List Value) (ns : List Int) : Hp := fun b => if b = a then some (.frz { cls := .type "list", data := .seq vs.toArray } (.lst (ns.map V.int))) else none

theorem callU {P : Program} {w : World} {K : PySem.W.Frag} {mg mb : Str → Option Value} {n : Nat} {fa a : Addr} {fd : FuncData} {x : Str} {sp : Sp} {s : Shared} {vs : List Value} {ns : List Int}
    (kx : K.In s.heap) (hns : s.heap.Ns mainGlobals mg) (hb : s.heap.Ns builtinsNs mb) (hbb : ∀ x : Str, x ≠ "__name__" → mb x = bootBuiltins x) (hlim : s.heap.NoLimit) (hsee : s.heap.NoSeer) (hg : s.gens = #[])
    (ha : s.heap.get? a = some { cls := .type "list", data := .seq vs.toArray }) (hi : IntsAre vs ns) (hl : ns.length ≤ sizeLine) (hr : Rm n callerA)
    (F : ∀ base : Heap, K.In base → base.Ns mainGlobals mg → base.NoSeer → FnR ⟨P, w, K, mg, base⟩ CX0 n fa fd [x] sp) (hbind : ∀ (s : Shared) (u : Value), BindsTo s fd ⟨[u], []⟩ [(x, u)])
    (hsp : ∀ H : Hp, Only H → SqL K H a (ns.map V.int) → sp [.ref a] H (fun v _ => v = .bl true) fun _ _ _ => False) :
    codeAny (model P w) callerA (.call (.ref fa) ⟨[.ref a], []⟩) (fun r s' => r = .ok (.ret (.bool true)) ∧ OldK s.heap s'.heap ∧ s'.os = s.os ∧ AllBare s'.gens) s := by
  have rv := vals_ints hi
  have main : ∀ H : Hp, Only H → SqL K H a (ns.map V.int) → HOk P w H s.heap → (∀ b, H b ≠ none → b = a) → (H a ≠ none → K.lookup a = none) →
      codeAny (model P w) callerA (.call (.ref fa) ⟨[.ref a], []⟩) (fun r s' => r = .ok (.ret (.bool true)) ∧ OldK s.heap s'.heap ∧ s'.os = s.os ∧ AllBare s'.gens) s := by
    intro H hO hS hok only notK
    have free : ∀ {b : Addr} {o : Obj}, s.heap.get? b = some o → (∀ n', o.data ≠ .seq vs.toArray n') → H b = none := by
      intro b o e d
      by_cases z : H b = none
      · exact z
      · have eb := only b z
        subst eb
        rw [ha] at e
        cases e
        exact absurd rfl (d _)
    have freeD : ∀ {b : Addr} {o : Obj} {es : Array DictEntry} {ep : Nat}, s.heap.get? b = some o → o.data = .dict es ep → H b = none := by
      intro b o es ep e d
      refine free e fun n' z => ?_
      rw [d] at z
      cases z
    have ns' : ∀ {b : Addr} {m : Str → Option Value}, s.heap.Ns b m → (hidT s.heap H).Ns b m := by
      rintro b m ⟨o, es, ep, e, d, r⟩
      exact ⟨o, es, ep, hidT_get e (freeD e d), d, r⟩
    have kb : K.In (hidT s.heap H) := by
      intro b o e
      refine hidT_get (kx b o e) ?_
      by_cases z : H b = none
      · exact z
      · have eb := only b z
        subst eb
        rw [notK z] at e
        cases e
    have seer : (hidT s.heap H).NoSeer := by
      obtain ⟨mc, c1, c2⟩ := hsee.statics
      obtain ⟨mm, m1, m2⟩ := hsee.mods
      obtain ⟨m3, m4, m5⟩ := hsee.imp
      obtain ⟨mg', bm, ob, g1, g2, g3, g4, g5⟩ := hsee.main
      refine ⟨⟨mc, ns' c1, c2⟩, ⟨mm, ns' m1, m2⟩, ⟨m3, ns' m4, m5⟩, ⟨mg', bm, ob, ns' g1, g2, hidT_get g3 ?_, g4, g5⟩⟩
      by_cases z : H bm = none
      · exact z
      · have eb := only bm z
        subst eb
        rw [ha] at g3
        injection g3 with g3
        rw [← g3] at g4
        simp at g4
    have md : Mod K mg (hidT s.heap H) := by
      obtain ⟨mc, l1, l2⟩ := hlim
      exact ⟨kb, ns' hns, ⟨mb, ns' hb, hbb⟩, ⟨mc, ns' l1, l2⟩⟩
    have e0 : Env0 P w K mg (hidT s.heap H) callerA [] s H :=
      ⟨rfl, md, fun b o e => of_hidT e, Nat.le_of_eq (hidT_size _ _), trivial, fun b hb => (by cases hb), hok, .of_eq hg⟩
    refine codeAny_mono ((F _ kb (ns' hns) seer).run callerA [] s H ⟨[.ref a], []⟩ [.ref a] [.ref a] _ _ hr e0 (hbind s (.ref a)) (.cons rfl .nil) (hsp H hO hS)) ?_
    intro r s' h
    match r, h with
    | .error e, h => exact h.elim
    | .ok .next, h => exact h.elim
    | .ok .brk, h => exact h.elim
    | .ok .cont, h => exact h.elim
    | .ok (.ret u), h =>
      obtain ⟨v, H', os, bare, un, hok', r', q⟩ := h
      have qv : v = .bl true := q
      subst qv
      obtain rfl : u = Value.bool true := r'
      refine ⟨rfl, OldK.of_keep ?_, os, bare⟩
      intro b o e
      rcases hO b with z | ⟨ob, xs, z⟩
      · exact un.keep b o e z (fun k => by cases k) (fun k => by cases k)
      · obtain ⟨e1, _⟩ := hok b _ z
        obtain ⟨e2, _⟩ := hok' b _ (un.frzs b ob _ z)
        rw [e] at e1
        cases e1
        exact e2
  cases hk : K.lookup a with
  | some o =>
    have e := kx a o hk
    rw [ha] at e
    cases e
    refine main (fun _ => none) (fun _ => .inl rfl) (.inr ⟨_, vs.toArray, _, hk, rfl, rfl, rfl, ?_, ?_⟩) (fun b u z => by cases z) (fun b z => absurd rfl z) fun z => absurd rfl z
    · rw [List.size_toArray, hi.length]
      exact hl
    · simpa using rv
  | none =>
    have at_a : scriptAt a vs ns a = some (.frz { cls := .type "list", data := .seq vs.toArray } (.lst (ns.map V.int))) := if_pos rfl
    have off : ∀ b, b ≠ a → scriptAt a vs ns b = none := fun b hb => if_neg hb
    refine main (scriptAt a vs ns) (fun b => ?_) (.inl (.inr ⟨_, at_a⟩)) (fun b u z => ?_) (fun b z => ?_) fun _ => hk
    · by_cases hb : b = a
      · subst hb
        exact .inr ⟨_, _, at_a⟩
      · exact .inl (off b hb)
    · by_cases hb : b = a
      · subst hb
        rw [at_a] at z
        cases z
        exact ⟨ha, by rw [List.length_map]; exact hl, vs, _, rv, ha⟩
      · rw [off b hb] at z
        cases z
    · by_cases hb : b = a
      · exact hb
      · exact absurd (off b hb) z

/-- the end of a law's row -/
theorem walkU {l : PySem.W.OpenLaw} {n : Nat} {q : Program} {loose : List Str} {XP : (Str → Option Value) → Heap → Prop} {YP : World → Heap → Prop} {d : DefRec} {x : Str}
    (hm : l.most = some 63) (hdf : d.params.defaults = []) (him : importsNone q = true) (hn : n ≤ 500)
    (F : ∀ (w : World) (mg : Str → Option Value) (fa : Addr) (h : Heap), YP w h → h.Ns mainGlobals mg → mg d.name = some (.ref fa) →
      ∃ (K : PySem.W.Frag) (fd : FuncData) (sp : Sp), K.In h ∧ (∀ (s : Shared) (u : Value), BindsTo s fd ⟨[u], []⟩ [(x, u)]) ∧
        (∀ (H : Hp) (a : Addr) (ns : List Int), ns.length ≤ 63 → Only H → SqL K H a (ns.map V.int) → sp [.ref a] H (fun v _ => v = .bl true) fun _ _ _ => False) ∧
        ∀ base : Heap, K.In base → base.Ns mainGlobals mg → base.NoSeer → FnR ⟨l.prog, w, K, mg, base⟩ CX0 n fa fd [x] sp) :
    PySem.W.WalkO q loose XP YP l.row.toRowW d [] (fun f vs => PySem.call f vs) := by
  refine Att.attach_call hm hdf ?_
  intro w s₀ s mg mb fa o pm cd doc a vs ns G Y ho hd hcd hmg hobj hints hlen hg
  obtain ⟨K, fd, sp, kx, hb, hsp, hF⟩ := F w mg fa _ Y G.T.g hmg
  have room : Rm n callerA := by
    refine ⟨rfl, ?_, ?_⟩
    · show 1 + claimMargin + n + 105 < recursionLimit
      have e1 : claimMargin = 300 := rfl
      have e2 : recursionLimit = 1000 := rfl
      omega
    · show 4 + 4 * n + 400 < cLine
      have e1 : cLine = 9900 := rfl
      omega
  exact callU kx G.T.g G.T.b G.T.builtins G.T.nolimit (G.T.seer him) hg hobj hints (Nat.le_trans hlen (by decide)) room hF hb fun H hO hS => hsp H a ns hlen hO hS
end U

set_option maxHeartbeats 4000000
namespace U
open PySem PySem.Spec PyProof.Rows L2

/-! ### operators by name -/
def rAddI : R2 := rI0 fun i j => .int (i + j)
def rSubI : R2 := rI0 fun i j => .int (i - j)
def rMulI : R2 := rI CMul fun i j => .int (i * j)
def rFdC : R2 := rI CDiv fun i j => .int (i / j)
def rModP : R2 := rI (fun _ j => 0 < j) fun i j => .int (i % j)
def rPowI : R2 := rI CPow fun i j => .int (i ^ j.toNat)
def rLtI : R2 := rI0 fun i j => .bl (decide (i < j))
def rLeI : R2 := rI0 fun i j => .bl (decide (i ≤ j))
def rGtI : R2 := rI0 fun i j => .bl (decide (j < i))
def rGeI : R2 := rI0 fun i j => .bl (decide (j ≤ i))
def rIsNo : R2 := fun x y H Q => y = .non ∧ Q (.bl (decide (x = .non))) H
def rIsNotNo : R2 := fun x y H Q => y = .non ∧ Q (.bl (!decide (x = .non))) H
section
variable {X : Cx}
theorem op_addI : OpR X (binaryOp .Add) rAddI := op_add
theorem op_subI : OpR X (binaryOp .Sub) rSubI := op_sub
theorem op_mulI : OpR X (binaryOp .Mult) rMulI := op_mul
theorem op_fdC : OpR X (binaryOp .FloorDiv) rFdC := op_fdiv
theorem op_modP : OpR X (binaryOp .Mod) rModP := op_mod
theorem op_powI : OpR X (binaryOp .Pow) rPowI := op_pow
theorem op_ltI : OpR X (compareOp .Lt) rLtI := op_lt
theorem op_leI : OpR X (compareOp .LtE) rLeI := op_le
theorem op_gtI : OpR X (compareOp .Gt) rGtI := op_gt
theorem op_geI : OpR X (compareOp .GtE) rGeI := op_ge
theorem op_isNo : OpR X (compareOp .Is) rIsNo := op_isN
theorem op_isNotNo : OpR X (compareOp .IsNot) rIsNotNo := op_notN
end
def rLenQ (K : PySem.W.Frag) : List V → Hp → VK → Prop := fun xs H Q => ∃ p ys, xs = [.ref p] ∧ (SqL K H p ys ∨ SqT K H p ys) ∧ Q (.int ys.length) H
theorem call_lenQ {X : Cx} : CallR X (.builtin "len") (rLenQ X.K) := call_len_seq
def rListQ (K : PySem.W.Frag) : List V → Hp → VK → Prop := fun xs H Q => ∃ p ys, xs = [.ref p] ∧ (SqL K H p ys ∨ SqT K H p ys) ∧ ∀ l, H l = none → Q (.ref l) (upd H l (.lst ys))
theorem call_listQ {X : Cx} : CallR X (.type "list") (rListQ X.K) := call_list_of
def rIntB : List V → Hp → VK → Prop := fun xs H Q => ∃ k, xs = [.bl k] ∧ Q (.int (if k then 1 else 0)) H
theorem call_intB {X : Cx} : CallR X (.type "int") rIntB := by
  intro pins s σ H xs us Q I r h
  exact call_int1 pins s σ H xs us Q I r (.inr h)
def rMax2 : List V → Hp → VK → Prop := fun xs H Q => ∃ i j, xs = [.int i, .int j] ∧ Q (.int (if j > i then j else i)) H
theorem call_max2Q {X : Cx} (hc : X.calm = true) : CallR X (.builtin "max") rMax2 := call_max2 hc
def rMin2 : List V → Hp → VK → Prop := fun xs H Q => ∃ i j, xs = [.int i, .int j] ∧ Q (.int (if j < i then j else i)) H
theorem call_min2Q {X : Cx} (hc : X.calm = true) : CallR X (.builtin "min") rMin2 := call_min2 hc

/-! ### attributes of an instance whose class is known -/
def tFd (C : Addr) (f : Str) (ta : TE) : TE := fun σ H Q => ta σ H fun x H1 => ∃ a dx fs v, x = .ref a ∧ H1 a = some (.ins C dx fs) ∧ fs.lookup f = some v ∧ Q v H1
def sFd (C : Addr) (f : Str) (ta tv : TE) : TS := fun D σ H => tv σ H fun y H1 => ta σ H1 fun x H2 => ∃ a dx fs, x = .ref a ∧ H2 a = some (.ins C dx fs) ∧ fs.length < 1000 ∧
  D.nx σ (upd H2 a (.ins C dx (putF f y fs)))
section
variable {X : Cx} {o e value : Expr} {f : Str} {pos pos' : Pos} {ta tv : TE} {C : Addr}
theorem pfd (cl : Cls X.K C) (na : NoAttr X.K C f) (he : PE X e ta) (hb : attributeBase e f X.env (eval e X.env) = eval e X.env := by rfl) : PE X (.Attribute e f pos) (tFd C f ta) := by
  constructor
  intro pins s σ H Q I h
  refine attr_of hb (thn (he.run pins s σ H _ I h) ?_)
  rintro u s1 ⟨x, H1, I1, rx, a, dx, fs, v, ex, ea, l, q⟩
  subst ex
  obtain rfl : u = Value.ref a := rx
  exact getattr_ok I1 ea cl na l fun u' s2 I2 ru => ⟨v, H1, I2, ru, q⟩
theorem psfd (cl : Cls X.K C) (na : NoAttr X.K C f) (ha : PE X o ta) (hv : PE X value tv) (hs : swapsWith value (some (.Attribute o f pos')) pos.line X.env = pure false := by rfl) :
    PS X (.Assign [.Attribute o f pos'] value pos) (sFd C f ta tv) := by
  constructor
  intro pins s σ H D I h
  refine plainObj_wpAny_Assign_Attribute (thn (hv.run pins s σ H _ I h) ?_) hs
  rintro u s1 ⟨y, H1, I1, ry, q⟩
  refine thn (ha.run pins s1 σ H1 _ I1 q) ?_
  rintro ov s2 ⟨x, H2, I2, rx, a, dx, fs, ex, ea, l, q2⟩
  subst ex
  obtain rfl : ov = Value.ref a := rx
  exact setattr_ok I2 ea cl na l ry fun s3 I3 => ⟨σ, _, I3, q2⟩
end

/-! ### reading, one construct at a time -/
section
variable {K : PySem.W.Frag} {σ : L2.St} {H : Hp} {Q : VK} {D : Ends} {ta tb te tv : TE} {t u : TS} {c c' : TT} {v x y : V} {i j : Int} {k : Nat} {a p l C dx : Addr} {xs ys : List V} {fs : List (Str × V)} {f m : Str} {QT : Bool → Hp → Prop} {QA : List V → Hp → Prop} {tr : TA}
theorem w_seq (h : t { D with nx := u D } σ H) : tSeq t u D σ H := h
theorem w_next (h : D.nx σ H) : tNext D σ H := h
theorem w_asg {g : TG} (h : te σ H fun x H1 => g x σ H1 D.nx) : tAsg te g D σ H := h
theorem w_name {QS : L2.St → Hp → Prop} (h : QS (σ.set k (some v)) H) : gName k v σ H QS := h
theorem w_ret (h : te σ H D.rt) : tRet te D σ H := h
theorem w_drop (h : te σ H fun _ H1 => D.nx σ H1) : tDrop te D σ H := h
theorem w_if (h : c σ H fun b H1 => if b = true then t D σ H1 else u D σ H1) : tIfS c t u D σ H := h
theorem w_var (h : σ[k]? = some (some v)) (q : Q v H) : tVar k σ H Q := ⟨v, h, q⟩
theorem w_c (q : Q v H) : tC v σ H Q := q
theorem w_op {r : R2} (h : ta σ H fun x H1 => tb σ H1 fun y H2 => r x y H2 Q) : tOp r ta tb σ H Q := h
theorem w_un {r : V → Hp → VK → Prop} (h : ta σ H fun x H1 => r x H1 Q) : tUn r ta σ H Q := h
theorem w_test (h : te σ H fun x H1 => ∃ k, x = .bl k ∧ QT k H1) : tTest te σ H QT := h
theorem w_B (h : te σ H fun x H1 => ∃ k, x = .bl k ∧ QT k H1) : tB te σ H QT := h
theorem w_bl {b : Bool} {P : Bool → Prop} (h : P b) : ∃ k, V.bl b = .bl k ∧ P k := ⟨b, rfl, h⟩
theorem w_not (h : c σ H fun b H1 => QT (!b) H1) : tNot c σ H QT := h
theorem w_and (h : c σ H fun b H1 => if b = true then c' σ H1 QT else QT false H1) : tAnd c c' σ H QT := h
theorem w_or (h : c σ H fun b H1 => if b = true then QT true H1 else c' σ H1 QT) : tOr c c' σ H QT := h
theorem w_ifx (h : c σ H fun b H1 => if b = true then ta σ H1 Q else tb σ H1 Q) : tIf c ta tb σ H Q := h
theorem w_andV (h : ta σ H fun x H1 => ∃ c, x = .bl c ∧ if c = true then tb σ H1 Q else Q (.bl false) H1) : tAndV ta tb σ H Q := h
theorem w_orV (h : ta σ H fun x H1 => ∃ c, x = .bl c ∧ if c = true then Q (.bl true) H1 else tb σ H1 Q) : tOrV ta tb σ H Q := h
theorem w_notV (h : ta σ H fun x H1 => ∃ c, x = .bl c ∧ Q (.bl (!c)) H1) : tNotV ta σ H Q := h
theorem w_add (q : Q (.int (i + j)) H) : rAddI (.int i) (.int j) H Q := ⟨i, j, rfl, rfl, q⟩
theorem w_sub (q : Q (.int (i - j)) H) : rSubI (.int i) (.int j) H Q := ⟨i, j, rfl, rfl, q⟩
theorem w_mul (h : CMul i j) (q : Q (.int (i * j)) H) : rMulI (.int i) (.int j) H Q := ⟨i, j, rfl, rfl, h, q⟩
theorem w_fdC (h : CDiv i j) (q : Q (.int (i / j)) H) : rFdC (.int i) (.int j) H Q := ⟨i, j, rfl, rfl, h, q⟩
theorem w_fd (h : j ≠ 0) (q : Q (.int (i.fdiv j)) H) : rFd (.int i) (.int j) H Q := ⟨i, j, rfl, rfl, h, q⟩
theorem w_mod (h : 0 < j) (q : Q (.int (i % j)) H) : rModP (.int i) (.int j) H Q := ⟨i, j, rfl, rfl, h, q⟩
theorem w_pow (h : CPow i j) (q : Q (.int (i ^ j.toNat)) H) : rPowI (.int i) (.int j) H Q := ⟨i, j, rfl, rfl, h, q⟩
theorem w_lt (q : Q (.bl (decide (i < j))) H) : rLtI (.int i) (.int j) H Q := ⟨i, j, rfl, rfl, q⟩
theorem w_le (q : Q (.bl (decide (i ≤ j))) H) : rLeI (.int i) (.int j) H Q := ⟨i, j, rfl, rfl, q⟩
theorem w_gt (q : Q (.bl (decide (j < i))) H) : rGtI (.int i) (.int j) H Q := ⟨i, j, rfl, rfl, q⟩
theorem w_ge (q : Q (.bl (decide (j ≤ i))) H) : rGeI (.int i) (.int j) H Q := ⟨i, j, rfl, rfl, q⟩
theorem w_eqI (q : Q (.bl (decide (i = j))) H) : rEq (.int i) (.int j) H Q := ⟨rfl, by
  have e : decide (V.int i = V.int j) = decide (i = j) := by
    by_cases h : i = j
    · rw [decide_eq_true h, decide_eq_true (congrArg V.int h)]
    · rw [decide_eq_false h, decide_eq_false fun z => h (V.int.inj z)]
  rw [e]; exact q⟩
theorem w_neI (q : Q (.bl (!decide (i = j))) H) : rNe (.int i) (.int j) H Q := ⟨rfl, by
  have e : decide (V.int i = V.int j) = decide (i = j) := by
    by_cases h : i = j
    · rw [decide_eq_true h, decide_eq_true (congrArg V.int h)]
    · rw [decide_eq_false h, decide_eq_false fun z => h (V.int.inj z)]
  rw [e]; exact q⟩
theorem w_eqS {s z : Str} (q : Q (.bl (decide (s = z))) H) : rEq (.str s) (.str z) H Q := ⟨rfl, by
  have e : decide (V.str s = V.str z) = decide (s = z) := by
    by_cases h : s = z
    · rw [decide_eq_true h, decide_eq_true (congrArg V.str h)]
    · rw [decide_eq_false h, decide_eq_false fun z => h (V.str.inj z)]
  rw [e]; exact q⟩
theorem w_neS {s z : Str} (q : Q (.bl (!decide (s = z))) H) : rNe (.str s) (.str z) H Q := ⟨rfl, by
  have e : decide (V.str s = V.str z) = decide (s = z) := by
    by_cases h : s = z
    · rw [decide_eq_true h, decide_eq_true (congrArg V.str h)]
    · rw [decide_eq_false h, decide_eq_false fun z => h (V.str.inj z)]
  rw [e]; exact q⟩
theorem w_isN (q : Q (.bl (decide (x = .non))) H) : rIsNo x .non H Q := ⟨rfl, q⟩
theorem w_isnN (q : Q (.bl (!decide (x = .non))) H) : rIsNotNo x .non H Q := ⟨rfl, q⟩
theorem w_ixL (h : SqL K H p xs) (ha : atI xs i = some v) (q : Q v H) : rIxL K (.ref p) (.int i) H Q := ⟨p, xs, i, v, rfl, rfl, h, ha, q⟩
theorem w_ixT (h : SqT K H p xs) (ha : atI xs i = some v) (q : Q v H) : rIxT K (.ref p) (.int i) H Q := ⟨p, xs, i, v, rfl, rfl, h, ha, q⟩
theorem w_tFd (h : ta σ H fun x H1 => ∃ a dx fs v, x = .ref a ∧ H1 a = some (.ins C dx fs) ∧ fs.lookup f = some v ∧ Q v H1) : tFd C f ta σ H Q := h
theorem w_fld {P : V → Prop} (h : H a = some (.ins C dx fs)) (l : fs.lookup f = some v) (q : P v) : ∃ a' dx' fs' v', V.ref a = .ref a' ∧ H a' = some (.ins C dx' fs') ∧ fs'.lookup f = some v' ∧ P v' := ⟨a, dx, fs, v, rfl, h, l, q⟩
theorem w_sFd (h : tv σ H fun y H1 => ta σ H1 fun x H2 => ∃ a dx fs, x = .ref a ∧ H2 a = some (.ins C dx fs) ∧ fs.length < 1000 ∧ D.nx σ (upd H2 a (.ins C dx (putF f y fs)))) : sFd C f ta tv D σ H := h
theorem w_put {P : List (Str × V) → Addr → Addr → Prop} (h : H a = some (.ins C dx fs)) (n : fs.length < 1000) (q : P fs dx a) : ∃ a' dx' fs', V.ref a = .ref a' ∧ H a' = some (.ins C dx' fs') ∧ fs'.length < 1000 ∧ P fs' dx' a' := ⟨a, dx, fs, rfl, h, n, q⟩
theorem w_nil (h : QA [] H) : tNil σ H QA := h
theorem w_cons (h : ta σ H fun x H1 => tr σ H1 fun xs H2 => QA (x :: xs) H2) : tCons ta tr σ H QA := h
theorem w_tup (h : tr σ H fun xs H1 => xs.length ≤ sizeLine ∧ ∀ p, H1 p = none → Q (.ref p) (upd H1 p (.tup xs))) : tTup tr σ H Q := h
theorem w_lst (h : tr σ H fun xs H1 => xs.length ≤ sizeLine ∧ ∀ p, H1 p = none → Q (.ref p) (upd H1 p (.lst xs))) : tLst tr σ H Q := h
theorem w_call {sp : Sp} {E : XK} (h : tr σ H fun vs H1 => sp (vs ++ []) H1 Q E) : tCall sp [] E tr σ H Q := h
theorem w_meth {sp : Sp} {E : XK} (h : ta σ H fun x H1 => ∃ a dx fs, x = .ref a ∧ H1 a = some (.ins C dx fs) ∧ fs.lookup m = none ∧ tr σ H1 fun vs H2 => sp (x :: (vs ++ [])) H2 Q E) : tMeth C m sp [] E ta tr σ H Q := h
theorem w_recv {P : Addr → Prop} (h : H a = some (.ins C dx fs)) (l : fs.lookup m = none) (q : P a) : ∃ a' dx' fs', V.ref a = .ref a' ∧ H a' = some (.ins C dx' fs') ∧ fs'.lookup m = none ∧ P a' := ⟨a, dx, fs, rfl, h, l, q⟩
theorem w_cb {r : List V → Hp → VK → Prop} (h : tr σ H fun vs H1 => r vs H1 Q) : tCB r tr σ H Q := h
theorem w_lenL (h : SqL K H p xs) (q : Q (.int xs.length) H) : rLenQ K [.ref p] H Q := ⟨p, xs, rfl, .inl h, q⟩
theorem w_lenT (h : SqT K H p xs) (q : Q (.int xs.length) H) : rLenQ K [.ref p] H Q := ⟨p, xs, rfl, .inr h, q⟩
theorem w_bm {r : V → List V → Hp → VK → Prop} (h : ta σ H fun x H1 => tyV K "list" x H1 ∧ tr σ H1 fun xs H2 => r x xs H2 Q) : tBM K "list" r ta tr σ H Q := h
theorem w_bm0 {r : V → List V → Hp → VK → Prop} (h : ta σ H fun x H1 => tyV K "list" x H1 ∧ r x [] H1 Q) : tBM0 K "list" r ta σ H Q := h
theorem w_ty {B : Prop} (h : H p = some (.lst xs)) (q : B) : tyV K "list" (.ref p) H ∧ B := ⟨.inl ⟨rfl, xs, SqL.of h⟩, q⟩
theorem w_app (h : H p = some (.lst xs)) (n : xs.length < sizeLine) (q : Q .non (upd H p (.lst (xs ++ [v])))) : rAppend (.ref p) [v] H Q := ⟨p, xs, v, rfl, rfl, h, n, q⟩
theorem w_pop (h : H p = some (.lst xs)) (e : xs[xs.length - 1]? = some v) (q : Q v (upd H p (.lst xs.dropLast))) : rPop (.ref p) [] H Q := ⟨p, xs, v, rfl, rfl, h, e, q⟩
theorem w_popB {P : List V} (h : H p = some (.lst (P ++ [v]))) (q : Q v (upd H p (.lst P))) : rPop (.ref p) [] H Q :=
  w_pop (v := v) h (by simp) (by rw [List.dropLast_concat]; exact q)
theorem w_T {A B : Prop} {b : Bool} (e : b = true) (h : A) : if b = true then A else B := by rw [if_pos e]; exact h
theorem w_F {A B : Prop} {b : Bool} (e : b = false) (h : B) : if b = true then A else B := by rw [e]; exact iteF h
theorem w_2 {A B : Prop} {b : Bool} (h1 : b = true → A) (h2 : b = false → B) : if b = true then A else B := by
  cases b
  · exact iteF (h2 rfl)
  · exact iteT (h1 rfl)
theorem w_D {A B p : Prop} [Decidable p] (h1 : p → A) (h2 : ¬p → B) : if decide p = true then A else B := by
  by_cases h : p
  · rw [decide_eq_true h]; exact iteT (h1 h)
  · rw [decide_eq_false h]; exact iteF (h2 h)
theorem w_ND {A B p : Prop} [Decidable p] (h1 : p → B) (h2 : ¬p → A) : if (!decide p) = true then A else B := by
  by_cases h : p
  · rw [decide_eq_true h]; exact iteF (h1 h)
  · rw [decide_eq_false h]; exact iteT (h2 h)
end
end U

set_option maxHeartbeats 4000000
namespace U
open PySem PySem.Spec PyProof.Rows L2

/-! ### cells that one owns, over a heap that stands -/
abbrev Cell := Addr × HO
def ads (L : List Cell) : List Addr := L.map (·.1)
structure Own (H0 H : Hp) (L : List Cell) : Prop where
  at_ : ∀ p ∈ L, H p.1 = some p.2
  nd : (ads L).Nodup
  new : ∀ a ∈ ads L, H0 a = none
  same : Same H0 H
/-- the heap without the cells L -/
def less (H : Hp) (L : List Cell) : Hp := fun a => if a ∈ ads L then none else H a
theorem less_off {H : Hp} {L : List Cell} {a : Addr} (h : a ∉ ads L) : less H L a = H a := if_neg h
theorem less_on {H : Hp} {L : List Cell} {a : Addr} (h : a ∈ ads L) : less H L a = none := if_pos h
theorem ads_append (L R : List Cell) : ads (L ++ R) = ads L ++ ads R := List.map_append
theorem mem_ads {L : List Cell} {p : Cell} (h : p ∈ L) : p.1 ∈ ads L := List.mem_map_of_mem h
theorem Own.get {H0 H : Hp} {L : List Cell} {a : Addr} {o : HO} (w : Own H0 H L) (h : (a, o) ∈ L) : H a = some o := w.at_ _ h
theorem Own.perm {H0 H : Hp} {L L' : List Cell} (w : Own H0 H L) (p : L.Perm L') : Own H0 H L' := by
  refine ⟨fun x hx => w.at_ x (p.mem_iff.mpr hx), ?_, fun a ha => w.new a ((p.map _).mem_iff.mpr ha), w.same⟩
  exact (List.Perm.nodup_iff (p.map fun x : Cell => x.1)).mp w.nd
theorem Own.sub {H0 H : Hp} {L R : List Cell} (w : Own H0 H (L ++ R)) : Own H0 H L := by
  refine ⟨fun x hx => w.at_ x (List.mem_append_left _ hx), ?_, fun a ha => w.new a ?_, w.same⟩
  · have := w.nd
    rw [ads_append] at this
    exact (List.nodup_append.mp this).1
  · rw [ads_append]
    exact List.mem_append_left _ ha
theorem Own.nil {H0 H : Hp} (s : Same H0 H) : Own H0 H [] := ⟨fun _ h => (by cases h), List.nodup_nil, fun _ h => (by cases h), s⟩
/-- the cell at a is written -/
theorem Own.put {H0 H : Hp} {L R : List Cell} {a : Addr} {o o' : HO} (w : Own H0 H (L ++ (a, o) :: R)) : Own H0 (upd H a o') (L ++ (a, o') :: R) := by
  have e : ads (L ++ (a, o') :: R) = ads (L ++ (a, o) :: R) := by simp [ads]
  have nd : (ads (L ++ (a, o') :: R)).Nodup := by rw [e]; exact w.nd
  refine ⟨fun p hp => ?_, nd, by rw [e]; exact w.new, fun b u hb => ?_⟩
  · by_cases ha : p.1 = a
    · have hp2 : p = (a, o') := by
        rw [ads, List.map_append, List.map_cons] at nd
        rcases List.mem_append.mp hp with h | h
        · exact absurd rfl ((List.nodup_append.mp nd).2.2 p.1 (List.mem_map_of_mem h) a (by simp) |> fun z => by rw [ha] at z; exact z)
        · rcases List.mem_cons.mp h with h | h
          · exact h
          · have q := (List.nodup_cons.mp (List.nodup_append.mp nd).2.1).1
            exact absurd (show a ∈ R.map (·.1) by rw [← ha]; exact List.mem_map_of_mem (f := fun x : Cell => x.1) h) q
      rw [hp2]; exact upd_same
    · rw [upd_ne ha]
      refine w.at_ p ?_
      rcases List.mem_append.mp hp with h | h
      · exact List.mem_append_left _ h
      · rcases List.mem_cons.mp h with h | h
        · rw [h] at ha; exact absurd rfl ha
        · exact List.mem_append_right _ (List.mem_cons_of_mem _ h)
  · have hn : H0 a = none := w.new a (by simp [ads])
    rw [upd_ne (ne_of_none hb hn)]
    exact w.same b u hb
/-- something new is laid and not owned -/
theorem Own.lay {H0 H : Hp} {L : List Cell} {a : Addr} {o : HO} (w : Own H0 H L) (h : H a = none) : Own H0 (upd H a o) L := by
  refine ⟨fun p hp => ?_, w.nd, w.new, fun b u hb => ?_⟩
  · rw [upd_ne (ne_of_none (w.at_ p hp) h)]; exact w.at_ p hp
  · rw [upd_ne (ne_of_none (w.same b u hb) h)]; exact w.same b u hb
/-- something new is laid and owned -/
theorem Own.take {H0 H : Hp} {L : List Cell} {a : Addr} {o : HO} (w : Own H0 H L) (h : H a = none) : Own H0 (upd H a o) ((a, o) :: L) := by
  refine ⟨fun p hp => ?_, ?_, fun b hb => ?_, (w.lay h).same⟩
  · rcases List.mem_cons.mp hp with h1 | h1
    · rw [h1]; exact upd_same
    · exact (w.lay h).at_ p h1
  · refine List.nodup_cons.mpr ⟨fun hm => ?_, w.nd⟩
    obtain ⟨p, hp, e⟩ := List.mem_map.mp hm
    have q := w.at_ p hp
    rw [e, h] at q
    cases q
  · rcases List.mem_cons.mp hb with h1 | h1
    · rw [h1]
      cases e : H0 a with
      | none => rfl
      | some u =>
        have := w.same a u e
        rw [h] at this
        cases this
    · exact w.new b h1
/-- cells are dropped -/
theorem Own.drop {H0 H : Hp} {L R : List Cell} (w : Own H0 H (L ++ R)) : Own H0 H R := by
  have p : (L ++ R).Perm (R ++ L) := List.perm_append_comm
  exact (w.perm p).sub
/-- what stood stands below -/
theorem Own.base {H0 H : Hp} {L : List Cell} (w : Own H0 H L) : Same H0 (less H L) := fun b u hb => by
  have : b ∉ ads L := fun hm => by
    rw [w.new b hm] at hb
    cases hb
  rw [less_off this]
  exact w.same b u hb
/-- a callee's own: the cells L out of L ++ R -/
theorem Own.lend {H0 H : Hp} {L : List Cell} (w : Own H0 H L) : Own (less H L) H L := by
  refine ⟨w.at_, w.nd, fun a ha => less_on ha, fun b u hb => ?_⟩
  by_cases h : b ∈ ads L
  · rw [less_on h] at hb; cases hb
  · rw [less_off h] at hb; exact hb
/-- .. and back -/
theorem Own.back {H0 H H' : Hp} {L R L' : List Cell} (w : Own H0 H (L ++ R)) (w' : Own (less H L) H' L') : Own H0 H' (L' ++ R) := by
  have hs : Same H0 (less H L) := w.sub.base
  have nd := w.nd
  rw [ads_append] at nd
  have dis := (List.nodup_append.mp nd).2.2
  have offL : ∀ p ∈ R, p.1 ∉ ads L := fun p hp hm => dis _ hm _ (mem_ads hp) rfl
  have atR : ∀ p ∈ R, less H L p.1 = some p.2 := fun p hp => by
    rw [less_off (offL p hp)]
    exact w.at_ p (List.mem_append_right _ hp)
  refine ⟨fun p hp => ?_, ?_, fun a ha => ?_, hs.trans w'.same⟩
  · rcases List.mem_append.mp hp with h | h
    · exact w'.at_ p h
    · exact w'.same _ _ (atR p h)
  · rw [ads_append]
    refine List.nodup_append.mpr ⟨w'.nd, (List.nodup_append.mp nd).2.1, fun a ha b hb e => ?_⟩
    obtain ⟨p, hp, e2⟩ := List.mem_map.mp hb
    have q := w'.new a ha
    rw [e, ← e2, atR p hp] at q
    cases q
  · rw [ads_append] at ha
    rcases List.mem_append.mp ha with h | h
    · have q := w'.new a h
      cases e : H0 a with
      | none => rfl
      | some u =>
        rw [hs a u e] at q
        cases q
    · exact w.new a (by rw [ads_append]; exact List.mem_append_right _ h)
/-- a callee that has nothing of its own -/
theorem Own.kept {H0 H H' : Hp} {L : List Cell} (w : Own H0 H L) (s : Same H H') : Own H0 H' L :=
  ⟨fun p hp => s _ _ (w.at_ p hp), w.nd, w.new, w.same.trans s⟩
theorem same_lay {H : Hp} {p : Addr} {o : HO} (h : H p = none) : Same H (upd H p o) := fun b u e => by
  rw [upd_ne (ne_of_none e h)]
  exact e
theorem same_tup {K : PySem.W.Frag} {H H' : Hp} {a : Addr} {xs : List V} (e : Same H H') (h : SqT K H a xs) : SqT K H' a xs := by
  rcases h with (h | ⟨o, h⟩) | h
  · exact .inl (.inl (e _ _ h))
  · exact .inl (.inr ⟨o, e _ _ h⟩)
  · exact .inr h

theorem Own.set {H0 H : Hp} {L : List Cell} {a : Addr} {o : HO} (w : Own H0 H L) (i : Nat) (o' : HO) (h : L[i]? = some (a, o)) : Own H0 (upd H a o') (L.set i (a, o')) := by
  obtain ⟨hi, e⟩ := List.getElem?_eq_some_iff.mp h
  have e1 : L = L.take i ++ (a, o) :: L.drop (i + 1) := by
    rw [← e]
    rw [List.getElem_cons_drop, List.take_append_drop]
  have e2 : L.set i (a, o') = L.take i ++ (a, o') :: L.drop (i + 1) := by rw [List.set_eq_take_append_cons_drop, if_pos hi]
  rw [e2]
  rw [e1] at w
  exact w.put
theorem Own.ix {H0 H : Hp} {L : List Cell} {a : Addr} {o : HO} (w : Own H0 H L) (i : Nat) (h : L[i]? = some (a, o)) : H a = some o := w.get (List.mem_of_getElem? h)
theorem Own.slist {H0 H : Hp} {L L' : List Cell} (w : Own H0 H L) (s : L'.Sublist L) : Own H0 H L' :=
  ⟨fun p hp => w.at_ p (s.subset hp), List.Nodup.sublist (s.map fun x : Cell => x.1) w.nd, fun a ha => w.new a ((s.map fun x : Cell => x.1).subset ha), w.same⟩
/-- the cell at place i is given up -/
theorem Own.del {H0 H : Hp} {L : List Cell} (w : Own H0 H L) (i : Nat) : Own H0 H (L.eraseIdx i) := w.slist (List.eraseIdx_sublist ..)
/-- the first cell takes the i-th one's place -/
theorem Own.repl {H0 H : Hp} {L : List Cell} {c : Cell} (w : Own H0 H (c :: L)) (i : Nat) (hi : i < L.length) : Own H0 H (L.set i c) := by
  have e1 : L = L.take i ++ L[i] :: L.drop (i + 1) := by rw [List.getElem_cons_drop, List.take_append_drop]
  have e2 : L.set i c = L.take i ++ c :: L.drop (i + 1) := by rw [List.set_eq_take_append_cons_drop, if_pos hi]
  have p : (c :: L).Perm (L[i] :: L.set i c) := by
    rw [e2]
    refine List.Perm.trans (l₂ := c :: L[i] :: (L.take i ++ L.drop (i + 1))) (.cons _ ?_) ((List.Perm.swap _ _ _).trans (.cons _ List.perm_middle.symm))
    exact List.Perm.trans (List.Perm.of_eq e1) List.perm_middle
  exact (w.perm p).slist (List.sublist_cons_self ..)
theorem Own.lend1 {H0 H : Hp} {c : Cell} {L : List Cell} (w : Own H0 H (c :: L)) : Own (less H [c]) H [c] := (Own.sub (L := [c]) w).lend
/-- three new ones go behind the three ahead -/
theorem Own.rot3 {H0 H : Hp} {a b c x y z : Cell} {L : List Cell} (w : Own H0 H (a :: b :: c :: x :: y :: z :: L)) : Own H0 H (x :: y :: z :: a :: b :: c :: L) := by
  refine w.perm ?_
  have p : ([a, b, c] ++ [x, y, z] : List Cell).Perm ([x, y, z] ++ [a, b, c]) := List.perm_append_comm
  exact p.append_right L
theorem w_make {σ : L2.St} {H : Hp} {C : Addr} {sp : Sp} {E : XK} {tr : TA} {Q : VK} (h : tr σ H fun vs H1 => ∀ x dx, H1 x = none → H1 dx = none → dx ≠ x →
    sp (.ref x :: (vs ++ [])) (upd (upd H1 dx (.own x)) x (.ins C dx [])) (fun v H2 => v = .non ∧ Q (.ref x) H2) E) : tMake C sp [] E tr σ H Q := h
theorem w_inT {K : PySem.W.Frag} {H : Hp} {Q : VK} {x : V} {p : Addr} {xs : List V} (h : SqT K H p xs) (hx : flatV x = true) (ha : xs.all flatV = true) (q : Q (.bl (inV x xs)) H) : rIn K false x (.ref p) H Q :=
  ⟨p, xs, rfl, .inr h, hx, ha, q⟩
theorem w_gsub {σ : L2.St} {H : Hp} {v : V} {to ti : TE} {r : TSet} {QS : L2.St → Hp → Prop} (h : to σ H fun o H1 => ti σ H1 fun i H2 => r o i v H2 fun H3 => QS σ H3) : gSub to ti r v σ H QS := h
theorem w_setL {H : Hp} {p : Addr} {xs : List V} {k : Int} {v : V} {Q : Hp → Prop} (h : H p = some (.lst xs)) (h0 : 0 ≤ k) (h1 : k < xs.length) (q : Q (upd H p (.lst (xs.set k.toNat v)))) : rSetL (.ref p) (.int k) v H Q := by
  refine ⟨p, xs, k, k.toNat, rfl, rfl, h, ?_, q⟩
  unfold ixN
  rw [if_pos h0, if_pos h1]
theorem len_ok {n : Nat} (h : n ≤ 100) : n ≤ sizeLine := Nat.le_trans h (by rw [sizeLine_eq]; decide)
theorem w_new {xs : List V} {B : Prop} (h : xs.length ≤ 100) (q : B) : xs.length ≤ sizeLine ∧ B := ⟨len_ok h, q⟩
/-- x in a written tuple -/
theorem w_memb {K : PySem.W.Frag} {σ : L2.St} {H : Hp} {k : Nat} {x : V} {xs : List V} {ta : TA} {QT : Bool → Hp → Prop} (hv : σ[k]? = some (some x)) (ht : ∀ (H : Hp) (QA : List V → Hp → Prop), QA xs H → ta σ H QA)
    (hx : flatV x = true) (ha : xs.all flatV = true) (hl : xs.length ≤ sizeLine) (q : ∀ p, H p = none → QT (inV x xs) (upd H p (.tup xs))) : tTest (tOp (rIn K false) (tVar k) (tTup ta)) σ H QT := by
  refine ⟨x, hv, ht _ _ ⟨hl, fun p hp => ⟨p, xs, rfl, .inr (SqT.of upd_same), hx, ha, inV x xs, rfl, q p hp⟩⟩⟩

theorem w_cat {H : Hp} {Q : VK} {l p : Addr} {xs ys : List V} (h : H l = some (.lst xs)) (h' : H p = some (.lst ys)) (n : xs.length + ys.length ≤ sizeLine)
    (q : ∀ r, H r = none → Q (.ref r) (upd H r (.lst (xs ++ ys)))) : rCat (.ref l) (.ref p) H Q := ⟨l, p, xs, ys, rfl, rfl, h, h', n, q⟩
theorem flat_rep (v : V) : ∀ n : Nat, (List.replicate n [v]).flatten = List.replicate n v
  | 0 => rfl
  | n + 1 => by rw [List.replicate_succ, List.flatten_cons, flat_rep v n]; rfl
theorem w_rep1 {H : Hp} {Q : VK} {l : Addr} {v : V} {k : Int} (h : H l = some (.lst [v])) (h0 : -1000 ≤ k) (h1 : k < 16000000)
    (q : ∀ r, H r = none → Q (.ref r) (upd H r (.lst (List.replicate k.toNat v)))) : rRep (.ref l) (.int k) H Q := by
  refine ⟨l, k, [v], rfl, rfl, h, by omega, by omega, ?_, fun p hp => ?_⟩
  · rw [sizeLine_eq]
    show 1 * k.toNat ≤ _
    omega
  · rw [flat_rep]
    exact q p hp

/-! ### places in lists -/
theorem atI_ok {α : Type} {xs : List α} {i : Int} {v : α} (h0 : 0 ≤ i) (h : xs[i.toNat]? = some v) : atI xs i = some v := by
  have e : i = ((i.toNat : Nat) : Int) := by omega
  rw [e]
  exact atI_nat h
theorem atI_end {α : Type} {xs : List α} {v : α} {n : Int} (h : n = ((xs ++ [v]).length : Int) - 1) : atI (xs ++ [v]) n = some v := by
  have e : n = ((xs.length : Nat) : Int) := by
    rw [List.length_append] at h
    simp at h
    omega
  rw [e]
  exact atI_nat (by simp)
end U

set_option maxHeartbeats 4000000
namespace U
open PySem PySem.Spec PyProof.Rows L2
section
variable {K : PySem.W.Frag} {σ : L2.St} {H : Hp} {Q : VK} {D : Ends} {ta tb te tv : TE} {v x y : V} {i j : Int} {k : Nat} {a p l C dx : Addr} {xs ys : List V} {QO : Option Int → Hp → Prop} {tr : TA} {R : It → Hp → Prop} {lo hi : Option Int}
theorem w_lc {wi : TI} {g : TG} {tt : TT} {n : List Nat} (h : wi σ H fun J H1 => ∀ D, H1 D = none → ∃ W : Nat → Nat → Hp → Prop, (∃ m, W 0 m (upd H1 D (.lst []))) ∧ ∀ i m H, W i m H →
    (J.stop i H ∧ Q (.ref D) H) ∨ (J.go i H ∧ ∃ Nx : Hp → Prop, (∀ H', Nx H' → ∃ m', m' < m ∧ W (i + 1) m' H') ∧ ∀ x H', J.yld i H x H' → g x (wipe σ n) H' fun σ2 H2 => wipe σ2 n = wipe σ n ∧ tt σ2 H2 fun b H3 =>
    if b = true then te σ2 H3 fun y H4 => ∃ acc, H4 D = some (.lst acc) ∧ acc.length < sizeLine ∧ Nx (upd H4 D (.lst (acc ++ [y]))) else Nx H3)) : tLc wi g tt te n σ H Q := h
theorem w_for {wi : TI} {g : TG} {tb : TS} (h : wi σ H fun J H1 => ∃ W : Nat → Nat → L2.St → Hp → Prop, (∃ m, W 0 m σ H1) ∧ ∀ i m σ H, W i m σ H →
    (J.stop i H ∧ D.nx σ H) ∨ (J.go i H ∧ ∃ N : L2.St → Hp → Prop, (∀ σ' H', N σ' H' → ∃ m', m' < m ∧ W (i + 1) m' σ' H') ∧ ∀ x H', J.yld i H x H' → g x σ H' fun σ2 H2 => tb { D with nx := N, ct := N, bk := D.nx } σ2 H2)) : tFor wi g tb D σ H := h
theorem w_yes {QT : Bool → Hp → Prop} (h : QT true H) : tYes σ H QT := h
theorem w_iList (h : te σ H fun x H1 => ∃ a, x = .ref a ∧ (∃ xs, SqL K H1 a xs) ∧ R (Itl K a) H1) : iList K te σ H R := h
theorem w_refL {P : Addr → Prop} (h : SqL K H a xs) (q : P a) : ∃ a', V.ref a = .ref a' ∧ (∃ xs, SqL K H a' xs) ∧ P a' := ⟨a, rfl, ⟨xs, h⟩, q⟩
theorem w_tSl {r : V → Option Int → Option Int → Hp → VK → Prop} {tl th : TO} (h : te σ H fun x H1 => tl σ H1 fun l H2 => th σ H2 fun u H3 => r x l u H3 Q) : tSl r te tl th σ H Q := h
theorem w_part (h : te σ H fun x H1 => ∃ i, x = .int i ∧ QO (some i) H1) : tPart te σ H QO := h
theorem w_nopart (h : QO none H) : tNoPart σ H QO := h
theorem w_i {P : Int → Prop} (h : P i) : ∃ j, V.int i = .int j ∧ P j := ⟨i, rfl, h⟩
theorem w_slL (h : SqL K H a xs) (q : ∀ p, H p = none → Q (.ref p) (upd H p (.lst (cutV xs lo hi)))) : rSlL K (.ref a) lo hi H Q := ⟨a, xs, rfl, h, q⟩
theorem w_rng1 (h : tr σ H fun vs H1 => ∃ j : Int, vs = [.int j] ∧ -(2 ^ 62) ≤ j ∧ j < 2 ^ 62 ∧ R (Itr 0 j.toNat) H1) : iRng1 tr σ H R := h
theorem w_rng2 (h : tr σ H fun vs H1 => ∃ i j : Int, vs = [.int i, .int j] ∧ (-(2 ^ 62) ≤ i ∧ i < 2 ^ 62 ∧ -(2 ^ 62) ≤ j ∧ j < 2 ^ 62) ∧ R (Itr i (j - i).toNat) H1) : iRng2 tr σ H R := h
theorem w_r1 {P : Int → Prop} (h0 : -1000000 ≤ i) (h1 : i < 100000000) (q : P i) : ∃ j : Int, [V.int i] = [.int j] ∧ -(2 ^ 62) ≤ j ∧ j < 2 ^ 62 ∧ P j := ⟨i, rfl, by omega, by omega, q⟩
theorem w_listQ (h : SqL K H p xs) (q : ∀ l, H l = none → Q (.ref l) (upd H l (.lst xs))) : rListQ K [.ref p] H Q := ⟨p, xs, rfl, .inl h, q⟩
theorem w_isiII (q : Q (.bl true) H) : rIsi K [.int i, .ty "int"] H Q := ⟨_, _, _, _, true, rfl, .ty _, .base (.int i), kit_ty (by decide +kernel), q⟩
theorem w_isiIB (q : Q (.bl false) H) : rIsi K [.int i, .ty "bool"] H Q := ⟨_, _, _, _, false, rfl, .ty _, .base (.int i), kit_ty (by decide +kernel), q⟩
theorem w_isiTT (h : H a = some (.tup xs)) (q : Q (.bl true) H) : rIsi K [.ref a, .ty "tuple"] H Q := ⟨_, _, _, _, true, rfl, .ty _, .base (.tup h), kit_ty (by decide +kernel), q⟩
theorem w_isiLL (h : H a = some (.lst xs)) (q : Q (.bl true) H) : rIsi K [.ref a, .ty "list"] H Q := ⟨_, _, _, _, true, rfl, .ty _, .base (.lst h), kit_ty (by decide +kernel), q⟩
theorem w_isiSS {s : Str} (q : Q (.bl true) H) : rIsi K [.str s, .ty "str"] H Q := ⟨_, _, _, _, true, rfl, .ty _, .base (.str s), kit_ty (by decide +kernel), q⟩
theorem w_neD {d e : PyData} (h1 : Dp K H x d) (h2 : Dp K H y e) (s1 : SeqAt.shaped d = true) (s2 : SeqAt.shaped e = true) (q : Q (.bl (!PyData.eqv d e)) H) : rNeD K x y H Q := ⟨d, e, h1, h2, s1, s2, q⟩
theorem w_eqD {d e : PyData} (h1 : Dp K H x d) (h2 : Dp K H y e) (s1 : SeqAt.shaped d = true) (s2 : SeqAt.shaped e = true) (q : Q (.bl (PyData.eqv d e)) H) : rEqD K x y H Q := ⟨d, e, h1, h2, s1, s2, q⟩
theorem w_orV1 {A B : Prop} {b : Bool} (h1 : b = true → A) (h2 : b = false → B) : ∃ c, V.bl b = .bl c ∧ if c = true then A else B := ⟨b, rfl, w_2 h1 h2⟩
theorem w_fdC' (h0 : 0 < j) (h1 : j < 1073741824) (q : Q (.int (i / j)) H) : rFdC (.int i) (.int j) H Q := w_fdC ⟨h0, h1⟩ q
theorem w_mulR (h0 : -(2 ^ 64) < j) (h1 : j < 2 ^ 64) (q : Q (.int (i * j)) H) : rMulI (.int i) (.int j) H Q := w_mul (.inr ⟨h0, h1⟩) q
theorem w_mulL (h0 : -(2 ^ 64) < i) (h1 : i < 2 ^ 64) (q : Q (.int (i * j)) H) : rMulI (.int i) (.int j) H Q := w_mul (.inl ⟨h0, h1⟩) q
theorem w_pow' (h0 : 0 ≤ j) (h1 : j ≤ 1000000) (h2 : i.natAbs < 2 ^ 64) (q : Q (.int (i ^ j.toNat)) H) : rPowI (.int i) (.int j) H Q := w_pow ⟨h0, h1, h2⟩ q
end
/-- a tuple stands while a list is written -/
theorem tup_put {K : PySem.W.Frag} {H : Hp} {D a : Addr} {ys xs : List V} {o : HO} (hD : H D = some (.lst ys)) (h : SqT K H a xs) : SqT K (upd H D o) a xs := by
  rcases h with (h | ⟨ob, h⟩) | h
  · exact .inl (.inl (by rw [upd_ne (ne_of h hD (by intro z; cases z))]; exact h))
  · exact .inl (.inr ⟨ob, by rw [upd_ne (ne_of h hD (by intro z; cases z))]; exact h⟩)
  · exact .inr h
theorem cut_from (xs : List V) (k : Nat) : cutV xs (some (k : Int)) none = xs.drop k := by
  unfold cutV
  rw [HT.sIx_nat, HT.sIx_none, List.take_of_length_le (by rw [List.length_drop]; omega)]
  by_cases h : k ≤ xs.length
  · rw [Nat.min_eq_left h]
  · rw [Nat.min_eq_right (by omega), List.drop_eq_nil_of_le (Nat.le_refl _), List.drop_eq_nil_of_le (by omega)]
theorem cut_to (xs : List V) (k : Nat) : cutV xs none (some (k : Int)) = xs.take k := by
  unfold cutV
  rw [HT.sIx_nat, HT.sIx_none, List.drop_zero, Nat.sub_zero]
  by_cases h : k ≤ xs.length
  · rw [Nat.min_eq_left h]
  · rw [Nat.min_eq_right (by omega), List.take_of_length_le (Nat.le_refl _), List.take_of_length_le (by omega)]
theorem w_cut {t u : TS} {D : Ends} {σ : L2.St} {H : Hp} (P : L2.St → Hp → Prop) (key : ∀ σ' H', P σ' H' → u D σ' H') (main : ∀ N : L2.St → Hp → Prop, (∀ σ' H', P σ' H' → N σ' H') → t { D with nx := N } σ H) : tSeq t u D σ H := main _ key
theorem pick2 (x : Int) (u v : V) : atI [u, v] (x % 2) = some (if x % 2 = 0 then u else v) := by
  rcases (by omega : x % 2 = 0 ∨ x % 2 = 1) with h | h <;> rw [h] <;> rfl
theorem same_sym {H H' : Hp} {p : Addr} (s : Same H H') (h : H' p = none) : H p = none := Same.free s h
/-- the law's own promise -/
def spLaw (K : PySem.W.Frag) : Sp := fun vs H Q _ => ∃ (a : Addr) (ns : List Int), vs = [.ref a] ∧ SqL K H a (ns.map V.int) ∧ ns.length ≤ 63 ∧ ∀ H', Q (.bl true) H'
inductive All2 {α β : Type} (R : α → β → Prop) : List α → List β → Prop
  | nil : All2 R [] []
  | cons {a b as bs} : R a b → All2 R as bs → All2 R (a :: as) (b :: bs)
theorem All2.len {α β : Type} {R : α → β → Prop} {as : List α} {bs : List β} (h : All2 R as bs) : as.length = bs.length := by
  induction h with
  | nil => rfl
  | cons _ _ ih => simp [ih]
theorem All2.get {α β : Type} {R : α → β → Prop} {as : List α} {bs : List β} (h : All2 R as bs) : ∀ {i : Nat} {b : β}, bs[i]? = some b → ∃ a, as[i]? = some a ∧ R a b := by
  induction h with
  | nil => intro i b e; simp at e
  | cons r _ ih =>
    intro i b e
    cases i with
    | zero =>
      simp at e
      exact ⟨_, rfl, e ▸ r⟩
    | succ i =>
      obtain ⟨a, h1, h2⟩ := ih (i := i) (b := b) (by simpa using e)
      exact ⟨a, by simpa using h1, h2⟩
theorem All2.mono {α β : Type} {R R' : α → β → Prop} (f : ∀ a b, R a b → R' a b) {as : List α} {bs : List β} (h : All2 R as bs) : All2 R' as bs := by
  induction h with
  | nil => exact .nil
  | cons r _ ih => exact .cons (f _ _ r) ih
theorem All2.app {α β : Type} {R : α → β → Prop} {as as' : List α} {bs bs' : List β} (h : All2 R as bs) (h' : All2 R as' bs') : All2 R (as ++ as') (bs ++ bs') := by
  induction h with
  | nil => exact h'
  | cons r _ ih => exact .cons r ih
theorem All2.snoc {α β : Type} {R : α → β → Prop} {as : List α} {bs : List β} {a : α} {b : β} (h : All2 R as bs) (r : R a b) : All2 R (as ++ [a]) (bs ++ [b]) := h.app (.cons r .nil)
theorem All2.drop {α β : Type} {R : α → β → Prop} {as : List α} {bs : List β} (h : All2 R as bs) : ∀ (i : Nat) {a : α}, as[i]? = some a → ∃ b, R a b ∧ bs.drop i = b :: bs.drop (i + 1) := by
  induction h with
  | nil => intro i a e; simp at e
  | cons r _ ih =>
    intro i a e
    cases i with
    | zero =>
      simp at e
      exact ⟨_, e ▸ r, rfl⟩
    | succ i =>
      obtain ⟨b, h1, h2⟩ := ih i (a := a) (by simpa using e)
      exact ⟨b, h1, by simpa using h2⟩
theorem take_map_snoc {α β : Type} (f : α → β) {xs : List α} {i : Nat} {x : α} (h : xs[i]? = some x) : (xs.take (i + 1)).map f = (xs.take i).map f ++ [f x] := by
  rw [List.take_add_one, h, List.map_append]
  rfl
end U

namespace U
open PySem PySem.Spec PyProof.Rows L2
/-! readings of the defs -/
def t_goal_of (K : PySem.W.Frag) : TS :=
  (tSeq (tFor (iList K (tVar 0)) (gName 2) (tIfS (tAnd (tTest (tOp rLeI (tOp (rIxT K) (tVar 2) (tC (.int 0))) (tVar 1))) (tTest (tOp rLtI (tVar 1) (tOp (rIxT K) (tVar 2) (tC (.int 1)))))) (tRet (tOp (rIxT K) (tVar 2) (tC (.int 2)))) tNext))
    (tRet (tC .non)))
def n_goal_of : List Str := ["stretches", "place", "row"]
def t_Frame___init__ (K : PySem.W.Frag) : TS :=
  (tSeq (sFd (He.ga K "Frame") "place" (tVar 0) (tVar 1))
    (tSeq (sFd (He.ga K "Frame") "boxes" (tVar 0) (tOp rCat (tLst (tCons (tVar 3) tNil)) (tOp rRep (tLst (tCons (tC (.int 0)) tNil)) (tOp rSubI (tVar 2) (tC (.int 1))))))
    (sFd (He.ga K "Frame") "pile" (tVar 0) (tLst tNil))))
def n_Frame___init__ : List Str := ["self", "place", "boxes", "number"]
def t_Frame_lay (K : PySem.W.Frag) : TS :=
  (tSeq (tDrop (tBM K "list" rAppend (tFd (He.ga K "Frame") "pile" (tVar 0)) (tCons (tVar 1) tNil)))
    (sFd (He.ga K "Frame") "place" (tVar 0) (tOp rAddI (tFd (He.ga K "Frame") "place" (tVar 0)) (tC (.int 1)))))
def n_Frame_lay : List Str := ["self", "number"]
def t_Machine___init__ (K : PySem.W.Frag) (sp_Frame___init__ : Sp) : TS :=
  (tSeq (sFd (He.ga K "Machine") "code" (tVar 0) (tOp (rIxT K) (tVar 1) (tC (.int 0))))
    (tSeq (sFd (He.ga K "Machine") "stretches" (tVar 0) (tOp (rIxT K) (tVar 1) (tC (.int 1))))
    (tSeq (sFd (He.ga K "Machine") "starts" (tVar 0) (tOp (rIxT K) (tVar 1) (tC (.int 2))))
    (tSeq (sFd (He.ga K "Machine") "boxes" (tVar 0) (tOp (rIxT K) (tVar 1) (tC (.int 3))))
    (tSeq (sFd (He.ga K "Machine") "turns" (tVar 0) (tVar 3))
    (tSeq (sFd (He.ga K "Machine") "said" (tVar 0) (tLst tNil))
    (tSeq (sFd (He.ga K "Machine") "ended" (tVar 0) (tC .non))
    (sFd (He.ga K "Machine") "frames" (tVar 0) (tLst (tCons (tMake (He.ga K "Frame") sp_Frame___init__ [] E0 (tCons (tOp (rIxL K) (tFd (He.ga K "Machine") "starts" (tVar 0)) (tC (.int 0))) (tCons (tFd (He.ga K "Machine") "boxes" (tVar 0)) (tCons (tVar 2) tNil)))) tNil))))))))))
def n_Machine___init__ : List Str := ["self", "parts", "number", "turns"]
def t_Machine_step (K : PySem.W.Frag) (sp_Machine_meet sp_Machine_move sp_Machine_jump sp_Machine_taken sp_Machine_enter sp_Machine_back sp_Machine_fault : Sp) : TS :=
  (tSeq (tAsg (tOp (rIxL K) (tFd (He.ga K "Machine") "frames" (tVar 0)) (tOp rSubI (tCB (rLenQ K) (tCons (tFd (He.ga K "Machine") "frames" (tVar 0)) tNil)) (tC (.int 1)))) (gName 1))
    (tSeq (tAsg (tOp (rIxL K) (tFd (He.ga K "Machine") "code" (tVar 0)) (tFd (He.ga K "Frame") "place" (tVar 1))) (gName 2))
    (tSeq (tAsg (tOp (rIxT K) (tVar 2) (tC (.int 0))) (gName 3))
    (tIfS (tTest (tOp (rIn K false) (tVar 3) (tTup (tCons (tC (.str "add")) (tCons (tC (.str "sub")) (tCons (tC (.str "less")) (tCons (tC (.str "share")) tNil))))))) (tDrop (tMeth (He.ga K "Machine") "meet" sp_Machine_meet [] E0 (tVar 0) (tCons (tVar 1) (tCons (tVar 3) tNil)))) (tIfS (tTest (tOp (rIn K false) (tVar 3) (tTup (tCons (tC (.str "put")) (tCons (tC (.str "get")) (tCons (tC (.str "set")) (tCons (tC (.str "say")) tNil))))))) (tDrop (tMeth (He.ga K "Machine") "move" sp_Machine_move [] E0 (tVar 0) (tCons (tVar 1) (tCons (tVar 2) tNil)))) (tIfS (tTest (tOp (rIn K false) (tVar 3) (tTup (tCons (tC (.str "go")) (tCons (tC (.str "nought")) (tCons (tC (.str "on")) tNil)))))) (tDrop (tMeth (He.ga K "Machine") "jump" sp_Machine_jump [] E0 (tVar 0) (tCons (tVar 1) (tCons (tVar 2) tNil)))) (tIfS (tTest (tOp rEq (tVar 3) (tC (.str "turn")))) (tIfS (tB (tMeth (He.ga K "Machine") "taken" sp_Machine_taken [] E0 (tVar 0) tNil)) (sFd (He.ga K "Frame") "place" (tVar 1) (tOp rAddI (tFd (He.ga K "Frame") "place" (tVar 1)) (tC (.int 1)))) tNext) (tIfS (tTest (tOp rEq (tVar 3) (tC (.str "call")))) (tDrop (tMeth (He.ga K "Machine") "enter" sp_Machine_enter [] E0 (tVar 0) (tCons (tOp (rIxT K) (tVar 2) (tC (.int 1))) (tCons (tBM0 K "list" rPop (tFd (He.ga K "Frame") "pile" (tVar 1))) tNil)))) (tIfS (tTest (tOp rEq (tVar 3) (tC (.str "back")))) (tDrop (tMeth (He.ga K "Machine") "back" sp_Machine_back [] E0 (tVar 0) (tCons (tBM0 K "list" rPop (tFd (He.ga K "Frame") "pile" (tVar 1))) tNil))) (tDrop (tMeth (He.ga K "Machine") "fault" sp_Machine_fault [] E0 (tVar 0) (tCons (tBM0 K "list" rPop (tFd (He.ga K "Frame") "pile" (tVar 1))) tNil))))))))))))
def n_Machine_step : List Str := ["self", "frame", "row", "word"]
def t_Machine_taken (K : PySem.W.Frag) : TS :=
  (tSeq (tIfS (tTest (tOp rEq (tFd (He.ga K "Machine") "turns" (tVar 0)) (tC (.int 0)))) (tSeq (sFd (He.ga K "Machine") "ended" (tVar 0) (tTup (tCons (tC (.str "tired")) (tCons (tC (.int 0)) tNil))))
    (tRet (tC (.bl false)))) tNext)
    (tSeq (sFd (He.ga K "Machine") "turns" (tVar 0) (tOp rSubI (tFd (He.ga K "Machine") "turns" (tVar 0)) (tC (.int 1))))
    (tRet (tC (.bl true)))))
def n_Machine_taken : List Str := ["self"]
def t_Machine_move (K : PySem.W.Frag) (sp_Frame_lay : Sp) : TS :=
  (tSeq (tIfS (tTest (tOp rEq (tOp (rIxT K) (tVar 2) (tC (.int 0))) (tC (.str "put")))) (tSeq (tDrop (tMeth (He.ga K "Frame") "lay" sp_Frame_lay [] E0 (tVar 1) (tCons (tOp (rIxT K) (tVar 2) (tC (.int 1))) tNil)))
    tRetN) tNext)
    (tSeq (tIfS (tTest (tOp rEq (tOp (rIxT K) (tVar 2) (tC (.int 0))) (tC (.str "get")))) (tSeq (tDrop (tMeth (He.ga K "Frame") "lay" sp_Frame_lay [] E0 (tVar 1) (tCons (tOp (rIxL K) (tFd (He.ga K "Frame") "boxes" (tVar 1)) (tOp (rIxT K) (tVar 2) (tC (.int 1)))) tNil)))
    tRetN) tNext)
    (tSeq (tAsg (tBM0 K "list" rPop (tFd (He.ga K "Frame") "pile" (tVar 1))) (gName 3))
    (tSeq (tIfS (tTest (tOp rEq (tOp (rIxT K) (tVar 2) (tC (.int 0))) (tC (.str "set")))) (tAsg (tVar 3) (gSub (tFd (He.ga K "Frame") "boxes" (tVar 1)) (tOp (rIxT K) (tVar 2) (tC (.int 1))) rSetL)) (tDrop (tBM K "list" rAppend (tFd (He.ga K "Machine") "said" (tVar 0)) (tCons (tVar 3) tNil))))
    (sFd (He.ga K "Frame") "place" (tVar 1) (tOp rAddI (tFd (He.ga K "Frame") "place" (tVar 1)) (tC (.int 1))))))))
def n_Machine_move : List Str := ["self", "frame", "row", "number"]
def t_Machine_meet (K : PySem.W.Frag) (sp_Frame_lay sp_Machine_fault : Sp) : TS :=
  (tSeq (tAsg (tBM0 K "list" rPop (tFd (He.ga K "Frame") "pile" (tVar 1))) (gName 3))
    (tSeq (tAsg (tBM0 K "list" rPop (tFd (He.ga K "Frame") "pile" (tVar 1))) (gName 4))
    (tIfS (tTest (tOp rEq (tVar 2) (tC (.str "add")))) (tDrop (tMeth (He.ga K "Frame") "lay" sp_Frame_lay [] E0 (tVar 1) (tCons (tOp rAddI (tVar 4) (tVar 3)) tNil))) (tIfS (tTest (tOp rEq (tVar 2) (tC (.str "sub")))) (tDrop (tMeth (He.ga K "Frame") "lay" sp_Frame_lay [] E0 (tVar 1) (tCons (tOp rSubI (tVar 4) (tVar 3)) tNil))) (tIfS (tTest (tOp rEq (tVar 2) (tC (.str "less")))) (tDrop (tMeth (He.ga K "Frame") "lay" sp_Frame_lay [] E0 (tVar 1) (tCons (tIf (tTest (tOp rLtI (tVar 4) (tVar 3))) (tC (.int 1)) (tC (.int 0))) tNil))) (tIfS (tTest (tOp rEq (tVar 3) (tC (.int 0)))) (tDrop (tMeth (He.ga K "Machine") "fault" sp_Machine_fault [] E0 (tVar 0) (tCons (tC (.int 101)) tNil))) (tDrop (tMeth (He.ga K "Frame") "lay" sp_Frame_lay [] E0 (tVar 1) (tCons (tOp rFd (tVar 4) (tVar 3)) tNil)))))))))
def n_Machine_meet : List Str := ["self", "frame", "word", "other", "one"]
def t_Machine_jump (K : PySem.W.Frag) : TS :=
  (tIfS (tTest (tOp rEq (tOp (rIxT K) (tVar 2) (tC (.int 0))) (tC (.str "on")))) (sFd (He.ga K "Frame") "place" (tVar 1) (tOp (rIxL K) (tFd (He.ga K "Frame") "boxes" (tVar 1)) (tOp (rIxT K) (tVar 2) (tC (.int 1))))) (tIfS (tOr (tTest (tOp rEq (tOp (rIxT K) (tVar 2) (tC (.int 0))) (tC (.str "go")))) (tTest (tOp rEq (tBM0 K "list" rPop (tFd (He.ga K "Frame") "pile" (tVar 1))) (tC (.int 0))))) (sFd (He.ga K "Frame") "place" (tVar 1) (tOp (rIxT K) (tVar 2) (tC (.int 1)))) (sFd (He.ga K "Frame") "place" (tVar 1) (tOp rAddI (tFd (He.ga K "Frame") "place" (tVar 1)) (tC (.int 1))))))
def n_Machine_jump : List Str := ["self", "frame", "row"]
def t_Machine_enter (K : PySem.W.Frag) (sp_Machine_taken sp_Machine_fault sp_Frame___init__ : Sp) : TS :=
  (tSeq (tIfS (tNot (tB (tMeth (He.ga K "Machine") "taken" sp_Machine_taken [] E0 (tVar 0) tNil))) tRetN tNext)
    (tIfS (tTest (tOp rEq (tCB (rLenQ K) (tCons (tFd (He.ga K "Machine") "frames" (tVar 0)) tNil)) (tC (.int 8)))) (tDrop (tMeth (He.ga K "Machine") "fault" sp_Machine_fault [] E0 (tVar 0) (tCons (tC (.int 102)) tNil))) (tDrop (tBM K "list" rAppend (tFd (He.ga K "Machine") "frames" (tVar 0)) (tCons (tMake (He.ga K "Frame") sp_Frame___init__ [] E0 (tCons (tOp (rIxL K) (tFd (He.ga K "Machine") "starts" (tVar 0)) (tVar 1)) (tCons (tFd (He.ga K "Machine") "boxes" (tVar 0)) (tCons (tVar 2) tNil)))) tNil)))))
def n_Machine_enter : List Str := ["self", "number", "given"]
def t_Machine_back (K : PySem.W.Frag) (sp_Frame_lay : Sp) : TS :=
  (tSeq (tDrop (tBM0 K "list" rPop (tFd (He.ga K "Machine") "frames" (tVar 0))))
    (tIfS (tTest (tOp rEq (tCB (rLenQ K) (tCons (tFd (He.ga K "Machine") "frames" (tVar 0)) tNil)) (tC (.int 0)))) (sFd (He.ga K "Machine") "ended" (tVar 0) (tTup (tCons (tC (.str "answer")) (tCons (tVar 1) tNil)))) (tDrop (tMeth (He.ga K "Frame") "lay" sp_Frame_lay [] E0 (tOp (rIxL K) (tFd (He.ga K "Machine") "frames" (tVar 0)) (tOp rSubI (tCB (rLenQ K) (tCons (tFd (He.ga K "Machine") "frames" (tVar 0)) tNil)) (tC (.int 1)))) (tCons (tVar 1) tNil)))))
def n_Machine_back : List Str := ["self", "given"]
def t_Machine_fault (K : PySem.W.Frag) (sp_goal_of : Sp) : TS :=
  (tSeq (tWhile (tTest (tOp rGtI (tCB (rLenQ K) (tCons (tFd (He.ga K "Machine") "frames" (tVar 0)) tNil)) (tC (.int 0)))) (tSeq (tAsg (tOp (rIxL K) (tFd (He.ga K "Machine") "frames" (tVar 0)) (tOp rSubI (tCB (rLenQ K) (tCons (tFd (He.ga K "Machine") "frames" (tVar 0)) tNil)) (tC (.int 1)))) (gName 2))
    (tSeq (tAsg (tCall sp_goal_of [] E0 (tCons (tFd (He.ga K "Machine") "stretches" (tVar 0)) (tCons (tFd (He.ga K "Frame") "place" (tVar 2)) tNil))) (gName 3))
    (tSeq (tIfS (tTest (tOp rIsNotNo (tVar 3) (tC .non))) (tSeq (sFd (He.ga K "Frame") "pile" (tVar 2) (tLst (tCons (tVar 1) tNil)))
    (tSeq (sFd (He.ga K "Frame") "place" (tVar 2) (tVar 3))
    tRetN)) tNext)
    (tDrop (tBM0 K "list" rPop (tFd (He.ga K "Machine") "frames" (tVar 0))))))))
    (sFd (He.ga K "Machine") "ended" (tVar 0) (tTup (tCons (tC (.str "fault")) (tCons (tVar 1) tNil)))))
def n_Machine_fault : List Str := ["self", "number", "frame", "goal"]
def t_run (K : PySem.W.Frag) (sp_Machine___init__ sp_Machine_step : Sp) : TS :=
  (tSeq (tAsg (tMake (He.ga K "Machine") sp_Machine___init__ [] E0 (tCons (tVar 0) (tCons (tVar 1) (tCons (tVar 2) tNil)))) (gName 3))
    (tSeq (tWhile (tTest (tOp rIsNo (tFd (He.ga K "Machine") "ended" (tVar 3)) (tC .non))) (tDrop (tMeth (He.ga K "Machine") "step" sp_Machine_step [] E0 (tVar 3) tNil)))
    (tRet (tTup (tCons (tFd (He.ga K "Machine") "said" (tVar 3)) (tCons (tOp (rIxT K) (tFd (He.ga K "Machine") "ended" (tVar 3)) (tC (.int 0))) (tCons (tOp (rIxT K) (tFd (He.ga K "Machine") "ended" (tVar 3)) (tC (.int 1))) tNil)))))))
def n_run : List Str := ["parts", "number", "turns", "machine"]
end U

/-! the machine, in plain Lean -/
namespace Un
open PySem

inductive Rw where
  | put (n : Int) | get (k : Int) | set (k : Int) | say | add | sub | less | share | go (p : Int) | nought (p : Int) | on (k : Int) | turn | call (f : Int) | back | raise
  deriving DecidableEq, Repr

abbrev Stretch := Int × Int × Int
structure Parts where
  code : List Rw
  str : List Stretch
  starts : List Int
  boxes : Int

structure Fr where
  place : Int
  boxes : List Int
  pile : List Int

inductive Ed where
  | answer | fault | tired
  deriving DecidableEq, Repr
def Ed.str : Ed → Str
  | .answer => "answer"
  | .fault => "fault"
  | .tired => "tired"

structure Mc where
  frames : List Fr
  said : List Int
  turns : Nat
  ended : Option (Ed × Int)

def nth {α : Type} (xs : List α) (i : Int) : Option α := if 0 ≤ i then xs[i.toNat]? else none
def goalOf : List Stretch → Int → Option Int
  | [], _ => none
  | s :: r, p => if s.1 ≤ p ∧ p < s.2.1 then some s.2.2 else goalOf r p
def Fr.lay (f : Fr) (n : Int) : Fr := { f with pile := n :: f.pile, place := f.place + 1 }
def faultF (S : List Stretch) (n : Int) : List Fr → List Fr
  | [] => []
  | f :: r => match goalOf S f.place with
    | some g => { f with pile := [n], place := g } :: r
    | none => faultF S n r
def Mc.fault (P : Parts) (m : Mc) (n : Int) : Mc := match faultF P.str n m.frames with
  | [] => { m with frames := [], ended := some (.fault, n) }
  | f :: r => { m with frames := f :: r }
def Mc.tired (m : Mc) : Mc := { m with ended := some (.tired, 0) }
def newBoxes (nb given : Int) : List Int := given :: List.replicate (nb - 1).toNat 0
def Mc.enter (P : Parts) (m : Mc) (g v : Int) : Option Mc :=
  if m.turns = 0 then some m.tired
  else if m.frames.length = 8 then some (({ m with turns := m.turns - 1 } : Mc).fault P 102)
  else (nth P.starts g).map fun s => { m with turns := m.turns - 1, frames := ⟨s, newBoxes P.boxes v, []⟩ :: m.frames }
def Mc.back (m : Mc) (v : Int) : Mc := match m.frames with
  | [] => m
  | [_] => { m with frames := [], ended := some (.answer, v) }
  | _ :: g :: r => { m with frames := g.lay v :: r }
/-- a number laid or taken -/
def moveRw (row : Rw) (f : Fr) (r : List Fr) (m : Mc) : Option Mc := match row with
  | .put n => some { m with frames := f.lay n :: r }
  | .get k => (nth f.boxes k).map fun v => { m with frames := f.lay v :: r }
  | .set k => match f.pile with
    | v :: p => if 0 ≤ k ∧ k < f.boxes.length then some { m with frames := ⟨f.place + 1, f.boxes.set k.toNat v, p⟩ :: r } else none
    | [] => none
  | .say => match f.pile with
    | v :: p => some { m with said := m.said ++ [v], frames := ⟨f.place + 1, f.boxes, p⟩ :: r }
    | [] => none
  | _ => none
/-- two numbers joined -/
def meetRw (P : Parts) (row : Rw) (f : Fr) (r : List Fr) (m : Mc) : Option Mc := match f.pile with
  | b :: a :: p => match row with
    | .add => some { m with frames := (⟨f.place, f.boxes, p⟩ : Fr).lay (a + b) :: r }
    | .sub => some { m with frames := (⟨f.place, f.boxes, p⟩ : Fr).lay (a - b) :: r }
    | .less => some { m with frames := (⟨f.place, f.boxes, p⟩ : Fr).lay (if a < b then 1 else 0) :: r }
    | .share => if b = 0 then some (({ m with frames := ⟨f.place, f.boxes, p⟩ :: r } : Mc).fault P 101) else some { m with frames := (⟨f.place, f.boxes, p⟩ : Fr).lay (a.fdiv b) :: r }
    | _ => none
  | _ => none
/-- on at another place -/
def jumpRw (row : Rw) (f : Fr) (r : List Fr) (m : Mc) : Option Mc := match row with
  | .go p => some { m with frames := { f with place := p } :: r }
  | .nought p => match f.pile with
    | v :: q => some { m with frames := ⟨if v = 0 then p else f.place + 1, f.boxes, q⟩ :: r }
    | [] => none
  | .on k => (nth f.boxes k).map fun v => { m with frames := { f with place := v } :: r }
  | _ => none
/-- one row, the innermost frame f, those around r -/
def stepRw (P : Parts) (row : Rw) (f : Fr) (r : List Fr) (m : Mc) : Option Mc := match row with
  | .put n => moveRw (.put n) f r m
  | .get k => moveRw (.get k) f r m
  | .set k => moveRw (.set k) f r m
  | .say => moveRw .say f r m
  | .add => meetRw P .add f r m
  | .sub => meetRw P .sub f r m
  | .less => meetRw P .less f r m
  | .share => meetRw P .share f r m
  | .go p => jumpRw (.go p) f r m
  | .nought p => jumpRw (.nought p) f r m
  | .on k => jumpRw (.on k) f r m
  | .turn => if m.turns = 0 then some m.tired else some { m with turns := m.turns - 1, frames := { f with place := f.place + 1 } :: r }
  | .call g => match f.pile with
    | v :: q => ({ m with frames := { f with pile := q } :: r } : Mc).enter P g v
    | [] => none
  | .back => match f.pile with
    | v :: q => some (({ m with frames := { f with pile := q } :: r } : Mc).back v)
    | [] => none
  | .raise => match f.pile with
    | v :: q => some (({ m with frames := { f with pile := q } :: r } : Mc).fault P v)
    | [] => none
def rowStep (P : Parts) (m : Mc) : Option Mc := match m.frames with
  | [] => none
  | f :: r => match nth P.code f.place with
    | none => none
    | some row => stepRw P row f r m
def begun (P : Parts) (number : Int) (turns : Nat) : Option Mc := (nth P.starts 0).map fun s => ⟨[⟨s, newBoxes P.boxes number, []⟩], [], turns, none⟩
/-- k rows, none behind the end -/
def rowSteps (P : Parts) : Nat → Mc → Option Mc
  | 0, m => some m
  | k + 1, m => if m.ended.isSome then none else (rowStep P m).bind (rowSteps P k)
end Un

set_option maxHeartbeats 4000000
namespace U
open PySem PySem.Spec PyProof.Rows L2 Un
local macro_rules | `(tactic| walk_at "w1") => `(tactic| first
  | with_reducible refine w_seq ?_
  | with_reducible refine w_asg ?_
  | with_reducible refine w_op ?_
  | ((with_reducible refine' w_var ?h1 ?_); (case h1 => rfl))
  | with_reducible refine w_c ?_
  | with_reducible refine w_name ?_
  | with_reducible refine w_tFd ?_
  | ((with_reducible refine' w_fld ?h1 ?h2 ?_); (case h1 => assumption); (case h2 => rfl))
  | with_reducible refine w_if ?_
  | with_reducible refine w_test ?_
  | with_reducible refine w_eqS ?_
  | with_reducible refine w_eqI ?_
  | with_reducible refine w_neS ?_
  | with_reducible refine w_neI ?_
  | with_reducible refine w_isN ?_
  | with_reducible refine w_isnN ?_
  | with_reducible refine w_bl ?_
  | with_reducible refine w_ret ?_
  | with_reducible refine w_drop ?_
  | with_reducible refine w_next ?_
  | with_reducible refine w_cons ?_
  | with_reducible refine w_nil ?_
  | with_reducible refine w_call ?_
  | with_reducible refine w_cb ?_
  | with_reducible refine w_meth ?_
  | ((with_reducible refine' w_recv ?h1 ?h2 ?_); (case h1 => assumption); (case h2 => rfl))
  | with_reducible refine w_sFd ?_
  | ((with_reducible refine' w_put ?h1 ?h2 ?_); (case h1 => assumption); (case h2 => exact Nat.le_of_ble_eq_true rfl))
  | with_reducible refine w_add ?_
  | with_reducible refine w_sub ?_
  | with_reducible refine w_lt ?_
  | with_reducible refine w_le ?_
  | with_reducible refine w_gt ?_
  | with_reducible refine w_ge ?_
  | with_reducible refine w_bm ?_
  | with_reducible refine w_bm0 ?_
  | ((with_reducible refine' w_ty ?h1 ?_); (case h1 => assumption))
  | with_reducible refine w_tup ?_
  | with_reducible refine w_lst ?_
  | ((with_reducible refine' w_new ?h1 ?_); (case h1 => exact Nat.le_of_ble_eq_true rfl))
  | with_reducible refine w_gsub ?_
  | with_reducible refine w_make ?_
  | with_reducible refine w_lc ?_
  | with_reducible refine w_iList ?_
  | with_reducible refine w_for ?_
  | with_reducible refine w_yes ?_
  | with_reducible refine w_tSl ?_
  | with_reducible refine w_part ?_
  | with_reducible refine w_nopart ?_
  | with_reducible refine w_i ?_
  | with_reducible refine w_rng1 ?_
  | with_reducible refine w_rng2 ?_
  | with_reducible refine w_isiII ?_
  | with_reducible refine w_isiIB ?_
  | with_reducible refine w_isiSS ?_
  | ((with_reducible refine w_mod ?h1 ?_); (case h1 => decide))
  | ((with_reducible refine w_fdC' ?h1 ?h2 ?_); (case h1 => decide); (case h2 => decide))
  | ((with_reducible refine w_mulR ?h1 ?h2 ?_); (case h1 => decide); (case h2 => decide))
  | ((with_reducible refine w_mulL ?h1 ?h2 ?_); (case h1 => decide); (case h2 => decide))
  | ((with_reducible refine w_pow' ?h1 ?h2 ?h3 ?_); (case h1 => decide); (case h2 => decide); (case h3 => decide))
  | with_reducible refine w_andV ?_
  | with_reducible refine w_orV ?_
  | with_reducible refine w_notV ?_
  | with_reducible refine w_B ?_
  | with_reducible refine w_not ?_
  | with_reducible refine w_and ?_
  | with_reducible refine w_or ?_
  | with_reducible refine w_ifx ?_
  | with_reducible refine w_un ?_
  | ((with_reducible refine w_T ?h1 ?_); (case h1 => decide +kernel))
  | ((with_reducible refine w_F ?h1 ?_); (case h1 => decide +kernel)))
local macro_rules | `(tactic| walk_at "w") => `(tactic| repeat walk_at "w1")

/-! ### what stands where -/
def words : Rw → List V
  | .put n => [.str "put", .int n]
  | .get k => [.str "get", .int k]
  | .set k => [.str "set", .int k]
  | .say => [.str "say"]
  | .add => [.str "add"]
  | .sub => [.str "sub"]
  | .less => [.str "less"]
  | .share => [.str "share"]
  | .go p => [.str "go", .int p]
  | .nought p => [.str "nought", .int p]
  | .on k => [.str "on", .int k]
  | .turn => [.str "turn"]
  | .call f => [.str "call", .int f]
  | .back => [.str "back"]
  | .raise => [.str "raise"]
def IsTup (K : PySem.W.Frag) (H : Hp) (v : V) (xs : List V) : Prop := ∃ a, v = .ref a ∧ SqT K H a xs
def IsRow (K : PySem.W.Frag) (H : Hp) (v : V) (r : Rw) : Prop := IsTup K H v (words r)
def IsStr (K : PySem.W.Frag) (H : Hp) (v : V) (s : Stretch) : Prop := IsTup K H v [.int s.1, .int s.2.1, .int s.2.2]
theorem IsTup.mono {K : PySem.W.Frag} {H H' : Hp} {v : V} {xs : List V} (s : Same H H') (h : IsTup K H v xs) : IsTup K H' v xs := by
  obtain ⟨a, e, h⟩ := h
  exact ⟨a, e, same_tup s h⟩
/-- the code, the stretches and the starts stand at c, st, sr -/
structure PartsIn (K : PySem.W.Frag) (H : Hp) (c st sr : Addr) (P : Parts) : Prop where
  code : ∃ vs, SqL K H c vs ∧ All2 (IsRow K H) vs P.code
  str : ∃ vs, SqL K H st vs ∧ All2 (IsStr K H) vs P.str
  starts : SqL K H sr (P.starts.map V.int)
theorem PartsIn.mono {K : PySem.W.Frag} {H H' : Hp} {c st sr : Addr} {P : Parts} (s : Same H H') (h : PartsIn K H c st sr P) : PartsIn K H' c st sr P := by
  obtain ⟨⟨v1, a1, b1⟩, ⟨v2, a2, b2⟩, h3⟩ := h
  exact ⟨⟨v1, s.seq a1, b1.mono fun _ _ q => q.mono s⟩, ⟨v2, s.seq a2, b2.mono fun _ _ q => q.mono s⟩, s.seq h3⟩

/-! ### goal_of -/
def goalV : Option Int → V
  | none => .non
  | some g => .int g
def sp_goal_of (K : PySem.W.Frag) : Sp := fun vs H Q _ => ∃ a ss S p, vs = [.ref a, .int p] ∧ SqL K H a ss ∧ All2 (IsStr K H) ss S ∧ Q (goalV (goalOf S p)) H
theorem p_goal_of {K : PySem.W.Frag} (vs : List V) (H : Hp) (Q : VK) (E : XK) (h : sp_goal_of K vs H Q E) : t_goal_of K { nx := fun _ H' => Q .non H', rt := Q } (start n_goal_of vs) H := by
  obtain ⟨a, ss, S, p, rfl, hS, hR, q⟩ := h
  refine w_seq ⟨_, rfl, a, rfl, ⟨_, hS⟩, for_list (xs := ss) (fun i σ H' => H' = H ∧ goalOf (S.drop i) p = goalOf S p ∧ ∃ x, σ = [some (.ref a), some (.int p), x])
    ⟨rfl, rfl, _, rfl⟩ (fun i σ H' _ h => h.1 ▸ hS) ?_ ?_⟩
  · rintro i x σ H' hx ⟨rfl, hg, y, rfl⟩
    obtain ⟨s, ⟨b, rfl, hb⟩, hd⟩ := hR.drop i hx
    rw [hd] at hg
    walk_at "w"
    refine w_ixT hb rfl ?_
    walk_at "w"
    refine w_D (fun c1 => ?_) (fun c1 => ?_)
    · walk_at "w"
      refine w_ixT hb rfl ?_
      walk_at "w"
      refine w_D (fun c2 => ?_) (fun c2 => ?_)
      · walk_at "w"
        refine w_ixT hb rfl ?_
        have e : goalOf S p = some s.2.2 := by
          rw [← hg, goalOf, if_pos ⟨c1, c2⟩]
        rw [e] at q
        exact q
      · walk_at "w"
        refine ⟨rfl, ?_, _, rfl⟩
        rw [← hg, goalOf, if_neg (fun z => c2 z.2)]
    · walk_at "w"
      refine ⟨rfl, ?_, _, rfl⟩
      rw [← hg, goalOf, if_neg (fun z => c1 z.1)]
  · rintro σ H' ⟨rfl, hg, y, rfl⟩
    rw [hR.len, List.drop_length] at hg
    rw [← hg] at q
    walk_at "w"
    exact q

/-! ### frames and the machine -/
def frF (p : Int) (b q : Addr) : List (Str × V) := [("place", .int p), ("boxes", .ref b), ("pile", .ref q)]
def mcF (c st sr : Addr) (nb t : Int) (s : Addr) (e : V) (l : Addr) : List (Str × V) :=
  [("code", .ref c), ("stretches", .ref st), ("starts", .ref sr), ("boxes", .int nb), ("turns", .int t), ("said", .ref s), ("ended", e), ("frames", .ref l)]
def pileV : List Int → List V
  | [] => []
  | n :: p => pileV p ++ [.int n]
structure FA where
  a : Addr
  dx : Addr
  b : Addr
  q : Addr
def refsV : List FA → List V
  | [] => []
  | x :: xs => refsV xs ++ [.ref x.a]
def frsCells (K : PySem.W.Frag) : List FA → List Fr → List Cell
  | x :: xs, f :: fs => (x.a, .ins (He.ga K "Frame") x.dx (frF f.place x.b x.q)) :: (x.b, .lst (f.boxes.map V.int)) :: (x.q, .lst (pileV f.pile)) :: frsCells K xs fs
  | _, _ => []
/-- where the machine at m stands: c, st, sr its parts' lists -/
structure Wh where
  m : Addr
  c : Addr
  st : Addr
  sr : Addr
structure Ad where
  dx : Addr
  l : Addr
  s : Addr
  fas : List FA
def mcCells (K : PySem.W.Frag) (w : Wh) (nb : Int) (d : Ad) (e : V) (M : Mc) : List Cell :=
  (w.m, .ins (He.ga K "Machine") d.dx (mcF w.c w.st w.sr nb M.turns d.s e d.l)) :: (d.l, .lst (refsV d.fas)) :: (d.s, .lst (M.said.map V.int)) :: frsCells K d.fas M.frames
def EndAt (H : Hp) (e : V) : Option (Ed × Int) → Prop
  | none => e = .non
  | some (x, n) => ∃ t, e = .ref t ∧ H t = some (.tup [.str x.str, .int n])
structure MAt (K : PySem.W.Frag) (H0 H : Hp) (w : Wh) (nb : Int) (M : Mc) (d : Ad) (e : V) : Prop where
  own : Own H0 H (mcCells K w nb d e M)
  len : d.fas.length = M.frames.length
  endd : EndAt H e M.ended
def MIn (K : PySem.W.Frag) (H0 H : Hp) (w : Wh) (nb : Int) (M : Mc) : Prop := ∃ d e, MAt K H0 H w nb M d e
def LIM : Nat := 16000000
theorem lim_lt {n : Nat} (h : n < LIM) : n < sizeLine := Nat.lt_of_lt_of_le h (by show (16000000 : Nat) ≤ sizeLine; rw [sizeLine_eq]; decide)
theorem pileV_len : ∀ p : List Int, (pileV p).length = p.length
  | [] => rfl
  | n :: p => by simp [pileV, pileV_len p]

/-! ### Frame -/
def sp_Frame_lay (K : PySem.W.Frag) : Sp := fun vs H Q _ => ∃ a n dx p b q xs, vs = [.ref a, .int n] ∧ H a = some (.ins (He.ga K "Frame") dx (frF p b q)) ∧ H q = some (.lst xs) ∧ xs.length < LIM ∧
  Q .non (upd (upd H q (.lst (xs ++ [.int n]))) a (.ins (He.ga K "Frame") dx (frF (p + 1) b q)))
theorem ins_lst {H : Hp} {a b C dx : Addr} {fs : List (Str × V)} {xs : List V} (h : H a = some (.ins C dx fs)) (h' : H b = some (.lst xs)) : a ≠ b := ne_of h h' (by intro z; cases z)
theorem p_Frame_lay {K : PySem.W.Frag} (vs : List V) (H : Hp) (Q : VK) (E : XK) (h : sp_Frame_lay K vs H Q E) : t_Frame_lay K { nx := fun _ H' => Q .non H', rt := Q } (L2.start n_Frame_lay vs) H := by
  obtain ⟨a, n, dx, p, b, q, xs, rfl, ha, hq, hl, k⟩ := h
  unfold t_Frame_lay
  walk_at "w"
  refine w_app hq (lim_lt hl) ?_
  have ha' : upd H q (.lst (xs ++ [.int n])) a = some (.ins (He.ga K "Frame") dx (frF p b q)) := by
    rw [upd_ne (ins_lst ha hq)]; exact ha
  walk_at "w"
  exact k

def sp_Frame___init__ (K : PySem.W.Frag) : Sp := fun vs H Q _ => ∃ H0 a p nb n dx, vs = [.ref a, .int p, .int nb, .int n] ∧ Own H0 H [(a, .ins (He.ga K "Frame") dx [])] ∧ 0 ≤ nb ∧ nb < 16000000 ∧
  ∀ b q H', Own H0 H' [(a, .ins (He.ga K "Frame") dx (frF p b q)), (b, .lst ((newBoxes nb n).map V.int)), (q, .lst [])] → Q .non H'
theorem p_Frame___init__ {K : PySem.W.Frag} (vs : List V) (H : Hp) (Q : VK) (E : XK) (h : sp_Frame___init__ K vs H Q E) : t_Frame___init__ K { nx := fun _ H' => Q .non H', rt := Q } (L2.start n_Frame___init__ vs) H := by
  obtain ⟨H0, a, p, nb, n, dx, rfl, w, hn0, hn, k⟩ := h
  have ha := w.ix 0 rfl
  unfold t_Frame___init__
  walk_at "w"
  have w1 := w.set 0 (.ins (He.ga K "Frame") dx [("place", .int p)]) rfl
  refine fun p1 h1 => ?_
  walk_at "w"
  refine fun p2 h2 => ?_
  walk_at "w"
  have w2 := (w1.lay (o := .lst [.int n]) h1).lay (o := .lst [.int 0]) h2
  refine w_rep1 upd_same (by omega) (by omega) fun p3 h3 => ?_
  have e1 : upd (upd (upd (upd H a (.ins (He.ga K "Frame") dx [("place", .int p)])) p1 (.lst [.int n])) p2 (.lst [.int 0])) p3 (.lst (List.replicate (nb - 1).toNat (.int 0))) p1 = some (.lst [.int n]) := by
    rw [upd_ne (ne_of_none (o := .lst [.int n]) (by rw [upd_ne (ne_of_none upd_same h2)]; exact upd_same) h3), upd_ne (ne_of_none upd_same h2), upd_same]
  refine w_cat e1 upd_same ?_ fun b hb => ?_
  · rw [List.length_replicate, sizeLine_eq]
    show 1 + _ ≤ _
    omega
  have w3 := (w2.lay (o := .lst (List.replicate (nb - 1).toNat (.int 0))) h3).take (o := .lst ([.int n] ++ List.replicate (nb - 1).toNat (.int 0))) hb
  have ha3 := w3.ix 1 rfl
  walk_at "w"
  have w4 := w3.set 1 (.ins (He.ga K "Frame") dx [("place", .int p), ("boxes", .ref b)]) rfl
  refine fun q hq => ?_
  have w5 := w4.take (o := .lst []) hq
  have ha5 := w5.ix 2 rfl
  walk_at "w"
  have w6 := w5.set 2 (.ins (He.ga K "Frame") dx (frF p b q)) rfl
  refine k b q _ ?_
  have eb : (newBoxes nb n).map V.int = [.int n] ++ List.replicate (nb - 1).toNat (.int 0) := by simp [newBoxes]
  rw [eb]
  exact w6.perm (by
    refine List.Perm.trans (l₂ := [(q, HO.lst []), (a, HO.ins (He.ga K "Frame") dx (frF p b q)), (b, .lst ([.int n] ++ List.replicate (nb - 1).toNat (.int 0)))]) ?_ ?_
    · exact .cons _ (.swap _ _ _)
    · exact (List.Perm.swap _ _ _).trans (.cons _ (.swap _ _ _)))

/-! ### Machine.taken -/
def sp_Machine_taken (K : PySem.W.Frag) : Sp := fun vs H Q _ => ∃ H0 wh nb M d, vs = [.ref wh.m] ∧ Own H0 H (mcCells K wh nb d .non M) ∧
  (M.turns = 0 → ∀ H' t, Own H0 H' (mcCells K wh nb d (.ref t) M) → H' t = some (.tup [.str "tired", .int 0]) → Q (.bl false) H') ∧
  (M.turns ≠ 0 → ∀ H', Own H0 H' (mcCells K wh nb d .non { M with turns := M.turns - 1 }) → Q (.bl true) H')
theorem p_Machine_taken {K : PySem.W.Frag} (vs : List V) (H : Hp) (Q : VK) (E : XK) (h : sp_Machine_taken K vs H Q E) : t_Machine_taken K { nx := fun _ H' => Q .non H', rt := Q } (L2.start n_Machine_taken vs) H := by
  obtain ⟨H0, wh, nb, M, d, rfl, w, k0, k1⟩ := h
  have hm := w.ix 0 rfl
  unfold t_Machine_taken
  walk_at "w"
  refine w_D (fun c => ?_) (fun c => ?_)
  · walk_at "w"
    refine fun t ht => ?_
    have w1 := w.lay (o := .tup [.str "tired", .int 0]) ht
    have hm1 := w1.ix 0 rfl
    walk_at "w"
    refine k0 (by omega) _ t (w1.set 0 _ rfl) ?_
    rw [upd_ne (ne_of_none hm ht).symm, upd_same]
  · walk_at "w"
    refine k1 (by omega) _ ?_
    have e : ((M.turns : Nat) : Int) - 1 = ((M.turns - 1 : Nat) : Int) := by omega
    rw [e]
    exact w.set 0 _ rfl

/-! ### Machine.fault -/
theorem refs_last {x : FA} {xs : List FA} : atI (refsV (x :: xs)) (((refsV (x :: xs)).length : Int) - 1) = some (.ref x.a) := atI_end rfl
theorem refs_len : ∀ xs : List FA, (refsV xs).length = xs.length
  | [] => rfl
  | x :: xs => by simp [refsV, refs_len xs]
def sp_Machine_fault (K : PySem.W.Frag) : Sp := fun vs H Q _ => ∃ H0 wh P M d n, vs = [.ref wh.m, .int n] ∧ MAt K H0 H wh P.boxes M d .non ∧ PartsIn K H0 wh.c wh.st wh.sr P ∧
  ∀ H', MIn K H0 H' wh P.boxes (M.fault P n) → Q .non H'
theorem p_Machine_fault {K : PySem.W.Frag} (vs : List V) (H : Hp) (Q : VK) (E : XK) (h : sp_Machine_fault K vs H Q E) : t_Machine_fault K (sp_goal_of K) { nx := fun _ H' => Q .non H', rt := Q } (L2.start n_Machine_fault vs) H := by
  obtain ⟨H0, wh, P, M, d, n, rfl, w, pt, k⟩ := h
  have he : M.ended = none := by
    have q := w.endd
    cases e : M.ended with
    | none => rfl
    | some z =>
      rw [e] at q
      obtain ⟨t, h1, _⟩ := q
      cases h1
  unfold t_Machine_fault
  refine w_seq ⟨fun m σ H1 => ∃ fs d1 x2 x3, m = fs.length ∧ σ = [some (.ref wh.m), some (.int n), x2, x3] ∧ faultF P.str n fs = faultF P.str n M.frames ∧ MAt K H0 H1 wh P.boxes { M with frames := fs } d1 .non,
    ⟨_, M.frames, d, _, _, rfl, rfl, rfl, w⟩, ?_⟩
  rintro m σ H1 ⟨fs, d1, x2, x3, rfl, rfl, hf, w1⟩
  have hm := w1.own.ix 0 rfl
  have hl := w1.own.ix 1 rfl
  have hlen : d1.fas.length = fs.length := w1.len
  walk_at "w"
  refine w_lenL (SqL.of hl) ?_
  walk_at "w"
  refine w_D (fun c => ?_) (fun c => ?_)
  · rw [refs_len, hlen] at c
    match fs, d1, hlen, w1, hf, hm, hl with
    | [], _, _, _, _, _, _ => exact absurd c (by simp)
    | f :: r, ⟨dx, l, s, []⟩, hlen, _, _, _, _ => exact absurd hlen (by simp)
    | f :: r, ⟨dx, l, s, x :: xs⟩, hlen, w1, hf, hm, hl =>
    refine ⟨_, fun _ _ z => z, ?_⟩
    have ha := w1.own.ix 3 rfl
    walk_at "w"
    refine w_lenL (SqL.of hl) ?_
    walk_at "w"
    refine w_ixL (SqL.of hl) refs_last ?_
    walk_at "w"
    obtain ⟨ss, s1, s2⟩ := pt.str
    refine ⟨wh.st, ss, P.str, f.place, rfl, w1.own.same.seq s1, s2.mono fun _ _ q => q.mono w1.own.same, ?_⟩
    walk_at "w"
    cases hg : goalOf P.str f.place with
    | some g =>
      refine w_T rfl ?_
      walk_at "w"
      refine fun q hq => ?_
      have w2 := w1.own.take (o := .lst [.int n]) hq
      have ha2 := w2.ix 4 rfl
      walk_at "w"
      have w3 := w2.set 4 (.ins (He.ga K "Frame") x.dx (frF f.place x.b q)) rfl
      have ha3 := w3.ix 4 rfl
      walk_at "w"
      have w4 := w3.set 4 (.ins (He.ga K "Frame") x.dx (frF g x.b q)) rfl
      refine k _ ⟨⟨dx, l, s, ⟨x.a, x.dx, x.b, q⟩ :: xs⟩, .non, ?_⟩
      have ef : M.fault P n = { M with frames := ⟨g, f.boxes, [n]⟩ :: r } := by
        unfold Mc.fault
        rw [← hf]
        simp only [faultF, hg]
      rw [ef]
      refine ⟨?_, hlen, ?_⟩
      · exact w4.repl 5 (by simp [mcCells, frsCells])
      · show EndAt _ V.non M.ended
        rw [he]
        exact rfl
    | none =>
      refine w_F rfl ?_
      walk_at "w"
      refine w_popB hl ?_
      have w2 : Own H0 _ (mcCells K wh P.boxes ⟨dx, l, s, xs⟩ .non { M with frames := r }) := ((((w1.own.set 1 (.lst (refsV xs)) rfl).del 3).del 3).del 3)
      refine ⟨r.length, by simp, r, ⟨dx, l, s, xs⟩, _, _, rfl, rfl, ?_, w2, by simpa using hlen, ?_⟩
      · rw [← hf]
        simp only [faultF, hg]
      · show EndAt _ V.non M.ended
        rw [he]
        exact rfl
  · rw [refs_len, hlen] at c
    match fs, d1, hlen, w1, hf, hm, hl with
    | f :: r, _, _, _, _, _, _ => exact absurd (by simp) c
    | [], d1, hlen, w1, hf, hm, hl =>
    walk_at "w"
    refine fun t ht => ?_
    have w2 := w1.own.lay (o := .tup [.str "fault", .int n]) ht
    have hm2 := w2.ix 0 rfl
    walk_at "w"
    have ef : M.fault P n = { M with frames := [], ended := some (.fault, n) } := by
      unfold Mc.fault
      rw [← hf]
      simp only [faultF]
    refine k _ ⟨d1, .ref t, ?_⟩
    rw [ef]
    refine ⟨w2.set 0 _ rfl, hlen, t, rfl, ?_⟩
    rw [upd_ne (ne_of_none hm ht).symm, upd_same]
    rfl

/-! ### Machine.move -/
theorem MAt.noend {K : PySem.W.Frag} {H0 H : Hp} {wh : Wh} {nb : Int} {M : Mc} {d : Ad} (w : MAt K H0 H wh nb M d .non) : M.ended = none := by
  have q := w.endd
  cases e : M.ended with
  | none => rfl
  | some z =>
    rw [e] at q
    obtain ⟨t, h1, _⟩ := q
    cases h1
theorem nth_at {xs : List Int} {k v : Int} (h : nth xs k = some v) : atI (xs.map V.int) k = some (.int v) := by
  unfold nth at h
  by_cases h0 : 0 ≤ k
  · rw [if_pos h0] at h
    refine atI_ok h0 ?_
    rw [List.getElem?_map, h]
    rfl
  · rw [if_neg h0] at h
    cases h
def sp_Machine_move (K : PySem.W.Frag) : Sp := fun vs H Q _ => ∃ H0 wh nb f r said t dx l s x xs rw row M', vs = [.ref wh.m, .ref x.a, .ref rw] ∧
  MAt K H0 H wh nb ⟨f :: r, said, t, none⟩ ⟨dx, l, s, x :: xs⟩ .non ∧ SqT K H0 rw (words row) ∧ moveRw row f r ⟨f :: r, said, t, none⟩ = some M' ∧ f.pile.length < LIM ∧ said.length < LIM ∧
  ∀ H', MIn K H0 H' wh nb M' → Q .non H'
theorem MAt.lay {K : PySem.W.Frag} {H0 H : Hp} {wh : Wh} {nb n : Int} {f : Fr} {r : List Fr} {said : List Int} {t : Nat} {dx l s : Addr} {x : FA} {xs : List FA} (w : MAt K H0 H wh nb ⟨f :: r, said, t, none⟩ ⟨dx, l, s, x :: xs⟩ .non) :
    MIn K H0 (upd (upd H x.q (.lst (pileV f.pile ++ [.int n]))) x.a (.ins (He.ga K "Frame") x.dx (frF (f.place + 1) x.b x.q))) wh nb ⟨f.lay n :: r, said, t, none⟩ := by
  have w2 := w.own.set 5 (.lst (pileV f.pile ++ [.int n])) rfl
  exact ⟨⟨dx, l, s, x :: xs⟩, .non, ⟨w2.set 3 (.ins (He.ga K "Frame") x.dx (frF (f.place + 1) x.b x.q)) rfl, w.len, rfl⟩⟩
theorem p_Machine_move {K : PySem.W.Frag} (vs : List V) (H : Hp) (Q : VK) (E : XK) (h : sp_Machine_move K vs H Q E) : t_Machine_move K (sp_Frame_lay K) { nx := fun _ H' => Q .non H', rt := Q } (L2.start n_Machine_move vs) H := by
  obtain ⟨H0, wh, nb, f, r, said, t, dx, l, s, x, xs, rw, row, M', rfl, w, hrow, hM, hp, hs, k⟩ := h
  have hr := same_tup w.own.same hrow
  have hm := w.own.ix 0 rfl
  have ha := w.own.ix 3 rfl
  have hb := w.own.ix 4 rfl
  have hq := w.own.ix 5 rfl
  unfold t_Machine_move
  cases row with
  | put n =>
    cases hM
    walk_at "w"
    refine w_ixT hr rfl ?_
    walk_at "w"
    refine w_ixT hr rfl ?_
    walk_at "w"
    refine ⟨x.a, n, x.dx, f.place, x.b, x.q, _, rfl, ha, hq, by rw [pileV_len]; exact hp, ?_⟩
    exact k _ w.lay
  | get j =>
    cases hv : nth f.boxes j with
    | none => rw [moveRw, hv] at hM; cases hM
    | some v =>
      rw [moveRw, hv] at hM
      cases hM
      walk_at "w"
      refine w_ixT hr rfl ?_
      walk_at "w"
      refine w_ixT hr rfl ?_
      walk_at "w"
      refine w_ixT hr rfl ?_
      refine w_ixL (SqL.of hb) (nth_at hv) ?_
      walk_at "w"
      refine ⟨x.a, v, x.dx, f.place, x.b, x.q, _, rfl, ha, hq, by rw [pileV_len]; exact hp, ?_⟩
      exact k _ w.lay
  | set j =>
    obtain ⟨place, boxes, pile⟩ := f
    cases pile with
    | nil => cases hM
    | cons v p =>
      by_cases hj : 0 ≤ j ∧ j < boxes.length
      · simp only [moveRw, if_pos hj] at hM
        cases hM
        walk_at "w"
        refine w_ixT hr rfl ?_
        walk_at "w"
        refine w_ixT hr rfl ?_
        walk_at "w"
        refine w_popB hq ?_
        have w1 := w.own.set 5 (.lst (pileV p)) rfl
        have hr1 := same_tup w1.same hrow
        have ha1 := w1.ix 3 rfl
        have hb1 := w1.ix 4 rfl
        walk_at "w"
        refine w_ixT hr1 rfl ?_
        walk_at "w"
        refine w_ixT hr1 rfl ?_
        refine w_setL hb1 hj.1 (by rw [List.length_map]; exact hj.2) ?_
        have w2 := w1.set 4 (.lst ((boxes.map V.int).set j.toNat (.int v))) rfl
        have ha2 := w2.ix 3 rfl
        walk_at "w"
        refine k _ ⟨⟨dx, l, s, x :: xs⟩, .non, ⟨?_, w.len, rfl⟩⟩
        have w3 := w2.set 3 (.ins (He.ga K "Frame") x.dx (frF (place + 1) x.b x.q)) rfl
        have e : (boxes.set j.toNat v).map V.int = (boxes.map V.int).set j.toNat (.int v) := List.map_set ..
        unfold mcCells
        dsimp only [frsCells]
        rw [e]
        exact w3
      · simp only [moveRw, if_neg hj] at hM
        cases hM
  | say =>
    obtain ⟨place, boxes, pile⟩ := f
    cases pile with
    | nil => cases hM
    | cons v p =>
      cases hM
      walk_at "w"
      refine w_ixT hr rfl ?_
      walk_at "w"
      refine w_ixT hr rfl ?_
      walk_at "w"
      refine w_popB hq ?_
      have w1 := w.own.set 5 (.lst (pileV p)) rfl
      have hr1 := same_tup w1.same hrow
      have hm1 := w1.ix 0 rfl
      have hs1 := w1.ix 2 rfl
      walk_at "w"
      refine w_ixT hr1 rfl ?_
      walk_at "w"
      refine w_app hs1 (by rw [List.length_map]; exact lim_lt hs) ?_
      have w2 := w1.set 2 (.lst (said.map V.int ++ [.int v])) rfl
      have ha2 := w2.ix 3 rfl
      walk_at "w"
      refine k _ ⟨⟨dx, l, s, x :: xs⟩, .non, ⟨?_, w.len, rfl⟩⟩
      have w3 := w2.set 3 (.ins (He.ga K "Frame") x.dx (frF (place + 1) x.b x.q)) rfl
      have e : (said ++ [v]).map V.int = said.map V.int ++ [.int v] := by simp
      unfold mcCells
      dsimp only [frsCells]
      rw [e]
      exact w3
  | _ => cases hM
end U

namespace U
open PySem PySem.Spec PyProof.Rows L2
/-! readings of the defs -/
def t_l_cell_at (K : PySem.W.Frag) : TS :=
  (tSeq (tIfS (tTest (tOp rLtI (tVar 1) (tCB (rLenQ K) (tCons (tVar 0) tNil)))) (tRet (tOp (rIxL K) (tVar 0) (tVar 1))) tNext)
    (tRet (tC (.int 0))))
def n_l_cell_at : List Str := ["_law_script", "_law_k"]
def t_l_stretch (K : PySem.W.Frag) : TS :=
  (tSeq (tAsg (tOp rSubI (tOp rModP (tVar 0) (tVar 1)) (tC (.int 1))) (gName 2))
    (tRet (tTup (tCons (tVar 2) (tCons (tOp rAddI (tVar 2) (tOp rModP (tOp rFdC (tVar 0) (tVar 1)) (tC (.int 9)))) (tCons (tOp rModP (tOp rFdC (tOp rFdC (tVar 0) (tVar 1)) (tC (.int 9))) (tC (.int 1000))) tNil))))))
def n_l_stretch : List Str := ["_law_cell", "_law_far", "_law_first"]
def t_law (K : PySem.W.Frag) (sp_l_cell_at sp_l_stretch sp_goal_of : Sp) : TS :=
  (tSeq (tAsg (tOp (rIxL K) (tLst (tCons (tC (.int 22)) (tCons (tOp rPowI (tC (.int 10)) (tC (.int 6))) tNil))) (tOp rModP (tCall sp_l_cell_at [] E0 (tCons (tVar 0) (tCons (tC (.int 0)) tNil))) (tC (.int 2)))) (gName 1))
    (tSeq (tAsg (tOp rSubI (tOp rModP (tCall sp_l_cell_at [] E0 (tCons (tVar 0) (tCons (tC (.int 1)) tNil))) (tOp rAddI (tVar 1) (tC (.int 2)))) (tC (.int 2))) (gName 2))
    (tSeq (tAsg (tLc (iList K (tSl (rSlL K) (tVar 0) (tPart (tC (.int 2))) tNoPart)) (gName 4) tYes (tCall sp_l_stretch [] E0 (tCons (tVar 4) (tCons (tVar 1) tNil))) [4]) (gName 3))
    (tSeq (tIfS (tTest (tOp rEq (tOp rModP (tOp rFdC (tCall sp_l_cell_at [] E0 (tCons (tVar 0) (tCons (tC (.int 0)) tNil))) (tC (.int 2))) (tC (.int 4))) (tC (.int 1)))) (tSeq (tAsg (tOp rModP (tOp rFdC (tCall sp_l_cell_at [] E0 (tCons (tVar 0) (tCons (tC (.int 0)) tNil))) (tC (.int 8))) (tC (.int 61))) (gName 5))
    (tAsg (tLc (iRng1 (tCons (tVar 5) tNil)) (gName 6) tYes (tCall sp_l_stretch [] E0 (tCons (tOp rMulI (tOp rModP (tOp rMulI (tCall sp_l_cell_at [] E0 (tCons (tVar 0) (tCons (tC (.int 2)) tNil))) (tC (.int 48271))) (tC (.int 1000003))) (tOp rAddI (tVar 6) (tC (.int 1)))) (tCons (tVar 1) tNil))) [6]) (gName 3))) tNext)
    (tSeq (tIfS (tAnd (tTest (tOp rGtI (tCB (rLenQ K) (tCons (tVar 3) tNil)) (tC (.int 0)))) (tTest (tOp rEq (tOp rModP (tOp rFdC (tCall sp_l_cell_at [] E0 (tCons (tVar 0) (tCons (tC (.int 1)) tNil))) (tC (.int 7))) (tC (.int 3))) (tC (.int 1))))) (tAsg (tOp rSubI (tOp (rIxT K) (tOp (rIxL K) (tVar 3) (tOp rSubI (tCB (rLenQ K) (tCons (tVar 3) tNil)) (tC (.int 1)))) (tOp rModP (tOp rFdC (tCall sp_l_cell_at [] E0 (tCons (tVar 0) (tCons (tC (.int 1)) tNil))) (tC (.int 21))) (tC (.int 2)))) (tOp rModP (tOp rFdC (tCall sp_l_cell_at [] E0 (tCons (tVar 0) (tCons (tC (.int 1)) tNil))) (tC (.int 42))) (tC (.int 2)))) (gName 2)) tNext)
    (tSeq (tAsg (tCB (rListQ K) (tCons (tVar 3) tNil)) (gName 7))
    (tSeq (tAsg (tCall sp_goal_of [] E0 (tCons (tVar 7) (tCons (tVar 2) tNil))) (gName 8))
    (tSeq (tIfS (tTest (tOp (rNeD K) (tVar 7) (tVar 3))) (tRet (tC (.bl false))) tNext)
    (tSeq (tFor (iList K (tVar 3)) (gName 9) (tIfS (tAnd (tTest (tOp rLeI (tOp (rIxT K) (tVar 9) (tC (.int 0))) (tVar 2))) (tTest (tOp rLtI (tVar 2) (tOp (rIxT K) (tVar 9) (tC (.int 1)))))) (tRet (tAndV (tCB (rIsi K) (tCons (tVar 8) (tCons (tC (.ty "int")) tNil))) (tAndV (tNotV (tCB (rIsi K) (tCons (tVar 8) (tCons (tC (.ty "bool")) tNil)))) (tOp rEq (tVar 8) (tOp (rIxT K) (tVar 9) (tC (.int 2))))))) tNext))
    (tRet (tOp rIsNo (tVar 8) (tC .non))))))))))))
def n_law : List Str := ["_law_script", "_law_far", "_law_place", "_law_rows", "_law_cell", "_law_many", "_law_k", "_law_handed", "_law_found", "_law_row"]
end U

set_option maxHeartbeats 4000000
namespace U
open PySem PySem.Spec PyProof.Rows L2 Un
local macro_rules | `(tactic| walk_at "w1") => `(tactic| first
  | with_reducible refine w_seq ?_
  | with_reducible refine w_asg ?_
  | with_reducible refine w_op ?_
  | ((with_reducible refine' w_var ?h1 ?_); (case h1 => rfl))
  | with_reducible refine w_c ?_
  | with_reducible refine w_name ?_
  | with_reducible refine w_tFd ?_
  | ((with_reducible refine' w_fld ?h1 ?h2 ?_); (case h1 => assumption); (case h2 => rfl))
  | with_reducible refine w_if ?_
  | with_reducible refine w_test ?_
  | with_reducible refine w_eqS ?_
  | with_reducible refine w_eqI ?_
  | with_reducible refine w_neS ?_
  | with_reducible refine w_neI ?_
  | with_reducible refine w_isN ?_
  | with_reducible refine w_isnN ?_
  | with_reducible refine w_bl ?_
  | with_reducible refine w_ret ?_
  | with_reducible refine w_drop ?_
  | with_reducible refine w_next ?_
  | with_reducible refine w_cons ?_
  | with_reducible refine w_nil ?_
  | with_reducible refine w_call ?_
  | with_reducible refine w_cb ?_
  | with_reducible refine w_meth ?_
  | ((with_reducible refine' w_recv ?h1 ?h2 ?_); (case h1 => assumption); (case h2 => rfl))
  | with_reducible refine w_sFd ?_
  | ((with_reducible refine' w_put ?h1 ?h2 ?_); (case h1 => assumption); (case h2 => exact Nat.le_of_ble_eq_true rfl))
  | with_reducible refine w_add ?_
  | with_reducible refine w_sub ?_
  | with_reducible refine w_lt ?_
  | with_reducible refine w_le ?_
  | with_reducible refine w_gt ?_
  | with_reducible refine w_ge ?_
  | with_reducible refine w_bm ?_
  | with_reducible refine w_bm0 ?_
  | ((with_reducible refine' w_ty ?h1 ?_); (case h1 => assumption))
  | with_reducible refine w_tup ?_
  | with_reducible refine w_lst ?_
  | ((with_reducible refine' w_new ?h1 ?_); (case h1 => exact Nat.le_of_ble_eq_true rfl))
  | with_reducible refine w_gsub ?_
  | with_reducible refine w_make ?_
  | with_reducible refine w_lc ?_
  | with_reducible refine w_iList ?_
  | with_reducible refine w_for ?_
  | with_reducible refine w_yes ?_
  | with_reducible refine w_tSl ?_
  | with_reducible refine w_part ?_
  | with_reducible refine w_nopart ?_
  | with_reducible refine w_i ?_
  | with_reducible refine w_rng1 ?_
  | with_reducible refine w_rng2 ?_
  | with_reducible refine w_isiII ?_
  | with_reducible refine w_isiIB ?_
  | with_reducible refine w_isiSS ?_
  | ((with_reducible refine w_mod ?h1 ?_); (case h1 => decide))
  | ((with_reducible refine w_fdC' ?h1 ?h2 ?_); (case h1 => decide); (case h2 => decide))
  | ((with_reducible refine w_mulR ?h1 ?h2 ?_); (case h1 => decide); (case h2 => decide))
  | ((with_reducible refine w_mulL ?h1 ?h2 ?_); (case h1 => decide); (case h2 => decide))
  | ((with_reducible refine w_pow' ?h1 ?h2 ?h3 ?_); (case h1 => decide); (case h2 => decide); (case h3 => decide))
  | with_reducible refine w_andV ?_
  | with_reducible refine w_orV ?_
  | with_reducible refine w_notV ?_
  | with_reducible refine w_B ?_
  | with_reducible refine w_not ?_
  | with_reducible refine w_and ?_
  | with_reducible refine w_or ?_
  | with_reducible refine w_ifx ?_
  | with_reducible refine w_un ?_
  | ((with_reducible refine w_T ?h1 ?_); (case h1 => decide +kernel))
  | ((with_reducible refine w_F ?h1 ?_); (case h1 => decide +kernel)))
local macro_rules | `(tactic| walk_at "w") => `(tactic| repeat walk_at "w1")

/-! ### the cell of a script -/
def cellAt (ns : List Int) (k : Int) : Int := ns.getD k.toNat 0
def sp_l_cell_at (K : PySem.W.Frag) : Sp := fun vs H Q _ => ∃ a ns k, vs = [.ref a, .int k] ∧ SqL K H a (ns.map V.int) ∧ 0 ≤ k ∧ Q (.int (cellAt ns k)) H
theorem p_l_cell_at {K : PySem.W.Frag} (vs : List V) (H : Hp) (Q : VK) (E : XK) (h : sp_l_cell_at K vs H Q E) : t_l_cell_at K { nx := fun _ H' => Q .non H', rt := Q } (L2.start n_l_cell_at vs) H := by
  obtain ⟨a, ns, k, rfl, hS, h0, q⟩ := h
  unfold t_l_cell_at
  walk_at "w"
  refine w_lenL hS ?_
  walk_at "w"
  refine w_D (fun c => ?_) (fun c => ?_) <;> rw [List.length_map] at c
  · walk_at "w"
    refine w_ixL (v := .int (cellAt ns k)) hS (atI_ok h0 ?_) ?_
    · rw [List.getElem?_map, cellAt, List.getD_eq_getElem?_getD, List.getElem?_eq_getElem (by omega)]
      rfl
    · exact q
  · walk_at "w"
    have e : cellAt ns k = 0 := by
      rw [cellAt, List.getD_eq_getElem?_getD, List.getElem?_eq_none (by omega)]
      rfl
    rw [e] at q
    exact q
def stretchOf (cell far : Int) : Stretch := (cell % far - 1, cell % far - 1 + cell / far % 9, cell / far / 9 % 1000)
def sp_l_stretch (K : PySem.W.Frag) : Sp := fun vs H Q _ => ∃ cell far, vs = [.int cell, .int far] ∧ 0 < far ∧ far < 1073741824 ∧
  ∀ p, H p = none → Q (.ref p) (upd H p (.tup [.int (stretchOf cell far).1, .int (stretchOf cell far).2.1, .int (stretchOf cell far).2.2]))
theorem p_l_stretch {K : PySem.W.Frag} (vs : List V) (H : Hp) (Q : VK) (E : XK) (h : sp_l_stretch K vs H Q E) : t_l_stretch K { nx := fun _ H' => Q .non H', rt := Q } (L2.start n_l_stretch vs) H := by
  obtain ⟨cell, far, rfl, h0, h1, q⟩ := h
  unfold t_l_stretch
  walk_at "w"
  refine w_mod h0 ?_
  walk_at "w"
  refine w_fdC' h0 h1 ?_
  walk_at "w"
  refine w_fdC' h0 h1 ?_
  walk_at "w"
  exact q

theorem IsStr.put {K : PySem.W.Frag} {H : Hp} {D : Addr} {ys : List V} {o : HO} {v : V} {s : Stretch} (hD : H D = some (.lst ys)) (h : IsStr K H v s) : IsStr K (upd H D o) v s := by
  obtain ⟨a, e, h⟩ := h
  exact ⟨a, e, tup_put hD h⟩
/-- the list of stretches that a comprehension makes so far -/
def Made (K : PySem.W.Frag) (Hc : Hp) (D : Addr) (S : List Stretch) (H : Hp) : Prop := ∃ vs, Own Hc H [(D, .lst vs)] ∧ All2 (IsStr K H) vs S
theorem Made.next {K : PySem.W.Frag} {Hc H : Hp} {D p : Addr} {S : List Stretch} {s : Stretch} {A : List Stretch} (h : Made K Hc D S H) (hp : H p = none) (hl : S.length ≤ 1000)
    (e : A = S ++ [s]) : ∃ acc, upd H p (.tup [.int s.1, .int s.2.1, .int s.2.2]) D = some (.lst acc) ∧ acc.length < sizeLine ∧ Made K Hc D A (upd (upd H p (.tup [.int s.1, .int s.2.1, .int s.2.2])) D (.lst (acc ++ [.ref p]))) := by
  obtain ⟨vs, w, r⟩ := h
  have w1 := w.lay (o := .tup [.int s.1, .int s.2.1, .int s.2.2]) hp
  have hD := w1.ix 0 rfl
  refine ⟨vs, hD, small1000 (by rw [r.len]; exact hl), _, w1.set 0 _ rfl, ?_⟩
  rw [e]
  exact (r.mono fun _ _ q => IsStr.put hD (IsTup.mono (same_lay hp) q)).snoc ⟨p, rfl, tup_put hD (SqT.of upd_same)⟩

theorem dp_str {K : PySem.W.Frag} {H : Hp} {vs : List V} {S : List Stretch} (h : All2 (IsStr K H) vs S) : DpAll K H vs (S.map fun s => .tuple [.int s.1, .int s.2.1, .int s.2.2]) := by
  induction h with
  | nil => exact .nil
  | cons r _ ih =>
    obtain ⟨a, rfl, h⟩ := r
    exact .cons (.tup h (.cons (.int _) (.cons (.int _) (.cons (.int _) .nil)))) ih
theorem lay_str : ∀ S : List Stretch, PyData.canLayAll0 (S.map fun s => .tuple [.int s.1, .int s.2.1, .int s.2.2]) = true ∧ PyData.depthAll (S.map fun s => .tuple [.int s.1, .int s.2.1, .int s.2.2]) ≤ 4
  | [] => ⟨rfl, by decide⟩
  | s :: S => by
    have ih := lay_str S
    refine ⟨?_, ?_⟩
    · simp [PyData.canLayAll0, PyData.canLay0, ih.1]
    · have := ih.2
      simp only [List.map_cons, PyData.depthAll, PyData.depth]
      omega
theorem shaped_str (S : List Stretch) : SeqAt.shaped (.list (S.map fun s => .tuple [.int s.1, .int s.2.1, .int s.2.2])) = true := by
  have h := lay_str S
  unfold SeqAt.shaped
  rw [Bool.and_eq_true]
  refine ⟨?_, decide_eq_true ?_⟩
  · simp [PyData.canLay0, h.1]
  · have := h.2
    simp only [PyData.depth]
    omega

theorem goal_str {S : List Stretch} {p : Int} : True := trivial
theorem p_law {K : PySem.W.Frag} (vs : List V) (H : Hp) (Q : VK) (E : XK) (h : spLaw K vs H Q E) : t_law K (sp_l_cell_at K) (sp_l_stretch K) (sp_goal_of K) { nx := fun _ H' => Q .non H', rt := Q } (L2.start n_law vs) H := by
  obtain ⟨a, ns, rfl, hS, hl, q⟩ := h
  unfold t_law
  walk_at "w"
  refine fun p1 h1 => ?_
  have s1 : Same H _ := same_lay (o := .lst [.int 22, .int (10 ^ (6 : Int).toNat)]) h1
  walk_at "w"
  refine ⟨a, ns, 0, rfl, s1.seq hS, by decide, ?_⟩
  walk_at "w"
  have hf : ∃ far : Int, 0 < far ∧ far < 1073741824 ∧ atI [V.int 22, .int (10 ^ (6 : Int).toNat)] (cellAt ns 0 % 2) = some (.int far) := by
    rw [pick2]
    by_cases c : cellAt ns 0 % 2 = 0
    · rw [if_pos c]
      exact ⟨22, by decide, by decide, rfl⟩
    · rw [if_neg c]
      exact ⟨1000000, by decide, by decide, rfl⟩
  obtain ⟨far, f0, f1, hfar⟩ := hf
  refine w_ixL (SqL.of upd_same) hfar ?_
  walk_at "w"
  refine ⟨a, ns, 1, rfl, s1.seq hS, by decide, ?_⟩
  walk_at "w"
  refine w_mod (by omega) ?_
  walk_at "w"
  refine w_slL (s1.seq hS) fun p2 h2 => ?_
  have s2 : Same H _ := s1.trans (same_lay (o := .lst (cutV (ns.map V.int) (some 2) none)) h2)
  refine w_refL (SqL.of upd_same) fun D hD => ?_
  have ecut : cutV (ns.map V.int) (some 2) none = (ns.drop 2).map V.int := by rw [List.map_drop]; exact cut_from _ 2
  generalize hH2 : upd (upd H p1 (.lst [.int 22, .int (10 ^ (6 : Int).toNat)])) p2 (.lst (cutV (ns.map V.int) (some 2) none)) = H2 at *
  have hp2 : H2 p2 = some (.lst (cutV (ns.map V.int) (some 2) none)) := by rw [← hH2]; exact upd_same
  refine lc_list (a := p2) (xs := cutV (ns.map V.int) (some 2) none) (fun i H' => Made K H2 D (((ns.drop 2).take i).map (stretchOf · far)) H')
    ⟨[], (Own.nil (Same.refl _)).take hD, .nil⟩ (fun i H' _ ⟨vs, w, _⟩ => w.same.seq (SqL.of hp2)) ?_ ?_
  · rintro i x H' hx hm
    rw [ecut, List.getElem?_map] at hx
    cases hc : (ns.drop 2)[i]? with
    | none => rw [hc] at hx; cases hx
    | some cell =>
    rw [hc] at hx
    cases hx
    walk_at "w"
    refine ⟨rfl, ?_⟩
    walk_at "w"
    refine ⟨cell, far, rfl, f0, f1, fun p3 h3 => ?_⟩
    exact hm.next h3 (by rw [List.length_map, List.length_take, List.length_drop]; omega) (take_map_snoc _ hc)
  · rintro H3 ⟨vs3, w3, r3⟩
    have s3 : Same H H3 := s2.trans w3.same
    with_reducible refine w_name ?_
    with_reducible refine w_cut (fun σ H4 => ∃ vs S x5 D4, σ = [some (.ref a), some (.int far), some (.int (cellAt ns 1 % (far + 2) - 2)), some (.ref D4), none, x5, none, none, none, none] ∧ Same H H4 ∧ H4 D4 = some (.lst vs) ∧ All2 (IsStr K H4) vs S ∧ S.length ≤ 1000) ?_ fun N key => ?_
    · rintro σ H4 ⟨vs, S, x5, D4, rfl, s4, hD4, r4, hl4⟩
      with_reducible refine w_cut (fun σ H5 => ∃ place, σ = [some (.ref a), some (.int far), some (.int place), some (.ref D4), none, x5, none, none, none, none] ∧ H5 = H4) ?_ fun N key => ?_
      · rintro σ H5 ⟨place, rfl, rfl⟩
        walk_at "w"
        refine w_listQ (SqL.of hD4) fun p5 h5 => ?_
        have s5 : Same H5 _ := same_lay (o := .lst vs) h5
        walk_at "w"
        have r5 := r4.mono fun _ _ q => IsTup.mono s5 q
        refine ⟨p5, vs, S, place, rfl, SqL.of upd_same, r5, ?_⟩
        walk_at "w"
        have hD5 : upd H5 p5 (.lst vs) D4 = some (.lst vs) := s5 _ _ hD4
        refine w_neD (.lst (SqL.of upd_same) (dp_str r5)) (.lst (SqL.of hD5) (dp_str r5)) (shaped_str S) (shaped_str S) ?_
        rw [SeqAt.eqv_refl _ (SeqAt.canLay_of_shaped (shaped_str S))]
        walk_at "w"
        refine w_refL (SqL.of hD5) (for_list (xs := vs) (fun i σ H6 => H6 = upd H5 p5 (.lst vs) ∧ goalOf (S.drop i) place = goalOf S place ∧ ∃ x9, σ = [some (.ref a), some (.int far), some (.int place), some (.ref D4), none, x5, none, some (.ref p5), some (goalV (goalOf S place)), x9])
          ⟨rfl, rfl, _, rfl⟩ (fun i σ H6 _ h => h.1 ▸ SqL.of hD5) ?_ ?_)
        · rintro i x σ H6 hx ⟨rfl, hg, x9, rfl⟩
          obtain ⟨s, ⟨b, rfl, hb⟩, hd⟩ := r5.drop i hx
          rw [hd] at hg
          walk_at "w"
          refine w_ixT hb rfl ?_
          walk_at "w"
          refine w_D (fun c1 => ?_) (fun c1 => ?_)
          · walk_at "w"
            refine w_ixT hb rfl ?_
            walk_at "w"
            refine w_D (fun c2 => ?_) (fun c2 => ?_)
            · have e : goalOf S place = some s.2.2 := by rw [← hg, goalOf, if_pos ⟨c1, c2⟩]
              rw [e]
              dsimp only [goalV]
              walk_at "w"
              refine w_ixT hb rfl ?_
              walk_at "w"
              rw [decide_eq_true rfl]
              exact q _
            · walk_at "w"
              refine ⟨rfl, ?_, _, rfl⟩
              rw [← hg, goalOf, if_neg (fun z => c2 z.2)]
          · walk_at "w"
            refine ⟨rfl, ?_, _, rfl⟩
            rw [← hg, goalOf, if_neg (fun z => c1 z.1)]
        · rintro σ H6 ⟨rfl, hg, x9, rfl⟩
          rw [r5.len, List.drop_length] at hg
          walk_at "w"
          rw [← hg]
          exact q _
      · walk_at "w"
        refine w_lenL (SqL.of hD4) ?_
        walk_at "w"
        have aS := s4.seq hS
        refine w_D (fun c => ?_) (fun c => ?_)
        · walk_at "w"
          refine ⟨a, ns, 1, rfl, aS, by decide, ?_⟩
          walk_at "w"
          refine w_D (fun c2 => ?_) (fun c2 => ?_)
          · walk_at "w"
            refine w_lenL (SqL.of hD4) ?_
            walk_at "w"
            have hn : 0 < vs.length := by omega
            obtain ⟨s, hs1, b, hs2, hb⟩ : ∃ s, vs[vs.length - 1]? = some s ∧ ∃ b, s = V.ref b ∧ ∃ st : Stretch, SqT K H4 b [V.int st.1, .int st.2.1, .int st.2.2] := by
              have hn2 : vs.length - 1 < S.length := by rw [← r4.len]; omega
              obtain ⟨s, h1, b, h2, h3⟩ := r4.get (i := vs.length - 1) (b := S[vs.length - 1]) (List.getElem?_eq_getElem hn2)
              exact ⟨s, h1, b, h2, _, h3⟩
            subst hs2
            obtain ⟨st, hb⟩ := hb
            refine w_ixL (SqL.of hD4) (atI_ok (v := .ref b) (by omega) ?_) ?_
            · rw [← hs1]
              congr 1
              omega
            walk_at "w"
            refine ⟨a, ns, 1, rfl, aS, by decide, ?_⟩
            walk_at "w"
            have pk : ∃ z : Int, atI [V.int st.1, .int st.2.1, .int st.2.2] (cellAt ns 1 / 21 % 2) = some (.int z) := by
              rcases (by omega : cellAt ns 1 / 21 % 2 = 0 ∨ cellAt ns 1 / 21 % 2 = 1) with h | h <;> rw [h] <;> exact ⟨_, rfl⟩
            obtain ⟨z, hz⟩ := pk
            refine w_ixT hb hz ?_
            walk_at "w"
            refine ⟨a, ns, 1, rfl, aS, by decide, ?_⟩
            walk_at "w"
            exact key _ _ ⟨_, rfl, rfl⟩
          · walk_at "w"
            exact key _ _ ⟨_, rfl, rfl⟩
        · walk_at "w"
          exact key _ _ ⟨_, rfl, rfl⟩
    · walk_at "w"
      have aS := s3.seq hS
      have len3 : (cutV (ns.map V.int) (some 2) none).length ≤ 63 := by
        have := cutV_length (ns.map V.int) (some 2) none
        rw [List.length_map] at this
        omega
      refine ⟨a, ns, 0, rfl, aS, by decide, ?_⟩
      walk_at "w"
      refine w_D (fun c => ?_) (fun c => ?_)
      · walk_at "w"
        refine ⟨a, ns, 0, rfl, aS, by decide, ?_⟩
        walk_at "w"
        refine w_r1 (by omega) (by omega) fun D2 hD2 => ?_
        refine lc_range (n := (cellAt ns 0 / 8 % 61).toNat) (fun i H' => Made K H3 D2 ((List.range i).map fun (k : Nat) => stretchOf (cellAt ns 2 * 48271 % 1000003 * ((k : Int) + 1)) far) H')
          ⟨[], (Own.nil (Same.refl _)).take hD2, .nil⟩ ?_ ?_
        · rintro i H' hi hm
          obtain ⟨vs4, w4, _⟩ := id hm
          walk_at "w"
          refine ⟨rfl, ?_⟩
          walk_at "w"
          refine ⟨a, ns, 2, rfl, w4.same.seq aS, by decide, ?_⟩
          walk_at "w"
          refine w_mulL (by omega) (by omega) ?_
          walk_at "w"
          refine ⟨_, far, rfl, f0, f1, fun p3 h3 => ?_⟩
          refine hm.next h3 (by rw [List.length_map, List.length_range]; omega) ?_
          rw [List.range_succ, List.map_append, Int.zero_add]
          rfl
        · rintro H4 ⟨vs4, w4, r4⟩
          refine key _ _ ⟨vs4, _, _, D2, rfl, s3.trans w4.same, w4.ix 0 rfl, r4, ?_⟩
          rw [List.length_map, List.length_range]
          omega
      · walk_at "w"
        refine key _ _ ⟨vs3, _, _, D, rfl, s3, w3.ix 0 rfl, r3, ?_⟩
        rw [List.length_map, List.length_take]
        omega
end U

set_option maxHeartbeats 8000000
namespace Lw
open PySem PySem.Spec PyProof.Rows L2 Un U

local macro_rules | `(tactic| walk_at "len") => `(tactic| (intro vs H Q E h; first
  | (obtain ⟨e, _⟩ := h; exact (congrArg List.length e).trans rfl) | (obtain ⟨_, e, _⟩ := h; exact (congrArg List.length e).trans rfl) | (obtain ⟨_, _, e, _⟩ := h; exact (congrArg List.length e).trans rfl) | (obtain ⟨_, _, _, e, _⟩ := h; exact (congrArg List.length e).trans rfl) | (obtain ⟨_, _, _, _, e, _⟩ := h; exact (congrArg List.length e).trans rfl) | (obtain ⟨_, _, _, _, _, e, _⟩ := h; exact (congrArg List.length e).trans rfl) | (obtain ⟨_, _, _, _, _, _, e, _⟩ := h; exact (congrArg List.length e).trans rfl) | (obtain ⟨_, _, _, _, _, _, _, e, _⟩ := h; exact (congrArg List.length e).trans rfl) | (obtain ⟨_, _, _, _, _, _, _, _, e, _⟩ := h; exact (congrArg List.length e).trans rfl) | (obtain ⟨_, _, _, _, _, _, _, _, _, e, _⟩ := h; exact (congrArg List.length e).trans rfl) | (obtain ⟨_, _, _, _, _, _, _, _, _, _, e, _⟩ := h; exact (congrArg List.length e).trans rfl) | (obtain ⟨_, _, _, _, _, _, _, _, _, _, _, e, _⟩ := h; exact (congrArg List.length e).trans rfl) | (obtain ⟨_, _, _, _, _, _, _, _, _, _, _, _, e, _⟩ := h; exact (congrArg List.length e).trans rfl) | (obtain ⟨_, _, _, _, _, _, _, _, _, _, _, _, _, e, _⟩ := h; exact (congrArg List.length e).trans rfl) | (obtain ⟨_, _, _, _, _, _, _, _, _, _, _, _, _, _, e, _⟩ := h; exact (congrArg List.length e).trans rfl) | (obtain ⟨_, _, _, _, _, _, _, _, _, _, _, _, _, _, _, e, _⟩ := h; exact (congrArg List.length e).trans rfl) | (obtain ⟨_, _, _, _, _, _, _, _, _, _, _, _, _, _, _, _, e, _⟩ := h; exact (congrArg List.length e).trans rfl) | (obtain ⟨_, _, _, _, _, _, _, _, _, _, _, _, _, _, _, _, _, e, _⟩ := h; exact (congrArg List.length e).trans rfl) | (obtain ⟨_, _, _, _, _, _, _, _, _, _, _, _, _, _, _, _, _, _, e, _⟩ := h; exact (congrArg List.length e).trans rfl) | (obtain ⟨_, _, _, _, _, _, _, _, _, _, _, _, _, _, _, _, _, _, _, e, _⟩ := h; exact (congrArg List.length e).trans rfl) | (obtain ⟨_, _, _, _, _, _, _, _, _, _, _, _, _, _, _, _, _, _, _, _, e, _⟩ := h; exact (congrArg List.length e).trans rfl) | (obtain ⟨_, _, _, _, _, _, _, _, _, _, _, _, _, _, _, _, _, _, _, _, _, e, _⟩ := h; exact (congrArg List.length e).trans rfl)))
/-! ### the text by places -/
def top (i : Nat) : Stmt := PySem.Challenge.pw_unwind_k02_the_first_stretch.main.body.getD i (.Pass ⟨0, 0, 0, 0⟩)
abbrev s_goal_of : Stmt := top 1
abbrev s_l_cell_at : Stmt := top 3
abbrev s_l_stretch : Stmt := top 4
abbrev s_law : Stmt := top 5
/-! ### what the head tells -/
def d_goal_of : He.FnD := ⟨("goal_of", none), "goal_of", "goal_of", defArgs s_goal_of, defBody s_goal_of, defScope s_goal_of⟩
def d_l_cell_at : He.FnD := ⟨("_law_cell_at", none), "_law_cell_at", "_law_cell_at", defArgs s_l_cell_at, defBody s_l_cell_at, defScope s_l_cell_at⟩
def d_l_stretch : He.FnD := ⟨("_law_stretch", none), "_law_stretch", "_law_stretch", defArgs s_l_stretch, defBody s_l_stretch, defScope s_l_stretch⟩
def d_law : He.FnD := ⟨("law", none), "law", "law", defArgs s_law, defBody s_law, defScope s_law⟩
def fn : List He.FnD := ([d_goal_of, d_l_cell_at, d_l_stretch, d_law] : List He.FnD)
def fa : List He.Fa := ([.glo "goal_of", .keep "goal_of", .glo "_law_cell_at", .keep "_law_cell_at", .glo "_law_stretch", .keep "_law_stretch", .glo "law", .keep "law", .free "bool", .free "int", .free "isinstance", .free "len", .free "list", .free "range"] : List He.Fa)
def loose : List PySem.Str := (["goal_of", "_law_cell_at", "_law_stretch"] : List PySem.Str)

abbrev R : PySem.W.OpenRow := PySem.W.OpenLaw.row PySem.Challenge.rw_unwind_k02_the_first_stretch
abbrev hk : PySem.W.Hook := He.hookE 5 fa fn
def ob (s : PySem.W.SharedT) : He.Al := He.obsG 5 fa fn (HandSHeadRun.getT s)
theorem ob_eq (s : PySem.W.SharedT) : ob s = hk.obs s.abs := He.obsG_eq (HandSHeadRun.getT_eq s)
theorem run (w : World) : HandSHeadRun.RunEq R (PySem.W.view R.prog [5]) hk ob 30000 loose w := by
  intro os
  kernel_rfl

structure Tx (Z : Zt) : Prop where
  says : He.SaysE fa fn Z.K
  kin : Z.K.In Z.base
  ns : Z.base.Ns mainGlobals Z.mg
  seer : Z.base.NoSeer
  tree : Z.P.given.tree = none
section
variable {Z : Zt}
theorem g_goal_of (T : Tx Z) : Z.mg "goal_of" = some (.ref (He.ga Z.K "goal_of")) := He.glo_ok T.kin T.ns (T.says.fact 0 (f := .glo "goal_of") rfl)
theorem kp_goal_of (T : Tx Z) : PySem.W.keepIn Z.K (.ref (He.ga Z.K "goal_of")) = true := He.keep_ok (T.says.fact 1 (f := .keep "goal_of") rfl)
theorem g_l_cell_at (T : Tx Z) : Z.mg "_law_cell_at" = some (.ref (He.ga Z.K "_law_cell_at")) := He.glo_ok T.kin T.ns (T.says.fact 2 (f := .glo "_law_cell_at") rfl)
theorem kp_l_cell_at (T : Tx Z) : PySem.W.keepIn Z.K (.ref (He.ga Z.K "_law_cell_at")) = true := He.keep_ok (T.says.fact 3 (f := .keep "_law_cell_at") rfl)
theorem g_l_stretch (T : Tx Z) : Z.mg "_law_stretch" = some (.ref (He.ga Z.K "_law_stretch")) := He.glo_ok T.kin T.ns (T.says.fact 4 (f := .glo "_law_stretch") rfl)
theorem kp_l_stretch (T : Tx Z) : PySem.W.keepIn Z.K (.ref (He.ga Z.K "_law_stretch")) = true := He.keep_ok (T.says.fact 5 (f := .keep "_law_stretch") rfl)
theorem g_law (T : Tx Z) : Z.mg "law" = some (.ref (He.ga Z.K "law")) := He.glo_ok T.kin T.ns (T.says.fact 6 (f := .glo "law") rfl)
theorem kp_law (T : Tx Z) : PySem.W.keepIn Z.K (.ref (He.ga Z.K "law")) = true := He.keep_ok (T.says.fact 7 (f := .keep "law") rfl)
theorem g_bool (T : Tx Z) : Z.mg "bool" = none := He.free_ok T.kin T.ns (T.says.fact 8 (f := .free "bool") rfl)
theorem g_int (T : Tx Z) : Z.mg "int" = none := He.free_ok T.kin T.ns (T.says.fact 9 (f := .free "int") rfl)
theorem g_isinstance (T : Tx Z) : Z.mg "isinstance" = none := He.free_ok T.kin T.ns (T.says.fact 10 (f := .free "isinstance") rfl)
theorem g_len (T : Tx Z) : Z.mg "len" = none := He.free_ok T.kin T.ns (T.says.fact 11 (f := .free "len") rfl)
theorem g_list (T : Tx Z) : Z.mg "list" = none := He.free_ok T.kin T.ns (T.says.fact 12 (f := .free "list") rfl)
theorem g_range (T : Tx Z) : Z.mg "range" = none := He.free_ok T.kin T.ns (T.says.fact 13 (f := .free "range") rfl)
theorem fx_goal_of (T : Tx Z) : ∃ fd, FunE Z.K "goal_of" "goal_of" s_goal_of (He.fAd Z.K ("goal_of", none)) fd := fun_of (T.says.def_ 0 (d := d_goal_of) rfl)
theorem fx_l_cell_at (T : Tx Z) : ∃ fd, FunE Z.K "_law_cell_at" "_law_cell_at" s_l_cell_at (He.fAd Z.K ("_law_cell_at", none)) fd := fun_of (T.says.def_ 1 (d := d_l_cell_at) rfl)
theorem fx_l_stretch (T : Tx Z) : ∃ fd, FunE Z.K "_law_stretch" "_law_stretch" s_l_stretch (He.fAd Z.K ("_law_stretch", none)) fd := fun_of (T.says.def_ 2 (d := d_l_stretch) rfl)
theorem fx_law (T : Tx Z) : ∃ fd, FunE Z.K "law" "law" s_law (He.fAd Z.K ("law", none)) fd := fun_of (T.says.def_ 3 (d := d_law) rfl)
end
section
variable {Z : Zt} {n : Nat}
theorem sc_goal_of : FnScope n_goal_of ["stretches", "place"] (defScope s_goal_of) := ⟨rfl, rfl, rfl, by decide +kernel, rfl, by decide +kernel, by decide +kernel⟩
theorem dv_goal_of (T : Tx Z) {sp : Sp} (len : ∀ vs H Q E, sp vs H Q E → vs.length = 2)
    (pure : ∀ (vs : List V) (H : Hp) (Q : VK) (E : XK), sp vs H Q E → t_goal_of Z.K { nx := fun _ H' => Q .non H', rt := Q } (L2.start n_goal_of vs) H) : Cal Z CX0 (n + 1) "goal_of" ["stretches", "place"] sp := by
  obtain ⟨fd, F⟩ := fx_goal_of T
  have B : L2.Binds Z.K fd ["stretches", "place"] [] := F.binds fun _ _ _ _ _ _ us hl => match us, hl with | [_, _], _ => rfl
  refine ⟨⟨_, fd, g_goal_of T, kp_goal_of T, B, mkR (tb := t_goal_of Z.K) F sc_goal_of len (fun cdv A outer s H E hr => ?_) pure⟩⟩
  skip
  exact (pss_cons (ps_for PassesOwn.never rfl (pi_list (pv 0)) (pg_name (i := 2) sc_goal_of.nd rfl (Or.inl rfl)) (pss_one (ps_if (PW.pt (pw_and (pt_cmpR op_leI (pe_ix ix_tup (pv 2) pe_int (fun _ _ => rfl)) (pv 1) (nomark _)) (pw_and1 (pt_cmpR op_ltI (pv 1) (pe_ix ix_tup (pv 2) pe_int (fun _ _ => rfl)) (nomark _))))) (pss_one (ps_ret (pe_ix ix_tup (pv 2) pe_int (fun _ _ => rfl)))) pss_nil)))
    (pss_one (ps_ret pe_non)))
theorem sc_l_cell_at : FnScope n_l_cell_at ["_law_script", "_law_k"] (defScope s_l_cell_at) := ⟨rfl, rfl, rfl, by decide +kernel, rfl, by decide +kernel, by decide +kernel⟩
theorem dv_l_cell_at (T : Tx Z) {sp : Sp} (len : ∀ vs H Q E, sp vs H Q E → vs.length = 2)
    (pure : ∀ (vs : List V) (H : Hp) (Q : VK) (E : XK), sp vs H Q E → t_l_cell_at Z.K { nx := fun _ H' => Q .non H', rt := Q } (L2.start n_l_cell_at vs) H) : Cal Z CX0 (n + 1) "_law_cell_at" ["_law_script", "_law_k"] sp := by
  obtain ⟨fd, F⟩ := fx_l_cell_at T
  have B : L2.Binds Z.K fd ["_law_script", "_law_k"] [] := F.binds fun _ _ _ _ _ _ us hl => match us, hl with | [_, _], _ => rfl
  refine ⟨⟨_, fd, g_l_cell_at T, kp_l_cell_at T, B, mkR (tb := t_l_cell_at Z.K) F sc_l_cell_at len (fun cdv A outer s H E hr => ?_) pure⟩⟩
  skip
  exact (pss_cons (ps_if (pt_cmpR op_ltI (pv 1) (pe_callB call_lenQ (by rfl) (g_len T) PySem.boot_len (pa_cons (pv 0) pa_nil)) (nomark _)) (pss_one (ps_ret (pe_ix ix_list (pv 0) (pv 1) (fun _ _ => rfl)))) pss_nil)
    (pss_one (ps_ret pe_int)))
theorem sc_l_stretch : FnScope n_l_stretch ["_law_cell", "_law_far"] (defScope s_l_stretch) := ⟨rfl, rfl, rfl, by decide +kernel, rfl, by decide +kernel, by decide +kernel⟩
theorem dv_l_stretch (T : Tx Z) {sp : Sp} (len : ∀ vs H Q E, sp vs H Q E → vs.length = 2)
    (pure : ∀ (vs : List V) (H : Hp) (Q : VK) (E : XK), sp vs H Q E → t_l_stretch Z.K { nx := fun _ H' => Q .non H', rt := Q } (L2.start n_l_stretch vs) H) : Cal Z CX0 (n + 1) "_law_stretch" ["_law_cell", "_law_far"] sp := by
  obtain ⟨fd, F⟩ := fx_l_stretch T
  have B : L2.Binds Z.K fd ["_law_cell", "_law_far"] [] := F.binds fun _ _ _ _ _ _ us hl => match us, hl with | [_, _], _ => rfl
  refine ⟨⟨_, fd, g_l_stretch T, kp_l_stretch T, B, mkR (tb := t_l_stretch Z.K) F sc_l_stretch len (fun cdv A outer s H E hr => ?_) pure⟩⟩
  skip
  exact (pss_cons (ps_set (i := 2) sc_l_stretch.nd rfl (Or.inl rfl) (pe_op op_subI (pe_op op_modP (pv 0) (pv 1)) pe_int))
    (pss_one (ps_ret (pe_tup (pa_cons (pv 2) (pa_cons (pe_op op_addI (pv 2) (pe_op op_modP (pe_op op_fdC (pv 0) (pv 1)) pe_int)) (pa_cons (pe_op op_modP (pe_op op_fdC (pe_op op_fdC (pv 0) (pv 1)) pe_int) pe_int) pa_nil)))))))
theorem sc_law : FnScope n_law ["_law_script"] (defScope s_law) := ⟨rfl, rfl, rfl, by decide +kernel, rfl, by decide +kernel, by decide +kernel⟩
theorem dv_law (T : Tx Z) {k_l_cell_at : Nat} {ps_l_cell_at : List Str} {sp_l_cell_at : Sp} (c_l_cell_at : Cal Z CX0 k_l_cell_at "_law_cell_at" ps_l_cell_at sp_l_cell_at) (h_l_cell_at : k_l_cell_at ≤ n) {k_l_stretch : Nat} {ps_l_stretch : List Str} {sp_l_stretch : Sp} (c_l_stretch : Cal Z CX0 k_l_stretch "_law_stretch" ps_l_stretch sp_l_stretch) (h_l_stretch : k_l_stretch ≤ n) {k_goal_of : Nat} {ps_goal_of : List Str} {sp_goal_of : Sp} (c_goal_of : Cal Z CX0 k_goal_of "goal_of" ps_goal_of sp_goal_of) (h_goal_of : k_goal_of ≤ n) {sp : Sp} {fd : FuncData} (F : FunE Z.K "law" "law" s_law (He.fAd Z.K ("law", none)) fd) (len : ∀ vs H Q E, sp vs H Q E → vs.length = 1)
    (pure : ∀ (vs : List V) (H : Hp) (Q : VK) (E : XK), sp vs H Q E → t_law Z.K sp_l_cell_at sp_l_stretch sp_goal_of { nx := fun _ H' => Q .non H', rt := Q } (L2.start n_law vs) H) : FnR Z CX0 (n + 1) (He.ga Z.K "law") fd ["_law_script"] sp := by
  refine mkR (tb := t_law Z.K sp_l_cell_at sp_l_stretch sp_goal_of) F sc_law len (fun cdv A outer s H E hr => ?_) pure
  have r_l_cell_at := hr.mono h_l_cell_at
  have r_l_stretch := hr.mono h_l_stretch
  have r_goal_of := hr.mono h_goal_of
  exact (pss_cons (ps_set (i := 1) sc_law.nd rfl (Or.inr rfl) (pe_ix ix_list (pe_lst (pa_cons pe_int (pa_cons (pe_op op_powI pe_int pe_int) pa_nil))) (pe_op op_modP (pcal c_l_cell_at r_l_cell_at (by rfl) pass0 (pa_cons (pv 0) (pa_cons pe_int pa_nil))) pe_int) (fun _ _ => rfl)))
    (pss_cons (ps_set (i := 2) sc_law.nd rfl (Or.inl rfl) (pe_op op_subI (pe_op op_modP (pcal c_l_cell_at r_l_cell_at (by rfl) pass0 (pa_cons (pv 0) (pa_cons pe_int pa_nil))) (pe_op op_addI (pv 1) pe_int)) pe_int))
    (pss_cons (ps_setLc (i := 3) (own := [("_law_cell", 4)]) (g := gName 4) (tt := tYes) rfl sc_law.nd rfl rfl (sw_true rfl rfl rfl (by decide +kernel)) (pi_list (pe_slice sl_list (pv 0) (po_some pe_int) po_none)) (blkOk_by (N := ["_law_script", "_law_far", "_law_place", "_law_rows", "_law_cell", "_law_many", "_law_k", "_law_handed", "_law_found", "_law_row"]) (sc := defScope s_law) (by decide +kernel)) (fun _ _ _ _ _ => pg_name (i := 4) sc_law.nd rfl (Or.inl rfl)) (fun _ _ _ _ _ => pts_nil) (fun _ _ _ _ _ => (pcal c_l_stretch r_l_stretch (by rfl) pass0 (pa_cons (pv 4) (pa_cons (pv 1) pa_nil)))))
    (pss_cons (ps_if (pt_cmpR op_eq (pe_op op_modP (pe_op op_fdC (pcal c_l_cell_at r_l_cell_at (by rfl) pass0 (pa_cons (pv 0) (pa_cons pe_int pa_nil))) pe_int) pe_int) pe_int (nomark _)) (pss_cons (ps_set (i := 5) sc_law.nd rfl (Or.inl rfl) (pe_op op_modP (pe_op op_fdC (pcal c_l_cell_at r_l_cell_at (by rfl) pass0 (pa_cons (pv 0) (pa_cons pe_int pa_nil))) pe_int) pe_int))
    (pss_one (ps_setLc (i := 3) (own := [("_law_k", 6)]) (g := gName 6) (tt := tYes) rfl sc_law.nd rfl rfl (sw_true rfl rfl rfl (by decide +kernel)) (pi_range1 (by rfl) (g_range T) (pa_cons (pv 5) pa_nil)) (blkOk_by (N := ["_law_script", "_law_far", "_law_place", "_law_rows", "_law_cell", "_law_many", "_law_k", "_law_handed", "_law_found", "_law_row"]) (sc := defScope s_law) (by decide +kernel)) (fun _ _ _ _ _ => pg_name (i := 6) sc_law.nd rfl (Or.inl rfl)) (fun _ _ _ _ _ => pts_nil) (fun _ _ _ _ _ => (pcal c_l_stretch r_l_stretch (by rfl) pass0 (pa_cons (pe_op op_mulI (pe_op op_modP (pe_op op_mulI (pcal c_l_cell_at r_l_cell_at (by rfl) pass0 (pa_cons (pv 0) (pa_cons pe_int pa_nil))) pe_int) pe_int) (pe_op op_addI (pv 6) pe_int)) (pa_cons (pv 1) pa_nil))))))) pss_nil)
    (pss_cons (ps_if (PW.pt (pw_and (pt_cmpR op_gtI (pe_callB call_lenQ (by rfl) (g_len T) PySem.boot_len (pa_cons (pv 3) pa_nil)) pe_int (nomark _)) (pw_and1 (pt_cmpR op_eq (pe_op op_modP (pe_op op_fdC (pcal c_l_cell_at r_l_cell_at (by rfl) pass0 (pa_cons (pv 0) (pa_cons pe_int pa_nil))) pe_int) pe_int) pe_int (nomark _))))) (pss_one (ps_set (i := 2) sc_law.nd rfl (Or.inl rfl) (pe_op op_subI (pe_ix ix_tup (pe_ix ix_list (pv 3) (pe_op op_subI (pe_callB call_lenQ (by rfl) (g_len T) PySem.boot_len (pa_cons (pv 3) pa_nil)) pe_int) (fun _ _ => rfl)) (pe_op op_modP (pe_op op_fdC (pcal c_l_cell_at r_l_cell_at (by rfl) pass0 (pa_cons (pv 0) (pa_cons pe_int pa_nil))) pe_int) pe_int) (fun _ _ => rfl)) (pe_op op_modP (pe_op op_fdC (pcal c_l_cell_at r_l_cell_at (by rfl) pass0 (pa_cons (pv 0) (pa_cons pe_int pa_nil))) pe_int) pe_int)))) pss_nil)
    (pss_cons (ps_set (i := 7) sc_law.nd rfl (Or.inl rfl) (pe_callTy call_listQ (by rfl) (g_list T) (by decide +kernel) (pa_cons (pv 3) pa_nil)))
    (pss_cons (ps_set (i := 8) sc_law.nd rfl (Or.inl rfl) (pcal c_goal_of r_goal_of (by rfl) pass0 (pa_cons (pv 7) (pa_cons (pv 2) pa_nil))))
    (pss_cons (ps_if (pt_cmpR (op_neD hr.hu) (pv 7) (pv 3) (nomark _)) (pss_one (ps_ret pe_bl)) pss_nil)
    (pss_cons (ps_for PassesOwn.never rfl (pi_list (pv 3)) (pg_name (i := 9) sc_law.nd rfl (Or.inl rfl)) (pss_one (ps_if (PW.pt (pw_and (pt_cmpR op_leI (pe_ix ix_tup (pv 9) pe_int (fun _ _ => rfl)) (pv 2) (nomark _)) (pw_and1 (pt_cmpR op_ltI (pv 2) (pe_ix ix_tup (pv 9) pe_int (fun _ _ => rfl)) (nomark _))))) (pss_one (ps_ret (pe_and (pe_callB call_isi (by rfl) (g_isinstance T) (by decide +kernel) (pa_cons (pv 8) (pa_cons (pe_bltn (v := .ty "int") (by rfl) (g_int T) (by decide +kernel) rfl) pa_nil))) (pe_and (pe_not (pe_callB call_isi (by rfl) (g_isinstance T) (by decide +kernel) (pa_cons (pv 8) (pa_cons (pe_bltn (v := .ty "bool") (by rfl) (g_bool T) (by decide +kernel) rfl) pa_nil)))) (pe_one (pe_cmpR op_eq (pv 8) (pe_ix ix_tup (pv 9) pe_int (fun _ _ => rfl)) (nomark _))))))) pss_nil)))
    (pss_one (ps_ret (pe_cmpR op_isNo (pv 8) pe_non (nomark _)))))))))))))
end

section
variable {Z : Zt}
theorem ok_goal_of (T : Tx Z) : Cal Z CX0 1 "goal_of" ["stretches", "place"] (sp_goal_of Z.K) := dv_goal_of (n := 0) T (by walk_at "len") p_goal_of
theorem ok_l_cell_at (T : Tx Z) : Cal Z CX0 1 "_law_cell_at" ["_law_script", "_law_k"] (sp_l_cell_at Z.K) := dv_l_cell_at (n := 0) T (by walk_at "len") p_l_cell_at
theorem ok_l_stretch (T : Tx Z) : Cal Z CX0 1 "_law_stretch" ["_law_cell", "_law_far"] (sp_l_stretch Z.K) := dv_l_stretch (n := 0) T (by walk_at "len") p_l_stretch
theorem ok_law (T : Tx Z) {fd : FuncData} (F : FunE Z.K "law" "law" s_law (He.fAd Z.K ("law", none)) fd) : FnR Z CX0 2 (He.ga Z.K "law") fd ["_law_script"] (spLaw Z.K) := dv_law (n := 1) T (ok_l_cell_at T) (by decide) (ok_l_stretch T) (by decide) (ok_goal_of T) (by decide) F (by walk_at "len") p_law
end

theorem g_law0 {K : PySem.W.Frag} {h : Heap} {mg : Str → Option Value} (KX : K.In h) (G : h.Ns mainGlobals mg) (c : He.SaysE fa fn K) : mg "law" = some (.ref (He.ga K "law")) := He.glo_ok KX G (c.fact 6 (f := .glo "law") rfl)


theorem fin {w : World} {K : PySem.W.Frag} {h : Heap} {mg : Str → Option Value} (KX : K.In h) (G : h.Ns mainGlobals mg) (c : He.SaysE fa fn K) {fl : Addr} (hmg : mg "law" = some (.ref fl)) :
    ∃ (K : PySem.W.Frag) (fd : FuncData) (sp : Sp), K.In h ∧ (∀ (s : Shared) (u : Value), BindsTo s fd ⟨[u], []⟩ [("_law_script", u)]) ∧
      (∀ (H : Hp) (a : Addr) (ns : List Int), ns.length ≤ 63 → Only H → SqL K H a (ns.map V.int) → sp [.ref a] H (fun v _ => v = .bl true) fun _ _ _ => False) ∧
      ∀ base : Heap, K.In base → base.Ns mainGlobals mg → base.NoSeer → U.FnR ⟨(PySem.Challenge.rw_unwind_k02_the_first_stretch).prog, w, K, mg, base⟩ CX0 2 fl fd ["_law_script"] sp := by
  have e0 := hmg.symm.trans (g_law0 KX G c)
  cases e0
  obtain ⟨fd, F⟩ := fun_of (Z := ⟨PySem.Challenge.pw_unwind_k02_the_first_stretch, w, K, mg, h⟩) (f := He.fAd K ("law", none)) (x := "law") (qual := "law") (st := s_law) (c.def_ 3 (d := d_law) rfl)
  refine ⟨K, fd, spLaw K, KX, fun s u => ?_, fun H a ns hl _ hS => ⟨a, ns, rfl, hS, hl, fun _ => rfl⟩, fun base KB GB NB => ?_⟩
  · obtain ⟨oc, od, kV, doc, pm, an, cdv, ct, osl, rfl, _, _⟩ := F.ex
    exact .of_eq rfl
  · have T : Tx ⟨(PySem.Challenge.rw_unwind_k02_the_first_stretch).prog, w, K, mg, base⟩ := ⟨c, KB, GB, NB, rfl⟩
    exact ok_law T F


end Lw
open PySem PySem.W PySem.Calls PyProof.Rows
set_option maxRecDepth 100000 in
set_option maxHeartbeats 0 in
theorem PySem.Challenge.cw_unwind_k02_the_first_stretch_holds : PySem.Challenge.rw_unwind_k02_the_first_stretch.Holds := by
  w_on; o_law
  refine HandSHeadRun.head_any (r := OpenLaw.row PySem.Challenge.rw_unwind_k02_the_first_stretch) (q := view (OpenLaw.row PySem.Challenge.rw_unwind_k02_the_first_stretch).prog [5]) (H := Lw.hk) (ob := Lw.ob) (M := 30000) (loose := Lw.loose) (d := HandSHeadRun.topDef (OpenLaw.row PySem.Challenge.rw_unwind_k02_the_first_stretch).prog 5) (kwd := []) Lw.ob_eq
    (by kernel_rfl) (fun s => by kernel_rfl) Lw.run (by kernel_rfl) (by kernel_rfl) (by kernel_rfl) (by rfl) (by first | assumption | decide +kernel) (by decide +kernel) ⟨rfl, rfl, rfl, rfl, rfl, by decide +kernel⟩ ?hw ?hc
  case hw => w_witness2
  case hc =>
    refine U.walkU (l := PySem.Challenge.rw_unwind_k02_the_first_stretch) (n := 2) (x := "_law_script") rfl (by kernel_rfl) (by decide +kernel) (by decide) ?F
    intro w mg fa h Y G hmg0
    obtain ⟨K, KX, c⟩ := Y
    have e : (HandSHeadRun.topDef (OpenLaw.row PySem.Challenge.rw_unwind_k02_the_first_stretch).prog 5).name = ("law" : PySem.Str) := by kernel_rfl
    have hmg : mg ("law" : PySem.Str) = some (.ref fa) := by
      rw [← e]
      exact hmg0
    exact Lw.fin (w := w) KX G c hmg


