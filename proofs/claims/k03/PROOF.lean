import PyProof.Rows.All
import Wide.All
import OpenK.AllK
import Wide.FinOn
import HandS.ForMost
import HandS.IsInst
import HandS.HeadHook1
import PyProof.NoPylong
import HandS.Head0
import HandS.Head1
import HandS.Head2
import HandS.HeadEnd
import PySem.Challenge.RW_unwind_k03_plain_rows
set_option Elab.async false
set_option linter.all false
set_option maxRecDepth 100000
set_option maxHeartbeats 4000000
namespace U
open PySem PySem.Spec PyProof.Rows L2

/-! ### room: one frame a level -/
structure Rm (n : Nat) (A : Around) : Prop where
  noh : A.handled = none
  fr : A.depth + n + 105 < recursionLimit
  cu : A.units + 4 * n + 400 < cLine
theorem Rm.mono {m n : Nat} {A : Around} (r : Rm n A) (h : m ≤ n) : Rm m A :=
  ⟨r.noh, by have q := r.fr; omega, by have q := r.cu; omega⟩
theorem Rm.down {n : Nat} {A : Around} (r : Rm (n + 1) A) (env : Env) : Rm n (A.deeper env) := by
  refine ⟨r.noh, ?_, ?_⟩
  · have q := r.fr
    show A.depth + 1 + n + 105 < _
    omega
  · have q := r.cu
    show A.units + 3 + 4 * n + 400 < _
    omega
theorem Rm.mk_ {n : Nat} {A : Around} (r : Rm (n + 1) A) (C : Addr) (us : List Value) (kw : List (Str × Value)) :
    Rm n (A.under (.builtin "type.__call__" ⟨.ref C :: us, kw⟩)) := by
  refine ⟨r.noh, ?_, ?_⟩
  · have q := r.fr
    rw [make_depth]
    omega
  · have q := r.cu
    rw [make_units]
    omega
theorem Rm.rm {n : Nat} {A : Around} (r : Rm n A) : Room 6 A :=
  ⟨r.noh, by have q := r.fr; omega, by have q := r.cu; omega⟩
theorem Rm.dep {n : Nat} {A : Around} (r : Rm n A) : A.depth < recursionLimit := by
  have q := r.fr
  omega
theorem Rm.hu {n : Nat} {A : Around} (r : Rm n A) : A.units + 64 < cLine := by
  have q := r.cu
  omega

/-! ### the surroundings of a text -/
structure Zt where
  P : Program
  w : World
  K : PySem.W.Frag
  mg : Str → Option Value
  base : Heap

/-- a def that keeps its promise wherever n more frames have room -/
structure FnR (Z : Zt) (CX : CXT) (n : Nat) (f : Addr) (fd : FuncData) (ps : List Str) (sp : Sp) : Prop where
  len : ∀ vs H Q E, sp vs H Q E → vs.length = ps.length
  run : ∀ (A : Around) (outer : List Env) (s : Shared) (H : Hp) (args : Args) (us : List Value) (vs : List V) (Q : VK) (E : XK),
    Rm n A → Env0 Z.P Z.w Z.K Z.mg Z.base A outer s H → BindsTo s fd args (ps.zip us) → Vals vs us → sp vs H Q E →
      codeAny (model Z.P Z.w) A (.call (.ref f) args) (CR CX outer Z.P Z.w H s Q E) s

theorem FnR.up {Z : Zt} {CX : CXT} {m n : Nat} {f : Addr} {fd : FuncData} {ps : List Str} {sp : Sp} (F : FnR Z CX m f fd ps sp) (h : m ≤ n) : FnR Z CX n f fd ps sp :=
  ⟨F.len, fun A outer s H args us vs Q E hr => F.run A outer s H args us vs Q E (hr.mono h)⟩

theorem FnR.toOk {Z : Zt} {CX : CXT} {n : Nat} {f : Addr} {fd : FuncData} {ps : List Str} {sp : Sp} (F : FnR Z CX n f fd ps sp) (h : n ≤ 500) :
    FnOk Z.P Z.w Z.K Z.mg Z.base CX 231 f fd ps sp := by
  refine ⟨F.len, fun A outer s H args us vs Q E hr => F.run A outer s H args us vs Q E ⟨hr.hd, ?_, ?_⟩⟩
  · have q := hr.dp
    omega
  · have q := hr.un
    omega

section
variable {X : Cx} {CX : CXT} {n : Nat} {f C : Addr} {fd : FuncData} {ps : List Str} {sp : Sp} {E : XK}

theorem runR {pins : List (Addr × Obj)} {σ : L2.St} {H : Hp} {s : Shared} {Q : VK} {us : List Value} {vs : List V} (F : FnR ⟨X.prog, X.w, X.K, X.mg, X.base⟩ CX n f fd ps sp) (hr : Rm n X.A)
    (hb : L2.Binds X.K fd ps []) (hx : Passes CX X E) (I : Inv X pins σ H s) (r : Vals vs us) (h : sp vs H Q E) :
    wpAny (model X.prog X.w) X.A (call (.ref f) us) (EP X pins σ Q) X.xe s := by
  have hlen : (us ++ []).length = ps.length := by
    rw [List.append_nil, ← r.length]
    exact F.len _ _ _ _ h
  have hbind := hb s us I.kIn hlen
  rw [List.append_nil] at hbind
  refine wpAny_call (codeAny_mono (F.run X.A X.stack s H ⟨us, []⟩ us vs Q E hr I.env0 hbind r h) fun res s' hq => ?_)
  match res, hq with
  | .error e, hq => exact hx pins σ H s e s' I hq
  | .ok (.ret u), hq => exact I.after hq
  | .ok .next, hq => exact hq.elim
  | .ok .brk, hq => exact hq.elim
  | .ok .cont, hq => exact hq.elim

theorem runMk {pins : List (Addr × Obj)} {σ : L2.St} {H : Hp} {s : Shared} {Q : VK} {us : List Value} {vs : List V} (M : Mk X.K C f) (F : FnR ⟨X.prog, X.w, X.K, X.mg, X.base⟩ CX n f fd ps sp) (hr : Rm (n + 1) X.A)
    (hb : L2.Binds X.K fd ps []) (hx : Passes CX X E) (I : Inv X pins σ H s) (r : Vals vs us)
    (h : ∀ x dx, H x = none → H dx = none → dx ≠ x → sp (.ref x :: (vs ++ [])) (upd (upd H dx (.own x)) x (.ins C dx [])) (fun v H2 => v = .non ∧ Q (.ref x) H2) E) :
    wpAny (model X.prog X.w) X.A (call (.ref C) us) (EP X pins σ Q) X.xe s := by
  have h1 := h (s.heap.objs.size + 1) s.heap.objs.size (I.hok.fresh (Nat.le_succ _)) (I.hok.fresh (Nat.le_refl _)) (Nat.ne_of_lt (Nat.lt_succ_self _))
  rw [List.append_nil] at h1
  have J := Inv.made (C := C) I
  have rr : Vals (V.ref (s.heap.objs.size + 1) :: vs) (Value.ref (s.heap.objs.size + 1) :: us) := .cons rfl r
  have hlen : ((Value.ref (s.heap.objs.size + 1) :: us) ++ []).length = ps.length := by
    rw [List.append_nil, ← rr.length]
    exact F.len _ _ _ _ h1
  have hbind := hb (Shared.mk _ _ _ _ _) (Value.ref (s.heap.objs.size + 1) :: us) J.kIn hlen
  rw [List.append_nil] at hbind
  refine wpAny_call (make_map (f := f) I.kIn M.makes M.init (beq_iff_eq.mp M.fn) (codeAny_mono (F.run _ X.stack _ _ ⟨Value.ref (s.heap.objs.size + 1) :: us, []⟩ _ _ _ E (hr.mk_ C us [])
    (J.env0.make C us []) hbind rr h1) fun res s' hq => ?_))
  match res, hq with
  | .error e, hq => exact hx pins σ _ _ e s' J hq
  | .ok (.ret u), hq =>
    obtain ⟨v, H', I3, rv, ev, q3⟩ := J.after hq
    subst ev
    exact ⟨rv, ⟨V.ref (s.heap.objs.size + 1), H', I3, rfl, q3⟩⟩
  | .ok .next, hq => exact hq.elim
  | .ok .brk, hq => exact hq.elim
  | .ok .cont, hq => exact hq.elim
end
end U

set_option maxHeartbeats 4000000
namespace U
open PySem PySem.Spec PyProof.Rows L2

/-! ### what may be called by name, as a method, as a class -/
structure Cal (Z : Zt) (CX : CXT) (n : Nat) (x : Str) (ps : List Str) (sp : Sp) : Prop where
  ex : ∃ f fd, Z.mg x = some (.ref f) ∧ PySem.W.keepIn Z.K (.ref f) = true ∧ L2.Binds Z.K fd ps [] ∧ FnR Z CX n f fd ps sp
structure CalM (Z : Zt) (CX : CXT) (n : Nat) (C : Addr) (m : Str) (ps : List Str) (sp : Sp) : Prop where
  ex : ∃ f fd, Meth Z.K C m f ∧ L2.Binds Z.K fd ps [] ∧ FnR Z CX n f fd ps sp
structure CalN (Z : Zt) (CX : CXT) (n : Nat) (x : Str) (C : Addr) (ps : List Str) (sp : Sp) : Prop where
  ex : ∃ f fd, Mk Z.K C f ∧ Z.mg x = some (.ref C) ∧ L2.Binds Z.K fd ps [] ∧ FnR Z CX n f fd ps sp

theorem Cal.up {Z : Zt} {CX : CXT} {m n : Nat} {x : Str} {ps : List Str} {sp : Sp} (c : Cal Z CX m x ps sp) (h : m ≤ n) : Cal Z CX n x ps sp := by
  obtain ⟨f, fd, h1, h2, h3, h4⟩ := c.ex
  exact ⟨f, fd, h1, h2, h3, h4.up h⟩
theorem CalM.up {Z : Zt} {CX : CXT} {m n : Nat} {C : Addr} {x : Str} {ps : List Str} {sp : Sp} (c : CalM Z CX m C x ps sp) (h : m ≤ n) : CalM Z CX n C x ps sp := by
  obtain ⟨f, fd, h1, h3, h4⟩ := c.ex
  exact ⟨f, fd, h1, h3, h4.up h⟩
theorem CalN.up {Z : Zt} {CX : CXT} {m n : Nat} {C : Addr} {x : Str} {ps : List Str} {sp : Sp} (c : CalN Z CX m x C ps sp) (h : m ≤ n) : CalN Z CX n x C ps sp := by
  obtain ⟨f, fd, h1, h2, h3, h4⟩ := c.ex
  exact ⟨f, fd, h1, h2, h3, h4.up h⟩

section
variable {X : Cx} {CX : CXT} {n : Nat} {C : Addr} {ps : List Str} {sp : Sp} {E : XK} {x m : Str} {p pos apos : Pos} {e o : Expr} {es : List Expr} {ta : TE} {t : TA}

theorem pcal (c : Cal ⟨X.prog, X.w, X.K, X.mg, X.base⟩ CX n x ps sp) (hr : Rm n X.A) (hg : Gl X x) (hx : Passes CX X E) (ha : PA X (e :: es) t)
    (hdb : (x == ("__debug__" : Str)) = false := by decide) (he : starEach (e :: es) X.env = (false, eval e X.env) :: starEach es X.env := by rfl)
    (hpl : (backTo pos (starEach es X.env)).any (·.1) = false := by rfl) : PE X (.Call (.Name x p) (e :: es) [] pos) (tCall sp [] E t) := by
  obtain ⟨f, fd, hm, hk, hb, F⟩ := c.ex
  constructor
  intro pins s σ H Q I h
  apply wpAny_Call_Name_kw
  apply ld_glob I hg hm _ hdb
  refine PySem.W.callWith_K (h₀ := X.base) I.ok.mod.kin hk ?_ he hpl
  refine thn (ha.run pos pins s σ H _ I h) ?_
  rintro us s1 ⟨vs, H1, I1, r, q⟩
  refine ⟨I1.kIn, ?_⟩
  have q' : sp (vs ++ []) H1 Q E := q
  rw [List.append_nil] at q'
  exact runR F hr hb hx I1 r q'

theorem pcal0 (c : Cal ⟨X.prog, X.w, X.K, X.mg, X.base⟩ CX n x ps sp) (hr : Rm n X.A) (hg : Gl X x) (hx : Passes CX X E)
    (hdb : (x == ("__debug__" : Str)) = false := by decide) : PE X (.Call (.Name x p) [] [] pos) (tCall sp [] E tNil) := by
  obtain ⟨f, fd, hm, hk, hb, F⟩ := c.ex
  constructor
  intro pins s σ H Q I h
  apply wpAny_Call_Name_kw
  apply ld_glob I hg hm _ hdb
  exact PySem.W.callWith_K0 I.kIn hk (runR (us := []) F hr hb hx I .nil h)

theorem pmet {pl : Sem Bool} (he : PE X o ta) (cl : Cls X.K C) (c : CalM ⟨X.prog, X.w, X.K, X.mg, X.base⟩ CX n C m ps sp) (hr : Rm n X.A) (hx : Passes CX X E) (ha : PA X (e :: es) t)
    (hst : starEach (e :: es) X.env = (false, eval e X.env) :: starEach es X.env := by rfl) (hpl : (backTo pos (starEach es X.env)).any (·.1) = false := by rfl)
    (ht : eval (.Call (.Attribute o m apos) (e :: es) [] pos) X.env = (do
      let ov ← eval o X.env; standAt apos.atName
      let (f, first) ← holding [ov] (getMethod ov m pl)
      callWith pos f first (backTo pos (starEach (e :: es) X.env)) (backToKw pos (keywordEach [] X.env))) := by rfl) :
    PE X (.Call (.Attribute o m apos) (e :: es) [] pos) (tMeth C m sp [] E ta t) := by
  obtain ⟨f, fd, hm, hb, F⟩ := c.ex
  constructor
  intro pins s σ H Q I h
  refine PySem.W.methodCall_KW (pl := pl) (thn (he.run pins s σ H _ I h) ?_) ht
  rintro u s1 ⟨y, H1, I1, ry, a, dx, fs, ey, ea, l, q⟩
  subst ey
  obtain rfl : u = Value.ref a := ry
  refine getmeth_ok I1 ea cl hm l ?_
  refine PySem.W.callWith_K (first := [.ref a]) (h₀ := X.base) I.ok.mod.kin hm.kp (thn (ha.run pos pins s1 σ H1 _ I1 q) ?_) hst hpl
  rintro us s2 ⟨vs, H2, I2, r, q2⟩
  refine ⟨I2.kIn, ?_⟩
  have q' : sp (.ref a :: (vs ++ [])) H2 Q E := q2
  rw [List.append_nil] at q'
  exact runR (us := .ref a :: us) (vs := .ref a :: vs) F hr hb hx I2 (.cons rfl r) q'

theorem pmet0 {pl : Sem Bool} (he : PE X o ta) (cl : Cls X.K C) (c : CalM ⟨X.prog, X.w, X.K, X.mg, X.base⟩ CX n C m ps sp) (hr : Rm n X.A) (hx : Passes CX X E)
    (ht : eval (.Call (.Attribute o m apos) [] [] pos) X.env = (do
      let ov ← eval o X.env; standAt apos.atName
      let (f, first) ← holding [ov] (getMethod ov m pl)
      callWith pos f first (backTo pos (starEach [] X.env)) (backToKw pos (keywordEach [] X.env))) := by rfl) :
    PE X (.Call (.Attribute o m apos) [] [] pos) (tMeth C m sp [] E ta tNil) := by
  obtain ⟨f, fd, hm, hb, F⟩ := c.ex
  constructor
  intro pins s σ H Q I h
  refine PySem.W.methodCall_KW (pl := pl) (thn (he.run pins s σ H _ I h) ?_) ht
  rintro u s1 ⟨y, H1, I1, ry, a, dx, fs, ey, ea, l, q⟩
  subst ey
  obtain rfl : u = Value.ref a := ry
  refine getmeth_ok I1 ea cl hm l ?_
  exact PySem.W.callWith_K0 (first := [.ref a]) I1.kIn hm.kp (runR (us := [.ref a]) (vs := [.ref a]) F hr hb hx I1 (.cons rfl .nil) q)

theorem pmak (c : CalN ⟨X.prog, X.w, X.K, X.mg, X.base⟩ CX n x C ps sp) (hr : Rm (n + 1) X.A) (hg : Gl X x) (hx : Passes CX X E) (ha : PA X (e :: es) t)
    (hdb : (x == ("__debug__" : Str)) = false := by decide) (he : starEach (e :: es) X.env = (false, eval e X.env) :: starEach es X.env := by rfl)
    (hpl : (backTo pos (starEach es X.env)).any (·.1) = false := by rfl) : PE X (.Call (.Name x p) (e :: es) [] pos) (tMake C sp [] E t) := by
  obtain ⟨f, fd, M, hm, hb, F⟩ := c.ex
  constructor
  intro pins s σ H Q I h
  apply wpAny_Call_Name_kw
  apply ld_glob I hg hm _ hdb
  refine PySem.W.callWith_K (h₀ := X.base) I.ok.mod.kin M.kp ?_ he hpl
  refine thn (ha.run pos pins s σ H _ I h) ?_
  rintro us s1 ⟨vs, H1, I1, r, q⟩
  exact ⟨I1.kIn, runMk M F hr hb hx I1 r q⟩

theorem pmak0 (c : CalN ⟨X.prog, X.w, X.K, X.mg, X.base⟩ CX n x C ps sp) (hr : Rm (n + 1) X.A) (hg : Gl X x) (hx : Passes CX X E)
    (hdb : (x == ("__debug__" : Str)) = false := by decide) : PE X (.Call (.Name x p) [] [] pos) (tMake C sp [] E tNil) := by
  obtain ⟨f, fd, M, hm, hb, F⟩ := c.ex
  constructor
  intro pins s σ H Q I h
  apply wpAny_Call_Name_kw
  apply ld_glob I hg hm _ hdb
  exact PySem.W.callWith_K0 I.kIn M.kp (runMk (us := []) M F hr hb hx I .nil h)

/-- // by any number but 0, in a def's own frame -/
def rFd : R2 := fun x y H Q => ∃ i j, x = .int i ∧ y = .int j ∧ j ≠ 0 ∧ Q (.int (i.fdiv j)) H
end

/-! ### a def by its body -/
structure FunE (K : PySem.W.Frag) (x qual : Str) (st : Stmt) (f : Addr) (fd : FuncData) : Prop where
  ex : ∃ (oc : Value) (od : Option Addr) (kV doc pm : Value) (an : Option Addr) (cdv ct : Value) (osl : Array (Option Value)),
    fd = PySem.W.fnOf x qual (defArgs st) (defBody st) (defScope st) .none kV doc pm an cdv ct ∧ K.lookup f = some ⟨oc, od, .func fd, osl⟩ ∧ PySem.W.codeIn K cdv qual = true
theorem FunE.binds {K : PySem.W.Frag} {x qual : Str} {st : Stmt} {f : Addr} {fd : FuncData} {ps : List Str} (F : FunE K x qual st f fd)
    (h : ∀ (kV doc pm : Value) (an : Option Addr) (cdv ct : Value) (us : List Value), us.length = ps.length → bindArgs (PySem.W.fnOf x qual (defArgs st) (defBody st) (defScope st) .none kV doc pm an cdv ct) ⟨us, []⟩ = pure (ps.zip us)) : L2.Binds K fd ps [] := by
  obtain ⟨oc, od, kV, doc, pm, an, cdv, ct, osl, rfl, lk, hcd⟩ := F.ex
  exact .all (h kV doc pm an cdv ct)
section
variable {Z : Zt} {x qual : Str} {st : Stmt} {f : Addr} {fd : FuncData} {N ps : List Str} {n : Nat} {sp : Sp}
theorem mkR0 {CX : CXT} (F : FunE Z.K x qual st f fd) (S : FnScope N ps (defScope st)) (len : ∀ vs H Q E, sp vs H Q E → vs.length = ps.length)
    (hbody : ∀ (cdv : Value) (A : Around) (outer : List Env) (s : Shared) (H : Hp) (vs : List V) (Q : VK) (E : XK), Rm n (A.deeper (envOfC qual (defScope st) s.heap.objs.size f cdv)) → sp vs H Q E →
      ∃ t, PSs (cxOf CX Z.P Z.w Z.K Z.mg Z.base N qual (defScope st) f cdv A outer s H E) (defBody st) t ∧ t { nx := fun _ H' => Q .non H', rt := Q } (start N vs) H) :
    FnR Z CX (n + 1) f fd ps sp := by
  obtain ⟨oc, od, kV, doc, pm, an, cdv, ct, osl, rfl, lk, hcd⟩ := F.ex
  refine ⟨len, fun A outer s H args us vs Q E hr e0 hb r hsp => ?_⟩
  have hl := len _ _ _ _ hsp
  have kx : Z.K.In s.heap := e0.mod.kin.keeps fun b o e => (e0.bs b o e).1
  have nl : s.heap.NoLimit := e0.mod.nolimit.keeps fun b o e => (e0.bs b o e).1
  refine codeAny_call_function hr.dep (kx _ _ lk) rfl S.co S.gen rfl (PySem.W.codeRec_of kx hcd) (hb _ _ _ _ ?_)
  refine wpAny_newFunctionEnv_cells S.kind ?_ ?_
  · rintro ⟨y, v⟩ hy
    rcases S.par y (List.of_mem_zip hy).1 with q | q
    · exact .inl q
    · exact .inr ⟨q, PySem.W.cellsFrom_some _ _ _ (.inl q)⟩
  · intro env he s1 hin
    subst he
    refine ⟨nl.keeps hin.toInCall.keep, codeAny_func ?_⟩
    obtain ⟨t, ht, hq⟩ := hbody cdv A outer s H vs Q E (hr.down _) hsp
    have I := inv_start (CX := CX) (E := E) S hr.noh e0 hl r hin
    refine wpAny_mono (ht.run [] s1 (start N vs) H _ I hq) ?_ fun e s' hs => hs
    intro fl s' hs
    match fl, hs with
    | .ret u, hs =>
      obtain ⟨v, σ', H', J, rv, q⟩ := hs
      exact ⟨v, H', J.os, J.bare, J.base, J.hok, rv, q⟩
    | .next, hs =>
      obtain ⟨σ', H', J, q⟩ := hs
      exact ⟨V.non, H', J.os, J.bare, J.base, J.hok, rfl, q⟩
    | .brk, hs =>
      obtain ⟨_, _, _, q⟩ := hs
      exact q.elim
    | .cont, hs =>
      obtain ⟨_, _, _, q⟩ := hs
      exact q.elim

/-- nothing leaves it by an exception -/
theorem mkR {tb : TS} (F : FunE Z.K x qual st f fd) (S : FnScope N ps (defScope st)) (len : ∀ vs H Q E, sp vs H Q E → vs.length = ps.length)
    (hbody : ∀ (cdv : Value) (A : Around) (outer : List Env) (s : Shared) (H : Hp) (E : XK), Rm n (A.deeper (envOfC qual (defScope st) s.heap.objs.size f cdv)) →
      PSs (cxOf CX0 Z.P Z.w Z.K Z.mg Z.base N qual (defScope st) f cdv A outer s H E).nox (defBody st) tb)
    (pure : ∀ (vs : List V) (H : Hp) (Q : VK) (E : XK), sp vs H Q E → tb { nx := fun _ H' => Q .non H', rt := Q } (start N vs) H) :
    FnR Z CX0 (n + 1) f fd ps sp :=
  mkR0 F S len fun cdv A outer s H vs Q E hr h => ⟨tb, (hbody cdv A outer s H E hr).nox, pure vs H Q E h⟩

theorem fun_of (F : ∃ oc od osl kV doc pm an cdv ct, Z.K.lookup f = some ⟨oc, od, .func (PySem.W.fnOf x qual (defArgs st) (defBody st) (defScope st) .none kV doc pm an cdv ct), osl⟩ ∧ PySem.W.codeIn Z.K cdv qual = true) :
    ∃ fd, FunE Z.K x qual st f fd := by
  obtain ⟨oc, od, osl, kV, doc, pm, an, cdv, ct, h1, h2⟩ := F
  exact ⟨_, ⟨oc, od, kV, doc, pm, an, cdv, ct, osl, rfl, h1, h2⟩⟩
end
end U

set_option maxHeartbeats 4000000
namespace U
open PySem PySem.Spec PyProof.Rows L2

/-! ### // by any number but 0 -/
theorem op_fdZ {X : Cx} {m : Nat} (hN : X.base.NoSeer) (ht : X.prog.given.tree = none) (hst : X.stack = X.env :: X.outer) (hgn : X.env.scope.isGenerator = false) (hco : X.env.scope.isCoroutine = false)
    (hr : Rm m X.A) : OpR X (binaryOp .FloorDiv) rFd := by
  intro pins s σ H x y v u Q I rx ry h
  obtain ⟨i, j, rfl, rfl, hj, q⟩ := h
  obtain ⟨t, rfl⟩ := rx
  obtain ⟨t', rfl⟩ := ry
  refine floordiv_int hj ?_ (.inr (PylongRoom.of I.nolimit ?_ ?_))
  · exact ⟨.int (i.fdiv j), H, I.tok _, ⟨_, rfl⟩, q⟩
  · have z := hr.fr
    have e : Builtin.pylongFrames = 100 := rfl
    omega
  · exact SeerAt.of (hN.keeps I.bk) ht (by rw [I.ok.frames, hst]) hgn hco I.ok.blt I.ok.glob

/-! ### the law's call -/
def scriptAt (a : Addr) (vs : List Value) (ns : List Int) : Hp := fun b => if b = a then some (.frz { cls := .type "list", data := .seq vs.toArray } (.lst (ns.map V.int))) else none

theorem callU {P : Program} {w : World} {K : PySem.W.Frag} {mg mb : Str → Option Value} {n : Nat} {fa a : Addr} {fd : FuncData} {x : Str} {sp : Sp} {s : Shared} {vs : List Value} {ns : List Int}
    (kx : K.In s.heap) (hns : s.heap.Ns mainGlobals mg) (hb : s.heap.Ns builtinsNs mb) (hbb : ∀ x : Str, x ≠ "__name__" → mb x = bootBuiltins x) (hlim : s.heap.NoLimit) (hsee : s.heap.NoSeer) (hg : s.gens = #[])
    (ha : s.heap.get? a = some { cls := .type "list", data := .seq vs.toArray }) (hi : IntsAre vs ns) (hl : ns.length ≤ sizeLine) (hr : Rm n callerA)
    (F : ∀ base : Heap, K.In base → base.Ns mainGlobals mg → base.NoSeer → FnR ⟨P, w, K, mg, base⟩ CX0 n fa fd [x] sp) (hbind : ∀ (s : Shared) (u : Value), BindsTo s fd ⟨[u], []⟩ [(x, u)])
    (hsp : ∀ H : Hp, Only H → SqL K H a (ns.map V.int) → sp [.ref a] H (fun v _ => v = .bl true) fun _ _ _ => False) :
    codeAny (model P w) callerA (.call (.ref fa) ⟨[.ref a], []⟩) (fun r s' => r = .ok (.ret (.bool true)) ∧ OldK s.heap s'.heap ∧ s'.os = s.os ∧ AllBare s'.gens) s := by
  have rv := vals_ints hi
  have main : ∀ H : Hp, Only H → SqL K H a (ns.map V.int) → HOk P w H s.heap → (∀ b, H b ≠ none → b = a) → (H a ≠ none → K.lookup a = none) →
      codeAny (model P w) callerA (.call (.ref fa) ⟨[.ref a], []⟩) (fun r s' => r = .ok (.ret (.bool true)) ∧ OldK s.heap s'.heap ∧ s'.os = s.os ∧ AllBare s'.gens) s := by
    intro H hO hS hok only notK
    have free : ∀ {b : Addr} {o : Obj}, s.heap.get? b = some o → (∀ n', o.data ≠ .seq vs.toArray n') → H b = none := by
      intro b o e d
      by_cases z : H b = none
      · exact z
      · have eb := only b z
        subst eb
        rw [ha] at e
        cases e
        exact absurd rfl (d _)
    have freeD : ∀ {b : Addr} {o : Obj} {es : Array DictEntry} {ep : Nat}, s.heap.get? b = some o → o.data = .dict es ep → H b = none := by
      intro b o es ep e d
      refine free e fun n' z => ?_
      rw [d] at z
      cases z
    have ns' : ∀ {b : Addr} {m : Str → Option Value}, s.heap.Ns b m → (hidT s.heap H).Ns b m := by
      rintro b m ⟨o, es, ep, e, d, r⟩
      exact ⟨o, es, ep, hidT_get e (freeD e d), d, r⟩
    have kb : K.In (hidT s.heap H) := by
      intro b o e
      refine hidT_get (kx b o e) ?_
      by_cases z : H b = none
      · exact z
      · have eb := only b z
        subst eb
        rw [notK z] at e
        cases e
    have seer : (hidT s.heap H).NoSeer := by
      obtain ⟨mc, c1, c2⟩ := hsee.statics
      obtain ⟨mm, m1, m2⟩ := hsee.mods
      obtain ⟨m3, m4, m5⟩ := hsee.imp
      obtain ⟨mg', bm, ob, g1, g2, g3, g4, g5⟩ := hsee.main
      refine ⟨⟨mc, ns' c1, c2⟩, ⟨mm, ns' m1, m2⟩, ⟨m3, ns' m4, m5⟩, ⟨mg', bm, ob, ns' g1, g2, hidT_get g3 ?_, g4, g5⟩⟩
      by_cases z : H bm = none
      · exact z
      · have eb := only bm z
        subst eb
        rw [ha] at g3
        injection g3 with g3
        rw [← g3] at g4
        simp at g4
    have md : Mod K mg (hidT s.heap H) := by
      obtain ⟨mc, l1, l2⟩ := hlim
      exact ⟨kb, ns' hns, ⟨mb, ns' hb, hbb⟩, ⟨mc, ns' l1, l2⟩⟩
    have e0 : Env0 P w K mg (hidT s.heap H) callerA [] s H :=
      ⟨rfl, md, fun b o e => of_hidT e, Nat.le_of_eq (hidT_size _ _), trivial, fun b hb => (by cases hb), hok, .of_eq hg⟩
    refine codeAny_mono ((F _ kb (ns' hns) seer).run callerA [] s H ⟨[.ref a], []⟩ [.ref a] [.ref a] _ _ hr e0 (hbind s (.ref a)) (.cons rfl .nil) (hsp H hO hS)) ?_
    intro r s' h
    match r, h with
    | .error e, h => exact h.elim
    | .ok .next, h => exact h.elim
    | .ok .brk, h => exact h.elim
    | .ok .cont, h => exact h.elim
    | .ok (.ret u), h =>
      obtain ⟨v, H', os, bare, un, hok', r', q⟩ := h
      have qv : v = .bl true := q
      subst qv
      obtain rfl : u = Value.bool true := r'
      refine ⟨rfl, OldK.of_keep ?_, os, bare⟩
      intro b o e
      rcases hO b with z | ⟨ob, xs, z⟩
      · exact un.keep b o e z (fun k => by cases k) (fun k => by cases k)
      · obtain ⟨e1, _⟩ := hok b _ z
        obtain ⟨e2, _⟩ := hok' b _ (un.frzs b ob _ z)
        rw [e] at e1
        cases e1
        exact e2
  cases hk : K.lookup a with
  | some o =>
    have e := kx a o hk
    rw [ha] at e
    cases e
    refine main (fun _ => none) (fun _ => .inl rfl) (.inr ⟨_, vs.toArray, _, hk, rfl, rfl, rfl, ?_, ?_⟩) (fun b u z => by cases z) (fun b z => absurd rfl z) fun z => absurd rfl z
    · rw [List.size_toArray, hi.length]
      exact hl
    · simpa using rv
  | none =>
    have at_a : scriptAt a vs ns a = some (.frz { cls := .type "list", data := .seq vs.toArray } (.lst (ns.map V.int))) := if_pos rfl
    have off : ∀ b, b ≠ a → scriptAt a vs ns b = none := fun b hb => if_neg hb
    refine main (scriptAt a vs ns) (fun b => ?_) (.inl (.inr ⟨_, at_a⟩)) (fun b u z => ?_) (fun b z => ?_) fun _ => hk
    · by_cases hb : b = a
      · subst hb
        exact .inr ⟨_, _, at_a⟩
      · exact .inl (off b hb)
    · by_cases hb : b = a
      · subst hb
        rw [at_a] at z
        cases z
        exact ⟨ha, by rw [List.length_map]; exact hl, vs, _, rv, ha⟩
      · rw [off b hb] at z
        cases z
    · by_cases hb : b = a
      · exact hb
      · exact absurd (off b hb) z

/-- the end of a law's row -/
theorem walkU {l : PySem.W.OpenLaw} {n : Nat} {q : Program} {loose : List Str} {XP : (Str → Option Value) → Heap → Prop} {YP : World → Heap → Prop} {d : DefRec} {x : Str}
    (hm : l.most = some 63) (hdf : d.params.defaults = []) (him : importsNone q = true) (hn : n ≤ 500)
    (F : ∀ (w : World) (mg : Str → Option Value) (fa : Addr) (h : Heap), YP w h → h.Ns mainGlobals mg → mg d.name = some (.ref fa) →
      ∃ (K : PySem.W.Frag) (fd : FuncData) (sp : Sp), K.In h ∧ (∀ (s : Shared) (u : Value), BindsTo s fd ⟨[u], []⟩ [(x, u)]) ∧
        (∀ (H : Hp) (a : Addr) (ns : List Int), ns.length ≤ 63 → Only H → SqL K H a (ns.map V.int) → sp [.ref a] H (fun v _ => v = .bl true) fun _ _ _ => False) ∧
        ∀ base : Heap, K.In base → base.Ns mainGlobals mg → base.NoSeer → FnR ⟨l.prog, w, K, mg, base⟩ CX0 n fa fd [x] sp) :
    PySem.W.WalkO q loose XP YP l.row.toRowW d [] (fun f vs => PySem.call f vs) := by
  refine Att.attach_call hm hdf ?_
  intro w s₀ s mg mb fa o pm cd doc a vs ns G Y ho hd hcd hmg hobj hints hlen hg
  obtain ⟨K, fd, sp, kx, hb, hsp, hF⟩ := F w mg fa _ Y G.T.g hmg
  have room : Rm n callerA := by
    refine ⟨rfl, ?_, ?_⟩
    · show 1 + claimMargin + n + 105 < recursionLimit
      have e1 : claimMargin = 300 := rfl
      have e2 : recursionLimit = 1000 := rfl
      omega
    · show 4 + 4 * n + 400 < cLine
      have e1 : cLine = 9900 := rfl
      omega
  exact callU kx G.T.g G.T.b G.T.builtins G.T.nolimit (G.T.seer him) hg hobj hints (Nat.le_trans hlen (by decide)) room hF hb fun H hO hS => hsp H a ns hlen hO hS
end U

set_option maxHeartbeats 4000000
namespace U
open PySem PySem.Spec PyProof.Rows L2

/-! ### operators by name -/
def rAddI : R2 := rI0 fun i j => .int (i + j)
def rSubI : R2 := rI0 fun i j => .int (i - j)
def rMulI : R2 := rI CMul fun i j => .int (i * j)
def rFdC : R2 := rI CDiv fun i j => .int (i / j)
def rModP : R2 := rI (fun _ j => 0 < j) fun i j => .int (i % j)
def rPowI : R2 := rI CPow fun i j => .int (i ^ j.toNat)
def rLtI : R2 := rI0 fun i j => .bl (decide (i < j))
def rLeI : R2 := rI0 fun i j => .bl (decide (i ≤ j))
def rGtI : R2 := rI0 fun i j => .bl (decide (j < i))
def rGeI : R2 := rI0 fun i j => .bl (decide (j ≤ i))
def rIsNo : R2 := fun x y H Q => y = .non ∧ Q (.bl (decide (x = .non))) H
def rIsNotNo : R2 := fun x y H Q => y = .non ∧ Q (.bl (!decide (x = .non))) H
section
variable {X : Cx}
theorem op_addI : OpR X (binaryOp .Add) rAddI := op_add
theorem op_subI : OpR X (binaryOp .Sub) rSubI := op_sub
theorem op_mulI : OpR X (binaryOp .Mult) rMulI := op_mul
theorem op_fdC : OpR X (binaryOp .FloorDiv) rFdC := op_fdiv
theorem op_modP : OpR X (binaryOp .Mod) rModP := op_mod
theorem op_powI : OpR X (binaryOp .Pow) rPowI := op_pow
theorem op_ltI : OpR X (compareOp .Lt) rLtI := op_lt
theorem op_leI : OpR X (compareOp .LtE) rLeI := op_le
theorem op_gtI : OpR X (compareOp .Gt) rGtI := op_gt
theorem op_geI : OpR X (compareOp .GtE) rGeI := op_ge
theorem op_isNo : OpR X (compareOp .Is) rIsNo := op_isN
theorem op_isNotNo : OpR X (compareOp .IsNot) rIsNotNo := op_notN
end
def rLenQ (K : PySem.W.Frag) : List V → Hp → VK → Prop := fun xs H Q => ∃ p ys, xs = [.ref p] ∧ (SqL K H p ys ∨ SqT K H p ys) ∧ Q (.int ys.length) H
theorem call_lenQ {X : Cx} : CallR X (.builtin "len") (rLenQ X.K) := call_len_seq
def rListQ (K : PySem.W.Frag) : List V → Hp → VK → Prop := fun xs H Q => ∃ p ys, xs = [.ref p] ∧ (SqL K H p ys ∨ SqT K H p ys) ∧ ∀ l, H l = none → Q (.ref l) (upd H l (.lst ys))
theorem call_listQ {X : Cx} : CallR X (.type "list") (rListQ X.K) := call_list_of
def rIntB : List V → Hp → VK → Prop := fun xs H Q => ∃ k, xs = [.bl k] ∧ Q (.int (if k then 1 else 0)) H
theorem call_intB {X : Cx} : CallR X (.type "int") rIntB := by
  intro pins s σ H xs us Q I r h
  exact call_int1 pins s σ H xs us Q I r (.inr h)
def rMax2 : List V → Hp → VK → Prop := fun xs H Q => ∃ i j, xs = [.int i, .int j] ∧ Q (.int (if j > i then j else i)) H
theorem call_max2Q {X : Cx} (hc : X.calm = true) : CallR X (.builtin "max") rMax2 := call_max2 hc
def rMin2 : List V → Hp → VK → Prop := fun xs H Q => ∃ i j, xs = [.int i, .int j] ∧ Q (.int (if j < i then j else i)) H
theorem call_min2Q {X : Cx} (hc : X.calm = true) : CallR X (.builtin "min") rMin2 := call_min2 hc

/-! ### attributes of an instance whose class is known -/
def tFd (C : Addr) (f : Str) (ta : TE) : TE := fun σ H Q => ta σ H fun x H1 => ∃ a dx fs v, x = .ref a ∧ H1 a = some (.ins C dx fs) ∧ fs.lookup f = some v ∧ Q v H1
def sFd (C : Addr) (f : Str) (ta tv : TE) : TS := fun D σ H => tv σ H fun y H1 => ta σ H1 fun x H2 => ∃ a dx fs, x = .ref a ∧ H2 a = some (.ins C dx fs) ∧ fs.length < 1000 ∧
  D.nx σ (upd H2 a (.ins C dx (putF f y fs)))
section
variable {X : Cx} {o e value : Expr} {f : Str} {pos pos' : Pos} {ta tv : TE} {C : Addr}
theorem pfd (cl : Cls X.K C) (na : NoAttr X.K C f) (he : PE X e ta) (hb : attributeBase e f X.env (eval e X.env) = eval e X.env := by rfl) : PE X (.Attribute e f pos) (tFd C f ta) := by
  constructor
  intro pins s σ H Q I h
  refine attr_of hb (thn (he.run pins s σ H _ I h) ?_)
  rintro u s1 ⟨x, H1, I1, rx, a, dx, fs, v, ex, ea, l, q⟩
  subst ex
  obtain rfl : u = Value.ref a := rx
  exact getattr_ok I1 ea cl na l fun u' s2 I2 ru => ⟨v, H1, I2, ru, q⟩
theorem psfd (cl : Cls X.K C) (na : NoAttr X.K C f) (ha : PE X o ta) (hv : PE X value tv) (hs : swapsWith value (some (.Attribute o f pos')) pos.line X.env = pure false := by rfl) :
    PS X (.Assign [.Attribute o f pos'] value pos) (sFd C f ta tv) := by
  constructor
  intro pins s σ H D I h
  refine plainObj_wpAny_Assign_Attribute (thn (hv.run pins s σ H _ I h) ?_) hs
  rintro u s1 ⟨y, H1, I1, ry, q⟩
  refine thn (ha.run pins s1 σ H1 _ I1 q) ?_
  rintro ov s2 ⟨x, H2, I2, rx, a, dx, fs, ex, ea, l, q2⟩
  subst ex
  obtain rfl : ov = Value.ref a := rx
  exact setattr_ok I2 ea cl na l ry fun s3 I3 => ⟨σ, _, I3, q2⟩
end

/-! ### reading, one construct at a time -/
section
variable {K : PySem.W.Frag} {σ : L2.St} {H : Hp} {Q : VK} {D : Ends} {ta tb te tv : TE} {t u : TS} {c c' : TT} {v x y : V} {i j : Int} {k : Nat} {a p l C dx : Addr} {xs ys : List V} {fs : List (Str × V)} {f m : Str} {QT : Bool → Hp → Prop} {QA : List V → Hp → Prop} {tr : TA}
theorem w_seq (h : t { D with nx := u D } σ H) : tSeq t u D σ H := h
theorem w_next (h : D.nx σ H) : tNext D σ H := h
theorem w_asg {g : TG} (h : te σ H fun x H1 => g x σ H1 D.nx) : tAsg te g D σ H := h
theorem w_name {QS : L2.St → Hp → Prop} (h : QS (σ.set k (some v)) H) : gName k v σ H QS := h
theorem w_ret (h : te σ H D.rt) : tRet te D σ H := h
theorem w_drop (h : te σ H fun _ H1 => D.nx σ H1) : tDrop te D σ H := h
theorem w_if (h : c σ H fun b H1 => if b = true then t D σ H1 else u D σ H1) : tIfS c t u D σ H := h
theorem w_var (h : σ[k]? = some (some v)) (q : Q v H) : tVar k σ H Q := ⟨v, h, q⟩
theorem w_c (q : Q v H) : tC v σ H Q := q
theorem w_op {r : R2} (h : ta σ H fun x H1 => tb σ H1 fun y H2 => r x y H2 Q) : tOp r ta tb σ H Q := h
theorem w_un {r : V → Hp → VK → Prop} (h : ta σ H fun x H1 => r x H1 Q) : tUn r ta σ H Q := h
theorem w_test (h : te σ H fun x H1 => ∃ k, x = .bl k ∧ QT k H1) : tTest te σ H QT := h
theorem w_B (h : te σ H fun x H1 => ∃ k, x = .bl k ∧ QT k H1) : tB te σ H QT := h
theorem w_bl {b : Bool} {P : Bool → Prop} (h : P b) : ∃ k, V.bl b = .bl k ∧ P k := ⟨b, rfl, h⟩
theorem w_not (h : c σ H fun b H1 => QT (!b) H1) : tNot c σ H QT := h
theorem w_and (h : c σ H fun b H1 => if b = true then c' σ H1 QT else QT false H1) : tAnd c c' σ H QT := h
theorem w_or (h : c σ H fun b H1 => if b = true then QT true H1 else c' σ H1 QT) : tOr c c' σ H QT := h
theorem w_ifx (h : c σ H fun b H1 => if b = true then ta σ H1 Q else tb σ H1 Q) : tIf c ta tb σ H Q := h
theorem w_andV (h : ta σ H fun x H1 => ∃ c, x = .bl c ∧ if c = true then tb σ H1 Q else Q (.bl false) H1) : tAndV ta tb σ H Q := h
theorem w_orV (h : ta σ H fun x H1 => ∃ c, x = .bl c ∧ if c = true then Q (.bl true) H1 else tb σ H1 Q) : tOrV ta tb σ H Q := h
theorem w_notV (h : ta σ H fun x H1 => ∃ c, x = .bl c ∧ Q (.bl (!c)) H1) : tNotV ta σ H Q := h
theorem w_add (q : Q (.int (i + j)) H) : rAddI (.int i) (.int j) H Q := ⟨i, j, rfl, rfl, q⟩
theorem w_sub (q : Q (.int (i - j)) H) : rSubI (.int i) (.int j) H Q := ⟨i, j, rfl, rfl, q⟩
theorem w_mul (h : CMul i j) (q : Q (.int (i * j)) H) : rMulI (.int i) (.int j) H Q := ⟨i, j, rfl, rfl, h, q⟩
theorem w_fdC (h : CDiv i j) (q : Q (.int (i / j)) H) : rFdC (.int i) (.int j) H Q := ⟨i, j, rfl, rfl, h, q⟩
theorem w_fd (h : j ≠ 0) (q : Q (.int (i.fdiv j)) H) : rFd (.int i) (.int j) H Q := ⟨i, j, rfl, rfl, h, q⟩
theorem w_mod (h : 0 < j) (q : Q (.int (i % j)) H) : rModP (.int i) (.int j) H Q := ⟨i, j, rfl, rfl, h, q⟩
theorem w_pow (h : CPow i j) (q : Q (.int (i ^ j.toNat)) H) : rPowI (.int i) (.int j) H Q := ⟨i, j, rfl, rfl, h, q⟩
theorem w_lt (q : Q (.bl (decide (i < j))) H) : rLtI (.int i) (.int j) H Q := ⟨i, j, rfl, rfl, q⟩
theorem w_le (q : Q (.bl (decide (i ≤ j))) H) : rLeI (.int i) (.int j) H Q := ⟨i, j, rfl, rfl, q⟩
theorem w_gt (q : Q (.bl (decide (j < i))) H) : rGtI (.int i) (.int j) H Q := ⟨i, j, rfl, rfl, q⟩
theorem w_ge (q : Q (.bl (decide (j ≤ i))) H) : rGeI (.int i) (.int j) H Q := ⟨i, j, rfl, rfl, q⟩
theorem w_eqI (q : Q (.bl (decide (i = j))) H) : rEq (.int i) (.int j) H Q := ⟨rfl, by
  have e : decide (V.int i = V.int j) = decide (i = j) := by
    by_cases h : i = j
    · rw [decide_eq_true h, decide_eq_true (congrArg V.int h)]
    · rw [decide_eq_false h, decide_eq_false fun z => h (V.int.inj z)]
  rw [e]; exact q⟩
theorem w_neI (q : Q (.bl (!decide (i = j))) H) : rNe (.int i) (.int j) H Q := ⟨rfl, by
  have e : decide (V.int i = V.int j) = decide (i = j) := by
    by_cases h : i = j
    · rw [decide_eq_true h, decide_eq_true (congrArg V.int h)]
    · rw [decide_eq_false h, decide_eq_false fun z => h (V.int.inj z)]
  rw [e]; exact q⟩
theorem w_eqS {s z : Str} (q : Q (.bl (decide (s = z))) H) : rEq (.str s) (.str z) H Q := ⟨rfl, by
  have e : decide (V.str s = V.str z) = decide (s = z) := by
    by_cases h : s = z
    · rw [decide_eq_true h, decide_eq_true (congrArg V.str h)]
    · rw [decide_eq_false h, decide_eq_false fun z => h (V.str.inj z)]
  rw [e]; exact q⟩
theorem w_neS {s z : Str} (q : Q (.bl (!decide (s = z))) H) : rNe (.str s) (.str z) H Q := ⟨rfl, by
  have e : decide (V.str s = V.str z) = decide (s = z) := by
    by_cases h : s = z
    · rw [decide_eq_true h, decide_eq_true (congrArg V.str h)]
    · rw [decide_eq_false h, decide_eq_false fun z => h (V.str.inj z)]
  rw [e]; exact q⟩
theorem w_isN (q : Q (.bl (decide (x = .non))) H) : rIsNo x .non H Q := ⟨rfl, q⟩
theorem w_isnN (q : Q (.bl (!decide (x = .non))) H) : rIsNotNo x .non H Q := ⟨rfl, q⟩
theorem w_ixL (h : SqL K H p xs) (ha : atI xs i = some v) (q : Q v H) : rIxL K (.ref p) (.int i) H Q := ⟨p, xs, i, v, rfl, rfl, h, ha, q⟩
theorem w_ixT (h : SqT K H p xs) (ha : atI xs i = some v) (q : Q v H) : rIxT K (.ref p) (.int i) H Q := ⟨p, xs, i, v, rfl, rfl, h, ha, q⟩
theorem w_tFd (h : ta σ H fun x H1 => ∃ a dx fs v, x = .ref a ∧ H1 a = some (.ins C dx fs) ∧ fs.lookup f = some v ∧ Q v H1) : tFd C f ta σ H Q := h
theorem w_fld {P : V → Prop} (h : H a = some (.ins C dx fs)) (l : fs.lookup f = some v) (q : P v) : ∃ a' dx' fs' v', V.ref a = .ref a' ∧ H a' = some (.ins C dx' fs') ∧ fs'.lookup f = some v' ∧ P v' := ⟨a, dx, fs, v, rfl, h, l, q⟩
theorem w_sFd (h : tv σ H fun y H1 => ta σ H1 fun x H2 => ∃ a dx fs, x = .ref a ∧ H2 a = some (.ins C dx fs) ∧ fs.length < 1000 ∧ D.nx σ (upd H2 a (.ins C dx (putF f y fs)))) : sFd C f ta tv D σ H := h
theorem w_put {P : List (Str × V) → Addr → Addr → Prop} (h : H a = some (.ins C dx fs)) (n : fs.length < 1000) (q : P fs dx a) : ∃ a' dx' fs', V.ref a = .ref a' ∧ H a' = some (.ins C dx' fs') ∧ fs'.length < 1000 ∧ P fs' dx' a' := ⟨a, dx, fs, rfl, h, n, q⟩
theorem w_nil (h : QA [] H) : tNil σ H QA := h
theorem w_cons (h : ta σ H fun x H1 => tr σ H1 fun xs H2 => QA (x :: xs) H2) : tCons ta tr σ H QA := h
theorem w_tup (h : tr σ H fun xs H1 => xs.length ≤ sizeLine ∧ ∀ p, H1 p = none → Q (.ref p) (upd H1 p (.tup xs))) : tTup tr σ H Q := h
theorem w_lst (h : tr σ H fun xs H1 => xs.length ≤ sizeLine ∧ ∀ p, H1 p = none → Q (.ref p) (upd H1 p (.lst xs))) : tLst tr σ H Q := h
theorem w_call {sp : Sp} {E : XK} (h : tr σ H fun vs H1 => sp (vs ++ []) H1 Q E) : tCall sp [] E tr σ H Q := h
theorem w_meth {sp : Sp} {E : XK} (h : ta σ H fun x H1 => ∃ a dx fs, x = .ref a ∧ H1 a = some (.ins C dx fs) ∧ fs.lookup m = none ∧ tr σ H1 fun vs H2 => sp (x :: (vs ++ [])) H2 Q E) : tMeth C m sp [] E ta tr σ H Q := h
theorem w_recv {P : Addr → Prop} (h : H a = some (.ins C dx fs)) (l : fs.lookup m = none) (q : P a) : ∃ a' dx' fs', V.ref a = .ref a' ∧ H a' = some (.ins C dx' fs') ∧ fs'.lookup m = none ∧ P a' := ⟨a, dx, fs, rfl, h, l, q⟩
theorem w_cb {r : List V → Hp → VK → Prop} (h : tr σ H fun vs H1 => r vs H1 Q) : tCB r tr σ H Q := h
theorem w_lenL (h : SqL K H p xs) (q : Q (.int xs.length) H) : rLenQ K [.ref p] H Q := ⟨p, xs, rfl, .inl h, q⟩
theorem w_lenT (h : SqT K H p xs) (q : Q (.int xs.length) H) : rLenQ K [.ref p] H Q := ⟨p, xs, rfl, .inr h, q⟩
theorem w_bm {r : V → List V → Hp → VK → Prop} (h : ta σ H fun x H1 => tyV K "list" x H1 ∧ tr σ H1 fun xs H2 => r x xs H2 Q) : tBM K "list" r ta tr σ H Q := h
theorem w_bm0 {r : V → List V → Hp → VK → Prop} (h : ta σ H fun x H1 => tyV K "list" x H1 ∧ r x [] H1 Q) : tBM0 K "list" r ta σ H Q := h
theorem w_ty {B : Prop} (h : H p = some (.lst xs)) (q : B) : tyV K "list" (.ref p) H ∧ B := ⟨.inl ⟨rfl, xs, SqL.of h⟩, q⟩
theorem w_app (h : H p = some (.lst xs)) (n : xs.length < sizeLine) (q : Q .non (upd H p (.lst (xs ++ [v])))) : rAppend (.ref p) [v] H Q := ⟨p, xs, v, rfl, rfl, h, n, q⟩
theorem w_pop (h : H p = some (.lst xs)) (e : xs[xs.length - 1]? = some v) (q : Q v (upd H p (.lst xs.dropLast))) : rPop (.ref p) [] H Q := ⟨p, xs, v, rfl, rfl, h, e, q⟩
theorem w_popB {P : List V} (h : H p = some (.lst (P ++ [v]))) (q : Q v (upd H p (.lst P))) : rPop (.ref p) [] H Q :=
  w_pop (v := v) h (by simp) (by rw [List.dropLast_concat]; exact q)
theorem w_T {A B : Prop} {b : Bool} (e : b = true) (h : A) : if b = true then A else B := by rw [if_pos e]; exact h
theorem w_F {A B : Prop} {b : Bool} (e : b = false) (h : B) : if b = true then A else B := by rw [e]; exact iteF h
theorem w_2 {A B : Prop} {b : Bool} (h1 : b = true → A) (h2 : b = false → B) : if b = true then A else B := by
  cases b
  · exact iteF (h2 rfl)
  · exact iteT (h1 rfl)
theorem w_D {A B p : Prop} [Decidable p] (h1 : p → A) (h2 : ¬p → B) : if decide p = true then A else B := by
  by_cases h : p
  · rw [decide_eq_true h]; exact iteT (h1 h)
  · rw [decide_eq_false h]; exact iteF (h2 h)
theorem w_ND {A B p : Prop} [Decidable p] (h1 : p → B) (h2 : ¬p → A) : if (!decide p) = true then A else B := by
  by_cases h : p
  · rw [decide_eq_true h]; exact iteF (h1 h)
  · rw [decide_eq_false h]; exact iteT (h2 h)
end
end U

set_option maxHeartbeats 4000000
namespace U
open PySem PySem.Spec PyProof.Rows L2

/-! ### cells that one owns, over a heap that stands -/
abbrev Cell := Addr × HO
def ads (L : List Cell) : List Addr := L.map (·.1)
structure Own (H0 H : Hp) (L : List Cell) : Prop where
  at_ : ∀ p ∈ L, H p.1 = some p.2
  nd : (ads L).Nodup
  new : ∀ a ∈ ads L, H0 a = none
  same : Same H0 H
/-- the heap without the cells L -/
def less (H : Hp) (L : List Cell) : Hp := fun a => if a ∈ ads L then none else H a
theorem less_off {H : Hp} {L : List Cell} {a : Addr} (h : a ∉ ads L) : less H L a = H a := if_neg h
theorem less_on {H : Hp} {L : List Cell} {a : Addr} (h : a ∈ ads L) : less H L a = none := if_pos h
theorem ads_append (L R : List Cell) : ads (L ++ R) = ads L ++ ads R := List.map_append
theorem mem_ads {L : List Cell} {p : Cell} (h : p ∈ L) : p.1 ∈ ads L := List.mem_map_of_mem h
theorem Own.get {H0 H : Hp} {L : List Cell} {a : Addr} {o : HO} (w : Own H0 H L) (h : (a, o) ∈ L) : H a = some o := w.at_ _ h
theorem Own.perm {H0 H : Hp} {L L' : List Cell} (w : Own H0 H L) (p : L.Perm L') : Own H0 H L' := by
  refine ⟨fun x hx => w.at_ x (p.mem_iff.mpr hx), ?_, fun a ha => w.new a ((p.map _).mem_iff.mpr ha), w.same⟩
  exact (List.Perm.nodup_iff (p.map fun x : Cell => x.1)).mp w.nd
theorem Own.sub {H0 H : Hp} {L R : List Cell} (w : Own H0 H (L ++ R)) : Own H0 H L := by
  refine ⟨fun x hx => w.at_ x (List.mem_append_left _ hx), ?_, fun a ha => w.new a ?_, w.same⟩
  · have := w.nd
    rw [ads_append] at this
    exact (List.nodup_append.mp this).1
  · rw [ads_append]
    exact List.mem_append_left _ ha
theorem Own.nil {H0 H : Hp} (s : Same H0 H) : Own H0 H [] := ⟨fun _ h => (by cases h), List.nodup_nil, fun _ h => (by cases h), s⟩
/-- the cell at a is written -/
theorem Own.put {H0 H : Hp} {L R : List Cell} {a : Addr} {o o' : HO} (w : Own H0 H (L ++ (a, o) :: R)) : Own H0 (upd H a o') (L ++ (a, o') :: R) := by
  have e : ads (L ++ (a, o') :: R) = ads (L ++ (a, o) :: R) := by simp [ads]
  have nd : (ads (L ++ (a, o') :: R)).Nodup := by rw [e]; exact w.nd
  refine ⟨fun p hp => ?_, nd, by rw [e]; exact w.new, fun b u hb => ?_⟩
  · by_cases ha : p.1 = a
    · have hp2 : p = (a, o') := by
        rw [ads, List.map_append, List.map_cons] at nd
        rcases List.mem_append.mp hp with h | h
        · exact absurd rfl ((List.nodup_append.mp nd).2.2 p.1 (List.mem_map_of_mem h) a (by simp) |> fun z => by rw [ha] at z; exact z)
        · rcases List.mem_cons.mp h with h | h
          · exact h
          · have q := (List.nodup_cons.mp (List.nodup_append.mp nd).2.1).1
            exact absurd (show a ∈ R.map (·.1) by rw [← ha]; exact List.mem_map_of_mem (f := fun x : Cell => x.1) h) q
      rw [hp2]; exact upd_same
    · rw [upd_ne ha]
      refine w.at_ p ?_
      rcases List.mem_append.mp hp with h | h
      · exact List.mem_append_left _ h
      · rcases List.mem_cons.mp h with h | h
        · rw [h] at ha; exact absurd rfl ha
        · exact List.mem_append_right _ (List.mem_cons_of_mem _ h)
  · have hn : H0 a = none := w.new a (by simp [ads])
    rw [upd_ne (ne_of_none hb hn)]
    exact w.same b u hb
/-- something new is laid and not owned -/
theorem Own.lay {H0 H : Hp} {L : List Cell} {a : Addr} {o : HO} (w : Own H0 H L) (h : H a = none) : Own H0 (upd H a o) L := by
  refine ⟨fun p hp => ?_, w.nd, w.new, fun b u hb => ?_⟩
  · rw [upd_ne (ne_of_none (w.at_ p hp) h)]; exact w.at_ p hp
  · rw [upd_ne (ne_of_none (w.same b u hb) h)]; exact w.same b u hb
/-- something new is laid and owned -/
theorem Own.take {H0 H : Hp} {L : List Cell} {a : Addr} {o : HO} (w : Own H0 H L) (h : H a = none) : Own H0 (upd H a o) ((a, o) :: L) := by
  refine ⟨fun p hp => ?_, ?_, fun b hb => ?_, (w.lay h).same⟩
  · rcases List.mem_cons.mp hp with h1 | h1
    · rw [h1]; exact upd_same
    · exact (w.lay h).at_ p h1
  · refine List.nodup_cons.mpr ⟨fun hm => ?_, w.nd⟩
    obtain ⟨p, hp, e⟩ := List.mem_map.mp hm
    have q := w.at_ p hp
    rw [e, h] at q
    cases q
  · rcases List.mem_cons.mp hb with h1 | h1
    · rw [h1]
      cases e : H0 a with
      | none => rfl
      | some u =>
        have := w.same a u e
        rw [h] at this
        cases this
    · exact w.new b h1
/-- cells are dropped -/
theorem Own.drop {H0 H : Hp} {L R : List Cell} (w : Own H0 H (L ++ R)) : Own H0 H R := by
  have p : (L ++ R).Perm (R ++ L) := List.perm_append_comm
  exact (w.perm p).sub
/-- what stood stands below -/
theorem Own.base {H0 H : Hp} {L : List Cell} (w : Own H0 H L) : Same H0 (less H L) := fun b u hb => by
  have : b ∉ ads L := fun hm => by
    rw [w.new b hm] at hb
    cases hb
  rw [less_off this]
  exact w.same b u hb
/-- a callee's own: the cells L out of L ++ R -/
theorem Own.lend {H0 H : Hp} {L : List Cell} (w : Own H0 H L) : Own (less H L) H L := by
  refine ⟨w.at_, w.nd, fun a ha => less_on ha, fun b u hb => ?_⟩
  by_cases h : b ∈ ads L
  · rw [less_on h] at hb; cases hb
  · rw [less_off h] at hb; exact hb
/-- .. and back -/
theorem Own.back {H0 H H' : Hp} {L R L' : List Cell} (w : Own H0 H (L ++ R)) (w' : Own (less H L) H' L') : Own H0 H' (L' ++ R) := by
  have hs : Same H0 (less H L) := w.sub.base
  have nd := w.nd
  rw [ads_append] at nd
  have dis := (List.nodup_append.mp nd).2.2
  have offL : ∀ p ∈ R, p.1 ∉ ads L := fun p hp hm => dis _ hm _ (mem_ads hp) rfl
  have atR : ∀ p ∈ R, less H L p.1 = some p.2 := fun p hp => by
    rw [less_off (offL p hp)]
    exact w.at_ p (List.mem_append_right _ hp)
  refine ⟨fun p hp => ?_, ?_, fun a ha => ?_, hs.trans w'.same⟩
  · rcases List.mem_append.mp hp with h | h
    · exact w'.at_ p h
    · exact w'.same _ _ (atR p h)
  · rw [ads_append]
    refine List.nodup_append.mpr ⟨w'.nd, (List.nodup_append.mp nd).2.1, fun a ha b hb e => ?_⟩
    obtain ⟨p, hp, e2⟩ := List.mem_map.mp hb
    have q := w'.new a ha
    rw [e, ← e2, atR p hp] at q
    cases q
  · rw [ads_append] at ha
    rcases List.mem_append.mp ha with h | h
    · have q := w'.new a h
      cases e : H0 a with
      | none => rfl
      | some u =>
        rw [hs a u e] at q
        cases q
    · exact w.new a (by rw [ads_append]; exact List.mem_append_right _ h)
/-- a callee that has nothing of its own -/
theorem Own.kept {H0 H H' : Hp} {L : List Cell} (w : Own H0 H L) (s : Same H H') : Own H0 H' L :=
  ⟨fun p hp => s _ _ (w.at_ p hp), w.nd, w.new, w.same.trans s⟩
theorem same_lay {H : Hp} {p : Addr} {o : HO} (h : H p = none) : Same H (upd H p o) := fun b u e => by
  rw [upd_ne (ne_of_none e h)]
  exact e
theorem same_tup {K : PySem.W.Frag} {H H' : Hp} {a : Addr} {xs : List V} (e : Same H H') (h : SqT K H a xs) : SqT K H' a xs := by
  rcases h with (h | ⟨o, h⟩) | h
  · exact .inl (.inl (e _ _ h))
  · exact .inl (.inr ⟨o, e _ _ h⟩)
  · exact .inr h

theorem Own.set {H0 H : Hp} {L : List Cell} {a : Addr} {o : HO} (w : Own H0 H L) (i : Nat) (o' : HO) (h : L[i]? = some (a, o)) : Own H0 (upd H a o') (L.set i (a, o')) := by
  obtain ⟨hi, e⟩ := List.getElem?_eq_some_iff.mp h
  have e1 : L = L.take i ++ (a, o) :: L.drop (i + 1) := by
    rw [← e]
    rw [List.getElem_cons_drop, List.take_append_drop]
  have e2 : L.set i (a, o') = L.take i ++ (a, o') :: L.drop (i + 1) := by rw [List.set_eq_take_append_cons_drop, if_pos hi]
  rw [e2]
  rw [e1] at w
  exact w.put
theorem Own.ix {H0 H : Hp} {L : List Cell} {a : Addr} {o : HO} (w : Own H0 H L) (i : Nat) (h : L[i]? = some (a, o)) : H a = some o := w.get (List.mem_of_getElem? h)
theorem Own.slist {H0 H : Hp} {L L' : List Cell} (w : Own H0 H L) (s : L'.Sublist L) : Own H0 H L' :=
  ⟨fun p hp => w.at_ p (s.subset hp), List.Nodup.sublist (s.map fun x : Cell => x.1) w.nd, fun a ha => w.new a ((s.map fun x : Cell => x.1).subset ha), w.same⟩
/-- the cell at place i is given up -/
theorem Own.del {H0 H : Hp} {L : List Cell} (w : Own H0 H L) (i : Nat) : Own H0 H (L.eraseIdx i) := w.slist (List.eraseIdx_sublist ..)
/-- the first cell takes the i-th one's place -/
theorem Own.repl {H0 H : Hp} {L : List Cell} {c : Cell} (w : Own H0 H (c :: L)) (i : Nat) (hi : i < L.length) : Own H0 H (L.set i c) := by
  have e1 : L = L.take i ++ L[i] :: L.drop (i + 1) := by rw [List.getElem_cons_drop, List.take_append_drop]
  have e2 : L.set i c = L.take i ++ c :: L.drop (i + 1) := by rw [List.set_eq_take_append_cons_drop, if_pos hi]
  have p : (c :: L).Perm (L[i] :: L.set i c) := by
    rw [e2]
    refine List.Perm.trans (l₂ := c :: L[i] :: (L.take i ++ L.drop (i + 1))) (.cons _ ?_) ((List.Perm.swap _ _ _).trans (.cons _ List.perm_middle.symm))
    exact List.Perm.trans (List.Perm.of_eq e1) List.perm_middle
  exact (w.perm p).slist (List.sublist_cons_self ..)
theorem Own.lend1 {H0 H : Hp} {c : Cell} {L : List Cell} (w : Own H0 H (c :: L)) : Own (less H [c]) H [c] := (Own.sub (L := [c]) w).lend
/-- three new ones go behind the three ahead -/
theorem Own.rot3 {H0 H : Hp} {a b c x y z : Cell} {L : List Cell} (w : Own H0 H (a :: b :: c :: x :: y :: z :: L)) : Own H0 H (x :: y :: z :: a :: b :: c :: L) := by
  refine w.perm ?_
  have p : ([a, b, c] ++ [x, y, z] : List Cell).Perm ([x, y, z] ++ [a, b, c]) := List.perm_append_comm
  exact p.append_right L
theorem w_make {σ : L2.St} {H : Hp} {C : Addr} {sp : Sp} {E : XK} {tr : TA} {Q : VK} (h : tr σ H fun vs H1 => ∀ x dx, H1 x = none → H1 dx = none → dx ≠ x →
    sp (.ref x :: (vs ++ [])) (upd (upd H1 dx (.own x)) x (.ins C dx [])) (fun v H2 => v = .non ∧ Q (.ref x) H2) E) : tMake C sp [] E tr σ H Q := h
theorem w_inT {K : PySem.W.Frag} {H : Hp} {Q : VK} {x : V} {p : Addr} {xs : List V} (h : SqT K H p xs) (hx : flatV x = true) (ha : xs.all flatV = true) (q : Q (.bl (inV x xs)) H) : rIn K false x (.ref p) H Q :=
  ⟨p, xs, rfl, .inr h, hx, ha, q⟩
theorem w_gsub {σ : L2.St} {H : Hp} {v : V} {to ti : TE} {r : TSet} {QS : L2.St → Hp → Prop} (h : to σ H fun o H1 => ti σ H1 fun i H2 => r o i v H2 fun H3 => QS σ H3) : gSub to ti r v σ H QS := h
theorem w_setL {H : Hp} {p : Addr} {xs : List V} {k : Int} {v : V} {Q : Hp → Prop} (h : H p = some (.lst xs)) (h0 : 0 ≤ k) (h1 : k < xs.length) (q : Q (upd H p (.lst (xs.set k.toNat v)))) : rSetL (.ref p) (.int k) v H Q := by
  refine ⟨p, xs, k, k.toNat, rfl, rfl, h, ?_, q⟩
  unfold ixN
  rw [if_pos h0, if_pos h1]
theorem len_ok {n : Nat} (h : n ≤ 100) : n ≤ sizeLine := Nat.le_trans h (by rw [sizeLine_eq]; decide)
theorem w_new {xs : List V} {B : Prop} (h : xs.length ≤ 100) (q : B) : xs.length ≤ sizeLine ∧ B := ⟨len_ok h, q⟩
/-- x in a written tuple -/
theorem w_memb {K : PySem.W.Frag} {σ : L2.St} {H : Hp} {k : Nat} {x : V} {xs : List V} {ta : TA} {QT : Bool → Hp → Prop} (hv : σ[k]? = some (some x)) (ht : ∀ (H : Hp) (QA : List V → Hp → Prop), QA xs H → ta σ H QA)
    (hx : flatV x = true) (ha : xs.all flatV = true) (hl : xs.length ≤ sizeLine) (q : ∀ p, H p = none → QT (inV x xs) (upd H p (.tup xs))) : tTest (tOp (rIn K false) (tVar k) (tTup ta)) σ H QT := by
  refine ⟨x, hv, ht _ _ ⟨hl, fun p hp => ⟨p, xs, rfl, .inr (SqT.of upd_same), hx, ha, inV x xs, rfl, q p hp⟩⟩⟩

theorem w_cat {H : Hp} {Q : VK} {l p : Addr} {xs ys : List V} (h : H l = some (.lst xs)) (h' : H p = some (.lst ys)) (n : xs.length + ys.length ≤ sizeLine)
    (q : ∀ r, H r = none → Q (.ref r) (upd H r (.lst (xs ++ ys)))) : rCat (.ref l) (.ref p) H Q := ⟨l, p, xs, ys, rfl, rfl, h, h', n, q⟩
theorem flat_rep (v : V) : ∀ n : Nat, (List.replicate n [v]).flatten = List.replicate n v
  | 0 => rfl
  | n + 1 => by rw [List.replicate_succ, List.flatten_cons, flat_rep v n]; rfl
theorem w_rep1 {H : Hp} {Q : VK} {l : Addr} {v : V} {k : Int} (h : H l = some (.lst [v])) (h0 : -1000 ≤ k) (h1 : k < 16000000)
    (q : ∀ r, H r = none → Q (.ref r) (upd H r (.lst (List.replicate k.toNat v)))) : rRep (.ref l) (.int k) H Q := by
  refine ⟨l, k, [v], rfl, rfl, h, by omega, by omega, ?_, fun p hp => ?_⟩
  · rw [sizeLine_eq]
    show 1 * k.toNat ≤ _
    omega
  · rw [flat_rep]
    exact q p hp

/-! ### places in lists -/
theorem atI_ok {α : Type} {xs : List α} {i : Int} {v : α} (h0 : 0 ≤ i) (h : xs[i.toNat]? = some v) : atI xs i = some v := by
  have e : i = ((i.toNat : Nat) : Int) := by omega
  rw [e]
  exact atI_nat h
theorem atI_end {α : Type} {xs : List α} {v : α} {n : Int} (h : n = ((xs ++ [v]).length : Int) - 1) : atI (xs ++ [v]) n = some v := by
  have e : n = ((xs.length : Nat) : Int) := by
    rw [List.length_append] at h
    simp at h
    omega
  rw [e]
  exact atI_nat (by simp)
end U

set_option maxHeartbeats 4000000
namespace U
open PySem PySem.Spec PyProof.Rows L2
section
variable {K : PySem.W.Frag} {σ : L2.St} {H : Hp} {Q : VK} {D : Ends} {ta tb te tv : TE} {v x y : V} {i j : Int} {k : Nat} {a p l C dx : Addr} {xs ys : List V} {QO : Option Int → Hp → Prop} {tr : TA} {R : It → Hp → Prop} {lo hi : Option Int}
theorem w_lc {wi : TI} {g : TG} {tt : TT} {n : List Nat} (h : wi σ H fun J H1 => ∀ D, H1 D = none → ∃ W : Nat → Nat → Hp → Prop, (∃ m, W 0 m (upd H1 D (.lst []))) ∧ ∀ i m H, W i m H →
    (J.stop i H ∧ Q (.ref D) H) ∨ (J.go i H ∧ ∃ Nx : Hp → Prop, (∀ H', Nx H' → ∃ m', m' < m ∧ W (i + 1) m' H') ∧ ∀ x H', J.yld i H x H' → g x (wipe σ n) H' fun σ2 H2 => wipe σ2 n = wipe σ n ∧ tt σ2 H2 fun b H3 =>
    if b = true then te σ2 H3 fun y H4 => ∃ acc, H4 D = some (.lst acc) ∧ acc.length < sizeLine ∧ Nx (upd H4 D (.lst (acc ++ [y]))) else Nx H3)) : tLc wi g tt te n σ H Q := h
theorem w_for {wi : TI} {g : TG} {tb : TS} (h : wi σ H fun J H1 => ∃ W : Nat → Nat → L2.St → Hp → Prop, (∃ m, W 0 m σ H1) ∧ ∀ i m σ H, W i m σ H →
    (J.stop i H ∧ D.nx σ H) ∨ (J.go i H ∧ ∃ N : L2.St → Hp → Prop, (∀ σ' H', N σ' H' → ∃ m', m' < m ∧ W (i + 1) m' σ' H') ∧ ∀ x H', J.yld i H x H' → g x σ H' fun σ2 H2 => tb { D with nx := N, ct := N, bk := D.nx } σ2 H2)) : tFor wi g tb D σ H := h
theorem w_yes {QT : Bool → Hp → Prop} (h : QT true H) : tYes σ H QT := h
theorem w_iList (h : te σ H fun x H1 => ∃ a, x = .ref a ∧ (∃ xs, SqL K H1 a xs) ∧ R (Itl K a) H1) : iList K te σ H R := h
theorem w_refL {P : Addr → Prop} (h : SqL K H a xs) (q : P a) : ∃ a', V.ref a = .ref a' ∧ (∃ xs, SqL K H a' xs) ∧ P a' := ⟨a, rfl, ⟨xs, h⟩, q⟩
theorem w_tSl {r : V → Option Int → Option Int → Hp → VK → Prop} {tl th : TO} (h : te σ H fun x H1 => tl σ H1 fun l H2 => th σ H2 fun u H3 => r x l u H3 Q) : tSl r te tl th σ H Q := h
theorem w_part (h : te σ H fun x H1 => ∃ i, x = .int i ∧ QO (some i) H1) : tPart te σ H QO := h
theorem w_nopart (h : QO none H) : tNoPart σ H QO := h
theorem w_i {P : Int → Prop} (h : P i) : ∃ j, V.int i = .int j ∧ P j := ⟨i, rfl, h⟩
theorem w_slL (h : SqL K H a xs) (q : ∀ p, H p = none → Q (.ref p) (upd H p (.lst (cutV xs lo hi)))) : rSlL K (.ref a) lo hi H Q := ⟨a, xs, rfl, h, q⟩
theorem w_rng1 (h : tr σ H fun vs H1 => ∃ j : Int, vs = [.int j] ∧ -(2 ^ 62) ≤ j ∧ j < 2 ^ 62 ∧ R (Itr 0 j.toNat) H1) : iRng1 tr σ H R := h
theorem w_rng2 (h : tr σ H fun vs H1 => ∃ i j : Int, vs = [.int i, .int j] ∧ (-(2 ^ 62) ≤ i ∧ i < 2 ^ 62 ∧ -(2 ^ 62) ≤ j ∧ j < 2 ^ 62) ∧ R (Itr i (j - i).toNat) H1) : iRng2 tr σ H R := h
theorem w_r1 {P : Int → Prop} (h0 : -1000000 ≤ i) (h1 : i < 100000000) (q : P i) : ∃ j : Int, [V.int i] = [.int j] ∧ -(2 ^ 62) ≤ j ∧ j < 2 ^ 62 ∧ P j := ⟨i, rfl, by omega, by omega, q⟩
theorem w_listQ (h : SqL K H p xs) (q : ∀ l, H l = none → Q (.ref l) (upd H l (.lst xs))) : rListQ K [.ref p] H Q := ⟨p, xs, rfl, .inl h, q⟩
theorem w_isiII (q : Q (.bl true) H) : rIsi K [.int i, .ty "int"] H Q := ⟨_, _, _, _, true, rfl, .ty _, .base (.int i), kit_ty (by decide +kernel), q⟩
theorem w_isiIB (q : Q (.bl false) H) : rIsi K [.int i, .ty "bool"] H Q := ⟨_, _, _, _, false, rfl, .ty _, .base (.int i), kit_ty (by decide +kernel), q⟩
theorem w_isiTT (h : H a = some (.tup xs)) (q : Q (.bl true) H) : rIsi K [.ref a, .ty "tuple"] H Q := ⟨_, _, _, _, true, rfl, .ty _, .base (.tup h), kit_ty (by decide +kernel), q⟩
theorem w_isiLL (h : H a = some (.lst xs)) (q : Q (.bl true) H) : rIsi K [.ref a, .ty "list"] H Q := ⟨_, _, _, _, true, rfl, .ty _, .base (.lst h), kit_ty (by decide +kernel), q⟩
theorem w_isiSS {s : Str} (q : Q (.bl true) H) : rIsi K [.str s, .ty "str"] H Q := ⟨_, _, _, _, true, rfl, .ty _, .base (.str s), kit_ty (by decide +kernel), q⟩
theorem w_neD {d e : PyData} (h1 : Dp K H x d) (h2 : Dp K H y e) (s1 : SeqAt.shaped d = true) (s2 : SeqAt.shaped e = true) (q : Q (.bl (!PyData.eqv d e)) H) : rNeD K x y H Q := ⟨d, e, h1, h2, s1, s2, q⟩
theorem w_eqD {d e : PyData} (h1 : Dp K H x d) (h2 : Dp K H y e) (s1 : SeqAt.shaped d = true) (s2 : SeqAt.shaped e = true) (q : Q (.bl (PyData.eqv d e)) H) : rEqD K x y H Q := ⟨d, e, h1, h2, s1, s2, q⟩
theorem w_orV1 {A B : Prop} {b : Bool} (h1 : b = true → A) (h2 : b = false → B) : ∃ c, V.bl b = .bl c ∧ if c = true then A else B := ⟨b, rfl, w_2 h1 h2⟩
theorem w_fdC' (h0 : 0 < j) (h1 : j < 1073741824) (q : Q (.int (i / j)) H) : rFdC (.int i) (.int j) H Q := w_fdC ⟨h0, h1⟩ q
theorem w_mulR (h0 : -(2 ^ 64) < j) (h1 : j < 2 ^ 64) (q : Q (.int (i * j)) H) : rMulI (.int i) (.int j) H Q := w_mul (.inr ⟨h0, h1⟩) q
theorem w_mulL (h0 : -(2 ^ 64) < i) (h1 : i < 2 ^ 64) (q : Q (.int (i * j)) H) : rMulI (.int i) (.int j) H Q := w_mul (.inl ⟨h0, h1⟩) q
theorem w_pow' (h0 : 0 ≤ j) (h1 : j ≤ 1000000) (h2 : i.natAbs < 2 ^ 64) (q : Q (.int (i ^ j.toNat)) H) : rPowI (.int i) (.int j) H Q := w_pow ⟨h0, h1, h2⟩ q
end
/-- a tuple stands while a list is written -/
theorem tup_put {K : PySem.W.Frag} {H : Hp} {D a : Addr} {ys xs : List V} {o : HO} (hD : H D = some (.lst ys)) (h : SqT K H a xs) : SqT K (upd H D o) a xs := by
  rcases h with (h | ⟨ob, h⟩) | h
  · exact .inl (.inl (by rw [upd_ne (ne_of h hD (by intro z; cases z))]; exact h))
  · exact .inl (.inr ⟨ob, by rw [upd_ne (ne_of h hD (by intro z; cases z))]; exact h⟩)
  · exact .inr h
theorem cut_from (xs : List V) (k : Nat) : cutV xs (some (k : Int)) none = xs.drop k := by
  unfold cutV
  rw [HT.sIx_nat, HT.sIx_none, List.take_of_length_le (by rw [List.length_drop]; omega)]
  by_cases h : k ≤ xs.length
  · rw [Nat.min_eq_left h]
  · rw [Nat.min_eq_right (by omega), List.drop_eq_nil_of_le (Nat.le_refl _), List.drop_eq_nil_of_le (by omega)]
theorem cut_to (xs : List V) (k : Nat) : cutV xs none (some (k : Int)) = xs.take k := by
  unfold cutV
  rw [HT.sIx_nat, HT.sIx_none, List.drop_zero, Nat.sub_zero]
  by_cases h : k ≤ xs.length
  · rw [Nat.min_eq_left h]
  · rw [Nat.min_eq_right (by omega), List.take_of_length_le (Nat.le_refl _), List.take_of_length_le (by omega)]
theorem w_cut {t u : TS} {D : Ends} {σ : L2.St} {H : Hp} (P : L2.St → Hp → Prop) (key : ∀ σ' H', P σ' H' → u D σ' H') (main : ∀ N : L2.St → Hp → Prop, (∀ σ' H', P σ' H' → N σ' H') → t { D with nx := N } σ H) : tSeq t u D σ H := main _ key
theorem pick2 (x : Int) (u v : V) : atI [u, v] (x % 2) = some (if x % 2 = 0 then u else v) := by
  rcases (by omega : x % 2 = 0 ∨ x % 2 = 1) with h | h <;> rw [h] <;> rfl
theorem same_sym {H H' : Hp} {p : Addr} (s : Same H H') (h : H' p = none) : H p = none := Same.free s h
/-- the law's own promise -/
def spLaw (K : PySem.W.Frag) : Sp := fun vs H Q _ => ∃ (a : Addr) (ns : List Int), vs = [.ref a] ∧ SqL K H a (ns.map V.int) ∧ ns.length ≤ 63 ∧ ∀ H', Q (.bl true) H'
inductive All2 {α β : Type} (R : α → β → Prop) : List α → List β → Prop
  | nil : All2 R [] []
  | cons {a b as bs} : R a b → All2 R as bs → All2 R (a :: as) (b :: bs)
theorem All2.len {α β : Type} {R : α → β → Prop} {as : List α} {bs : List β} (h : All2 R as bs) : as.length = bs.length := by
  induction h with
  | nil => rfl
  | cons _ _ ih => simp [ih]
theorem All2.get {α β : Type} {R : α → β → Prop} {as : List α} {bs : List β} (h : All2 R as bs) : ∀ {i : Nat} {b : β}, bs[i]? = some b → ∃ a, as[i]? = some a ∧ R a b := by
  induction h with
  | nil => intro i b e; simp at e
  | cons r _ ih =>
    intro i b e
    cases i with
    | zero =>
      simp at e
      exact ⟨_, rfl, e ▸ r⟩
    | succ i =>
      obtain ⟨a, h1, h2⟩ := ih (i := i) (b := b) (by simpa using e)
      exact ⟨a, by simpa using h1, h2⟩
theorem All2.mono {α β : Type} {R R' : α → β → Prop} (f : ∀ a b, R a b → R' a b) {as : List α} {bs : List β} (h : All2 R as bs) : All2 R' as bs := by
  induction h with
  | nil => exact .nil
  | cons r _ ih => exact .cons (f _ _ r) ih
theorem All2.app {α β : Type} {R : α → β → Prop} {as as' : List α} {bs bs' : List β} (h : All2 R as bs) (h' : All2 R as' bs') : All2 R (as ++ as') (bs ++ bs') := by
  induction h with
  | nil => exact h'
  | cons r _ ih => exact .cons r ih
theorem All2.snoc {α β : Type} {R : α → β → Prop} {as : List α} {bs : List β} {a : α} {b : β} (h : All2 R as bs) (r : R a b) : All2 R (as ++ [a]) (bs ++ [b]) := h.app (.cons r .nil)
theorem All2.drop {α β : Type} {R : α → β → Prop} {as : List α} {bs : List β} (h : All2 R as bs) : ∀ (i : Nat) {a : α}, as[i]? = some a → ∃ b, R a b ∧ bs.drop i = b :: bs.drop (i + 1) := by
  induction h with
  | nil => intro i a e; simp at e
  | cons r _ ih =>
    intro i a e
    cases i with
    | zero =>
      simp at e
      exact ⟨_, e ▸ r, rfl⟩
    | succ i =>
      obtain ⟨b, h1, h2⟩ := ih i (a := a) (by simpa using e)
      exact ⟨b, h1, by simpa using h2⟩
theorem take_map_snoc {α β : Type} (f : α → β) {xs : List α} {i : Nat} {x : α} (h : xs[i]? = some x) : (xs.take (i + 1)).map f = (xs.take i).map f ++ [f x] := by
  rw [List.take_add_one, h, List.map_append]
  rfl
end U

/-! the machine, in plain Lean -/
namespace Un
open PySem

inductive Rw where
  | put (n : Int) | get (k : Int) | set (k : Int) | say | add | sub | less | share | go (p : Int) | nought (p : Int) | on (k : Int) | turn | call (f : Int) | back | raise
  deriving DecidableEq, Repr

abbrev Stretch := Int × Int × Int
structure Parts where
  code : List Rw
  str : List Stretch
  starts : List Int
  boxes : Int

structure Fr where
  place : Int
  boxes : List Int
  pile : List Int

inductive Ed where
  | answer | fault | tired
  deriving DecidableEq, Repr
def Ed.str : Ed → Str
  | .answer => "answer"
  | .fault => "fault"
  | .tired => "tired"

structure Mc where
  frames : List Fr
  said : List Int
  turns : Nat
  ended : Option (Ed × Int)

def nth {α : Type} (xs : List α) (i : Int) : Option α := if 0 ≤ i then xs[i.toNat]? else none
def goalOf : List Stretch → Int → Option Int
  | [], _ => none
  | s :: r, p => if s.1 ≤ p ∧ p < s.2.1 then some s.2.2 else goalOf r p
def Fr.lay (f : Fr) (n : Int) : Fr := { f with pile := n :: f.pile, place := f.place + 1 }
def faultF (S : List Stretch) (n : Int) : List Fr → List Fr
  | [] => []
  | f :: r => match goalOf S f.place with
    | some g => { f with pile := [n], place := g } :: r
    | none => faultF S n r
def Mc.fault (P : Parts) (m : Mc) (n : Int) : Mc := match faultF P.str n m.frames with
  | [] => { m with frames := [], ended := some (.fault, n) }
  | f :: r => { m with frames := f :: r }
def Mc.tired (m : Mc) : Mc := { m with ended := some (.tired, 0) }
def newBoxes (nb given : Int) : List Int := given :: List.replicate (nb - 1).toNat 0
def Mc.enter (P : Parts) (m : Mc) (g v : Int) : Option Mc :=
  if m.turns = 0 then some m.tired
  else if m.frames.length = 8 then some (({ m with turns := m.turns - 1 } : Mc).fault P 102)
  else (nth P.starts g).map fun s => { m with turns := m.turns - 1, frames := ⟨s, newBoxes P.boxes v, []⟩ :: m.frames }
def Mc.back (m : Mc) (v : Int) : Mc := match m.frames with
  | [] => m
  | [_] => { m with frames := [], ended := some (.answer, v) }
  | _ :: g :: r => { m with frames := g.lay v :: r }
/-- a number laid or taken -/
def moveRw (row : Rw) (f : Fr) (r : List Fr) (m : Mc) : Option Mc := match row with
  | .put n => some { m with frames := f.lay n :: r }
  | .get k => (nth f.boxes k).map fun v => { m with frames := f.lay v :: r }
  | .set k => match f.pile with
    | v :: p => if 0 ≤ k ∧ k < f.boxes.length then some { m with frames := ⟨f.place + 1, f.boxes.set k.toNat v, p⟩ :: r } else none
    | [] => none
  | .say => match f.pile with
    | v :: p => some { m with said := m.said ++ [v], frames := ⟨f.place + 1, f.boxes, p⟩ :: r }
    | [] => none
  | _ => none
/-- two numbers joined -/
def meetRw (P : Parts) (row : Rw) (f : Fr) (r : List Fr) (m : Mc) : Option Mc := match f.pile with
  | b :: a :: p => match row with
    | .add => some { m with frames := (⟨f.place, f.boxes, p⟩ : Fr).lay (a + b) :: r }
    | .sub => some { m with frames := (⟨f.place, f.boxes, p⟩ : Fr).lay (a - b) :: r }
    | .less => some { m with frames := (⟨f.place, f.boxes, p⟩ : Fr).lay (if a < b then 1 else 0) :: r }
    | .share => if b = 0 then some (({ m with frames := ⟨f.place, f.boxes, p⟩ :: r } : Mc).fault P 101) else some { m with frames := (⟨f.place, f.boxes, p⟩ : Fr).lay (a.fdiv b) :: r }
    | _ => none
  | _ => none
/-- on at another place -/
def jumpRw (row : Rw) (f : Fr) (r : List Fr) (m : Mc) : Option Mc := match row with
  | .go p => some { m with frames := { f with place := p } :: r }
  | .nought p => match f.pile with
    | v :: q => some { m with frames := ⟨if v = 0 then p else f.place + 1, f.boxes, q⟩ :: r }
    | [] => none
  | .on k => (nth f.boxes k).map fun v => { m with frames := { f with place := v } :: r }
  | _ => none
/-- one row, the innermost frame f, those around r -/
def stepRw (P : Parts) (row : Rw) (f : Fr) (r : List Fr) (m : Mc) : Option Mc := match row with
  | .put n => moveRw (.put n) f r m
  | .get k => moveRw (.get k) f r m
  | .set k => moveRw (.set k) f r m
  | .say => moveRw .say f r m
  | .add => meetRw P .add f r m
  | .sub => meetRw P .sub f r m
  | .less => meetRw P .less f r m
  | .share => meetRw P .share f r m
  | .go p => jumpRw (.go p) f r m
  | .nought p => jumpRw (.nought p) f r m
  | .on k => jumpRw (.on k) f r m
  | .turn => if m.turns = 0 then some m.tired else some { m with turns := m.turns - 1, frames := { f with place := f.place + 1 } :: r }
  | .call g => match f.pile with
    | v :: q => ({ m with frames := { f with pile := q } :: r } : Mc).enter P g v
    | [] => none
  | .back => match f.pile with
    | v :: q => some (({ m with frames := { f with pile := q } :: r } : Mc).back v)
    | [] => none
  | .raise => match f.pile with
    | v :: q => some (({ m with frames := { f with pile := q } :: r } : Mc).fault P v)
    | [] => none
def rowStep (P : Parts) (m : Mc) : Option Mc := match m.frames with
  | [] => none
  | f :: r => match nth P.code f.place with
    | none => none
    | some row => stepRw P row f r m
def begun (P : Parts) (number : Int) (turns : Nat) : Option Mc := (nth P.starts 0).map fun s => ⟨[⟨s, newBoxes P.boxes number, []⟩], [], turns, none⟩
/-- k rows, none behind the end -/
def rowSteps (P : Parts) : Nat → Mc → Option Mc
  | 0, m => some m
  | k + 1, m => if m.ended.isSome then none else (rowStep P m).bind (rowSteps P k)
end Un

/-! bounds along a run -/
namespace Un
open PySem
def Bnd (k : Nat) (M : Mc) : Prop := M.frames.length ≤ 8 ∧ (∀ f ∈ M.frames, f.pile.length ≤ k) ∧ M.said.length ≤ k
theorem faultF_sub (S : List Stretch) (n : Int) : ∀ fs : List Fr, (faultF S n fs).length ≤ fs.length ∧ ∀ k, 1 ≤ k → (∀ f ∈ fs, f.pile.length ≤ k) → ∀ f ∈ faultF S n fs, f.pile.length ≤ k
  | [] => ⟨Nat.le_refl _, fun k _ h => h⟩
  | f :: r => by
    have ih := faultF_sub S n r
    unfold faultF
    cases goalOf S f.place with
    | some g =>
      refine ⟨by simp, fun k hk h x hx => ?_⟩
      rcases List.mem_cons.mp hx with e | e
      · subst e
        simpa using hk
      · exact h x (List.mem_cons_of_mem _ e)
    | none => exact ⟨Nat.le_trans ih.1 (by simp), fun k hk h => ih.2 k hk fun x hx => h x (List.mem_cons_of_mem _ hx)⟩
theorem Bnd.fault {P : Parts} {k : Nat} {M : Mc} {n : Int} (hk : 1 ≤ k) (h : Bnd k M) : Bnd k (M.fault P n) := by
  have q := faultF_sub P.str n M.frames
  unfold Mc.fault
  cases e : faultF P.str n M.frames with
  | nil => exact ⟨by simp, fun f hf => by simp at hf, h.2.2⟩
  | cons f r =>
    rw [e] at q
    exact ⟨Nat.le_trans q.1 h.1, q.2 k hk h.2.1, h.2.2⟩
theorem Bnd.up {k j : Nat} {M : Mc} (h : Bnd k M) (hj : k ≤ j) : Bnd j M := ⟨h.1, fun f hf => Nat.le_trans (h.2.1 f hf) hj, Nat.le_trans h.2.2 hj⟩
theorem Bnd.head {k j : Nat} {f g : Fr} {r : List Fr} {said said' : List Int} {t t' : Nat} {e e' : Option (Ed × Int)} (h : Bnd k ⟨f :: r, said, t, e⟩) (hk : k ≤ j) (hg : g.pile.length ≤ j) (hs : said'.length ≤ j) : Bnd j ⟨g :: r, said', t', e'⟩ := by
  refine ⟨by simpa using h.1, fun x hx => ?_, hs⟩
  rcases List.mem_cons.mp hx with q | q
  · subst q
    exact hg
  · exact Nat.le_trans (h.2.1 x (List.mem_cons_of_mem _ q)) hk
theorem bnd_step {P : Parts} {k : Nat} {M M' : Mc} (h : Bnd k M) (e : rowStep P M = some M') : Bnd (k + 1) M' := by
  obtain ⟨fs, said, t, en⟩ := M
  unfold rowStep at e
  cases fs with
  | nil => cases e
  | cons f r =>
  dsimp only at e
  cases hr : nth P.code f.place with
  | none => rw [hr] at e; cases e
  | some row =>
  rw [hr] at e
  dsimp only at e
  have hp : f.pile.length ≤ k := h.2.1 f (by simp)
  have hs : said.length ≤ k := h.2.2
  obtain ⟨place, boxes, pile⟩ := f
  dsimp only at hp
  have pop : ∀ (v : Int) (q : List Int), pile = v :: q → q.length + 1 ≤ k := fun v q e => by
    rw [e] at hp
    simpa using hp
  cases row with
  | put n => cases e; exact h.head (by first | omega | (dsimp only; omega)) (by simp only [Fr.lay, List.length_cons]; first | omega | (dsimp only; omega)) (by first | omega | (dsimp only; omega))
  | get j =>
    simp only [stepRw, moveRw] at e
    cases hv : nth boxes j with
    | none => rw [hv] at e; cases e
    | some v => rw [hv] at e; cases e; exact h.head (by first | omega | (dsimp only; omega)) (by simp only [Fr.lay, List.length_cons]; first | omega | (dsimp only; omega)) (by first | omega | (dsimp only; omega))
  | set j =>
    cases pile with
    | nil => cases e
    | cons v p =>
      simp only [stepRw, moveRw] at e
      split at e
      · cases e
        have := pop _ _ rfl
        exact h.head (by first | omega | (dsimp only; omega)) (by first | omega | (dsimp only; omega)) (by first | omega | (dsimp only; omega))
      · cases e
  | say =>
    cases pile with
    | nil => cases e
    | cons v p =>
      cases e
      have := pop _ _ rfl
      exact h.head (by first | omega | (dsimp only; omega)) (by first | omega | (dsimp only; omega)) (by simp; omega)
  | add =>
    match pile, e, pop with
    | b :: a :: p, e, pop =>
      cases e
      have := pop _ _ rfl
      simp at this
      exact h.head (by first | omega | (dsimp only; omega)) (by simp only [Fr.lay, List.length_cons]; first | omega | (dsimp only; omega)) (by first | omega | (dsimp only; omega))
  | sub =>
    match pile, e, pop with
    | b :: a :: p, e, pop =>
      cases e
      have := pop _ _ rfl
      simp at this
      exact h.head (by first | omega | (dsimp only; omega)) (by simp only [Fr.lay, List.length_cons]; first | omega | (dsimp only; omega)) (by first | omega | (dsimp only; omega))
  | less =>
    match pile, e, pop with
    | b :: a :: p, e, pop =>
      cases e
      have := pop _ _ rfl
      simp at this
      exact h.head (by first | omega | (dsimp only; omega)) (by simp only [Fr.lay, List.length_cons]; first | omega | (dsimp only; omega)) (by first | omega | (dsimp only; omega))
  | share =>
    match pile, e, pop with
    | b :: a :: p, e, pop =>
      have := pop _ _ rfl
      simp at this
      simp only [stepRw, meetRw] at e
      split at e
      · cases e
        exact Bnd.fault (by first | omega | (dsimp only; omega)) (h.head (by first | omega | (dsimp only; omega)) (by first | omega | (dsimp only; omega)) (by first | omega | (dsimp only; omega)))
      · cases e
        exact h.head (by first | omega | (dsimp only; omega)) (by simp only [Fr.lay, List.length_cons]; first | omega | (dsimp only; omega)) (by first | omega | (dsimp only; omega))
  | go p => cases e; exact h.head (by first | omega | (dsimp only; omega)) (by first | omega | (dsimp only; omega)) (by first | omega | (dsimp only; omega))
  | nought p =>
    cases pile with
    | nil => cases e
    | cons v q =>
      cases e
      have := pop _ _ rfl
      exact h.head (by first | omega | (dsimp only; omega)) (by first | omega | (dsimp only; omega)) (by first | omega | (dsimp only; omega))
  | on j =>
    simp only [stepRw, jumpRw] at e
    cases hv : nth boxes j with
    | none => rw [hv] at e; cases e
    | some v => rw [hv] at e; cases e; exact h.head (by first | omega | (dsimp only; omega)) (by first | omega | (dsimp only; omega)) (by first | omega | (dsimp only; omega))
  | turn =>
    simp only [stepRw] at e
    split at e
    · cases e
      exact h.up (by first | omega | (dsimp only; omega))
    · cases e
      exact h.head (by first | omega | (dsimp only; omega)) (by first | omega | (dsimp only; omega)) (by first | omega | (dsimp only; omega))
  | call g =>
    cases pile with
    | nil => cases e
    | cons v q =>
      have := pop _ _ rfl
      have h1 : ∀ t en, Bnd (k + 1) ⟨⟨place, boxes, q⟩ :: r, said, t, en⟩ := fun t en => h.head (by first | omega | (dsimp only; omega)) (by first | omega | (dsimp only; omega)) (by first | omega | (dsimp only; omega))
      simp only [stepRw, Mc.enter] at e
      split at e
      · cases e
        exact h1 _ _
      · split at e
        · cases e
          exact Bnd.fault (by first | omega | (dsimp only; omega)) (h1 _ _)
        · rename_i c8
          cases hv : nth P.starts g with
          | none => rw [hv] at e; cases e
          | some s =>
            rw [hv] at e
            cases e
            have z := h1 (t - 1) en
            refine ⟨?_, fun x hx => ?_, z.2.2⟩
            · have := z.1
              simp at this c8 ⊢
              omega
            · rcases List.mem_cons.mp hx with q | q
              · subst q
                simp
              · exact z.2.1 x q
  | back =>
    cases pile with
    | nil => cases e
    | cons v q =>
      simp only [stepRw, Mc.back] at e
      match r, e, h with
      | [], e, h =>
        cases e
        exact ⟨by simp, fun f hf => by simp at hf, by dsimp only; omega⟩
      | g :: r', e, h =>
        cases e
        refine ⟨by have := h.1; simp at this ⊢; omega, fun x hx => ?_, by dsimp only; omega⟩
        rcases List.mem_cons.mp hx with z | z
        · subst z
          have := h.2.1 g (by simp)
          simp [Fr.lay]
          omega
        · exact Nat.le_trans (h.2.1 x (List.mem_cons_of_mem _ (List.mem_cons_of_mem _ z))) (by first | omega | (dsimp only; omega))
  | raise =>
    cases pile with
    | nil => cases e
    | cons v q =>
      cases e
      have := pop _ _ rfl
      exact Bnd.fault (by first | omega | (dsimp only; omega)) (h.head (by first | omega | (dsimp only; omega)) (by first | omega | (dsimp only; omega)) (by first | omega | (dsimp only; omega)))
theorem bnd_steps {P : Parts} : ∀ {j k : Nat} {M M' : Mc}, Bnd k M → rowSteps P j M = some M' → Bnd (k + j) M'
  | 0, k, M, M', h, e => by cases e; exact h
  | j + 1, k, M, M', h, e => by
    unfold rowSteps at e
    split at e
    · cases e
    · cases hs : rowStep P M with
      | none => rw [hs] at e; cases e
      | some M1 =>
        rw [hs] at e
        have := bnd_steps (bnd_step h hs) e
        exact this.up (by first | omega | (dsimp only; omega))
theorem bnd_begun {P : Parts} {number : Int} {turns : Nat} {M : Mc} (e : begun P number turns = some M) : Bnd 0 M := by
  unfold begun at e
  cases h : nth P.starts 0 with
  | none => rw [h] at e; cases e
  | some s =>
    rw [h] at e
    cases e
    exact ⟨by simp, fun f hf => by simp at hf; subst hf; simp, by simp⟩
theorem rowSteps_add (P : Parts) : ∀ (a b : Nat) (m : Mc), rowSteps P (a + b) m = (rowSteps P a m).bind (rowSteps P b)
  | 0, b, m => by rw [Nat.zero_add]; rfl
  | a + 1, b, m => by
    rw [show a + 1 + b = (a + b) + 1 by omega]
    unfold rowSteps
    split
    · rfl
    · cases rowStep P m with
      | none => rfl
      | some m1 => exact rowSteps_add P a b m1
theorem rowSteps_one {P : Parts} {m m' : Mc} (h : m.ended = none) (e : rowStep P m = some m') : rowSteps P 1 m = some m' := by
  unfold rowSteps
  rw [h, e]
  rfl
theorem rowSteps_then {P : Parts} {a b : Nat} {m m1 m2 : Mc} (h1 : rowSteps P a m = some m1) (h2 : rowSteps P b m1 = some m2) : rowSteps P (a + b) m = some m2 := by
  rw [rowSteps_add, h1]
  exact h2
end Un

namespace U
open PySem PySem.Spec PyProof.Rows L2
/-! readings of the defs -/
def t_goal_of (K : PySem.W.Frag) : TS :=
  (tSeq (tFor (iList K (tVar 0)) (gName 2) (tIfS (tAnd (tTest (tOp rLeI (tOp (rIxT K) (tVar 2) (tC (.int 0))) (tVar 1))) (tTest (tOp rLtI (tVar 1) (tOp (rIxT K) (tVar 2) (tC (.int 1)))))) (tRet (tOp (rIxT K) (tVar 2) (tC (.int 2)))) tNext))
    (tRet (tC .non)))
def n_goal_of : List Str := ["stretches", "place", "row"]
def t_Frame___init__ (K : PySem.W.Frag) : TS :=
  (tSeq (sFd (He.ga K "Frame") "place" (tVar 0) (tVar 1))
    (tSeq (sFd (He.ga K "Frame") "boxes" (tVar 0) (tOp rCat (tLst (tCons (tVar 3) tNil)) (tOp rRep (tLst (tCons (tC (.int 0)) tNil)) (tOp rSubI (tVar 2) (tC (.int 1))))))
    (sFd (He.ga K "Frame") "pile" (tVar 0) (tLst tNil))))
def n_Frame___init__ : List Str := ["self", "place", "boxes", "number"]
def t_Frame_lay (K : PySem.W.Frag) : TS :=
  (tSeq (tDrop (tBM K "list" rAppend (tFd (He.ga K "Frame") "pile" (tVar 0)) (tCons (tVar 1) tNil)))
    (sFd (He.ga K "Frame") "place" (tVar 0) (tOp rAddI (tFd (He.ga K "Frame") "place" (tVar 0)) (tC (.int 1)))))
def n_Frame_lay : List Str := ["self", "number"]
def t_Machine___init__ (K : PySem.W.Frag) (sp_Frame___init__ : Sp) : TS :=
  (tSeq (sFd (He.ga K "Machine") "code" (tVar 0) (tOp (rIxT K) (tVar 1) (tC (.int 0))))
    (tSeq (sFd (He.ga K "Machine") "stretches" (tVar 0) (tOp (rIxT K) (tVar 1) (tC (.int 1))))
    (tSeq (sFd (He.ga K "Machine") "starts" (tVar 0) (tOp (rIxT K) (tVar 1) (tC (.int 2))))
    (tSeq (sFd (He.ga K "Machine") "boxes" (tVar 0) (tOp (rIxT K) (tVar 1) (tC (.int 3))))
    (tSeq (sFd (He.ga K "Machine") "turns" (tVar 0) (tVar 3))
    (tSeq (sFd (He.ga K "Machine") "said" (tVar 0) (tLst tNil))
    (tSeq (sFd (He.ga K "Machine") "ended" (tVar 0) (tC .non))
    (sFd (He.ga K "Machine") "frames" (tVar 0) (tLst (tCons (tMake (He.ga K "Frame") sp_Frame___init__ [] E0 (tCons (tOp (rIxL K) (tFd (He.ga K "Machine") "starts" (tVar 0)) (tC (.int 0))) (tCons (tFd (He.ga K "Machine") "boxes" (tVar 0)) (tCons (tVar 2) tNil)))) tNil))))))))))
def n_Machine___init__ : List Str := ["self", "parts", "number", "turns"]
def t_Machine_step (K : PySem.W.Frag) (sp_Machine_meet sp_Machine_move sp_Machine_jump sp_Machine_taken sp_Machine_enter sp_Machine_back sp_Machine_fault : Sp) : TS :=
  (tSeq (tAsg (tOp (rIxL K) (tFd (He.ga K "Machine") "frames" (tVar 0)) (tOp rSubI (tCB (rLenQ K) (tCons (tFd (He.ga K "Machine") "frames" (tVar 0)) tNil)) (tC (.int 1)))) (gName 1))
    (tSeq (tAsg (tOp (rIxL K) (tFd (He.ga K "Machine") "code" (tVar 0)) (tFd (He.ga K "Frame") "place" (tVar 1))) (gName 2))
    (tSeq (tAsg (tOp (rIxT K) (tVar 2) (tC (.int 0))) (gName 3))
    (tIfS (tTest (tOp (rIn K false) (tVar 3) (tTup (tCons (tC (.str "add")) (tCons (tC (.str "sub")) (tCons (tC (.str "less")) (tCons (tC (.str "share")) tNil))))))) (tDrop (tMeth (He.ga K "Machine") "meet" sp_Machine_meet [] E0 (tVar 0) (tCons (tVar 1) (tCons (tVar 3) tNil)))) (tIfS (tTest (tOp (rIn K false) (tVar 3) (tTup (tCons (tC (.str "put")) (tCons (tC (.str "get")) (tCons (tC (.str "set")) (tCons (tC (.str "say")) tNil))))))) (tDrop (tMeth (He.ga K "Machine") "move" sp_Machine_move [] E0 (tVar 0) (tCons (tVar 1) (tCons (tVar 2) tNil)))) (tIfS (tTest (tOp (rIn K false) (tVar 3) (tTup (tCons (tC (.str "go")) (tCons (tC (.str "nought")) (tCons (tC (.str "on")) tNil)))))) (tDrop (tMeth (He.ga K "Machine") "jump" sp_Machine_jump [] E0 (tVar 0) (tCons (tVar 1) (tCons (tVar 2) tNil)))) (tIfS (tTest (tOp rEq (tVar 3) (tC (.str "turn")))) (tIfS (tB (tMeth (He.ga K "Machine") "taken" sp_Machine_taken [] E0 (tVar 0) tNil)) (sFd (He.ga K "Frame") "place" (tVar 1) (tOp rAddI (tFd (He.ga K "Frame") "place" (tVar 1)) (tC (.int 1)))) tNext) (tIfS (tTest (tOp rEq (tVar 3) (tC (.str "call")))) (tDrop (tMeth (He.ga K "Machine") "enter" sp_Machine_enter [] E0 (tVar 0) (tCons (tOp (rIxT K) (tVar 2) (tC (.int 1))) (tCons (tBM0 K "list" rPop (tFd (He.ga K "Frame") "pile" (tVar 1))) tNil)))) (tIfS (tTest (tOp rEq (tVar 3) (tC (.str "back")))) (tDrop (tMeth (He.ga K "Machine") "back" sp_Machine_back [] E0 (tVar 0) (tCons (tBM0 K "list" rPop (tFd (He.ga K "Frame") "pile" (tVar 1))) tNil))) (tDrop (tMeth (He.ga K "Machine") "fault" sp_Machine_fault [] E0 (tVar 0) (tCons (tBM0 K "list" rPop (tFd (He.ga K "Frame") "pile" (tVar 1))) tNil))))))))))))
def n_Machine_step : List Str := ["self", "frame", "row", "word"]
def t_Machine_taken (K : PySem.W.Frag) : TS :=
  (tSeq (tIfS (tTest (tOp rEq (tFd (He.ga K "Machine") "turns" (tVar 0)) (tC (.int 0)))) (tSeq (sFd (He.ga K "Machine") "ended" (tVar 0) (tTup (tCons (tC (.str "tired")) (tCons (tC (.int 0)) tNil))))
    (tRet (tC (.bl false)))) tNext)
    (tSeq (sFd (He.ga K "Machine") "turns" (tVar 0) (tOp rSubI (tFd (He.ga K "Machine") "turns" (tVar 0)) (tC (.int 1))))
    (tRet (tC (.bl true)))))
def n_Machine_taken : List Str := ["self"]
def t_Machine_move (K : PySem.W.Frag) (sp_Frame_lay : Sp) : TS :=
  (tSeq (tIfS (tTest (tOp rEq (tOp (rIxT K) (tVar 2) (tC (.int 0))) (tC (.str "put")))) (tSeq (tDrop (tMeth (He.ga K "Frame") "lay" sp_Frame_lay [] E0 (tVar 1) (tCons (tOp (rIxT K) (tVar 2) (tC (.int 1))) tNil)))
    tRetN) tNext)
    (tSeq (tIfS (tTest (tOp rEq (tOp (rIxT K) (tVar 2) (tC (.int 0))) (tC (.str "get")))) (tSeq (tDrop (tMeth (He.ga K "Frame") "lay" sp_Frame_lay [] E0 (tVar 1) (tCons (tOp (rIxL K) (tFd (He.ga K "Frame") "boxes" (tVar 1)) (tOp (rIxT K) (tVar 2) (tC (.int 1)))) tNil)))
    tRetN) tNext)
    (tSeq (tAsg (tBM0 K "list" rPop (tFd (He.ga K "Frame") "pile" (tVar 1))) (gName 3))
    (tSeq (tIfS (tTest (tOp rEq (tOp (rIxT K) (tVar 2) (tC (.int 0))) (tC (.str "set")))) (tAsg (tVar 3) (gSub (tFd (He.ga K "Frame") "boxes" (tVar 1)) (tOp (rIxT K) (tVar 2) (tC (.int 1))) rSetL)) (tDrop (tBM K "list" rAppend (tFd (He.ga K "Machine") "said" (tVar 0)) (tCons (tVar 3) tNil))))
    (sFd (He.ga K "Frame") "place" (tVar 1) (tOp rAddI (tFd (He.ga K "Frame") "place" (tVar 1)) (tC (.int 1))))))))
def n_Machine_move : List Str := ["self", "frame", "row", "number"]
def t_Machine_meet (K : PySem.W.Frag) (sp_Frame_lay sp_Machine_fault : Sp) : TS :=
  (tSeq (tAsg (tBM0 K "list" rPop (tFd (He.ga K "Frame") "pile" (tVar 1))) (gName 3))
    (tSeq (tAsg (tBM0 K "list" rPop (tFd (He.ga K "Frame") "pile" (tVar 1))) (gName 4))
    (tIfS (tTest (tOp rEq (tVar 2) (tC (.str "add")))) (tDrop (tMeth (He.ga K "Frame") "lay" sp_Frame_lay [] E0 (tVar 1) (tCons (tOp rAddI (tVar 4) (tVar 3)) tNil))) (tIfS (tTest (tOp rEq (tVar 2) (tC (.str "sub")))) (tDrop (tMeth (He.ga K "Frame") "lay" sp_Frame_lay [] E0 (tVar 1) (tCons (tOp rSubI (tVar 4) (tVar 3)) tNil))) (tIfS (tTest (tOp rEq (tVar 2) (tC (.str "less")))) (tDrop (tMeth (He.ga K "Frame") "lay" sp_Frame_lay [] E0 (tVar 1) (tCons (tIf (tTest (tOp rLtI (tVar 4) (tVar 3))) (tC (.int 1)) (tC (.int 0))) tNil))) (tIfS (tTest (tOp rEq (tVar 3) (tC (.int 0)))) (tDrop (tMeth (He.ga K "Machine") "fault" sp_Machine_fault [] E0 (tVar 0) (tCons (tC (.int 101)) tNil))) (tDrop (tMeth (He.ga K "Frame") "lay" sp_Frame_lay [] E0 (tVar 1) (tCons (tOp rFd (tVar 4) (tVar 3)) tNil)))))))))
def n_Machine_meet : List Str := ["self", "frame", "word", "other", "one"]
def t_Machine_jump (K : PySem.W.Frag) : TS :=
  (tIfS (tTest (tOp rEq (tOp (rIxT K) (tVar 2) (tC (.int 0))) (tC (.str "on")))) (sFd (He.ga K "Frame") "place" (tVar 1) (tOp (rIxL K) (tFd (He.ga K "Frame") "boxes" (tVar 1)) (tOp (rIxT K) (tVar 2) (tC (.int 1))))) (tIfS (tOr (tTest (tOp rEq (tOp (rIxT K) (tVar 2) (tC (.int 0))) (tC (.str "go")))) (tTest (tOp rEq (tBM0 K "list" rPop (tFd (He.ga K "Frame") "pile" (tVar 1))) (tC (.int 0))))) (sFd (He.ga K "Frame") "place" (tVar 1) (tOp (rIxT K) (tVar 2) (tC (.int 1)))) (sFd (He.ga K "Frame") "place" (tVar 1) (tOp rAddI (tFd (He.ga K "Frame") "place" (tVar 1)) (tC (.int 1))))))
def n_Machine_jump : List Str := ["self", "frame", "row"]
def t_Machine_enter (K : PySem.W.Frag) (sp_Machine_taken sp_Machine_fault sp_Frame___init__ : Sp) : TS :=
  (tSeq (tIfS (tNot (tB (tMeth (He.ga K "Machine") "taken" sp_Machine_taken [] E0 (tVar 0) tNil))) tRetN tNext)
    (tIfS (tTest (tOp rEq (tCB (rLenQ K) (tCons (tFd (He.ga K "Machine") "frames" (tVar 0)) tNil)) (tC (.int 8)))) (tDrop (tMeth (He.ga K "Machine") "fault" sp_Machine_fault [] E0 (tVar 0) (tCons (tC (.int 102)) tNil))) (tDrop (tBM K "list" rAppend (tFd (He.ga K "Machine") "frames" (tVar 0)) (tCons (tMake (He.ga K "Frame") sp_Frame___init__ [] E0 (tCons (tOp (rIxL K) (tFd (He.ga K "Machine") "starts" (tVar 0)) (tVar 1)) (tCons (tFd (He.ga K "Machine") "boxes" (tVar 0)) (tCons (tVar 2) tNil)))) tNil)))))
def n_Machine_enter : List Str := ["self", "number", "given"]
def t_Machine_back (K : PySem.W.Frag) (sp_Frame_lay : Sp) : TS :=
  (tSeq (tDrop (tBM0 K "list" rPop (tFd (He.ga K "Machine") "frames" (tVar 0))))
    (tIfS (tTest (tOp rEq (tCB (rLenQ K) (tCons (tFd (He.ga K "Machine") "frames" (tVar 0)) tNil)) (tC (.int 0)))) (sFd (He.ga K "Machine") "ended" (tVar 0) (tTup (tCons (tC (.str "answer")) (tCons (tVar 1) tNil)))) (tDrop (tMeth (He.ga K "Frame") "lay" sp_Frame_lay [] E0 (tOp (rIxL K) (tFd (He.ga K "Machine") "frames" (tVar 0)) (tOp rSubI (tCB (rLenQ K) (tCons (tFd (He.ga K "Machine") "frames" (tVar 0)) tNil)) (tC (.int 1)))) (tCons (tVar 1) tNil)))))
def n_Machine_back : List Str := ["self", "given"]
def t_Machine_fault (K : PySem.W.Frag) (sp_goal_of : Sp) : TS :=
  (tSeq (tWhile (tTest (tOp rGtI (tCB (rLenQ K) (tCons (tFd (He.ga K "Machine") "frames" (tVar 0)) tNil)) (tC (.int 0)))) (tSeq (tAsg (tOp (rIxL K) (tFd (He.ga K "Machine") "frames" (tVar 0)) (tOp rSubI (tCB (rLenQ K) (tCons (tFd (He.ga K "Machine") "frames" (tVar 0)) tNil)) (tC (.int 1)))) (gName 2))
    (tSeq (tAsg (tCall sp_goal_of [] E0 (tCons (tFd (He.ga K "Machine") "stretches" (tVar 0)) (tCons (tFd (He.ga K "Frame") "place" (tVar 2)) tNil))) (gName 3))
    (tSeq (tIfS (tTest (tOp rIsNotNo (tVar 3) (tC .non))) (tSeq (sFd (He.ga K "Frame") "pile" (tVar 2) (tLst (tCons (tVar 1) tNil)))
    (tSeq (sFd (He.ga K "Frame") "place" (tVar 2) (tVar 3))
    tRetN)) tNext)
    (tDrop (tBM0 K "list" rPop (tFd (He.ga K "Machine") "frames" (tVar 0))))))))
    (sFd (He.ga K "Machine") "ended" (tVar 0) (tTup (tCons (tC (.str "fault")) (tCons (tVar 1) tNil)))))
def n_Machine_fault : List Str := ["self", "number", "frame", "goal"]
def t_run (K : PySem.W.Frag) (sp_Machine___init__ sp_Machine_step : Sp) : TS :=
  (tSeq (tAsg (tMake (He.ga K "Machine") sp_Machine___init__ [] E0 (tCons (tVar 0) (tCons (tVar 1) (tCons (tVar 2) tNil)))) (gName 3))
    (tSeq (tWhile (tTest (tOp rIsNo (tFd (He.ga K "Machine") "ended" (tVar 3)) (tC .non))) (tDrop (tMeth (He.ga K "Machine") "step" sp_Machine_step [] E0 (tVar 3) tNil)))
    (tRet (tTup (tCons (tFd (He.ga K "Machine") "said" (tVar 3)) (tCons (tOp (rIxT K) (tFd (He.ga K "Machine") "ended" (tVar 3)) (tC (.int 0))) (tCons (tOp (rIxT K) (tFd (He.ga K "Machine") "ended" (tVar 3)) (tC (.int 1))) tNil)))))))
def n_run : List Str := ["parts", "number", "turns", "machine"]
end U

set_option maxHeartbeats 4000000
namespace U
open PySem PySem.Spec PyProof.Rows L2 Un
local macro_rules | `(tactic| walk_at "w1") => `(tactic| first
  | with_reducible refine w_seq ?_
  | with_reducible refine w_asg ?_
  | with_reducible refine w_op ?_
  | ((with_reducible refine' w_var ?h1 ?_); (case h1 => rfl))
  | with_reducible refine w_c ?_
  | with_reducible refine w_name ?_
  | with_reducible refine w_tFd ?_
  | ((with_reducible refine' w_fld ?h1 ?h2 ?_); (case h1 => assumption); (case h2 => rfl))
  | with_reducible refine w_if ?_
  | with_reducible refine w_test ?_
  | with_reducible refine w_eqS ?_
  | with_reducible refine w_eqI ?_
  | with_reducible refine w_neS ?_
  | with_reducible refine w_neI ?_
  | with_reducible refine w_isN ?_
  | with_reducible refine w_isnN ?_
  | with_reducible refine w_bl ?_
  | with_reducible refine w_ret ?_
  | with_reducible refine w_drop ?_
  | with_reducible refine w_next ?_
  | with_reducible refine w_cons ?_
  | with_reducible refine w_nil ?_
  | with_reducible refine w_call ?_
  | with_reducible refine w_cb ?_
  | with_reducible refine w_meth ?_
  | ((with_reducible refine' w_recv ?h1 ?h2 ?_); (case h1 => assumption); (case h2 => rfl))
  | with_reducible refine w_sFd ?_
  | ((with_reducible refine' w_put ?h1 ?h2 ?_); (case h1 => assumption); (case h2 => exact Nat.le_of_ble_eq_true rfl))
  | with_reducible refine w_add ?_
  | with_reducible refine w_sub ?_
  | with_reducible refine w_lt ?_
  | with_reducible refine w_le ?_
  | with_reducible refine w_gt ?_
  | with_reducible refine w_ge ?_
  | with_reducible refine w_bm ?_
  | with_reducible refine w_bm0 ?_
  | ((with_reducible refine' w_ty ?h1 ?_); (case h1 => assumption))
  | with_reducible refine w_tup ?_
  | with_reducible refine w_lst ?_
  | ((with_reducible refine' w_new ?h1 ?_); (case h1 => exact Nat.le_of_ble_eq_true rfl))
  | with_reducible refine w_gsub ?_
  | with_reducible refine w_make ?_
  | with_reducible refine w_lc ?_
  | with_reducible refine w_iList ?_
  | with_reducible refine w_for ?_
  | with_reducible refine w_yes ?_
  | with_reducible refine w_tSl ?_
  | with_reducible refine w_part ?_
  | with_reducible refine w_nopart ?_
  | with_reducible refine w_i ?_
  | with_reducible refine w_rng1 ?_
  | with_reducible refine w_rng2 ?_
  | with_reducible refine w_isiII ?_
  | with_reducible refine w_isiIB ?_
  | with_reducible refine w_isiSS ?_
  | ((with_reducible refine w_mod ?h1 ?_); (case h1 => decide))
  | ((with_reducible refine w_fdC' ?h1 ?h2 ?_); (case h1 => decide); (case h2 => decide))
  | ((with_reducible refine w_mulR ?h1 ?h2 ?_); (case h1 => decide); (case h2 => decide))
  | ((with_reducible refine w_mulL ?h1 ?h2 ?_); (case h1 => decide); (case h2 => decide))
  | ((with_reducible refine w_pow' ?h1 ?h2 ?h3 ?_); (case h1 => decide); (case h2 => decide); (case h3 => decide))
  | with_reducible refine w_andV ?_
  | with_reducible refine w_orV ?_
  | with_reducible refine w_notV ?_
  | with_reducible refine w_B ?_
  | with_reducible refine w_not ?_
  | with_reducible refine w_and ?_
  | with_reducible refine w_or ?_
  | with_reducible refine w_ifx ?_
  | with_reducible refine w_un ?_
  | ((with_reducible refine w_T ?h1 ?_); (case h1 => with_reducible rfl))
  | ((with_reducible refine w_F ?h1 ?_); (case h1 => with_reducible rfl))
  | ((with_reducible refine w_T ?h1 ?_); (case h1 => decide +kernel))
  | ((with_reducible refine w_F ?h1 ?_); (case h1 => decide +kernel)))
local macro_rules | `(tactic| walk_at "w") => `(tactic| repeat walk_at "w1")

/-! ### what stands where -/
def words : Rw → List V
  | .put n => [.str "put", .int n]
  | .get k => [.str "get", .int k]
  | .set k => [.str "set", .int k]
  | .say => [.str "say"]
  | .add => [.str "add"]
  | .sub => [.str "sub"]
  | .less => [.str "less"]
  | .share => [.str "share"]
  | .go p => [.str "go", .int p]
  | .nought p => [.str "nought", .int p]
  | .on k => [.str "on", .int k]
  | .turn => [.str "turn"]
  | .call f => [.str "call", .int f]
  | .back => [.str "back"]
  | .raise => [.str "raise"]
def IsTup (K : PySem.W.Frag) (H : Hp) (v : V) (xs : List V) : Prop := ∃ a, v = .ref a ∧ SqT K H a xs
def IsRow (K : PySem.W.Frag) (H : Hp) (v : V) (r : Rw) : Prop := IsTup K H v (words r)
def IsStr (K : PySem.W.Frag) (H : Hp) (v : V) (s : Stretch) : Prop := IsTup K H v [.int s.1, .int s.2.1, .int s.2.2]
theorem IsTup.mono {K : PySem.W.Frag} {H H' : Hp} {v : V} {xs : List V} (s : Same H H') (h : IsTup K H v xs) : IsTup K H' v xs := by
  obtain ⟨a, e, h⟩ := h
  exact ⟨a, e, same_tup s h⟩
/-- the code, the stretches and the starts stand at c, st, sr -/
structure PartsIn (K : PySem.W.Frag) (H : Hp) (c st sr : Addr) (P : Parts) : Prop where
  code : ∃ vs, SqL K H c vs ∧ All2 (IsRow K H) vs P.code
  str : ∃ vs, SqL K H st vs ∧ All2 (IsStr K H) vs P.str
  starts : SqL K H sr (P.starts.map V.int)
theorem PartsIn.mono {K : PySem.W.Frag} {H H' : Hp} {c st sr : Addr} {P : Parts} (s : Same H H') (h : PartsIn K H c st sr P) : PartsIn K H' c st sr P := by
  obtain ⟨⟨v1, a1, b1⟩, ⟨v2, a2, b2⟩, h3⟩ := h
  exact ⟨⟨v1, s.seq a1, b1.mono fun _ _ q => q.mono s⟩, ⟨v2, s.seq a2, b2.mono fun _ _ q => q.mono s⟩, s.seq h3⟩

/-! ### goal_of -/
def goalV : Option Int → V
  | none => .non
  | some g => .int g
def sp_goal_of (K : PySem.W.Frag) : Sp := fun vs H Q _ => ∃ a ss S p, vs = [.ref a, .int p] ∧ SqL K H a ss ∧ All2 (IsStr K H) ss S ∧ Q (goalV (goalOf S p)) H
theorem p_goal_of {K : PySem.W.Frag} (vs : List V) (H : Hp) (Q : VK) (E : XK) (h : sp_goal_of K vs H Q E) : t_goal_of K { nx := fun _ H' => Q .non H', rt := Q } (start n_goal_of vs) H := by
  obtain ⟨a, ss, S, p, rfl, hS, hR, q⟩ := h
  refine w_seq ⟨_, rfl, a, rfl, ⟨_, hS⟩, for_list (xs := ss) (fun i σ H' => H' = H ∧ goalOf (S.drop i) p = goalOf S p ∧ ∃ x, σ = [some (.ref a), some (.int p), x])
    ⟨rfl, rfl, _, rfl⟩ (fun i σ H' _ h => h.1 ▸ hS) ?_ ?_⟩
  · rintro i x σ H' hx ⟨rfl, hg, y, rfl⟩
    obtain ⟨s, ⟨b, rfl, hb⟩, hd⟩ := hR.drop i hx
    rw [hd] at hg
    walk_at "w"
    refine w_ixT hb rfl ?_
    walk_at "w"
    refine w_D (fun c1 => ?_) (fun c1 => ?_)
    · walk_at "w"
      refine w_ixT hb rfl ?_
      walk_at "w"
      refine w_D (fun c2 => ?_) (fun c2 => ?_)
      · walk_at "w"
        refine w_ixT hb rfl ?_
        have e : goalOf S p = some s.2.2 := by
          rw [← hg, goalOf, if_pos ⟨c1, c2⟩]
        rw [e] at q
        exact q
      · walk_at "w"
        refine ⟨rfl, ?_, _, rfl⟩
        rw [← hg, goalOf, if_neg (fun z => c2 z.2)]
    · walk_at "w"
      refine ⟨rfl, ?_, _, rfl⟩
      rw [← hg, goalOf, if_neg (fun z => c1 z.1)]
  · rintro σ H' ⟨rfl, hg, y, rfl⟩
    rw [hR.len, List.drop_length] at hg
    rw [← hg] at q
    walk_at "w"
    exact q

/-! ### frames and the machine -/
def frF (p : Int) (b q : Addr) : List (Str × V) := [("place", .int p), ("boxes", .ref b), ("pile", .ref q)]
def mcF (c st sr : Addr) (nb t : Int) (s : Addr) (e : V) (l : Addr) : List (Str × V) :=
  [("code", .ref c), ("stretches", .ref st), ("starts", .ref sr), ("boxes", .int nb), ("turns", .int t), ("said", .ref s), ("ended", e), ("frames", .ref l)]
def pileV : List Int → List V
  | [] => []
  | n :: p => pileV p ++ [.int n]
structure FA where
  a : Addr
  dx : Addr
  b : Addr
  q : Addr
def refsV : List FA → List V
  | [] => []
  | x :: xs => refsV xs ++ [.ref x.a]
def frsCells (K : PySem.W.Frag) : List FA → List Fr → List Cell
  | x :: xs, f :: fs => (x.a, .ins (He.ga K "Frame") x.dx (frF f.place x.b x.q)) :: (x.b, .lst (f.boxes.map V.int)) :: (x.q, .lst (pileV f.pile)) :: frsCells K xs fs
  | _, _ => []
/-- where the machine at m stands: c, st, sr its parts' lists -/
structure Wh where
  m : Addr
  c : Addr
  st : Addr
  sr : Addr
structure Ad where
  dx : Addr
  l : Addr
  s : Addr
  fas : List FA
def mcCells (K : PySem.W.Frag) (w : Wh) (nb : Int) (d : Ad) (e : V) (M : Mc) : List Cell :=
  (w.m, .ins (He.ga K "Machine") d.dx (mcF w.c w.st w.sr nb M.turns d.s e d.l)) :: (d.l, .lst (refsV d.fas)) :: (d.s, .lst (M.said.map V.int)) :: frsCells K d.fas M.frames
def EndAt (H : Hp) (e : V) : Option (Ed × Int) → Prop
  | none => e = .non
  | some (x, n) => ∃ t, e = .ref t ∧ H t = some (.tup [.str x.str, .int n])
structure MAt (K : PySem.W.Frag) (H0 H : Hp) (w : Wh) (nb : Int) (M : Mc) (d : Ad) (e : V) : Prop where
  own : Own H0 H (mcCells K w nb d e M)
  len : d.fas.length = M.frames.length
  endd : EndAt H e M.ended
def MIn (K : PySem.W.Frag) (H0 H : Hp) (w : Wh) (nb : Int) (M : Mc) : Prop := ∃ d e, MAt K H0 H w nb M d e
def LIM : Nat := 16000000
theorem lim_lt {n : Nat} (h : n < LIM) : n < sizeLine := Nat.lt_of_lt_of_le h (by show (16000000 : Nat) ≤ sizeLine; rw [sizeLine_eq]; decide)
theorem pileV_len : ∀ p : List Int, (pileV p).length = p.length
  | [] => rfl
  | n :: p => by simp [pileV, pileV_len p]

/-! ### Frame -/
def sp_Frame_lay (K : PySem.W.Frag) : Sp := fun vs H Q _ => ∃ a n dx p b q xs, vs = [.ref a, .int n] ∧ H a = some (.ins (He.ga K "Frame") dx (frF p b q)) ∧ H q = some (.lst xs) ∧ xs.length < LIM ∧
  Q .non (upd (upd H q (.lst (xs ++ [.int n]))) a (.ins (He.ga K "Frame") dx (frF (p + 1) b q)))
theorem ins_lst {H : Hp} {a b C dx : Addr} {fs : List (Str × V)} {xs : List V} (h : H a = some (.ins C dx fs)) (h' : H b = some (.lst xs)) : a ≠ b := ne_of h h' (by intro z; cases z)
theorem p_Frame_lay {K : PySem.W.Frag} (vs : List V) (H : Hp) (Q : VK) (E : XK) (h : sp_Frame_lay K vs H Q E) : t_Frame_lay K { nx := fun _ H' => Q .non H', rt := Q } (L2.start n_Frame_lay vs) H := by
  obtain ⟨a, n, dx, p, b, q, xs, rfl, ha, hq, hl, k⟩ := h
  unfold t_Frame_lay
  walk_at "w"
  refine w_app hq (lim_lt hl) ?_
  have ha' : upd H q (.lst (xs ++ [.int n])) a = some (.ins (He.ga K "Frame") dx (frF p b q)) := by
    rw [upd_ne (ins_lst ha hq)]; exact ha
  walk_at "w"
  exact k

def sp_Frame___init__ (K : PySem.W.Frag) : Sp := fun vs H Q _ => ∃ H0 a p nb n dx, vs = [.ref a, .int p, .int nb, .int n] ∧ Own H0 H [(a, .ins (He.ga K "Frame") dx [])] ∧ 0 ≤ nb ∧ nb < 16000000 ∧
  ∀ b q H', Own H0 H' [(a, .ins (He.ga K "Frame") dx (frF p b q)), (b, .lst ((newBoxes nb n).map V.int)), (q, .lst [])] → Q .non H'
theorem p_Frame___init__ {K : PySem.W.Frag} (vs : List V) (H : Hp) (Q : VK) (E : XK) (h : sp_Frame___init__ K vs H Q E) : t_Frame___init__ K { nx := fun _ H' => Q .non H', rt := Q } (L2.start n_Frame___init__ vs) H := by
  obtain ⟨H0, a, p, nb, n, dx, rfl, w, hn0, hn, k⟩ := h
  have ha := w.ix 0 rfl
  unfold t_Frame___init__
  walk_at "w"
  have w1 := w.set 0 (.ins (He.ga K "Frame") dx [("place", .int p)]) rfl
  refine fun p1 h1 => ?_
  walk_at "w"
  refine fun p2 h2 => ?_
  walk_at "w"
  have w2 := (w1.lay (o := .lst [.int n]) h1).lay (o := .lst [.int 0]) h2
  refine w_rep1 upd_same (by omega) (by omega) fun p3 h3 => ?_
  have e1 : upd (upd (upd (upd H a (.ins (He.ga K "Frame") dx [("place", .int p)])) p1 (.lst [.int n])) p2 (.lst [.int 0])) p3 (.lst (List.replicate (nb - 1).toNat (.int 0))) p1 = some (.lst [.int n]) := by
    rw [upd_ne (ne_of_none (o := .lst [.int n]) (by rw [upd_ne (ne_of_none upd_same h2)]; exact upd_same) h3), upd_ne (ne_of_none upd_same h2), upd_same]
  refine w_cat e1 upd_same ?_ fun b hb => ?_
  · rw [List.length_replicate, sizeLine_eq]
    show 1 + _ ≤ _
    omega
  have w3 := (w2.lay (o := .lst (List.replicate (nb - 1).toNat (.int 0))) h3).take (o := .lst ([.int n] ++ List.replicate (nb - 1).toNat (.int 0))) hb
  have ha3 := w3.ix 1 rfl
  walk_at "w"
  have w4 := w3.set 1 (.ins (He.ga K "Frame") dx [("place", .int p), ("boxes", .ref b)]) rfl
  refine fun q hq => ?_
  have w5 := w4.take (o := .lst []) hq
  have ha5 := w5.ix 2 rfl
  walk_at "w"
  have w6 := w5.set 2 (.ins (He.ga K "Frame") dx (frF p b q)) rfl
  refine k b q _ ?_
  have eb : (newBoxes nb n).map V.int = [.int n] ++ List.replicate (nb - 1).toNat (.int 0) := by simp [newBoxes]
  rw [eb]
  exact w6.perm (by
    refine List.Perm.trans (l₂ := [(q, HO.lst []), (a, HO.ins (He.ga K "Frame") dx (frF p b q)), (b, .lst ([.int n] ++ List.replicate (nb - 1).toNat (.int 0)))]) ?_ ?_
    · exact .cons _ (.swap _ _ _)
    · exact (List.Perm.swap _ _ _).trans (.cons _ (.swap _ _ _)))

/-! ### Machine.taken -/
def sp_Machine_taken (K : PySem.W.Frag) : Sp := fun vs H Q _ => ∃ H0 wh nb M d, vs = [.ref wh.m] ∧ Own H0 H (mcCells K wh nb d .non M) ∧
  (M.turns = 0 → ∀ H' t, Own H0 H' (mcCells K wh nb d (.ref t) M) → H' t = some (.tup [.str "tired", .int 0]) → Q (.bl false) H') ∧
  (M.turns ≠ 0 → ∀ H', Own H0 H' (mcCells K wh nb d .non { M with turns := M.turns - 1 }) → Q (.bl true) H')
theorem p_Machine_taken {K : PySem.W.Frag} (vs : List V) (H : Hp) (Q : VK) (E : XK) (h : sp_Machine_taken K vs H Q E) : t_Machine_taken K { nx := fun _ H' => Q .non H', rt := Q } (L2.start n_Machine_taken vs) H := by
  obtain ⟨H0, wh, nb, M, d, rfl, w, k0, k1⟩ := h
  have hm := w.ix 0 rfl
  unfold t_Machine_taken
  walk_at "w"
  refine w_D (fun c => ?_) (fun c => ?_)
  · walk_at "w"
    refine fun t ht => ?_
    have w1 := w.lay (o := .tup [.str "tired", .int 0]) ht
    have hm1 := w1.ix 0 rfl
    walk_at "w"
    refine k0 (by omega) _ t (w1.set 0 _ rfl) ?_
    rw [upd_ne (ne_of_none hm ht).symm, upd_same]
  · walk_at "w"
    refine k1 (by omega) _ ?_
    have e : ((M.turns : Nat) : Int) - 1 = ((M.turns - 1 : Nat) : Int) := by omega
    rw [e]
    exact w.set 0 _ rfl

/-! ### Machine.fault -/
theorem refs_last {x : FA} {xs : List FA} : atI (refsV (x :: xs)) (((refsV (x :: xs)).length : Int) - 1) = some (.ref x.a) := atI_end rfl
theorem refs_len : ∀ xs : List FA, (refsV xs).length = xs.length
  | [] => rfl
  | x :: xs => by simp [refsV, refs_len xs]
def sp_Machine_fault (K : PySem.W.Frag) : Sp := fun vs H Q _ => ∃ H0 wh P M d n, vs = [.ref wh.m, .int n] ∧ MAt K H0 H wh P.boxes M d .non ∧ PartsIn K H0 wh.c wh.st wh.sr P ∧
  ∀ H', MIn K H0 H' wh P.boxes (M.fault P n) → Q .non H'
theorem p_Machine_fault {K : PySem.W.Frag} (vs : List V) (H : Hp) (Q : VK) (E : XK) (h : sp_Machine_fault K vs H Q E) : t_Machine_fault K (sp_goal_of K) { nx := fun _ H' => Q .non H', rt := Q } (L2.start n_Machine_fault vs) H := by
  obtain ⟨H0, wh, P, M, d, n, rfl, w, pt, k⟩ := h
  have he : M.ended = none := by
    have q := w.endd
    cases e : M.ended with
    | none => rfl
    | some z =>
      rw [e] at q
      obtain ⟨t, h1, _⟩ := q
      cases h1
  unfold t_Machine_fault
  refine w_seq ⟨fun m σ H1 => ∃ fs d1 x2 x3, m = fs.length ∧ σ = [some (.ref wh.m), some (.int n), x2, x3] ∧ faultF P.str n fs = faultF P.str n M.frames ∧ MAt K H0 H1 wh P.boxes { M with frames := fs } d1 .non,
    ⟨_, M.frames, d, _, _, rfl, rfl, rfl, w⟩, ?_⟩
  rintro m σ H1 ⟨fs, d1, x2, x3, rfl, rfl, hf, w1⟩
  have hm := w1.own.ix 0 rfl
  have hl := w1.own.ix 1 rfl
  have hlen : d1.fas.length = fs.length := w1.len
  walk_at "w"
  refine w_lenL (SqL.of hl) ?_
  walk_at "w"
  refine w_D (fun c => ?_) (fun c => ?_)
  · rw [refs_len, hlen] at c
    match fs, d1, hlen, w1, hf, hm, hl with
    | [], _, _, _, _, _, _ => exact absurd c (by simp)
    | f :: r, ⟨dx, l, s, []⟩, hlen, _, _, _, _ => exact absurd hlen (by simp)
    | f :: r, ⟨dx, l, s, x :: xs⟩, hlen, w1, hf, hm, hl =>
    refine ⟨_, fun _ _ z => z, ?_⟩
    have ha := w1.own.ix 3 rfl
    walk_at "w"
    refine w_lenL (SqL.of hl) ?_
    walk_at "w"
    refine w_ixL (SqL.of hl) refs_last ?_
    walk_at "w"
    obtain ⟨ss, s1, s2⟩ := pt.str
    refine ⟨wh.st, ss, P.str, f.place, rfl, w1.own.same.seq s1, s2.mono fun _ _ q => q.mono w1.own.same, ?_⟩
    walk_at "w"
    cases hg : goalOf P.str f.place with
    | some g =>
      refine w_T rfl ?_
      walk_at "w"
      refine fun q hq => ?_
      have w2 := w1.own.take (o := .lst [.int n]) hq
      have ha2 := w2.ix 4 rfl
      walk_at "w"
      have w3 := w2.set 4 (.ins (He.ga K "Frame") x.dx (frF f.place x.b q)) rfl
      have ha3 := w3.ix 4 rfl
      walk_at "w"
      have w4 := w3.set 4 (.ins (He.ga K "Frame") x.dx (frF g x.b q)) rfl
      refine k _ ⟨⟨dx, l, s, ⟨x.a, x.dx, x.b, q⟩ :: xs⟩, .non, ?_⟩
      have ef : M.fault P n = { M with frames := ⟨g, f.boxes, [n]⟩ :: r } := by
        unfold Mc.fault
        rw [← hf]
        simp only [faultF, hg]
      rw [ef]
      refine ⟨?_, hlen, ?_⟩
      · exact w4.repl 5 (by simp [mcCells, frsCells])
      · show EndAt _ V.non M.ended
        rw [he]
        exact rfl
    | none =>
      refine w_F rfl ?_
      walk_at "w"
      refine w_popB hl ?_
      have w2 : Own H0 _ (mcCells K wh P.boxes ⟨dx, l, s, xs⟩ .non { M with frames := r }) := ((((w1.own.set 1 (.lst (refsV xs)) rfl).del 3).del 3).del 3)
      refine ⟨r.length, by simp, r, ⟨dx, l, s, xs⟩, _, _, rfl, rfl, ?_, w2, by simpa using hlen, ?_⟩
      · rw [← hf]
        simp only [faultF, hg]
      · show EndAt _ V.non M.ended
        rw [he]
        exact rfl
  · rw [refs_len, hlen] at c
    match fs, d1, hlen, w1, hf, hm, hl with
    | f :: r, _, _, _, _, _, _ => exact absurd (by simp) c
    | [], d1, hlen, w1, hf, hm, hl =>
    walk_at "w"
    refine fun t ht => ?_
    have w2 := w1.own.lay (o := .tup [.str "fault", .int n]) ht
    have hm2 := w2.ix 0 rfl
    walk_at "w"
    have ef : M.fault P n = { M with frames := [], ended := some (.fault, n) } := by
      unfold Mc.fault
      rw [← hf]
      simp only [faultF]
    refine k _ ⟨d1, .ref t, ?_⟩
    rw [ef]
    refine ⟨w2.set 0 _ rfl, hlen, t, rfl, ?_⟩
    rw [upd_ne (ne_of_none hm ht).symm, upd_same]
    rfl

/-! ### Machine.move -/
theorem MAt.noend {K : PySem.W.Frag} {H0 H : Hp} {wh : Wh} {nb : Int} {M : Mc} {d : Ad} (w : MAt K H0 H wh nb M d .non) : M.ended = none := by
  have q := w.endd
  cases e : M.ended with
  | none => rfl
  | some z =>
    rw [e] at q
    obtain ⟨t, h1, _⟩ := q
    cases h1
theorem nth_at {xs : List Int} {k v : Int} (h : nth xs k = some v) : atI (xs.map V.int) k = some (.int v) := by
  unfold nth at h
  by_cases h0 : 0 ≤ k
  · rw [if_pos h0] at h
    refine atI_ok h0 ?_
    rw [List.getElem?_map, h]
    rfl
  · rw [if_neg h0] at h
    cases h
def sp_Machine_move (K : PySem.W.Frag) : Sp := fun vs H Q _ => ∃ H0 wh nb f r said t dx l s x xs rw row M', vs = [.ref wh.m, .ref x.a, .ref rw] ∧
  MAt K H0 H wh nb ⟨f :: r, said, t, none⟩ ⟨dx, l, s, x :: xs⟩ .non ∧ SqT K H0 rw (words row) ∧ moveRw row f r ⟨f :: r, said, t, none⟩ = some M' ∧ f.pile.length < LIM ∧ said.length < LIM ∧
  ∀ H', MIn K H0 H' wh nb M' → Q .non H'
theorem MAt.lay {K : PySem.W.Frag} {H0 H : Hp} {wh : Wh} {nb n : Int} {f : Fr} {r : List Fr} {said : List Int} {t : Nat} {dx l s : Addr} {x : FA} {xs : List FA} (w : MAt K H0 H wh nb ⟨f :: r, said, t, none⟩ ⟨dx, l, s, x :: xs⟩ .non) :
    MIn K H0 (upd (upd H x.q (.lst (pileV f.pile ++ [.int n]))) x.a (.ins (He.ga K "Frame") x.dx (frF (f.place + 1) x.b x.q))) wh nb ⟨f.lay n :: r, said, t, none⟩ := by
  have w2 := w.own.set 5 (.lst (pileV f.pile ++ [.int n])) rfl
  exact ⟨⟨dx, l, s, x :: xs⟩, .non, ⟨w2.set 3 (.ins (He.ga K "Frame") x.dx (frF (f.place + 1) x.b x.q)) rfl, w.len, rfl⟩⟩
theorem p_Machine_move {K : PySem.W.Frag} (vs : List V) (H : Hp) (Q : VK) (E : XK) (h : sp_Machine_move K vs H Q E) : t_Machine_move K (sp_Frame_lay K) { nx := fun _ H' => Q .non H', rt := Q } (L2.start n_Machine_move vs) H := by
  obtain ⟨H0, wh, nb, f, r, said, t, dx, l, s, x, xs, rw, row, M', rfl, w, hrow, hM, hp, hs, k⟩ := h
  have hr := same_tup w.own.same hrow
  have hm := w.own.ix 0 rfl
  have ha := w.own.ix 3 rfl
  have hb := w.own.ix 4 rfl
  have hq := w.own.ix 5 rfl
  unfold t_Machine_move
  cases row with
  | put n =>
    cases hM
    walk_at "w"
    refine w_ixT hr rfl ?_
    walk_at "w"
    refine w_ixT hr rfl ?_
    walk_at "w"
    refine ⟨x.a, n, x.dx, f.place, x.b, x.q, _, rfl, ha, hq, by rw [pileV_len]; exact hp, ?_⟩
    exact k _ w.lay
  | get j =>
    cases hv : nth f.boxes j with
    | none => rw [moveRw, hv] at hM; cases hM
    | some v =>
      rw [moveRw, hv] at hM
      cases hM
      walk_at "w"
      refine w_ixT hr rfl ?_
      walk_at "w"
      refine w_ixT hr rfl ?_
      walk_at "w"
      refine w_ixT hr rfl ?_
      refine w_ixL (SqL.of hb) (nth_at hv) ?_
      walk_at "w"
      refine ⟨x.a, v, x.dx, f.place, x.b, x.q, _, rfl, ha, hq, by rw [pileV_len]; exact hp, ?_⟩
      exact k _ w.lay
  | set j =>
    obtain ⟨place, boxes, pile⟩ := f
    cases pile with
    | nil => cases hM
    | cons v p =>
      by_cases hj : 0 ≤ j ∧ j < boxes.length
      · simp only [moveRw, if_pos hj] at hM
        cases hM
        walk_at "w"
        refine w_ixT hr rfl ?_
        walk_at "w"
        refine w_ixT hr rfl ?_
        walk_at "w"
        refine w_popB hq ?_
        have w1 := w.own.set 5 (.lst (pileV p)) rfl
        have hr1 := same_tup w1.same hrow
        have ha1 := w1.ix 3 rfl
        have hb1 := w1.ix 4 rfl
        walk_at "w"
        refine w_ixT hr1 rfl ?_
        walk_at "w"
        refine w_ixT hr1 rfl ?_
        refine w_setL hb1 hj.1 (by rw [List.length_map]; exact hj.2) ?_
        have w2 := w1.set 4 (.lst ((boxes.map V.int).set j.toNat (.int v))) rfl
        have ha2 := w2.ix 3 rfl
        walk_at "w"
        refine k _ ⟨⟨dx, l, s, x :: xs⟩, .non, ⟨?_, w.len, rfl⟩⟩
        have w3 := w2.set 3 (.ins (He.ga K "Frame") x.dx (frF (place + 1) x.b x.q)) rfl
        have e : (boxes.set j.toNat v).map V.int = (boxes.map V.int).set j.toNat (.int v) := List.map_set ..
        unfold mcCells
        dsimp only [frsCells]
        rw [e]
        exact w3
      · simp only [moveRw, if_neg hj] at hM
        cases hM
  | say =>
    obtain ⟨place, boxes, pile⟩ := f
    cases pile with
    | nil => cases hM
    | cons v p =>
      cases hM
      walk_at "w"
      refine w_ixT hr rfl ?_
      walk_at "w"
      refine w_ixT hr rfl ?_
      walk_at "w"
      refine w_popB hq ?_
      have w1 := w.own.set 5 (.lst (pileV p)) rfl
      have hr1 := same_tup w1.same hrow
      have hm1 := w1.ix 0 rfl
      have hs1 := w1.ix 2 rfl
      walk_at "w"
      refine w_ixT hr1 rfl ?_
      walk_at "w"
      refine w_app hs1 (by rw [List.length_map]; exact lim_lt hs) ?_
      have w2 := w1.set 2 (.lst (said.map V.int ++ [.int v])) rfl
      have ha2 := w2.ix 3 rfl
      walk_at "w"
      refine k _ ⟨⟨dx, l, s, x :: xs⟩, .non, ⟨?_, w.len, rfl⟩⟩
      have w3 := w2.set 3 (.ins (He.ga K "Frame") x.dx (frF (place + 1) x.b x.q)) rfl
      have e : (said ++ [v]).map V.int = said.map V.int ++ [.int v] := by simp
      unfold mcCells
      dsimp only [frsCells]
      rw [e]
      exact w3
  | _ => cases hM
end U

set_option maxHeartbeats 4000000
namespace U
open PySem PySem.Spec PyProof.Rows L2 Un
local macro_rules | `(tactic| walk_at "w1") => `(tactic| first
  | with_reducible refine w_seq ?_
  | with_reducible refine w_asg ?_
  | with_reducible refine w_op ?_
  | ((with_reducible refine' w_var ?h1 ?_); (case h1 => rfl))
  | with_reducible refine w_c ?_
  | with_reducible refine w_name ?_
  | with_reducible refine w_tFd ?_
  | ((with_reducible refine' w_fld ?h1 ?h2 ?_); (case h1 => assumption); (case h2 => rfl))
  | with_reducible refine w_if ?_
  | with_reducible refine w_test ?_
  | with_reducible refine w_eqS ?_
  | with_reducible refine w_eqI ?_
  | with_reducible refine w_neS ?_
  | with_reducible refine w_neI ?_
  | with_reducible refine w_isN ?_
  | with_reducible refine w_isnN ?_
  | with_reducible refine w_bl ?_
  | with_reducible refine w_ret ?_
  | with_reducible refine w_drop ?_
  | with_reducible refine w_next ?_
  | with_reducible refine w_cons ?_
  | with_reducible refine w_nil ?_
  | with_reducible refine w_call ?_
  | with_reducible refine w_cb ?_
  | with_reducible refine w_meth ?_
  | ((with_reducible refine' w_recv ?h1 ?h2 ?_); (case h1 => assumption); (case h2 => rfl))
  | with_reducible refine w_sFd ?_
  | ((with_reducible refine' w_put ?h1 ?h2 ?_); (case h1 => assumption); (case h2 => exact Nat.le_of_ble_eq_true rfl))
  | with_reducible refine w_add ?_
  | with_reducible refine w_sub ?_
  | with_reducible refine w_lt ?_
  | with_reducible refine w_le ?_
  | with_reducible refine w_gt ?_
  | with_reducible refine w_ge ?_
  | with_reducible refine w_bm ?_
  | with_reducible refine w_bm0 ?_
  | ((with_reducible refine' w_ty ?h1 ?_); (case h1 => assumption))
  | with_reducible refine w_tup ?_
  | with_reducible refine w_lst ?_
  | ((with_reducible refine' w_new ?h1 ?_); (case h1 => exact Nat.le_of_ble_eq_true rfl))
  | with_reducible refine w_gsub ?_
  | with_reducible refine w_make ?_
  | with_reducible refine w_lc ?_
  | with_reducible refine w_iList ?_
  | with_reducible refine w_for ?_
  | with_reducible refine w_yes ?_
  | with_reducible refine w_tSl ?_
  | with_reducible refine w_part ?_
  | with_reducible refine w_nopart ?_
  | with_reducible refine w_i ?_
  | with_reducible refine w_rng1 ?_
  | with_reducible refine w_rng2 ?_
  | with_reducible refine w_isiII ?_
  | with_reducible refine w_isiIB ?_
  | with_reducible refine w_isiSS ?_
  | ((with_reducible refine w_mod ?h1 ?_); (case h1 => decide))
  | ((with_reducible refine w_fdC' ?h1 ?h2 ?_); (case h1 => decide); (case h2 => decide))
  | ((with_reducible refine w_mulR ?h1 ?h2 ?_); (case h1 => decide); (case h2 => decide))
  | ((with_reducible refine w_mulL ?h1 ?h2 ?_); (case h1 => decide); (case h2 => decide))
  | ((with_reducible refine w_pow' ?h1 ?h2 ?h3 ?_); (case h1 => decide); (case h2 => decide); (case h3 => decide))
  | with_reducible refine w_andV ?_
  | with_reducible refine w_orV ?_
  | with_reducible refine w_notV ?_
  | with_reducible refine w_B ?_
  | with_reducible refine w_not ?_
  | with_reducible refine w_and ?_
  | with_reducible refine w_or ?_
  | with_reducible refine w_ifx ?_
  | with_reducible refine w_un ?_
  | ((with_reducible refine w_T ?h1 ?_); (case h1 => with_reducible rfl))
  | ((with_reducible refine w_F ?h1 ?_); (case h1 => with_reducible rfl))
  | ((with_reducible refine w_T ?h1 ?_); (case h1 => decide +kernel))
  | ((with_reducible refine w_F ?h1 ?_); (case h1 => decide +kernel)))
local macro_rules | `(tactic| walk_at "w") => `(tactic| repeat walk_at "w1")

/-! ### Machine.meet -/
def meetW : Rw → Bool
  | .add | .sub | .less | .share => true
  | _ => false
def wordOf : Rw → Str
  | .put _ => "put"
  | .get _ => "get"
  | .set _ => "set"
  | .say => "say"
  | .add => "add"
  | .sub => "sub"
  | .less => "less"
  | .share => "share"
  | .go _ => "go"
  | .nought _ => "nought"
  | .on _ => "on"
  | .turn => "turn"
  | .call _ => "call"
  | .back => "back"
  | .raise => "raise"
def sp_Machine_meet (K : PySem.W.Frag) : Sp := fun vs H Q _ => ∃ H0 wh P f r said t dx l s x xs row M', vs = [.ref wh.m, .ref x.a, .str (wordOf row)] ∧
  MAt K H0 H wh P.boxes ⟨f :: r, said, t, none⟩ ⟨dx, l, s, x :: xs⟩ .non ∧ PartsIn K H0 wh.c wh.st wh.sr P ∧ meetW row = true ∧ meetRw P row f r ⟨f :: r, said, t, none⟩ = some M' ∧ f.pile.length < LIM ∧
  ∀ H', MIn K H0 H' wh P.boxes M' → Q .non H'
theorem p_Machine_meet {K : PySem.W.Frag} (vs : List V) (H : Hp) (Q : VK) (E : XK) (h : sp_Machine_meet K vs H Q E) : t_Machine_meet K (sp_Frame_lay K) (sp_Machine_fault K) { nx := fun _ H' => Q .non H', rt := Q } (L2.start n_Machine_meet vs) H := by
  obtain ⟨H0, wh, P, f, r, said, t, dx, l, s, x, xs, row, M', rfl, w, pt, hw, hM, hp, k⟩ := h
  obtain ⟨place, boxes, pile⟩ := f
  match pile, hM, w, hp with
  | [], hM, _, _ => cases hM
  | [_], hM, _, _ => cases hM
  | b :: a :: p, hM, w, hp =>
  have hq := w.own.ix 5 rfl
  have ha := w.own.ix 3 rfl
  unfold t_Machine_meet
  walk_at "w"
  refine w_popB hq ?_
  have w1 := w.own.set 5 (.lst (pileV (a :: p))) rfl
  have hq1 := w1.ix 5 rfl
  have ha1 := w1.ix 3 rfl
  walk_at "w"
  refine w_popB hq1 ?_
  have w2 : MAt K H0 _ wh P.boxes ⟨⟨place, boxes, p⟩ :: r, said, t, none⟩ ⟨dx, l, s, x :: xs⟩ .non := ⟨w1.set 5 (.lst (pileV p)) rfl, w.len, rfl⟩
  have hm2 := w2.own.ix 0 rfl
  have ha2 := w2.own.ix 3 rfl
  have hq2 := w2.own.ix 5 rfl
  have lp : (pileV p).length < LIM := by
    rw [pileV_len]
    exact Nat.lt_of_le_of_lt (by simp; omega) hp
  have lay : ∀ n : Int, some (⟨(⟨place, boxes, p⟩ : Un.Fr).lay n :: r, said, t, none⟩ : Mc) = some M' → sp_Frame_lay K [.ref x.a, .int n] _ (fun _ H' => Q .non H') E0 := fun n e => by
    cases e
    exact ⟨x.a, n, x.dx, place, x.b, x.q, _, rfl, ha2, hq2, lp, k _ w2.lay⟩
  walk_at "w"
  cases row with
  | add =>
    walk_at "w"
    exact lay _ hM
  | sub =>
    walk_at "w"
    exact lay _ hM
  | less =>
    walk_at "w"
    refine w_D (fun c => ?_) (fun c => ?_)
    · walk_at "w"
      simp only [meetRw, if_pos c] at hM
      exact lay _ hM
    · walk_at "w"
      simp only [meetRw, if_neg c] at hM
      exact lay _ hM
  | share =>
    walk_at "w"
    refine w_D (fun c => ?_) (fun c => ?_)
    · simp only [meetRw, if_pos c] at hM
      cases hM
      walk_at "w"
      exact ⟨H0, wh, P, _, _, 101, rfl, w2, pt, k⟩
    · simp only [meetRw, if_neg c] at hM
      walk_at "w"
      refine w_fd c ?_
      exact lay _ hM
  | _ => cases hw

/-! ### Machine.jump -/
def sp_Machine_jump (K : PySem.W.Frag) : Sp := fun vs H Q _ => ∃ H0 wh nb f r said t dx l s x xs rw row M', vs = [.ref wh.m, .ref x.a, .ref rw] ∧
  MAt K H0 H wh nb ⟨f :: r, said, t, none⟩ ⟨dx, l, s, x :: xs⟩ .non ∧ SqT K H0 rw (words row) ∧ jumpRw row f r ⟨f :: r, said, t, none⟩ = some M' ∧
  ∀ H', MIn K H0 H' wh nb M' → Q .non H'
theorem p_Machine_jump {K : PySem.W.Frag} (vs : List V) (H : Hp) (Q : VK) (E : XK) (h : sp_Machine_jump K vs H Q E) : t_Machine_jump K { nx := fun _ H' => Q .non H', rt := Q } (L2.start n_Machine_jump vs) H := by
  obtain ⟨H0, wh, nb, f, r, said, t, dx, l, s, x, xs, rw, row, M', rfl, w, hrow, hM, k⟩ := h
  have hr := same_tup w.own.same hrow
  have ha := w.own.ix 3 rfl
  have hb := w.own.ix 4 rfl
  have hq := w.own.ix 5 rfl
  unfold t_Machine_jump
  cases row with
  | go p =>
    cases hM
    walk_at "w"
    refine w_ixT hr rfl ?_
    walk_at "w"
    refine w_ixT hr rfl ?_
    walk_at "w"
    refine w_ixT hr rfl ?_
    walk_at "w"
    exact k _ ⟨⟨dx, l, s, x :: xs⟩, .non, ⟨w.own.set 3 (.ins (He.ga K "Frame") x.dx (frF p x.b x.q)) rfl, w.len, rfl⟩⟩
  | nought p =>
    obtain ⟨place, boxes, pile⟩ := f
    cases pile with
    | nil => cases hM
    | cons v q =>
      cases hM
      walk_at "w"
      refine w_ixT hr rfl ?_
      walk_at "w"
      refine w_ixT hr rfl ?_
      walk_at "w"
      refine w_popB hq ?_
      have w1 := w.own.set 5 (.lst (pileV q)) rfl
      have ha1 := w1.ix 3 rfl
      have hr1 := same_tup w1.same hrow
      walk_at "w"
      refine w_D (fun c => ?_) (fun c => ?_)
      · walk_at "w"
        refine w_ixT hr1 rfl ?_
        walk_at "w"
        refine k _ ⟨⟨dx, l, s, x :: xs⟩, .non, ⟨?_, w.len, rfl⟩⟩
        have w2 := w1.set 3 (.ins (He.ga K "Frame") x.dx (frF p x.b x.q)) rfl
        unfold mcCells
        dsimp only [frsCells]
        rw [if_pos c]
        exact w2
      · walk_at "w"
        refine k _ ⟨⟨dx, l, s, x :: xs⟩, .non, ⟨?_, w.len, rfl⟩⟩
        have w2 := w1.set 3 (.ins (He.ga K "Frame") x.dx (frF (place + 1) x.b x.q)) rfl
        unfold mcCells
        dsimp only [frsCells]
        rw [if_neg c]
        exact w2
  | on j =>
    cases hv : nth f.boxes j with
    | none => rw [jumpRw, hv] at hM; cases hM
    | some v =>
      rw [jumpRw, hv] at hM
      cases hM
      walk_at "w"
      refine w_ixT hr rfl ?_
      walk_at "w"
      refine w_ixT hr rfl ?_
      refine w_ixL (SqL.of hb) (nth_at hv) ?_
      walk_at "w"
      exact k _ ⟨⟨dx, l, s, x :: xs⟩, .non, ⟨w.own.set 3 (.ins (He.ga K "Frame") x.dx (frF v x.b x.q)) rfl, w.len, rfl⟩⟩
  | _ => cases hM

/-! ### Machine.back -/
def sp_Machine_back (K : PySem.W.Frag) : Sp := fun vs H Q _ => ∃ H0 wh nb M d v, vs = [.ref wh.m, .int v] ∧ MAt K H0 H wh nb M d .non ∧ M.frames ≠ [] ∧ (∀ f ∈ M.frames, f.pile.length < LIM) ∧
  ∀ H', MIn K H0 H' wh nb (M.back v) → Q .non H'
theorem p_Machine_back {K : PySem.W.Frag} (vs : List V) (H : Hp) (Q : VK) (E : XK) (h : sp_Machine_back K vs H Q E) : t_Machine_back K (sp_Frame_lay K) { nx := fun _ H' => Q .non H', rt := Q } (L2.start n_Machine_back vs) H := by
  obtain ⟨H0, wh, nb, M, d, v, rfl, w, hne, hp, k⟩ := h
  have he := w.noend
  obtain ⟨fs, said, t, en⟩ := M
  obtain ⟨dx, l, s, fas⟩ := d
  subst he
  unfold t_Machine_back
  match fs, fas, w, hne, hp with
  | [], _, _, hne, _ => exact absurd rfl hne
  | _ :: _, [], w, _, _ => exact absurd w.len (by simp)
  | [f], x :: y :: ys, w, _, _ => exact absurd w.len (by simp)
  | f :: g :: r, [x], w, _, _ => exact absurd w.len (by simp)
  | [f], [x], w, _, _ =>
    have hm := w.own.ix 0 rfl
    have hl := w.own.ix 1 rfl
    walk_at "w"
    refine w_popB hl ?_
    have w1 : Own H0 _ (mcCells K wh nb ⟨dx, l, s, []⟩ .non ⟨[], said, t, none⟩) := ((((w.own.set 1 (.lst (refsV [])) rfl).del 3).del 3).del 3)
    have hm1 := w1.ix 0 rfl
    have hl1 := w1.ix 1 rfl
    walk_at "w"
    refine w_lenL (SqL.of hl1) ?_
    walk_at "w"
    refine w_T (decide_eq_true rfl) ?_
    walk_at "w"
    refine fun u hu => ?_
    have w2 := w1.lay (o := .tup [.str "answer", .int v]) hu
    have hm2 := w2.ix 0 rfl
    walk_at "w"
    refine k _ ⟨⟨dx, l, s, []⟩, .ref u, ⟨w2.set 0 _ rfl, rfl, u, rfl, ?_⟩⟩
    rw [upd_ne (ne_of_none hm1 hu).symm, upd_same]
    rfl
  | f :: g :: r, x :: y :: ys, w, _, hp =>
    have hm := w.own.ix 0 rfl
    have hl := w.own.ix 1 rfl
    walk_at "w"
    refine w_popB hl ?_
    have w1 : MAt K H0 _ wh nb ⟨g :: r, said, t, none⟩ ⟨dx, l, s, y :: ys⟩ .non := ⟨((((w.own.set 1 (.lst (refsV (y :: ys))) rfl).del 3).del 3).del 3), by simpa using w.len, rfl⟩
    have hm1 := w1.own.ix 0 rfl
    have hl1 := w1.own.ix 1 rfl
    have ha1 := w1.own.ix 3 rfl
    have hq1 := w1.own.ix 5 rfl
    walk_at "w"
    refine w_lenL (SqL.of hl1) ?_
    walk_at "w"
    refine w_F (decide_eq_false (by rw [refs_len]; simp; omega)) ?_
    walk_at "w"
    refine w_lenL (SqL.of hl1) ?_
    walk_at "w"
    refine w_ixL (SqL.of hl1) refs_last ?_
    walk_at "w"
    refine ⟨y.a, v, y.dx, g.place, y.b, y.q, _, rfl, ha1, hq1, by rw [pileV_len]; exact hp g (by simp), ?_⟩
    exact k _ w1.lay
end U

set_option maxHeartbeats 4000000
namespace U
open PySem PySem.Spec PyProof.Rows L2 Un
local macro_rules | `(tactic| walk_at "w1") => `(tactic| first
  | with_reducible refine w_seq ?_
  | with_reducible refine w_asg ?_
  | with_reducible refine w_op ?_
  | ((with_reducible refine' w_var ?h1 ?_); (case h1 => rfl))
  | with_reducible refine w_c ?_
  | with_reducible refine w_name ?_
  | with_reducible refine w_tFd ?_
  | ((with_reducible refine' w_fld ?h1 ?h2 ?_); (case h1 => assumption); (case h2 => rfl))
  | with_reducible refine w_if ?_
  | with_reducible refine w_test ?_
  | with_reducible refine w_eqS ?_
  | with_reducible refine w_eqI ?_
  | with_reducible refine w_neS ?_
  | with_reducible refine w_neI ?_
  | with_reducible refine w_isN ?_
  | with_reducible refine w_isnN ?_
  | with_reducible refine w_bl ?_
  | with_reducible refine w_ret ?_
  | with_reducible refine w_drop ?_
  | with_reducible refine w_next ?_
  | with_reducible refine w_cons ?_
  | with_reducible refine w_nil ?_
  | with_reducible refine w_call ?_
  | with_reducible refine w_cb ?_
  | with_reducible refine w_meth ?_
  | ((with_reducible refine' w_recv ?h1 ?h2 ?_); (case h1 => assumption); (case h2 => rfl))
  | with_reducible refine w_sFd ?_
  | ((with_reducible refine' w_put ?h1 ?h2 ?_); (case h1 => assumption); (case h2 => exact Nat.le_of_ble_eq_true rfl))
  | with_reducible refine w_add ?_
  | with_reducible refine w_sub ?_
  | with_reducible refine w_lt ?_
  | with_reducible refine w_le ?_
  | with_reducible refine w_gt ?_
  | with_reducible refine w_ge ?_
  | with_reducible refine w_bm ?_
  | with_reducible refine w_bm0 ?_
  | ((with_reducible refine' w_ty ?h1 ?_); (case h1 => assumption))
  | with_reducible refine w_tup ?_
  | with_reducible refine w_lst ?_
  | ((with_reducible refine' w_new ?h1 ?_); (case h1 => exact Nat.le_of_ble_eq_true rfl))
  | with_reducible refine w_gsub ?_
  | with_reducible refine w_make ?_
  | with_reducible refine w_lc ?_
  | with_reducible refine w_iList ?_
  | with_reducible refine w_for ?_
  | with_reducible refine w_yes ?_
  | with_reducible refine w_tSl ?_
  | with_reducible refine w_part ?_
  | with_reducible refine w_nopart ?_
  | with_reducible refine w_i ?_
  | with_reducible refine w_rng1 ?_
  | with_reducible refine w_rng2 ?_
  | with_reducible refine w_isiII ?_
  | with_reducible refine w_isiIB ?_
  | with_reducible refine w_isiSS ?_
  | ((with_reducible refine w_mod ?h1 ?_); (case h1 => decide))
  | ((with_reducible refine w_fdC' ?h1 ?h2 ?_); (case h1 => decide); (case h2 => decide))
  | ((with_reducible refine w_mulR ?h1 ?h2 ?_); (case h1 => decide); (case h2 => decide))
  | ((with_reducible refine w_mulL ?h1 ?h2 ?_); (case h1 => decide); (case h2 => decide))
  | ((with_reducible refine w_pow' ?h1 ?h2 ?h3 ?_); (case h1 => decide); (case h2 => decide); (case h3 => decide))
  | with_reducible refine w_andV ?_
  | with_reducible refine w_orV ?_
  | with_reducible refine w_notV ?_
  | with_reducible refine w_B ?_
  | with_reducible refine w_not ?_
  | with_reducible refine w_and ?_
  | with_reducible refine w_or ?_
  | with_reducible refine w_ifx ?_
  | with_reducible refine w_un ?_
  | ((with_reducible refine w_T ?h1 ?_); (case h1 => with_reducible rfl))
  | ((with_reducible refine w_F ?h1 ?_); (case h1 => with_reducible rfl))
  | ((with_reducible refine w_T ?h1 ?_); (case h1 => decide +kernel))
  | ((with_reducible refine w_F ?h1 ?_); (case h1 => decide +kernel)))
local macro_rules | `(tactic| walk_at "w") => `(tactic| repeat walk_at "w1")

/-! ### Machine.enter -/
def sp_Machine_enter (K : PySem.W.Frag) : Sp := fun vs H Q _ => ∃ H0 wh P M d g v M', vs = [.ref wh.m, .int g, .int v] ∧ MAt K H0 H wh P.boxes M d .non ∧ PartsIn K H0 wh.c wh.st wh.sr P ∧ 0 ≤ P.boxes ∧ P.boxes < 16000000 ∧
  M.frames.length ≤ 8 ∧ M.enter P g v = some M' ∧ ∀ H', MIn K H0 H' wh P.boxes M' → Q .non H'
theorem p_Machine_enter {K : PySem.W.Frag} (vs : List V) (H : Hp) (Q : VK) (E : XK) (h : sp_Machine_enter K vs H Q E) : t_Machine_enter K (sp_Machine_taken K) (sp_Machine_fault K) (sp_Frame___init__ K) { nx := fun _ H' => Q .non H', rt := Q } (L2.start n_Machine_enter vs) H := by
  obtain ⟨H0, wh, P, M, d, g, v, M', rfl, w, pt, hb0, hb, hfl, hM, k⟩ := h
  have he := w.noend
  obtain ⟨fs, said, t, en⟩ := M
  obtain ⟨dx, l, s, fas⟩ := d
  subst he
  have hm := w.own.ix 0 rfl
  unfold t_Machine_enter
  walk_at "w"
  refine ⟨H0, wh, P.boxes, _, _, rfl, w.own, fun c H1 u w1 hu => ?_, fun c H1 w1 => ?_⟩
  · have c' : t = 0 := c
    walk_at "w"
    unfold Mc.enter at hM
    rw [if_pos c'] at hM
    cases hM
    exact k _ ⟨⟨dx, l, s, fas⟩, .ref u, ⟨w1, w.len, u, rfl, hu⟩⟩
  · have c' : ¬ t = 0 := c
    unfold Mc.enter at hM
    rw [if_neg c'] at hM
    dsimp only at hM hfl
    have hm1 := w1.ix 0 rfl
    have hl1 := w1.ix 1 rfl
    have hlen : (refsV fas).length = fs.length := (refs_len fas).trans w.len
    walk_at "w"
    refine w_lenL (SqL.of hl1) ?_
    walk_at "w"
    have w2 : MAt K H0 H1 wh P.boxes ⟨fs, said, t - 1, none⟩ ⟨dx, l, s, fas⟩ .non := ⟨w1, w.len, rfl⟩
    refine w_D (fun c2 => ?_) (fun c2 => ?_) <;> dsimp only at c2
    · have c3 : fs.length = 8 := by omega
      rw [if_pos c3] at hM
      cases hM
      walk_at "w"
      exact ⟨H0, wh, P, _, _, 102, rfl, w2, pt, k⟩
    · have c3 : ¬ fs.length = 8 := by omega
      rw [if_neg c3] at hM
      cases hs : nth P.starts g with
      | none => rw [hs] at hM; cases hM
      | some st =>
        rw [hs] at hM
        cases hM
        walk_at "w"
        refine w_ixL (w1.same.seq pt.starts) (nth_at hs) ?_
        walk_at "w"
        refine fun a dx2 na ndx hne => ?_
        have w3 := (w1.lay (o := .own a) ndx).take (a := a) (o := .ins (He.ga K "Frame") dx2 []) (by rw [upd_ne (Ne.symm hne)]; exact na)
        refine ⟨less _ [(a, .ins (He.ga K "Frame") dx2 [])], a, st, P.boxes, v, dx2, rfl, w3.lend1, hb0, hb, fun b q H2 w4 => ?_⟩
        have w5 := Own.back (L := [_]) w3 w4
        have hl5 := w5.ix 4 rfl
        refine ⟨rfl, ?_⟩
        walk_at "w"
        refine w_app hl5 (by rw [hlen]; exact lim_lt (by have : fs.length ≤ 8 := hfl; unfold LIM; omega)) ?_
        have w6 := w5.set 4 (.lst (refsV fas ++ [.ref a])) rfl
        refine k _ ⟨⟨dx, l, s, ⟨a, dx2, b, q⟩ :: fas⟩, .non, ⟨?_, by simpa using w.len, rfl⟩⟩
        exact w6.rot3
end U

set_option maxHeartbeats 4000000
namespace U
open PySem PySem.Spec PyProof.Rows L2 Un
local macro_rules | `(tactic| walk_at "w1") => `(tactic| first
  | with_reducible refine w_seq ?_
  | with_reducible refine w_asg ?_
  | with_reducible refine w_op ?_
  | ((with_reducible refine' w_var ?h1 ?_); (case h1 => rfl))
  | with_reducible refine w_c ?_
  | with_reducible refine w_name ?_
  | with_reducible refine w_tFd ?_
  | ((with_reducible refine' w_fld ?h1 ?h2 ?_); (case h1 => assumption); (case h2 => rfl))
  | with_reducible refine w_if ?_
  | with_reducible refine w_test ?_
  | with_reducible refine w_eqS ?_
  | with_reducible refine w_eqI ?_
  | with_reducible refine w_neS ?_
  | with_reducible refine w_neI ?_
  | with_reducible refine w_isN ?_
  | with_reducible refine w_isnN ?_
  | with_reducible refine w_bl ?_
  | with_reducible refine w_ret ?_
  | with_reducible refine w_drop ?_
  | with_reducible refine w_next ?_
  | with_reducible refine w_cons ?_
  | with_reducible refine w_nil ?_
  | with_reducible refine w_call ?_
  | with_reducible refine w_cb ?_
  | with_reducible refine w_meth ?_
  | ((with_reducible refine' w_recv ?h1 ?h2 ?_); (case h1 => assumption); (case h2 => rfl))
  | with_reducible refine w_sFd ?_
  | ((with_reducible refine' w_put ?h1 ?h2 ?_); (case h1 => assumption); (case h2 => exact Nat.le_of_ble_eq_true rfl))
  | with_reducible refine w_add ?_
  | with_reducible refine w_sub ?_
  | with_reducible refine w_lt ?_
  | with_reducible refine w_le ?_
  | with_reducible refine w_gt ?_
  | with_reducible refine w_ge ?_
  | with_reducible refine w_bm ?_
  | with_reducible refine w_bm0 ?_
  | ((with_reducible refine' w_ty ?h1 ?_); (case h1 => assumption))
  | with_reducible refine w_tup ?_
  | with_reducible refine w_lst ?_
  | ((with_reducible refine' w_new ?h1 ?_); (case h1 => exact Nat.le_of_ble_eq_true rfl))
  | with_reducible refine w_gsub ?_
  | with_reducible refine w_make ?_
  | with_reducible refine w_lc ?_
  | with_reducible refine w_iList ?_
  | with_reducible refine w_for ?_
  | with_reducible refine w_yes ?_
  | with_reducible refine w_tSl ?_
  | with_reducible refine w_part ?_
  | with_reducible refine w_nopart ?_
  | with_reducible refine w_i ?_
  | with_reducible refine w_rng1 ?_
  | with_reducible refine w_rng2 ?_
  | with_reducible refine w_isiII ?_
  | with_reducible refine w_isiIB ?_
  | with_reducible refine w_isiSS ?_
  | ((with_reducible refine w_mod ?h1 ?_); (case h1 => decide))
  | ((with_reducible refine w_fdC' ?h1 ?h2 ?_); (case h1 => decide); (case h2 => decide))
  | ((with_reducible refine w_mulR ?h1 ?h2 ?_); (case h1 => decide); (case h2 => decide))
  | ((with_reducible refine w_mulL ?h1 ?h2 ?_); (case h1 => decide); (case h2 => decide))
  | ((with_reducible refine w_pow' ?h1 ?h2 ?h3 ?_); (case h1 => decide); (case h2 => decide); (case h3 => decide))
  | with_reducible refine w_andV ?_
  | with_reducible refine w_orV ?_
  | with_reducible refine w_notV ?_
  | with_reducible refine w_B ?_
  | with_reducible refine w_not ?_
  | with_reducible refine w_and ?_
  | with_reducible refine w_or ?_
  | with_reducible refine w_ifx ?_
  | with_reducible refine w_un ?_
  | ((with_reducible refine w_T ?h1 ?_); (case h1 => with_reducible rfl))
  | ((with_reducible refine w_F ?h1 ?_); (case h1 => with_reducible rfl))
  | ((with_reducible refine w_T ?h1 ?_); (case h1 => decide +kernel))
  | ((with_reducible refine w_F ?h1 ?_); (case h1 => decide +kernel)))
local macro_rules | `(tactic| walk_at "w") => `(tactic| repeat walk_at "w1")

theorem nth_all {α β : Type} {R : α → β → Prop} {as : List α} {bs : List β} (h : All2 R as bs) {i : Int} {b : β} (e : nth bs i = some b) : ∃ a, atI as i = some a ∧ R a b := by
  unfold nth at e
  by_cases h0 : 0 ≤ i
  · rw [if_pos h0] at e
    obtain ⟨a, h1, h2⟩ := h.get e
    exact ⟨a, atI_ok h0 h1, h2⟩
  · rw [if_neg h0] at e
    cases e
theorem MAt.laid {K : PySem.W.Frag} {H0 H : Hp} {wh : Wh} {nb : Int} {M : Mc} {d : Ad} {p : Addr} {o : HO} (w : MAt K H0 H wh nb M d .non) (h : H p = none) : MAt K H0 (upd H p o) wh nb M d .non := by
  refine ⟨w.own.lay h, w.len, ?_⟩
  rw [w.noend]
  exact rfl
def moveW : Rw → Bool
  | .put _ | .get _ | .set _ | .say => true
  | _ => false
def jumpW : Rw → Bool
  | .go _ | .nought _ | .on _ => true
  | _ => false
theorem words_0 (row : Rw) : atI (words row) 0 = some (.str (wordOf row)) := by cases row <;> rfl
theorem same_one {H : Hp} {p : Addr} {o : HO} {a : Addr} {u : HO} (h : H p = none) (e : H a = some u) : upd H p o a = some u := same_lay h a u e
structure Bd (P : Parts) (M : Mc) : Prop where
  b0 : 0 ≤ P.boxes
  b1 : P.boxes < 16000000
  fr : M.frames.length ≤ 8
  pl : ∀ f ∈ M.frames, f.pile.length < LIM
  sd : M.said.length < LIM
def sp_Machine_step (K : PySem.W.Frag) : Sp := fun vs H Q _ => ∃ H0 wh P M d M', vs = [.ref wh.m] ∧ MAt K H0 H wh P.boxes M d .non ∧ PartsIn K H0 wh.c wh.st wh.sr P ∧ Bd P M ∧ rowStep P M = some M' ∧
  ∀ H', MIn K H0 H' wh P.boxes M' → Q .non H'
theorem p_Machine_step {K : PySem.W.Frag} (vs : List V) (H : Hp) (Q : VK) (E : XK) (h : sp_Machine_step K vs H Q E) :
    t_Machine_step K (sp_Machine_meet K) (sp_Machine_move K) (sp_Machine_jump K) (sp_Machine_taken K) (sp_Machine_enter K) (sp_Machine_back K) (sp_Machine_fault K) { nx := fun _ H' => Q .non H', rt := Q } (L2.start n_Machine_step vs) H := by
  obtain ⟨H0, wh, P, M, d, M', rfl, w, pt, bd, hM, k⟩ := h
  have he := w.noend
  obtain ⟨fs, said, t, en⟩ := M
  obtain ⟨dx, l, s, fas⟩ := d
  subst he
  match fs, fas, w, bd, hM with
  | [], _, _, _, hM => cases hM
  | _ :: _, [], w, _, _ => exact absurd w.len (by simp)
  | f :: r, x :: xs, w, bd, hM =>
  have hm := w.own.ix 0 rfl
  have hl := w.own.ix 1 rfl
  have ha := w.own.ix 3 rfl
  obtain ⟨cs, c1, c2⟩ := pt.code
  unfold rowStep at hM
  dsimp only at hM
  cases hrow : nth P.code f.place with
  | none => rw [hrow] at hM; cases hM
  | some row =>
  rw [hrow] at hM
  dsimp only at hM
  obtain ⟨v, hv, rw, rfl, hr0⟩ := nth_all c2 hrow
  have hr := same_tup w.own.same hr0
  have pb : f.pile.length < LIM := bd.pl f (by simp)
  unfold t_Machine_step
  walk_at "w"
  refine w_lenL (SqL.of hl) ?_
  walk_at "w"
  refine w_ixL (SqL.of hl) refs_last ?_
  walk_at "w"
  refine w_ixL (w.own.same.seq c1) hv ?_
  walk_at "w"
  refine w_ixT hr (words_0 row) ?_
  walk_at "w"
  refine fun p1 h1 => ?_
  refine w_inT (SqT.of upd_same) rfl rfl ?_
  walk_at "w"
  have w1 : MAt K H0 _ wh P.boxes ⟨f :: r, said, t, none⟩ ⟨dx, l, s, x :: xs⟩ .non := w.laid (o := .tup [.str "add", .str "sub", .str "less", .str "share"]) h1
  have meet : meetW row = true → meetRw P row f r ⟨f :: r, said, t, none⟩ = some M' → sp_Machine_meet K [.ref wh.m, .ref x.a, .str (wordOf row)] _ (fun _ H' => Q .non H') E0 :=
    fun hw hM => ⟨H0, wh, P, f, r, said, t, dx, l, s, x, xs, row, M', rfl, w1, pt, hw, hM, pb, k⟩
  have hm1 := w1.own.ix 0 rfl
  by_cases hmeet : meetW row = true
  · refine w_T (by cases row <;> first | (cases hmeet; done) | (dsimp only [wordOf]; decide +kernel)) ?_
    walk_at "w"
    exact meet hmeet (by cases row <;> first | exact hM | (cases hmeet; done))
  refine w_F (by cases row <;> first | (exact absurd rfl hmeet) | (dsimp only [wordOf]; decide +kernel)) ?_
  walk_at "w"
  refine fun p2 h2 => ?_
  refine w_inT (SqT.of upd_same) rfl rfl ?_
  walk_at "w"
  have w2 := w1.laid (o := .tup [.str "put", .str "get", .str "set", .str "say"]) h2
  have hm2 := w2.own.ix 0 rfl
  by_cases hmove : moveW row = true
  · refine w_T (by cases row <;> first | (cases hmove; done) | (dsimp only [wordOf]; decide +kernel)) ?_
    walk_at "w"
    exact ⟨H0, wh, P.boxes, f, r, said, t, dx, l, s, x, xs, rw, row, M', rfl, w2, hr0, (by cases row <;> first | exact hM | (cases hmove; done)), pb, bd.sd, k⟩
  refine w_F (by cases row <;> first | (exact absurd rfl hmove) | (exact absurd rfl hmeet) | (dsimp only [wordOf]; decide +kernel)) ?_
  walk_at "w"
  refine fun p3 h3 => ?_
  refine w_inT (SqT.of upd_same) rfl rfl ?_
  walk_at "w"
  have w3 := w2.laid (o := .tup [.str "go", .str "nought", .str "on"]) h3
  have hm3 := w3.own.ix 0 rfl
  by_cases hjump : jumpW row = true
  · refine w_T (by cases row <;> first | (cases hjump; done) | (dsimp only [wordOf]; decide +kernel)) ?_
    walk_at "w"
    exact ⟨H0, wh, P.boxes, f, r, said, t, dx, l, s, x, xs, rw, row, M', rfl, w3, hr0, (by cases row <;> first | exact hM | (cases hjump; done)), k⟩
  refine w_F (by cases row <;> first | (exact absurd rfl hjump) | (exact absurd rfl hmove) | (exact absurd rfl hmeet) | (dsimp only [wordOf]; decide +kernel)) ?_
  have ha3 := w3.own.ix 3 rfl
  have hq3 := w3.own.ix 5 rfl
  have hr3 := same_tup w3.own.same hr0
  cases row with
  | turn =>
    walk_at "w"
    refine ⟨H0, wh, P.boxes, _, _, rfl, w3.own, fun c H1 u w4 hu => ?_, fun c H1 w4 => ?_⟩
    · have c' : t = 0 := c
      walk_at "w"
      simp only [stepRw, if_pos c'] at hM
      cases hM
      exact k _ ⟨⟨dx, l, s, x :: xs⟩, .ref u, ⟨w4, w.len, u, rfl, hu⟩⟩
    · have c' : ¬ t = 0 := c
      simp only [stepRw, if_neg c'] at hM
      cases hM
      have ha4 := w4.ix 3 rfl
      walk_at "w"
      exact k _ ⟨⟨dx, l, s, x :: xs⟩, .non, ⟨w4.set 3 (.ins (He.ga K "Frame") x.dx (frF (f.place + 1) x.b x.q)) rfl, w.len, rfl⟩⟩
  | call g =>
    obtain ⟨place, boxes, pile⟩ := f
    cases pile with
    | nil => cases hM
    | cons v q =>
      dsimp only [wordOf]
      walk_at "w"
      refine w_ixT hr3 rfl ?_
      walk_at "w"
      refine w_popB hq3 ?_
      have w4 : MAt K H0 _ wh P.boxes ⟨⟨place, boxes, q⟩ :: r, said, t, none⟩ ⟨dx, l, s, x :: xs⟩ .non := ⟨w3.own.set 5 (.lst (pileV q)) rfl, w.len, rfl⟩
      walk_at "w"
      exact ⟨H0, wh, P, _, _, g, v, M', rfl, w4, pt, bd.b0, bd.b1, bd.fr, hM, k⟩
  | back =>
    obtain ⟨place, boxes, pile⟩ := f
    cases pile with
    | nil => cases hM
    | cons v q =>
      cases hM
      walk_at "w"
      refine w_popB hq3 ?_
      have w4 : MAt K H0 _ wh P.boxes ⟨⟨place, boxes, q⟩ :: r, said, t, none⟩ ⟨dx, l, s, x :: xs⟩ .non := ⟨w3.own.set 5 (.lst (pileV q)) rfl, w.len, rfl⟩
      walk_at "w"
      refine ⟨H0, wh, P.boxes, _, _, v, rfl, w4, by simp, fun g hg => ?_, k⟩
      rcases List.mem_cons.mp hg with e | e
      · subst e
        exact Nat.lt_of_le_of_lt (by simp) pb
      · exact bd.pl g (List.mem_cons_of_mem _ e)
  | raise =>
    obtain ⟨place, boxes, pile⟩ := f
    cases pile with
    | nil => cases hM
    | cons v q =>
      cases hM
      walk_at "w"
      refine w_popB hq3 ?_
      have w4 : MAt K H0 _ wh P.boxes ⟨⟨place, boxes, q⟩ :: r, said, t, none⟩ ⟨dx, l, s, x :: xs⟩ .non := ⟨w3.own.set 5 (.lst (pileV q)) rfl, w.len, rfl⟩
      walk_at "w"
      exact ⟨H0, wh, P, _, _, v, rfl, w4, pt, k⟩
  | add | sub | less | share => exact absurd rfl hmeet
  | put _ | get _ | set _ | say => exact absurd rfl hmove
  | go _ | nought _ | on _ => exact absurd rfl hjump

/-! ### run -/
theorem perm6 (l a b q s m : Cell) : List.Perm [l, a, b, q, s, m] [m, l, s, a, b, q] :=
  (List.perm_append_comm (l₁ := [l, a, b, q, s]) (l₂ := [m])).trans (.cons _ (.cons _ (List.perm_append_comm (l₁ := [a, b, q]) (l₂ := [s]))))
def sp_Machine___init__ (K : PySem.W.Frag) : Sp := fun vs H Q _ => ∃ H0 m dx a ps c st sr P number turns M, vs = [.ref m, .ref a, .int number, .int (turns : Nat)] ∧ Own H0 H [(m, .ins (He.ga K "Machine") dx [])] ∧
  SqT K H0 a ps ∧ ps = [.ref c, .ref st, .ref sr, .int P.boxes] ∧ PartsIn K H0 c st sr P ∧ 0 ≤ P.boxes ∧ P.boxes < 16000000 ∧ begun P number turns = some M ∧
  ∀ H' d, MAt K H0 H' ⟨m, c, st, sr⟩ P.boxes M d .non → Q .non H'
theorem p_Machine___init__ {K : PySem.W.Frag} (vs : List V) (H : Hp) (Q : VK) (E : XK) (h : sp_Machine___init__ K vs H Q E) :
    t_Machine___init__ K (sp_Frame___init__ K) { nx := fun _ H' => Q .non H', rt := Q } (L2.start n_Machine___init__ vs) H := by
  obtain ⟨H0, m, dx, a, ps, c, st, sr, P, number, turns, M, rfl, w, hps, rfl, pt, hb0, hb, hM, k⟩ := h
  unfold begun at hM
  cases hs : nth P.starts 0 with
  | none => rw [hs] at hM; cases hM
  | some p0 =>
  rw [hs] at hM
  cases hM
  unfold t_Machine___init__
  have t0 := same_tup w.same hps
  have h0 := w.ix 0 rfl
  walk_at "w"
  refine w_ixT t0 rfl ?_
  walk_at "w"
  have w1 := w.set 0 (.ins (He.ga K "Machine") dx [("code", .ref c)]) rfl
  have t1 := same_tup w1.same hps
  have h1 := w1.ix 0 rfl
  refine w_ixT t1 rfl ?_
  walk_at "w"
  have w2 := w1.set 0 (.ins (He.ga K "Machine") dx [("code", .ref c), ("stretches", .ref st)]) rfl
  have t2 := same_tup w2.same hps
  have h2 := w2.ix 0 rfl
  refine w_ixT t2 rfl ?_
  walk_at "w"
  have w3 := w2.set 0 (.ins (He.ga K "Machine") dx [("code", .ref c), ("stretches", .ref st), ("starts", .ref sr)]) rfl
  have t3 := same_tup w3.same hps
  have h3 := w3.ix 0 rfl
  refine w_ixT t3 rfl ?_
  walk_at "w"
  have w4 := w3.set 0 (.ins (He.ga K "Machine") dx [("code", .ref c), ("stretches", .ref st), ("starts", .ref sr), ("boxes", .int P.boxes)]) rfl
  have h4 := w4.ix 0 rfl
  walk_at "w"
  have w5 := w4.set 0 (.ins (He.ga K "Machine") dx [("code", .ref c), ("stretches", .ref st), ("starts", .ref sr), ("boxes", .int P.boxes), ("turns", .int turns)]) rfl
  refine fun s hsn => ?_
  have w6 := w5.take (o := .lst []) hsn
  have h6 := w6.ix 1 rfl
  walk_at "w"
  have w7 := w6.set 1 (.ins (He.ga K "Machine") dx [("code", .ref c), ("stretches", .ref st), ("starts", .ref sr), ("boxes", .int P.boxes), ("turns", .int turns), ("said", .ref s)]) rfl
  have h7 := w7.ix 1 rfl
  walk_at "w"
  have w8 := w7.set 1 (.ins (He.ga K "Machine") dx [("code", .ref c), ("stretches", .ref st), ("starts", .ref sr), ("boxes", .int P.boxes), ("turns", .int turns), ("said", .ref s), ("ended", .non)]) rfl
  have h8 := w8.ix 1 rfl
  walk_at "w"
  refine w_ixL (w8.same.seq pt.starts) (nth_at hs) ?_
  walk_at "w"
  refine fun fa fdx na ndx hne => ?_
  have w9 := (w8.lay (o := .own fa) ndx).take (a := fa) (o := .ins (He.ga K "Frame") fdx []) (by rw [upd_ne (Ne.symm hne)]; exact na)
  refine ⟨less _ [(fa, .ins (He.ga K "Frame") fdx [])], fa, p0, P.boxes, number, fdx, rfl, w9.lend1, hb0, hb, fun b q H2 w10 => ?_⟩
  have w11 := Own.back (L := [_]) w9 w10
  have h11 := w11.ix 4 rfl
  refine ⟨rfl, ?_⟩
  walk_at "w"
  refine fun l hl => ?_
  have w12 := w11.take (o := .lst [.ref fa]) hl
  have h12 := w12.ix 5 rfl
  walk_at "w"
  have w13 := w12.set 5 (.ins (He.ga K "Machine") dx (mcF c st sr P.boxes turns s .non l)) rfl
  refine k _ ⟨dx, l, s, [⟨fa, fdx, b, q⟩]⟩ ⟨?_, rfl, rfl⟩
  refine w13.perm ?_
  exact perm6 _ _ _ _ _ _

def sp_run0 (K : PySem.W.Frag) : Sp := fun vs H Q _ => ∃ a c st sr P number turns M0 n M x z, vs = [.ref a, .int number, .int (turns : Nat)] ∧ SqT K H a [.ref c, .ref st, .ref sr, .int P.boxes] ∧ PartsIn K H c st sr P ∧
  0 ≤ P.boxes ∧ P.boxes < 16000000 ∧ begun P number turns = some M0 ∧ rowSteps P n M0 = some M ∧ M.ended = some (x, z) ∧ (∀ j Mj, j < n → rowSteps P j M0 = some Mj → Bd P Mj) ∧
  ∀ H' p s, Same H H' → H p = none → H s = none → H' s = some (.lst (M.said.map V.int)) → H' p = some (.tup [.ref s, .str x.str, .int z]) → Q (.ref p) H'
theorem p_run0 {K : PySem.W.Frag} (vs : List V) (H : Hp) (Q : VK) (E : XK) (h : sp_run0 K vs H Q E) :
    t_run K (sp_Machine___init__ K) (sp_Machine_step K) { nx := fun _ H' => Q .non H', rt := Q } (L2.start n_run vs) H := by
  obtain ⟨a, c, st, sr, P, number, turns, M0, n, M, x, z, rfl, ha, pt, hb0, hb, hM0, hn, hend, hbd, k⟩ := h
  unfold t_run
  walk_at "w"
  refine fun m dx nm ndx hne => ?_
  have w0 := ((Own.nil (Same.refl H)).lay (o := .own m) ndx).take (a := m) (o := .ins (He.ga K "Machine") dx []) (by rw [upd_ne (Ne.symm hne)]; exact nm)
  refine ⟨H, m, dx, a, _, c, st, sr, P, number, turns, M0, rfl, w0, ha, rfl, pt, hb0, hb, hM0, fun H1 d w1 => ⟨rfl, ?_⟩⟩
  walk_at "w"
  refine ⟨fun j σ H2 => ∃ Mj, rowSteps P j Mj = some M ∧ (∀ i Mi, i < j → rowSteps P i Mj = some Mi → Bd P Mi) ∧ MIn K H H2 ⟨m, c, st, sr⟩ P.boxes Mj ∧ σ = [some (.ref a), some (.int number), some (.int turns), some (.ref m)],
    ⟨n, M0, hn, hbd, ⟨d, .non, w1⟩, rfl⟩, ?_⟩
  rintro j σ H2 ⟨Mj, hj, hbj, ⟨d2, e, w2⟩, rfl⟩
  have hm2 := w2.own.ix 0 rfl
  have hs2 := w2.own.ix 2 rfl
  walk_at "w"
  cases he : Mj.ended with
  | none =>
    have ee : e = .non := by
      have q := w2.endd
      rw [he] at q
      exact q
    subst ee
    refine w_T (decide_eq_true rfl) ?_
    cases j with
    | zero =>
      cases hj
      rw [he] at hend
      cases hend
    | succ i =>
      refine ⟨_, fun _ _ q => q, ?_⟩
      walk_at "w"
      unfold rowSteps at hj
      rw [he] at hj
      simp only [Option.isSome_none, Bool.false_eq_true, if_false] at hj
      cases hs : rowStep P Mj with
      | none => rw [hs] at hj; cases hj
      | some M1 =>
      rw [hs] at hj
      refine ⟨H, ⟨m, c, st, sr⟩, P, Mj, d2, M1, rfl, w2, pt, hbj 0 Mj (by omega) rfl, hs, fun H3 w3 => ?_⟩
      refine ⟨i, Nat.lt_succ_self i, M1, hj, fun q Mq hq e2 => hbj (q + 1) Mq (by omega) ?_, w3, rfl⟩
      unfold rowSteps
      rw [he, hs]
      exact e2
  | some y =>
    cases j with
    | succ i =>
      unfold rowSteps at hj
      rw [he] at hj
      cases hj
    | zero =>
      cases hj
      rw [he] at hend
      cases hend
      have q := w2.endd
      rw [he] at q
      obtain ⟨t, rfl, ht⟩ := q
      refine w_F (decide_eq_false (by intro z; cases z)) ?_
      walk_at "w"
      refine w_ixT (SqT.of ht) rfl ?_
      walk_at "w"
      refine w_ixT (SqT.of ht) rfl ?_
      walk_at "w"
      refine fun p hp => ?_
      have sm := w2.own.same
      refine k _ p d2.s (sm.trans (same_lay hp)) (Same.free sm hp) ?_ ?_ upd_same
      · exact w2.own.new _ (by simp [ads, mcCells])
      · exact same_one hp hs2

def sp_run (K : PySem.W.Frag) : Sp := fun vs H Q _ => ∃ a c st sr P number turns M0 n M x z, vs = [.ref a, .int number, .int (turns : Nat)] ∧ SqT K H a [.ref c, .ref st, .ref sr, .int P.boxes] ∧ PartsIn K H c st sr P ∧
  0 ≤ P.boxes ∧ P.boxes < 16000000 ∧ begun P number turns = some M0 ∧ rowSteps P n M0 = some M ∧ M.ended = some (x, z) ∧ n ≤ 15000000 ∧
  ∀ H' p s, Same H H' → H p = none → H s = none → H' s = some (.lst (M.said.map V.int)) → H' p = some (.tup [.ref s, .str x.str, .int z]) → Q (.ref p) H'
theorem p_run {K : PySem.W.Frag} (vs : List V) (H : Hp) (Q : VK) (E : XK) (h : sp_run K vs H Q E) :
    t_run K (sp_Machine___init__ K) (sp_Machine_step K) { nx := fun _ H' => Q .non H', rt := Q } (L2.start n_run vs) H := by
  obtain ⟨a, c, st, sr, P, number, turns, M0, n, M, x, z, rfl, ha, pt, hb0, hb, hM0, hn, hend, hle, k⟩ := h
  refine p_run0 _ H Q E ⟨a, c, st, sr, P, number, turns, M0, n, M, x, z, rfl, ha, pt, hb0, hb, hM0, hn, hend, fun j Mj hj e => ?_, k⟩
  have b := bnd_steps (bnd_begun hM0) e
  exact ⟨hb0, hb, b.1, fun f hf => Nat.lt_of_le_of_lt (b.2.1 f hf) (by unfold LIM; omega), Nat.lt_of_le_of_lt b.2.2 (by unfold LIM; omega)⟩
end U

namespace U
open PySem PySem.Spec PyProof.Rows L2
/-! readings of the defs -/
def t_l_whole (K : PySem.W.Frag) : TS :=
  (tRet (tAndV (tCB (rIsi K) (tCons (tVar 0) (tCons (tC (.ty "int")) tNil))) (tNotV (tCB (rIsi K) (tCons (tVar 0) (tCons (tC (.ty "bool")) tNil))))))
def n_l_whole : List Str := ["_law_found"]
def t_l_cell_at (K : PySem.W.Frag) : TS :=
  (tSeq (tIfS (tTest (tOp rLtI (tVar 1) (tCB (rLenQ K) (tCons (tVar 0) tNil)))) (tRet (tOp (rIxL K) (tVar 0) (tVar 1))) tNext)
    (tRet (tC (.int 0))))
def n_l_cell_at : List Str := ["_law_script", "_law_k"]
def t_l_number (K : PySem.W.Frag) : TS :=
  (tSeq (tIfS (tTest (tOp rEq (tOp rModP (tVar 0) (tC (.int 5))) (tC (.int 4)))) (tRet (tOp rSubI (tOp rModP (tOp rFdC (tVar 0) (tC (.int 5))) (tOp rPowI (tC (.int 10)) (tC (.int 30)))) (tOp rMulI (tC (.int 5)) (tOp rPowI (tC (.int 10)) (tC (.int 29)))))) tNext)
    (tRet (tOp rSubI (tOp rModP (tOp rFdC (tVar 0) (tC (.int 5))) (tC (.int 8))) (tC (.int 2)))))
def n_l_number : List Str := ["_law_cell"]
end U

set_option maxHeartbeats 4000000
namespace U
open PySem PySem.Spec PyProof.Rows L2
local macro_rules | `(tactic| walk_at "w1") => `(tactic| first
  | with_reducible refine w_seq ?_
  | with_reducible refine w_asg ?_
  | with_reducible refine w_op ?_
  | ((with_reducible refine' w_var ?h1 ?_); (case h1 => rfl))
  | with_reducible refine w_c ?_
  | with_reducible refine w_name ?_
  | with_reducible refine w_tFd ?_
  | ((with_reducible refine' w_fld ?h1 ?h2 ?_); (case h1 => assumption); (case h2 => rfl))
  | with_reducible refine w_if ?_
  | with_reducible refine w_test ?_
  | with_reducible refine w_eqS ?_
  | with_reducible refine w_eqI ?_
  | with_reducible refine w_neS ?_
  | with_reducible refine w_neI ?_
  | with_reducible refine w_isN ?_
  | with_reducible refine w_isnN ?_
  | with_reducible refine w_bl ?_
  | with_reducible refine w_ret ?_
  | with_reducible refine w_drop ?_
  | with_reducible refine w_next ?_
  | with_reducible refine w_cons ?_
  | with_reducible refine w_nil ?_
  | with_reducible refine w_call ?_
  | with_reducible refine w_cb ?_
  | with_reducible refine w_meth ?_
  | ((with_reducible refine' w_recv ?h1 ?h2 ?_); (case h1 => assumption); (case h2 => rfl))
  | with_reducible refine w_sFd ?_
  | ((with_reducible refine' w_put ?h1 ?h2 ?_); (case h1 => assumption); (case h2 => exact Nat.le_of_ble_eq_true rfl))
  | with_reducible refine w_add ?_
  | with_reducible refine w_sub ?_
  | with_reducible refine w_lt ?_
  | with_reducible refine w_le ?_
  | with_reducible refine w_gt ?_
  | with_reducible refine w_ge ?_
  | with_reducible refine w_bm ?_
  | with_reducible refine w_bm0 ?_
  | ((with_reducible refine' w_ty ?h1 ?_); (case h1 => assumption))
  | with_reducible refine w_tup ?_
  | with_reducible refine w_lst ?_
  | ((with_reducible refine' w_new ?h1 ?_); (case h1 => exact Nat.le_of_ble_eq_true rfl))
  | with_reducible refine w_gsub ?_
  | with_reducible refine w_make ?_
  | with_reducible refine w_lc ?_
  | with_reducible refine w_iList ?_
  | with_reducible refine w_for ?_
  | with_reducible refine w_yes ?_
  | with_reducible refine w_tSl ?_
  | with_reducible refine w_part ?_
  | with_reducible refine w_nopart ?_
  | with_reducible refine w_i ?_
  | with_reducible refine w_rng1 ?_
  | with_reducible refine w_rng2 ?_
  | with_reducible refine w_isiII ?_
  | with_reducible refine w_isiIB ?_
  | with_reducible refine w_isiSS ?_
  | ((with_reducible refine w_mod ?h1 ?_); (case h1 => decide))
  | ((with_reducible refine w_fdC' ?h1 ?h2 ?_); (case h1 => decide); (case h2 => decide))
  | ((with_reducible refine w_mulR ?h1 ?h2 ?_); (case h1 => decide); (case h2 => decide))
  | ((with_reducible refine w_mulL ?h1 ?h2 ?_); (case h1 => decide); (case h2 => decide))
  | ((with_reducible refine w_pow' ?h1 ?h2 ?h3 ?_); (case h1 => decide); (case h2 => decide); (case h3 => decide))
  | with_reducible refine w_andV ?_
  | with_reducible refine w_orV ?_
  | with_reducible refine w_notV ?_
  | with_reducible refine w_B ?_
  | with_reducible refine w_not ?_
  | with_reducible refine w_and ?_
  | with_reducible refine w_or ?_
  | with_reducible refine w_ifx ?_
  | with_reducible refine w_un ?_
  | ((with_reducible refine w_T ?h1 ?_); (case h1 => with_reducible rfl))
  | ((with_reducible refine w_F ?h1 ?_); (case h1 => with_reducible rfl))
  | ((with_reducible refine w_T ?h1 ?_); (case h1 => decide +kernel))
  | ((with_reducible refine w_F ?h1 ?_); (case h1 => decide +kernel)))
local macro_rules | `(tactic| walk_at "w") => `(tactic| repeat walk_at "w1")

/-! ### the cell of a script, a whole number, a drawn number -/
def cellAt (ns : List Int) (k : Int) : Int := ns.getD k.toNat 0
def sp_l_cell_at (K : PySem.W.Frag) : Sp := fun vs H Q _ => ∃ a ns k, vs = [.ref a, .int k] ∧ SqL K H a (ns.map V.int) ∧ 0 ≤ k ∧ Q (.int (cellAt ns k)) H
theorem p_l_cell_at {K : PySem.W.Frag} (vs : List V) (H : Hp) (Q : VK) (E : XK) (h : sp_l_cell_at K vs H Q E) : t_l_cell_at K { nx := fun _ H' => Q .non H', rt := Q } (L2.start n_l_cell_at vs) H := by
  obtain ⟨a, ns, k, rfl, hS, h0, q⟩ := h
  unfold t_l_cell_at
  walk_at "w"
  refine w_lenL hS ?_
  walk_at "w"
  refine w_D (fun c => ?_) (fun c => ?_) <;> rw [List.length_map] at c
  · walk_at "w"
    refine w_ixL (v := .int (cellAt ns k)) hS (atI_ok h0 ?_) ?_
    · rw [List.getElem?_map, cellAt, List.getD_eq_getElem?_getD, List.getElem?_eq_getElem (by omega)]
      rfl
    · exact q
  · walk_at "w"
    have e : cellAt ns k = 0 := by
      rw [cellAt, List.getD_eq_getElem?_getD, List.getElem?_eq_none (by omega)]
      rfl
    rw [e] at q
    exact q
def sp_l_whole (K : PySem.W.Frag) : Sp := fun vs H Q _ => ∃ i, vs = [.int i] ∧ Q (.bl true) H
theorem p_l_whole {K : PySem.W.Frag} (vs : List V) (H : Hp) (Q : VK) (E : XK) (h : sp_l_whole K vs H Q E) : t_l_whole K { nx := fun _ H' => Q .non H', rt := Q } (L2.start n_l_whole vs) H := by
  obtain ⟨i, rfl, q⟩ := h
  unfold t_l_whole
  walk_at "w"
  exact q
def numberOf (c : Int) : Int := if c % 5 = 4 then c / 5 % 1000000000000000000000000000000 - 500000000000000000000000000000 else c / 5 % 8 - 2
def sp_l_number (K : PySem.W.Frag) : Sp := fun vs H Q _ => ∃ c, vs = [.int c] ∧ Q (.int (numberOf c)) H
theorem p_l_number {K : PySem.W.Frag} (vs : List V) (H : Hp) (Q : VK) (E : XK) (h : sp_l_number K vs H Q E) : t_l_number K { nx := fun _ H' => Q .non H', rt := Q } (L2.start n_l_number vs) H := by
  obtain ⟨c, rfl, q⟩ := h
  unfold t_l_number
  walk_at "w"
  refine w_D (fun h => ?_) (fun h => ?_)
  · walk_at "w"
    rw [numberOf, if_pos h] at q
    exact q
  · walk_at "w"
    rw [numberOf, if_neg h] at q
    exact q
/-- [x for x in found if not whole(x)] is empty -/
theorem w_nowhole {K : PySem.W.Frag} {σ : L2.St} {H : Hp} {s : Addr} {ns : List Int} {k : Nat} {Q : Addr → Hp → Prop} (hS : SqL K H s (ns.map V.int)) (hk : k < σ.length) (q : ∀ D, H D = none → Q D (upd H D (.lst []))) :
    ∀ D, H D = none → ∃ W : Nat → Nat → Hp → Prop, (∃ m, W 0 m (upd H D (.lst []))) ∧ ∀ i m H, W i m H →
      ((Itl K s).stop i H ∧ Q D H) ∨ ((Itl K s).go i H ∧ ∃ Nx : Hp → Prop, (∀ H', Nx H' → ∃ m', m' < m ∧ W (i + 1) m' H') ∧ ∀ x H', (Itl K s).yld i H x H' → gName k x (wipe σ [k]) H' fun σ2 H2 => wipe σ2 [k] = wipe σ [k] ∧
        tNot (tB (tCall (sp_l_whole K) [] E0 (tCons (tVar k) tNil))) σ2 H2 fun b H3 => if b = true then tVar k σ2 H3 fun y H4 => ∃ acc, H4 D = some (.lst acc) ∧ acc.length < sizeLine ∧ Nx (upd H4 D (.lst (acc ++ [y]))) else Nx H3) := by
  intro D hD
  refine lc_list (xs := ns.map V.int) (fun i H' => H' = upd H D (.lst [])) rfl (fun i H' _ e => e ▸ (same_lay hD).seq hS) ?_ (fun H' e => e ▸ q D hD)
  rintro i x H' hx rfl
  rw [List.getElem?_map] at hx
  cases hz : ns[i]? with
  | none => rw [hz] at hx; cases hx
  | some z =>
  rw [hz] at hx
  cases hx
  refine ⟨?_, ?_⟩
  · simp only [wipe, List.set_set]
  · walk_at "w"
    refine w_var (v := .int z) ?_ ?_
    · simp [wipe, hk]
    walk_at "w"
    refine ⟨z, rfl, ?_⟩
    walk_at "w"
    rfl
theorem dp_ints {K : PySem.W.Frag} {H : Hp} : ∀ ns : List Int, DpAll K H (ns.map V.int) (ns.map PyData.int)
  | [] => .nil
  | n :: ns => .cons (.int n) (dp_ints ns)
theorem lay_ints : ∀ ns : List Int, PyData.canLayAll0 (ns.map PyData.int) = true ∧ PyData.depthAll (ns.map PyData.int) = 0
  | [] => ⟨rfl, rfl⟩
  | n :: ns => by
    have ih := lay_ints ns
    exact ⟨by simp [PyData.canLayAll0, PyData.canLay0, ih.1], by simp [PyData.depthAll, PyData.depth, ih.2]⟩
theorem shaped_of {d : PyData} (h : d.canLay0 = true) (hd : d.depth ≤ 64) : SeqAt.shaped d = true := by
  unfold SeqAt.shaped
  rw [Bool.and_eq_true]
  exact ⟨h, decide_eq_true hd⟩
theorem shaped_ints (ns : List Int) : SeqAt.shaped (.list (ns.map PyData.int)) = true := by
  have h := lay_ints ns
  exact shaped_of (by simp [PyData.canLay0, h.1]) (by simp [PyData.depth, h.2])
theorem eqv_self {d : PyData} (h : SeqAt.shaped d = true) : PyData.eqv d d = true := SeqAt.eqv_refl _ (SeqAt.canLay_of_shaped h)
/-- the same data twice -/
theorem w_neSame {K : PySem.W.Frag} {H : Hp} {Q : VK} {x y : V} {d : PyData} (h1 : Dp K H x d) (h2 : Dp K H y d) (s : SeqAt.shaped d = true) (q : Q (.bl false) H) : rNeD K x y H Q := by
  refine w_neD h1 h2 s s ?_
  rw [eqv_self s]
  exact q
theorem w_eqSame {K : PySem.W.Frag} {H : Hp} {Q : VK} {x y : V} {d : PyData} (h1 : Dp K H x d) (h2 : Dp K H y d) (s : SeqAt.shaped d = true) (q : Q (.bl true) H) : rEqD K x y H Q := by
  refine w_eqD h1 h2 s s ?_
  rw [eqv_self s]
  exact q
end U

set_option maxHeartbeats 4000000
namespace U
open PySem PySem.Spec PyProof.Rows L2 Un
/-! ### rows and stretches as data; tuples beside cells that are written -/
theorem IsTup.put {K : PySem.W.Frag} {H : Hp} {D : Addr} {ys xs : List V} {o : HO} {v : V} (hD : H D = some (.lst ys)) (h : IsTup K H v xs) : IsTup K (upd H D o) v xs := by
  obtain ⟨a, e, h⟩ := h
  exact ⟨a, e, tup_put hD h⟩
def Lists (L : List Cell) : Prop := ∀ p ∈ L, ∃ ys, p.2 = .lst ys
theorem tup_less {K : PySem.W.Frag} {H0 H : Hp} {L : List Cell} {a : Addr} {xs : List V} (w : Own H0 H L) (hl : Lists L) (h : SqT K H a xs) : SqT K (less H L) a xs := by
  have off : ∀ o, H a = some o → (∀ ys, o ≠ .lst ys) → less H L a = some o := fun o e n => by
    rw [less_off]
    · exact e
    · intro hm
      obtain ⟨p, hp, e2⟩ := List.mem_map.mp hm
      obtain ⟨ys, e3⟩ := hl p hp
      have q := w.at_ p hp
      rw [e2, e, e3] at q
      exact n ys (Option.some.inj q)
  rcases h with (h | ⟨o, h⟩) | h
  · exact .inl (.inl (off _ h (by intro ys z; cases z)))
  · exact .inl (.inr ⟨o, off _ h (by intro ys z; cases z)⟩)
  · exact .inr h
/-- a tuple stands behind a callee that had only lists -/
theorem tup_over {K : PySem.W.Frag} {H0 H H' : Hp} {L L' : List Cell} {a : Addr} {xs : List V} (w : Own H0 H L) (hl : Lists L) (w' : Own (less H L) H' L') (h : SqT K H a xs) : SqT K H' a xs := same_tup w'.same (tup_less w hl h)
theorem IsTup.over {K : PySem.W.Frag} {H0 H H' : Hp} {L L' : List Cell} {v : V} {xs : List V} (w : Own H0 H L) (hl : Lists L) (w' : Own (less H L) H' L') (h : IsTup K H v xs) : IsTup K H' v xs := by
  obtain ⟨a, e, h⟩ := h
  exact ⟨a, e, tup_over w hl w' h⟩
def wordsD : Rw → List PyData
  | .put n => [.str "put", .int n]
  | .get k => [.str "get", .int k]
  | .set k => [.str "set", .int k]
  | .say => [.str "say"]
  | .add => [.str "add"]
  | .sub => [.str "sub"]
  | .less => [.str "less"]
  | .share => [.str "share"]
  | .go p => [.str "go", .int p]
  | .nought p => [.str "nought", .int p]
  | .on k => [.str "on", .int k]
  | .turn => [.str "turn"]
  | .call f => [.str "call", .int f]
  | .back => [.str "back"]
  | .raise => [.str "raise"]
theorem dp_words {K : PySem.W.Frag} {H : Hp} (r : Rw) : DpAll K H (words r) (wordsD r) := by
  cases r <;> first | exact .cons (.str _) .nil | exact .cons (.str _) (.cons (.int _) .nil)
theorem lay_words (r : Rw) : PyData.canLayAll0 (wordsD r) = true ∧ PyData.depthAll (wordsD r) = 0 := by
  cases r <;> exact ⟨by simp only [wordsD, PyData.canLayAll0, PyData.canLay0]; decide +kernel, rfl⟩
theorem dp_rows {K : PySem.W.Frag} {H : Hp} {vs : List V} {rs : List Rw} (h : All2 (IsRow K H) vs rs) : DpAll K H vs (rs.map fun r => .tuple (wordsD r)) := by
  induction h with
  | nil => exact .nil
  | cons r _ ih =>
    obtain ⟨a, rfl, h⟩ := r
    exact .cons (.tup h (dp_words _)) ih
theorem shaped_rows (rs : List Rw) : SeqAt.shaped (.list (rs.map fun r => .tuple (wordsD r))) = true := by
  have h : PyData.canLayAll0 (rs.map fun r => .tuple (wordsD r)) = true ∧ PyData.depthAll (rs.map fun r => .tuple (wordsD r)) ≤ 1 := by
    induction rs with
    | nil => exact ⟨rfl, by decide⟩
    | cons r rs ih =>
      have w := lay_words r
      refine ⟨by simp [PyData.canLayAll0, PyData.canLay0, ih.1, w.1], ?_⟩
      simp only [List.map_cons, PyData.depthAll, PyData.depth, w.2]
      have := ih.2
      omega
  refine shaped_of (by simp [PyData.canLay0, h.1]) ?_
  simp only [PyData.depth]
  have := h.2
  omega
theorem dp_strs {K : PySem.W.Frag} {H : Hp} {vs : List V} {S : List Stretch} (h : All2 (IsStr K H) vs S) : DpAll K H vs (S.map fun s => .tuple [.int s.1, .int s.2.1, .int s.2.2]) := by
  induction h with
  | nil => exact .nil
  | cons r _ ih =>
    obtain ⟨a, rfl, h⟩ := r
    exact .cons (.tup h (.cons (.int _) (.cons (.int _) (.cons (.int _) .nil)))) ih
theorem shaped_strs (S : List Stretch) : SeqAt.shaped (.list (S.map fun s => .tuple [.int s.1, .int s.2.1, .int s.2.2])) = true := by
  have h : PyData.canLayAll0 (S.map fun s => .tuple [.int s.1, .int s.2.1, .int s.2.2]) = true ∧ PyData.depthAll (S.map fun s => .tuple [.int s.1, .int s.2.1, .int s.2.2]) ≤ 1 := by
    induction S with
    | nil => exact ⟨rfl, by decide⟩
    | cons s S ih =>
      refine ⟨by simp [PyData.canLayAll0, PyData.canLay0, ih.1], ?_⟩
      have := ih.2
      simp only [List.map_cons, PyData.depthAll, PyData.depth]
      omega
  refine shaped_of (by simp [PyData.canLay0, h.1]) ?_
  simp only [PyData.depth]
  have := h.2
  omega
theorem rows_mono {K : PySem.W.Frag} {H H' : Hp} {vs : List V} {rs : List Rw} (s : Same H H') (h : All2 (IsRow K H) vs rs) : All2 (IsRow K H') vs rs := h.mono fun _ _ q => IsTup.mono s q
theorem strs_mono {K : PySem.W.Frag} {H H' : Hp} {vs : List V} {rs : List Stretch} (s : Same H H') (h : All2 (IsStr K H) vs rs) : All2 (IsStr K H') vs rs := h.mono fun _ _ q => IsTup.mono s q
theorem rows_put {K : PySem.W.Frag} {H : Hp} {D : Addr} {ys : List V} {o : HO} {vs : List V} {rs : List Rw} (hD : H D = some (.lst ys)) (h : All2 (IsRow K H) vs rs) : All2 (IsRow K (upd H D o)) vs rs := h.mono fun _ _ q => IsTup.put hD q
theorem strs_put {K : PySem.W.Frag} {H : Hp} {D : Addr} {ys : List V} {o : HO} {vs : List V} {rs : List Stretch} (hD : H D = some (.lst ys)) (h : All2 (IsStr K H) vs rs) : All2 (IsStr K (upd H D o)) vs rs := h.mono fun _ _ q => IsTup.put hD q
theorem rows_over {K : PySem.W.Frag} {H0 H H' : Hp} {L L' : List Cell} {vs : List V} {rs : List Rw} (w : Own H0 H L) (hl : Lists L) (w' : Own (less H L) H' L') (h : All2 (IsRow K H) vs rs) : All2 (IsRow K H') vs rs :=
  h.mono fun _ _ q => IsTup.over w hl w' q
theorem new_tup {K : PySem.W.Frag} {H : Hp} {p : Addr} {xs : List V} : IsTup K (upd H p (.tup xs)) (.ref p) xs := ⟨p, rfl, SqT.of upd_same⟩
theorem shaped_end (x : Ed) (z : Int) : SeqAt.shaped (.tuple [.str x.str, .int z]) = true := by
  refine shaped_of ?_ (by simp [PyData.depth, PyData.depthAll])
  cases x <;> (simp only [PyData.canLay0, PyData.canLayAll0]; decide +kernel)
end U

namespace U
open PySem PySem.Spec PyProof.Rows L2
/-! readings of the defs -/
def t_l_row (K : PySem.W.Frag) (sp_l_number : Sp) : TS :=
  (tSeq (tAsg (tOp rModP (tVar 0) (tC (.int 10))) (gName 3))
    (tSeq (tIfS (tOr (tAnd (tTest (tOp rLtI (tVar 1) (tC (.int 2)))) (tTest (tOp rGtI (tVar 3) (tC (.int 5))))) (tAnd (tTest (tOp rLtI (tVar 1) (tC (.int 1)))) (tTest (tOp rGtI (tVar 3) (tC (.int 3)))))) (tAsg (tOp rModP (tVar 3) (tC (.int 4))) (gName 3)) tNext)
    (tSeq (tIfS (tTest (tOp rLtI (tVar 3) (tC (.int 3)))) (tRet (tTup (tCons (tC (.str "put")) (tCons (tCall sp_l_number [] E0 (tCons (tOp rFdC (tVar 0) (tC (.int 10))) tNil)) tNil)))) tNext)
    (tSeq (tIfS (tTest (tOp rEq (tVar 3) (tC (.int 3)))) (tRet (tTup (tCons (tC (.str "get")) (tCons (tOp rModP (tOp rFdC (tVar 0) (tC (.int 10))) (tVar 2)) tNil)))) tNext)
    (tSeq (tIfS (tTest (tOp rEq (tVar 3) (tC (.int 4)))) (tRet (tTup (tCons (tC (.str "set")) (tCons (tOp rModP (tOp rFdC (tVar 0) (tC (.int 10))) (tVar 2)) tNil)))) tNext)
    (tSeq (tIfS (tTest (tOp rEq (tVar 3) (tC (.int 5)))) (tRet (tTup (tCons (tC (.str "say")) tNil))) tNext)
    (tRet (tTup (tCons (tOp (rIxL K) (tLst (tCons (tC (.str "add")) (tCons (tC (.str "sub")) (tCons (tC (.str "less")) (tCons (tC (.str "share")) tNil))))) (tOp rSubI (tVar 3) (tC (.int 6)))) tNil)))))))))
def n_l_row : List Str := ["_law_cell", "_law_high", "_law_boxes", "_law_kind"]
def t_l_joined (K : PySem.W.Frag) : TS :=
  (tSeq (tIfS (tTest (tOp rEq (tVar 0) (tC (.str "add")))) (tRet (tOp rAddI (tVar 1) (tVar 2))) tNext)
    (tSeq (tIfS (tTest (tOp rEq (tVar 0) (tC (.str "sub")))) (tRet (tOp rSubI (tVar 1) (tVar 2))) tNext)
    (tSeq (tIfS (tTest (tOp rEq (tVar 0) (tC (.str "less")))) (tRet (tCB rIntB (tCons (tOp rLtI (tVar 1) (tVar 2)) tNil))) tNext)
    (tSeq (tIfS (tTest (tOp rEq (tVar 2) (tC (.int 0)))) (tRet (tC .non)) tNext)
    (tRet (tOp rFd (tVar 1) (tVar 2)))))))
def n_l_joined : List Str := ["_law_word", "_law_one", "_law_other"]
def t_l_done (K : PySem.W.Frag) (sp_l_joined : Sp) : TS :=
  (tSeq (tIfS (tTest (tOp rEq (tOp (rIxT K) (tVar 0) (tC (.int 0))) (tC (.str "put")))) (tDrop (tBM K "list" rAppend (tVar 1) (tCons (tOp (rIxT K) (tVar 0) (tC (.int 1))) tNil))) (tIfS (tTest (tOp rEq (tOp (rIxT K) (tVar 0) (tC (.int 0))) (tC (.str "get")))) (tDrop (tBM K "list" rAppend (tVar 1) (tCons (tOp (rIxL K) (tVar 2) (tOp (rIxT K) (tVar 0) (tC (.int 1)))) tNil))) (tIfS (tTest (tOp rEq (tOp (rIxT K) (tVar 0) (tC (.int 0))) (tC (.str "set")))) (tAsg (tBM0 K "list" rPop (tVar 1)) (gSub (tVar 2) (tOp (rIxT K) (tVar 0) (tC (.int 1))) rSetL)) (tIfS (tTest (tOp rEq (tOp (rIxT K) (tVar 0) (tC (.int 0))) (tC (.str "say")))) (tDrop (tBM K "list" rAppend (tVar 3) (tCons (tBM0 K "list" rPop (tVar 1)) tNil))) (tSeq (tAsg (tBM0 K "list" rPop (tVar 1)) (gName 4))
    (tDrop (tBM K "list" rAppend (tVar 1) (tCons (tCall sp_l_joined [] E0 (tCons (tOp (rIxT K) (tVar 0) (tC (.int 0))) (tCons (tBM0 K "list" rPop (tVar 1)) (tCons (tVar 4) tNil)))) tNil))))))))
    (tRet (tOrV (tOp rEq (tCB (rLenQ K) (tCons (tVar 1) tNil)) (tC (.int 0))) (tOp rIsNotNo (tOp (rIxL K) (tVar 1) (tOp rSubI (tCB (rLenQ K) (tCons (tVar 1) tNil)) (tC (.int 1)))) (tC .non)))))
def n_l_done : List Str := ["_law_row_here", "_law_pile", "_law_boxes", "_law_said", "_law_other"]
def t_law (K : PySem.W.Frag) (sp_l_cell_at sp_l_number sp_l_row sp_l_done sp_run sp_l_whole : Sp) : TS :=
  (tSeq (tAsg (tCall sp_l_cell_at [] E0 (tCons (tVar 0) (tCons (tC (.int 0)) tNil))) (gName 1))
    (tSeq (tAsg (tCall sp_l_number [] E0 (tCons (tCall sp_l_cell_at [] E0 (tCons (tVar 0) (tCons (tC (.int 1)) tNil))) tNil)) (gName 2))
    (tSeq (tAsg (tOp rCat (tLst (tCons (tVar 2) tNil)) (tOp rRep (tLst (tCons (tC (.int 0)) tNil)) (tOp rModP (tVar 1) (tC (.int 7))))) (gName 3))
    (tSeq (tAsg (tLst tNil) (gName 4))
    (tSeq (tAsg (tLst tNil) (gName 5))
    (tSeq (tAsg (tLst tNil) (gName 6))
    (tSeq (tAsg (tC (.bl true)) (gName 7))
    (tSeq (tFor (iList K (tSl (rSlL K) (tVar 0) (tPart (tC (.int 2))) tNoPart)) (gName 8) (tIfS (tB (tVar 7)) (tSeq (tDrop (tBM K "list" rAppend (tVar 4) (tCons (tCall sp_l_row [] E0 (tCons (tVar 8) (tCons (tCB (rLenQ K) (tCons (tVar 5) tNil)) (tCons (tCB (rLenQ K) (tCons (tVar 3) tNil)) tNil)))) tNil)))
    (tAsg (tCall sp_l_done [] E0 (tCons (tOp (rIxL K) (tVar 4) (tOp rSubI (tCB (rLenQ K) (tCons (tVar 4) tNil)) (tC (.int 1)))) (tCons (tVar 5) (tCons (tVar 3) (tCons (tVar 6) tNil))))) (gName 7))) tNext))
    (tSeq (tDrop (tBM K "list" rAppend (tVar 4) (tCons (tTup (tCons (tC (.str "put")) (tCons (tOp rModP (tOp rFdC (tVar 1) (tC (.int 7))) (tC (.int 100))) tNil))) tNil)))
    (tSeq (tDrop (tBM K "list" rAppend (tVar 4) (tCons (tTup (tCons (tC (.str "back")) tNil)) tNil)))
    (tSeq (tAsg (tLst tNil) (gName 9))
    (tSeq (tIfS (tTest (tOp rEq (tOp rModP (tOp rFdC (tVar 1) (tC (.int 700))) (tC (.int 2))) (tC (.int 1)))) (tDrop (tBM K "list" rAppend (tVar 9) (tCons (tTup (tCons (tC (.int 0)) (tCons (tOp rSubI (tCB (rLenQ K) (tCons (tVar 4) tNil)) (tC (.int 1))) (tCons (tOp rSubI (tCB (rLenQ K) (tCons (tVar 4) tNil)) (tC (.int 1))) tNil)))) tNil))) tNext)
    (tSeq (tAsg (tTup (tCons (tC (.str "answer")) (tCons (tOp rModP (tOp rFdC (tVar 1) (tC (.int 7))) (tC (.int 100))) tNil))) (gName 10))
    (tSeq (tIfS (tNot (tB (tVar 7))) (tAsg (tOp (rIxL K) (tLst (tCons (tTup (tCons (tC (.str "fault")) (tCons (tC (.int 101)) tNil))) (tCons (tTup (tCons (tC (.str "answer")) (tCons (tC (.int 101)) tNil))) tNil))) (tCB (rLenQ K) (tCons (tVar 9) tNil))) (gName 10)) tNext)
    (tSeq (tAsg (tTup (tCons (tCB (rListQ K) (tCons (tVar 4) tNil)) (tCons (tCB (rListQ K) (tCons (tVar 9) tNil)) (tCons (tLst (tCons (tC (.int 0)) tNil)) (tCons (tOp rAddI (tC (.int 1)) (tOp rModP (tVar 1) (tC (.int 7)))) tNil))))) (gName 11))
    (tSeq (tAsg (tCall sp_run [] E0 (tCons (tVar 11) (tCons (tVar 2) (tCons (tC (.int 0)) tNil)))) (gName 12))
    (tSeq (tIfS (tOr (tTest (tOp (rNeD K) (tOp (rIxT K) (tVar 11) (tC (.int 0))) (tVar 4))) (tOr (tTest (tOp (rNeD K) (tOp (rIxT K) (tVar 11) (tC (.int 1))) (tVar 9))) (tOr (tTest (tOp (rNeD K) (tOp (rIxT K) (tVar 11) (tC (.int 2))) (tLst (tCons (tC (.int 0)) tNil)))) (tOr (tNot (tB (tCB (rIsi K) (tCons (tVar 12) (tCons (tC (.ty "tuple")) tNil))))) (tTest (tOp rNe (tCB (rLenQ K) (tCons (tVar 12) tNil)) (tC (.int 3)))))))) (tRet (tC (.bl false))) tNext)
    (tSeq (tIfS (tOr (tNot (tB (tCB (rIsi K) (tCons (tOp (rIxT K) (tVar 12) (tC (.int 0))) (tCons (tC (.ty "list")) tNil))))) (tOr (tTest (tOp rGtI (tCB (rLenQ K) (tCons (tLc (iList K (tOp (rIxT K) (tVar 12) (tC (.int 0)))) (gName 13) (tNot (tB (tCall sp_l_whole [] E0 (tCons (tVar 13) tNil)))) (tVar 13) [13]) tNil)) (tC (.int 0)))) (tTest (tOp (rNeD K) (tOp (rIxT K) (tVar 12) (tC (.int 0))) (tVar 6))))) (tRet (tC (.bl false))) tNext)
    (tRet (tAndV (tCB (rIsi K) (tCons (tOp (rIxT K) (tVar 12) (tC (.int 1))) (tCons (tC (.ty "str")) tNil))) (tAndV (tCall sp_l_whole [] E0 (tCons (tOp (rIxT K) (tVar 12) (tC (.int 2))) tNil)) (tOp (rEqD K) (tTup (tCons (tOp (rIxT K) (tVar 12) (tC (.int 1))) (tCons (tOp (rIxT K) (tVar 12) (tC (.int 2))) tNil))) (tVar 10)))))))))))))))))))))))
def n_law : List Str := ["_law_script", "_law_first", "_law_given", "_law_boxes", "_law_code", "_law_pile", "_law_said", "_law_good", "_law_cell", "_law_stretches", "_law_due", "_law_parts", "_law_found", "_law_x"]
end U

/-! plain rows: what the law's own going through them comes to, and that the machine does the same -/
namespace Un
open PySem
structure S3 where
  pile : List Int
  boxes : List Int
  said : List Int
def joinRw : Rw → Int → Int → Option Int
  | .add, a, b => some (a + b)
  | .sub, a, b => some (a - b)
  | .less, a, b => some (if a < b then 1 else 0)
  | .share, a, b => if b = 0 then none else some (a.fdiv b)
  | _, _, _ => none
/-- one plain row; false: something was shared by 0 -/
def doneRw (row : Rw) (s : S3) : Option (S3 × Bool) := match row with
  | .put n => some ({ s with pile := n :: s.pile }, true)
  | .get k => (nth s.boxes k).map fun v => ({ s with pile := v :: s.pile }, true)
  | .set k => match s.pile with
    | v :: p => if 0 ≤ k ∧ k < s.boxes.length then some (⟨p, s.boxes.set k.toNat v, s.said⟩, true) else none
    | [] => none
  | .say => match s.pile with
    | v :: p => some (⟨p, s.boxes, s.said ++ [v]⟩, true)
    | [] => none
  | .add => match s.pile with
    | b :: a :: p => some (⟨(a + b) :: p, s.boxes, s.said⟩, true)
    | _ => none
  | .sub => match s.pile with
    | b :: a :: p => some (⟨(a - b) :: p, s.boxes, s.said⟩, true)
    | _ => none
  | .less => match s.pile with
    | b :: a :: p => some (⟨(if a < b then 1 else 0) :: p, s.boxes, s.said⟩, true)
    | _ => none
  | .share => match s.pile with
    | b :: a :: p => if b = 0 then some (⟨p, s.boxes, s.said⟩, false) else some (⟨a.fdiv b :: p, s.boxes, s.said⟩, true)
    | _ => none
  | _ => none
/-- the machine at place i, in one frame -/
def M3 (i : Nat) (s : S3) : Mc := ⟨[⟨(i : Int), s.boxes, s.pile⟩], s.said, 0, none⟩
theorem nth_nat {α : Type} {xs : List α} {i : Nat} {v : α} (h : xs[i]? = some v) : nth xs (i : Int) = some v := by
  unfold nth
  rw [if_pos (by omega), Int.toNat_natCast, h]
theorem done_step {P : Parts} {i : Nat} {row : Rw} {s s' : S3} (hr : P.code[i]? = some row) (h : doneRw row s = some (s', true)) : rowStep P (M3 i s) = some (M3 (i + 1) s') := by
  have hr' : nth P.code (i : Int) = some row := nth_nat hr
  obtain ⟨pile, boxes, said⟩ := s
  unfold rowStep M3
  dsimp only
  rw [hr']
  dsimp only
  cases row with
  | put n => cases h; rfl
  | get k =>
    simp only [doneRw] at h
    cases hv : nth boxes k with
    | none => rw [hv] at h; cases h
    | some v => rw [hv] at h; cases h; simp only [stepRw, moveRw, hv]; rfl
  | set k =>
    cases pile with
    | nil => cases h
    | cons v p =>
      simp only [doneRw] at h
      split at h
      · rename_i c
        cases h
        simp only [stepRw, moveRw, if_pos c]
        rfl
      · cases h
  | say => match pile, h with | v :: p, h => cases h; rfl
  | add => match pile, h with | b :: a :: p, h => cases h; rfl
  | sub => match pile, h with | b :: a :: p, h => cases h; rfl
  | less => match pile, h with | b :: a :: p, h => cases h; rfl
  | share =>
    match pile, h with
    | b :: a :: p, h =>
      simp only [doneRw] at h
      split at h
      · cases h
      · rename_i c
        cases h
        simp only [stepRw, meetRw, if_neg c]
        rfl
  | _ => cases h
theorem done_bad {P : Parts} {i : Nat} {row : Rw} {s s' : S3} (hr : P.code[i]? = some row) (h : doneRw row s = some (s', false)) : rowStep P (M3 i s) = some ((M3 i s').fault P 101) := by
  have hr' : nth P.code (i : Int) = some row := nth_nat hr
  obtain ⟨pile, boxes, said⟩ := s
  unfold rowStep M3
  dsimp only
  rw [hr']
  dsimp only
  cases row with
  | get k =>
    simp only [doneRw] at h
    cases hv : nth boxes k with
    | none => rw [hv] at h; cases h
    | some v => rw [hv] at h; cases h
  | set k =>
    cases pile with
    | nil => cases h
    | cons v p =>
      simp only [doneRw] at h
      split at h <;> cases h
  | say => match pile, h with | v :: p, h => cases h
  | add => match pile, h with | b :: a :: p, h => cases h
  | sub => match pile, h with | b :: a :: p, h => cases h
  | less => match pile, h with | b :: a :: p, h => cases h
  | share =>
    match pile, h with
    | b :: a :: p, h =>
      simp only [doneRw] at h
      split at h
      · rename_i c
        cases h
        simp only [stepRw, meetRw, if_pos c]
      · cases h
  | _ => cases h
/-- the rows so far, what they came to, whether all went well -/
structure T3 where
  rows : List Rw
  s : S3
  good : Bool
/-- all went well: the machine is behind the rows; else at the last one, and a fault comes out -/
def At3 (s0 : S3) (x : T3) : Prop := ∀ P : Parts, (∃ tl, P.code = x.rows ++ tl) → match x.good with
  | true => rowSteps P x.rows.length (M3 0 s0) = some (M3 x.rows.length x.s)
  | false => ∃ i s, x.rows.length = i + 1 ∧ rowSteps P i (M3 0 s0) = some (M3 i s) ∧ rowStep P (M3 i s) = some ((M3 i x.s).fault P 101)
theorem at3_start (s0 : S3) : At3 s0 ⟨[], s0, true⟩ := fun P _ => rfl
theorem at3_next {s0 : S3} {x : T3} {row : Rw} {s' : S3} {g : Bool} (h : At3 s0 x) (hg : x.good = true) (hd : doneRw row x.s = some (s', g)) : At3 s0 ⟨x.rows ++ [row], s', g⟩ := by
  intro P hP
  obtain ⟨tl, hP⟩ := hP
  have h1 := h P ⟨row :: tl, by rw [hP]; simp⟩
  rw [hg] at h1
  dsimp only at h1
  have hr : P.code[x.rows.length]? = some row := by rw [hP]; simp
  cases g with
  | true =>
    dsimp only
    rw [List.length_append, List.length_singleton]
    exact rowSteps_then h1 (rowSteps_one rfl (done_step hr hd))
  | false => exact ⟨x.rows.length, x.s, by simp, h1, done_bad hr hd⟩
/-- behind all: a number put, and back -/
theorem run3_good {s0 : S3} {x : T3} {q : Int} {P : Parts} (h : At3 s0 x) (hg : x.good = true) (hP : P.code = x.rows ++ [.put q, .back]) :
    ∃ M, rowSteps P (x.rows.length + 2) (M3 0 s0) = some M ∧ M.ended = some (.answer, q) ∧ M.said = x.s.said := by
  have h1 := h P ⟨_, hP⟩
  rw [hg] at h1
  have r1 : P.code[x.rows.length]? = some (.put q) := by rw [hP]; simp
  have r2 : P.code[x.rows.length + 1]? = some .back := by rw [hP]; simp
  have s1 := done_step (s := x.s) r1 rfl
  refine ⟨_, rowSteps_then h1 (b := 2) (rowSteps_then (a := 1) (b := 1) (rowSteps_one rfl s1) (rowSteps_one (m' := ⟨[], x.s.said, 0, some (.answer, q)⟩) rfl ?_)), rfl, rfl⟩
  unfold rowStep M3
  dsimp only
  rw [nth_nat r2]
  rfl
theorem run3_bad {s0 : S3} {x : T3} {P : Parts} (h : At3 s0 x) (hg : x.good = false) {tl : List Rw} (hP : P.code = x.rows ++ tl) (hS : P.str = []) :
    ∃ n M, n ≤ x.rows.length ∧ rowSteps P n (M3 0 s0) = some M ∧ M.ended = some (.fault, 101) ∧ M.said = x.s.said := by
  have h1 := h P ⟨_, hP⟩
  rw [hg] at h1
  obtain ⟨i, s, e, a, b⟩ := h1
  refine ⟨i + 1, _, by omega, rowSteps_then a (rowSteps_one rfl b), ?_, ?_⟩
  · unfold Mc.fault
    rw [hS]
    rfl
  · unfold Mc.fault
    rw [hS]
    rfl
theorem run3_caught {s0 : S3} {x : T3} {P : Parts} {q : Int} (h : At3 s0 x) (hg : x.good = false) (hP : P.code = x.rows ++ [.put q, .back])
    (hS : P.str = [(0, (x.rows.length : Int) + 1, (x.rows.length : Int) + 1)]) :
    ∃ n M, n ≤ x.rows.length + 2 ∧ rowSteps P n (M3 0 s0) = some M ∧ M.ended = some (.answer, 101) ∧ M.said = x.s.said := by
  have h1 := h P ⟨_, hP⟩
  rw [hg] at h1
  obtain ⟨i, s, e, a, b⟩ := h1
  have r2 : P.code[x.rows.length + 1]? = some .back := by rw [hP]; simp
  have f : (M3 i x.s).fault P 101 = ⟨[⟨((x.rows.length + 1 : Nat) : Int), x.s.boxes, [101]⟩], x.s.said, 0, none⟩ := by
    unfold Mc.fault
    rw [hS]
    simp only [M3, faultF, goalOf]
    rw [if_pos ⟨by omega, by omega⟩]
    rfl
  rw [f] at b
  refine ⟨i + (1 + 1), _, by omega, rowSteps_then a (rowSteps_then (rowSteps_one rfl b) (rowSteps_one (m' := ⟨[], x.s.said, 0, some (.answer, 101)⟩) rfl ?_)), rfl, rfl⟩
  unfold rowStep
  dsimp only
  rw [nth_nat r2]
  rfl
end Un

set_option maxHeartbeats 4000000
namespace U
open PySem PySem.Spec PyProof.Rows L2 Un
local macro_rules | `(tactic| walk_at "w1") => `(tactic| first
  | with_reducible refine w_seq ?_
  | with_reducible refine w_asg ?_
  | with_reducible refine w_op ?_
  | ((with_reducible refine' w_var ?h1 ?_); (case h1 => rfl))
  | with_reducible refine w_c ?_
  | with_reducible refine w_name ?_
  | with_reducible refine w_tFd ?_
  | ((with_reducible refine' w_fld ?h1 ?h2 ?_); (case h1 => assumption); (case h2 => rfl))
  | with_reducible refine w_if ?_
  | with_reducible refine w_test ?_
  | with_reducible refine w_eqS ?_
  | with_reducible refine w_eqI ?_
  | with_reducible refine w_neS ?_
  | with_reducible refine w_neI ?_
  | with_reducible refine w_isN ?_
  | with_reducible refine w_isnN ?_
  | with_reducible refine w_bl ?_
  | with_reducible refine w_ret ?_
  | with_reducible refine w_drop ?_
  | with_reducible refine w_next ?_
  | with_reducible refine w_cons ?_
  | with_reducible refine w_nil ?_
  | with_reducible refine w_call ?_
  | with_reducible refine w_cb ?_
  | with_reducible refine w_meth ?_
  | ((with_reducible refine' w_recv ?h1 ?h2 ?_); (case h1 => assumption); (case h2 => rfl))
  | with_reducible refine w_sFd ?_
  | ((with_reducible refine' w_put ?h1 ?h2 ?_); (case h1 => assumption); (case h2 => exact Nat.le_of_ble_eq_true rfl))
  | with_reducible refine w_add ?_
  | with_reducible refine w_sub ?_
  | with_reducible refine w_lt ?_
  | with_reducible refine w_le ?_
  | with_reducible refine w_gt ?_
  | with_reducible refine w_ge ?_
  | with_reducible refine w_bm ?_
  | with_reducible refine w_bm0 ?_
  | ((with_reducible refine' w_ty ?h1 ?_); (case h1 => assumption))
  | with_reducible refine w_tup ?_
  | with_reducible refine w_lst ?_
  | ((with_reducible refine' w_new ?h1 ?_); (case h1 => exact Nat.le_of_ble_eq_true rfl))
  | with_reducible refine w_gsub ?_
  | with_reducible refine w_make ?_
  | with_reducible refine w_lc ?_
  | with_reducible refine w_iList ?_
  | with_reducible refine w_for ?_
  | with_reducible refine w_yes ?_
  | with_reducible refine w_tSl ?_
  | with_reducible refine w_part ?_
  | with_reducible refine w_nopart ?_
  | with_reducible refine w_i ?_
  | with_reducible refine w_rng1 ?_
  | with_reducible refine w_rng2 ?_
  | with_reducible refine w_isiII ?_
  | with_reducible refine w_isiIB ?_
  | with_reducible refine w_isiSS ?_
  | ((with_reducible refine w_mod ?h1 ?_); (case h1 => decide))
  | ((with_reducible refine w_fdC' ?h1 ?h2 ?_); (case h1 => decide); (case h2 => decide))
  | ((with_reducible refine w_mulR ?h1 ?h2 ?_); (case h1 => decide); (case h2 => decide))
  | ((with_reducible refine w_mulL ?h1 ?h2 ?_); (case h1 => decide); (case h2 => decide))
  | ((with_reducible refine w_pow' ?h1 ?h2 ?h3 ?_); (case h1 => decide); (case h2 => decide); (case h3 => decide))
  | with_reducible refine w_andV ?_
  | with_reducible refine w_orV ?_
  | with_reducible refine w_notV ?_
  | with_reducible refine w_B ?_
  | with_reducible refine w_not ?_
  | with_reducible refine w_and ?_
  | with_reducible refine w_or ?_
  | with_reducible refine w_ifx ?_
  | with_reducible refine w_un ?_
  | ((with_reducible refine w_T ?h1 ?_); (case h1 => with_reducible rfl))
  | ((with_reducible refine w_F ?h1 ?_); (case h1 => with_reducible rfl))
  | ((with_reducible refine w_T ?h1 ?_); (case h1 => decide +kernel))
  | ((with_reducible refine w_F ?h1 ?_); (case h1 => decide +kernel)))
local macro_rules | `(tactic| walk_at "w") => `(tactic| repeat walk_at "w1")

/-! ### a drawn row -/
def kindOf (cell : Int) (high : Nat) : Int := if (high < 2 ∧ 5 < cell % 10) ∨ (high < 1 ∧ 3 < cell % 10) then cell % 10 % 4 else cell % 10
def rowOf (cell : Int) (high boxes : Nat) : Rw :=
  if kindOf cell high < 3 then .put (numberOf (cell / 10)) else if kindOf cell high = 3 then .get (cell / 10 % boxes) else if kindOf cell high = 4 then .set (cell / 10 % boxes)
  else if kindOf cell high = 5 then .say else if kindOf cell high = 6 then .add else if kindOf cell high = 7 then .sub else if kindOf cell high = 8 then .less else .share
def sp_l_row (K : PySem.W.Frag) : Sp := fun vs H Q _ => ∃ cell high boxes, vs = [.int cell, .int (high : Nat), .int (boxes : Nat)] ∧ 0 < boxes ∧
  ∀ H' p, Same H H' → H p = none → H' p = some (.tup (words (rowOf cell high boxes))) → Q (.ref p) H'
theorem p_l_row {K : PySem.W.Frag} (vs : List V) (H : Hp) (Q : VK) (E : XK) (h : sp_l_row K vs H Q E) : t_l_row K (sp_l_number K) { nx := fun _ H' => Q .non H', rt := Q } (L2.start n_l_row vs) H := by
  obtain ⟨cell, high, boxes, rfl, hb, q⟩ := h
  have new : ∀ ws, words (rowOf cell high boxes) = ws → ∀ p, H p = none → Q (.ref p) (upd H p (.tup ws)) := fun ws e p hp => q _ p (same_lay hp) hp (by rw [upd_same, e])
  unfold t_l_row
  with_reducible refine w_seq ?_
  with_reducible refine w_asg ?_
  with_reducible refine w_op ?_
  refine ⟨_, rfl, _, _, rfl, rfl, (by decide : (0 : Int) < 10), ?_⟩
  with_reducible refine w_name ?_
  with_reducible refine w_cut (fun σ H' => H' = H ∧ σ = [some (.int cell), some (.int high), some (.int boxes), some (.int (kindOf cell high))]) ?_ fun N key => ?_
  · rintro σ H' ⟨rfl, rfl⟩
    walk_at "w"
    refine w_D (fun c => ?_) (fun c => ?_)
    · walk_at "w"
      refine ⟨_, rfl, ?_⟩
      walk_at "w"
      exact new _ (by rw [rowOf, if_pos c]; rfl)
    walk_at "w"
    refine w_D (fun c3 => ?_) (fun c3 => ?_)
    · walk_at "w"
      refine w_mod (by omega) ?_
      walk_at "w"
      exact new _ (by rw [rowOf, if_neg c, if_pos c3]; rfl)
    walk_at "w"
    refine w_D (fun c4 => ?_) (fun c4 => ?_)
    · walk_at "w"
      refine w_mod (by omega) ?_
      walk_at "w"
      exact new _ (by rw [rowOf, if_neg c, if_neg c3, if_pos c4]; rfl)
    walk_at "w"
    refine w_D (fun c5 => ?_) (fun c5 => ?_)
    · walk_at "w"
      exact new _ (by rw [rowOf, if_neg c, if_neg c3, if_neg c4, if_pos c5]; rfl)
    walk_at "w"
    refine fun p1 h1 => ?_
    walk_at "w"
    have hk : 5 < kindOf cell high ∧ kindOf cell high < 10 := by
      unfold kindOf at c c3 c4 c5 ⊢
      split <;> rename_i z <;> simp only [z, if_true, if_false] at c c3 c4 c5 <;> omega
    have pk : ∃ w : Str, atI [V.str "add", .str "sub", .str "less", .str "share"] (kindOf cell high - 6) = some (.str w) ∧ words (rowOf cell high boxes) = [.str w] := by
      rcases (by omega : kindOf cell high = 6 ∨ kindOf cell high = 7 ∨ kindOf cell high = 8 ∨ kindOf cell high = 9) with e | e | e | e <;> (unfold rowOf; rw [e]; exact ⟨_, rfl, rfl⟩)
    obtain ⟨w, h2, h3⟩ := pk
    refine w_ixL (SqL.of upd_same) h2 ?_
    walk_at "w"
    refine fun p hp => ?_
    have s1 : Same H' _ := same_lay (o := .lst [.str "add", .str "sub", .str "less", .str "share"]) h1
    exact q _ p (s1.trans (same_lay hp)) (Same.free s1 hp) (by rw [upd_same, h3])
  · walk_at "w"
    refine w_D (fun a1 => ?_) (fun a1 => ?_)
    · walk_at "w"
      refine w_D (fun a2 => ?_) (fun a2 => ?_)
      · walk_at "w"
        exact key _ _ ⟨rfl, by rw [kindOf, if_pos (.inl ⟨by omega, a2⟩)]; rfl⟩
      · walk_at "w"
        refine w_D (fun a3 => ?_) (fun a3 => ?_)
        · walk_at "w"
          refine w_D (fun a4 => ?_) (fun a4 => ?_)
          · walk_at "w"
            exact key _ _ ⟨rfl, by rw [kindOf, if_pos (.inr ⟨by omega, a4⟩)]; rfl⟩
          · walk_at "w"
            exact key _ _ ⟨rfl, by rw [kindOf, if_neg (by omega)]; rfl⟩
        · walk_at "w"
          exact key _ _ ⟨rfl, by rw [kindOf, if_neg (by omega)]; rfl⟩
    · walk_at "w"
      refine w_D (fun a3 => ?_) (fun a3 => ?_)
      · omega
      · walk_at "w"
        exact key _ _ ⟨rfl, by rw [kindOf, if_neg (by omega)]; rfl⟩
/-! ### joined -/
def joinV : Option Int → V
  | none => .non
  | some n => .int n
def sp_l_joined (K : PySem.W.Frag) : Sp := fun vs H Q _ => ∃ row a b, vs = [.str (wordOf row), .int a, .int b] ∧ meetW row = true ∧ Q (joinV (joinRw row a b)) H
theorem p_l_joined {K : PySem.W.Frag} (vs : List V) (H : Hp) (Q : VK) (E : XK) (h : sp_l_joined K vs H Q E) : t_l_joined K { nx := fun _ H' => Q .non H', rt := Q } (L2.start n_l_joined vs) H := by
  obtain ⟨row, a, b, rfl, hw, q⟩ := h
  unfold t_l_joined
  cases row with
  | add =>
    dsimp only [wordOf]
    walk_at "w"
    exact q
  | sub =>
    dsimp only [wordOf]
    walk_at "w"
    exact q
  | less =>
    dsimp only [wordOf]
    walk_at "w"
    refine ⟨_, rfl, ?_⟩
    walk_at "w"
    have e : V.int (if decide (a < b) = true then 1 else 0) = joinV (joinRw .less a b) := by simp [joinV, joinRw]
    rw [e]
    exact q
  | share =>
    dsimp only [wordOf]
    walk_at "w"
    refine w_D (fun c => ?_) (fun c => ?_)
    · walk_at "w"
      rw [joinRw, if_pos c] at q
      exact q
    · walk_at "w"
      refine w_fd c ?_
      rw [joinRw, if_neg c] at q
      exact q
  | _ => cases hw
end U

set_option maxHeartbeats 4000000
namespace U
open PySem PySem.Spec PyProof.Rows L2 Un
local macro_rules | `(tactic| walk_at "w1") => `(tactic| first
  | with_reducible refine w_seq ?_
  | with_reducible refine w_asg ?_
  | with_reducible refine w_op ?_
  | ((with_reducible refine' w_var ?h1 ?_); (case h1 => rfl))
  | with_reducible refine w_c ?_
  | with_reducible refine w_name ?_
  | with_reducible refine w_tFd ?_
  | ((with_reducible refine' w_fld ?h1 ?h2 ?_); (case h1 => assumption); (case h2 => rfl))
  | with_reducible refine w_if ?_
  | with_reducible refine w_test ?_
  | with_reducible refine w_eqS ?_
  | with_reducible refine w_eqI ?_
  | with_reducible refine w_neS ?_
  | with_reducible refine w_neI ?_
  | with_reducible refine w_isN ?_
  | with_reducible refine w_isnN ?_
  | with_reducible refine w_bl ?_
  | with_reducible refine w_ret ?_
  | with_reducible refine w_drop ?_
  | with_reducible refine w_next ?_
  | with_reducible refine w_cons ?_
  | with_reducible refine w_nil ?_
  | with_reducible refine w_call ?_
  | with_reducible refine w_cb ?_
  | with_reducible refine w_meth ?_
  | ((with_reducible refine' w_recv ?h1 ?h2 ?_); (case h1 => assumption); (case h2 => rfl))
  | with_reducible refine w_sFd ?_
  | ((with_reducible refine' w_put ?h1 ?h2 ?_); (case h1 => assumption); (case h2 => exact Nat.le_of_ble_eq_true rfl))
  | with_reducible refine w_add ?_
  | with_reducible refine w_sub ?_
  | with_reducible refine w_lt ?_
  | with_reducible refine w_le ?_
  | with_reducible refine w_gt ?_
  | with_reducible refine w_ge ?_
  | with_reducible refine w_bm ?_
  | with_reducible refine w_bm0 ?_
  | ((with_reducible refine' w_ty ?h1 ?_); (case h1 => assumption))
  | with_reducible refine w_tup ?_
  | with_reducible refine w_lst ?_
  | ((with_reducible refine' w_new ?h1 ?_); (case h1 => exact Nat.le_of_ble_eq_true rfl))
  | with_reducible refine w_gsub ?_
  | with_reducible refine w_make ?_
  | with_reducible refine w_lc ?_
  | with_reducible refine w_iList ?_
  | with_reducible refine w_for ?_
  | with_reducible refine w_yes ?_
  | with_reducible refine w_tSl ?_
  | with_reducible refine w_part ?_
  | with_reducible refine w_nopart ?_
  | with_reducible refine w_i ?_
  | with_reducible refine w_rng1 ?_
  | with_reducible refine w_rng2 ?_
  | with_reducible refine w_isiII ?_
  | with_reducible refine w_isiIB ?_
  | with_reducible refine w_isiSS ?_
  | ((with_reducible refine w_mod ?h1 ?_); (case h1 => decide))
  | ((with_reducible refine w_fdC' ?h1 ?h2 ?_); (case h1 => decide); (case h2 => decide))
  | ((with_reducible refine w_mulR ?h1 ?h2 ?_); (case h1 => decide); (case h2 => decide))
  | ((with_reducible refine w_mulL ?h1 ?h2 ?_); (case h1 => decide); (case h2 => decide))
  | ((with_reducible refine w_pow' ?h1 ?h2 ?h3 ?_); (case h1 => decide); (case h2 => decide); (case h3 => decide))
  | with_reducible refine w_andV ?_
  | with_reducible refine w_orV ?_
  | with_reducible refine w_notV ?_
  | with_reducible refine w_B ?_
  | with_reducible refine w_not ?_
  | with_reducible refine w_and ?_
  | with_reducible refine w_or ?_
  | with_reducible refine w_ifx ?_
  | with_reducible refine w_un ?_
  | ((with_reducible refine w_T ?h1 ?_); (case h1 => with_reducible rfl))
  | ((with_reducible refine w_F ?h1 ?_); (case h1 => with_reducible rfl))
  | ((with_reducible refine w_T ?h1 ?_); (case h1 => decide +kernel))
  | ((with_reducible refine w_F ?h1 ?_); (case h1 => decide +kernel)))
local macro_rules | `(tactic| walk_at "w") => `(tactic| repeat walk_at "w1")

/-! ### one row done by the law's own hand -/
def pileG (g : Bool) (p : List Int) : List V := if g then pileV p else pileV p ++ [.non]
def s3Cells (p b s : Addr) (g : Bool) (st : S3) : List Cell := [(p, .lst (pileG g st.pile)), (b, .lst (st.boxes.map V.int)), (s, .lst (st.said.map V.int))]
def sp_l_done (K : PySem.W.Frag) : Sp := fun vs H Q _ => ∃ H0 rw row p b sd st st' g, vs = [.ref rw, .ref p, .ref b, .ref sd] ∧ SqT K H0 rw (words row) ∧ Own H0 H (s3Cells p b sd true st) ∧ doneRw row st = some (st', g) ∧
  st.pile.length < LIM ∧ st.said.length < LIM ∧ ∀ H', Own H0 H' (s3Cells p b sd g st') → Q (.bl g) H'
theorem last_at {xs : List V} {v : V} : atI (xs ++ [v]) (((xs ++ [v]).length : Int) - 1) = some v := atI_end rfl
theorem p_l_done {K : PySem.W.Frag} (vs : List V) (H : Hp) (Q : VK) (E : XK) (h : sp_l_done K vs H Q E) : t_l_done K (sp_l_joined K) { nx := fun _ H' => Q .non H', rt := Q } (L2.start n_l_done vs) H := by
  obtain ⟨H0, rw, row, p, b, sd, st, st', g, rfl, hrow, w, hd, lp, ls, k⟩ := h
  have hr := same_tup w.same hrow
  have hp := w.ix 0 rfl
  have hb := w.ix 1 rfl
  have hs := w.ix 2 rfl
  obtain ⟨pile, boxes, said⟩ := st
  have lpv : (pileV pile).length < sizeLine := by
    rw [pileV_len]
    exact lim_lt lp
  unfold t_l_done
  with_reducible refine w_cut (fun σ H' => Own H0 H' (s3Cells p b sd g st') ∧ ∃ x, σ = [some (.ref rw), some (.ref p), some (.ref b), some (.ref sd), x]) ?_ fun N key => ?_
  · rintro σ H' ⟨w1, x, rfl⟩
    have hp1 := w1.ix 0 rfl
    walk_at "w"
    refine w_lenL (SqL.of hp1) ?_
    walk_at "w"
    refine w_D (fun c => ?_) (fun c => ?_)
    · have eg : g = true := by
        cases g with
        | true => rfl
        | false => simp [pileG] at c
                   omega
      subst eg
      exact k _ w1
    · walk_at "w"
      refine w_lenL (SqL.of hp1) ?_
      walk_at "w"
      cases g with
      | false =>
        refine w_ixL (SqL.of hp1) (last_at (xs := pileV st'.pile) (v := .non)) ?_
        walk_at "w"
        exact k _ w1
      | true =>
        cases hx : st'.pile with
        | nil =>
          rw [hx] at c
          exact absurd rfl c
        | cons v q =>
          rw [hx] at hp1
          have hp2 : H' p = some (.lst (pileV q ++ [.int v])) := hp1
          refine w_ixL (SqL.of hp2) (last_at (xs := pileV q) (v := .int v)) ?_
          walk_at "w"
          exact k _ w1
  · cases row with
    | put n =>
      cases hd
      walk_at "w"
      refine w_ixT hr rfl ?_
      walk_at "w"
      refine w_ixT hr rfl ?_
      walk_at "w"
      refine w_app hp lpv ?_
      exact key _ _ ⟨w.set 0 (.lst (pileV pile ++ [.int n])) rfl, _, rfl⟩
    | get j =>
      simp only [doneRw] at hd
      cases hv : nth boxes j with
      | none => rw [hv] at hd; cases hd
      | some v =>
        rw [hv] at hd
        cases hd
        walk_at "w"
        refine w_ixT hr rfl ?_
        walk_at "w"
        refine w_ixT hr rfl ?_
        walk_at "w"
        refine w_ixT hr rfl ?_
        refine w_ixL (SqL.of hb) (nth_at hv) ?_
        walk_at "w"
        refine w_app hp lpv ?_
        exact key _ _ ⟨w.set 0 (.lst (pileV pile ++ [.int v])) rfl, _, rfl⟩
    | set j =>
      cases pile with
      | nil => cases hd
      | cons v q =>
        simp only [doneRw] at hd
        split at hd
        · rename_i c
          cases hd
          walk_at "w"
          refine w_ixT hr rfl ?_
          walk_at "w"
          refine w_ixT hr rfl ?_
          walk_at "w"
          refine w_ixT hr rfl ?_
          walk_at "w"
          refine w_popB hp ?_
          have w1 := w.set 0 (.lst (pileV q)) rfl
          have hr1 := same_tup w1.same hrow
          have hb1 := w1.ix 1 rfl
          walk_at "w"
          refine w_ixT hr1 rfl ?_
          refine w_setL hb1 c.1 (by rw [List.length_map]; exact c.2) ?_
          refine key _ _ ⟨?_, _, rfl⟩
          have w2 := w1.set 1 (.lst ((boxes.map V.int).set j.toNat (.int v))) rfl
          have e : (boxes.set j.toNat v).map V.int = (boxes.map V.int).set j.toNat (.int v) := List.map_set ..
          unfold s3Cells
          dsimp only
          rw [e]
          exact w2
        · cases hd
    | say =>
      cases pile with
      | nil => cases hd
      | cons v q =>
        cases hd
        walk_at "w"
        refine w_ixT hr rfl ?_
        walk_at "w"
        refine w_ixT hr rfl ?_
        walk_at "w"
        refine w_ixT hr rfl ?_
        walk_at "w"
        refine w_ixT hr rfl ?_
        walk_at "w"
        refine w_popB hp ?_
        have w1 := w.set 0 (.lst (pileV q)) rfl
        have hs1 := w1.ix 2 rfl
        walk_at "w"
        refine w_app hs1 (by rw [List.length_map]; exact lim_lt ls) ?_
        refine key _ _ ⟨?_, _, rfl⟩
        have w2 := w1.set 2 (.lst (said.map V.int ++ [.int v])) rfl
        have e : (said ++ [v]).map V.int = said.map V.int ++ [.int v] := by simp
        unfold s3Cells
        dsimp only
        rw [e]
        exact w2
    | add | sub | less | share =>
      match pile, hd, hp, lpv, w with
      | y :: x :: q, hd, hp, lpv, w =>
      walk_at "w"
      refine w_ixT hr rfl ?_
      walk_at "w"
      refine w_ixT hr rfl ?_
      walk_at "w"
      refine w_ixT hr rfl ?_
      walk_at "w"
      refine w_ixT hr rfl ?_
      walk_at "w"
      refine w_popB hp ?_
      have w1 := w.set 0 (.lst (pileV (x :: q))) rfl
      have hr1 := same_tup w1.same hrow
      have hp1 := w1.ix 0 rfl
      walk_at "w"
      refine w_ixT hr1 rfl ?_
      walk_at "w"
      refine w_popB hp1 ?_
      have w2 := w1.set 0 (.lst (pileV q)) rfl
      have hp2 := w2.ix 0 rfl
      walk_at "w"
      first
        | refine ⟨.add, x, y, rfl, rfl, ?_⟩
        | refine ⟨.sub, x, y, rfl, rfl, ?_⟩
        | refine ⟨.less, x, y, rfl, rfl, ?_⟩
        | refine ⟨.share, x, y, rfl, rfl, ?_⟩
      walk_at "w"
      have lq : (pileV q).length < sizeLine := by
        have : (pileV (y :: x :: q)).length = (pileV q).length + 2 := by simp [pileV]
        omega
      refine w_app hp2 lq ?_
      refine key _ _ ⟨?_, _, rfl⟩
      have w3 := fun v => w2.set 0 (.lst (pileV q ++ [v])) rfl
      simp only [doneRw] at hd
      first
        | (cases hd; exact w3 _)
        | (split at hd
           · rename_i c
             cases hd
             simp only [joinRw, if_pos c, joinV]
             exact w3 _
           · rename_i c
             cases hd
             simp only [joinRw, if_neg c, joinV]
             exact w3 _)
    | _ => cases hd
end U

set_option maxHeartbeats 4000000
namespace U
open PySem PySem.Spec PyProof.Rows L2 Un
local macro_rules | `(tactic| walk_at "w1") => `(tactic| first
  | with_reducible refine w_seq ?_
  | with_reducible refine w_asg ?_
  | with_reducible refine w_op ?_
  | ((with_reducible refine' w_var ?h1 ?_); (case h1 => rfl))
  | with_reducible refine w_c ?_
  | with_reducible refine w_name ?_
  | with_reducible refine w_tFd ?_
  | ((with_reducible refine' w_fld ?h1 ?h2 ?_); (case h1 => assumption); (case h2 => rfl))
  | with_reducible refine w_if ?_
  | with_reducible refine w_test ?_
  | with_reducible refine w_eqS ?_
  | with_reducible refine w_eqI ?_
  | with_reducible refine w_neS ?_
  | with_reducible refine w_neI ?_
  | with_reducible refine w_isN ?_
  | with_reducible refine w_isnN ?_
  | with_reducible refine w_bl ?_
  | with_reducible refine w_ret ?_
  | with_reducible refine w_drop ?_
  | with_reducible refine w_next ?_
  | with_reducible refine w_cons ?_
  | with_reducible refine w_nil ?_
  | with_reducible refine w_call ?_
  | with_reducible refine w_cb ?_
  | with_reducible refine w_meth ?_
  | ((with_reducible refine' w_recv ?h1 ?h2 ?_); (case h1 => assumption); (case h2 => rfl))
  | with_reducible refine w_sFd ?_
  | ((with_reducible refine' w_put ?h1 ?h2 ?_); (case h1 => assumption); (case h2 => exact Nat.le_of_ble_eq_true rfl))
  | with_reducible refine w_add ?_
  | with_reducible refine w_sub ?_
  | with_reducible refine w_lt ?_
  | with_reducible refine w_le ?_
  | with_reducible refine w_gt ?_
  | with_reducible refine w_ge ?_
  | with_reducible refine w_bm ?_
  | with_reducible refine w_bm0 ?_
  | ((with_reducible refine' w_ty ?h1 ?_); (case h1 => assumption))
  | with_reducible refine w_tup ?_
  | with_reducible refine w_lst ?_
  | ((with_reducible refine' w_new ?h1 ?_); (case h1 => exact Nat.le_of_ble_eq_true rfl))
  | with_reducible refine w_gsub ?_
  | with_reducible refine w_make ?_
  | with_reducible refine w_lc ?_
  | with_reducible refine w_iList ?_
  | with_reducible refine w_for ?_
  | with_reducible refine w_yes ?_
  | with_reducible refine w_tSl ?_
  | with_reducible refine w_part ?_
  | with_reducible refine w_nopart ?_
  | with_reducible refine w_i ?_
  | with_reducible refine w_rng1 ?_
  | with_reducible refine w_rng2 ?_
  | with_reducible refine w_isiII ?_
  | with_reducible refine w_isiIB ?_
  | with_reducible refine w_isiSS ?_
  | ((with_reducible refine w_mod ?h1 ?_); (case h1 => decide))
  | ((with_reducible refine w_fdC' ?h1 ?h2 ?_); (case h1 => decide); (case h2 => decide))
  | ((with_reducible refine w_mulR ?h1 ?h2 ?_); (case h1 => decide); (case h2 => decide))
  | ((with_reducible refine w_mulL ?h1 ?h2 ?_); (case h1 => decide); (case h2 => decide))
  | ((with_reducible refine w_pow' ?h1 ?h2 ?h3 ?_); (case h1 => decide); (case h2 => decide); (case h3 => decide))
  | with_reducible refine w_andV ?_
  | with_reducible refine w_orV ?_
  | with_reducible refine w_notV ?_
  | with_reducible refine w_B ?_
  | with_reducible refine w_not ?_
  | with_reducible refine w_and ?_
  | with_reducible refine w_or ?_
  | with_reducible refine w_ifx ?_
  | with_reducible refine w_un ?_
  | ((with_reducible refine w_T ?h1 ?_); (case h1 => with_reducible rfl))
  | ((with_reducible refine w_F ?h1 ?_); (case h1 => with_reducible rfl))
  | ((with_reducible refine w_T ?h1 ?_); (case h1 => decide +kernel))
  | ((with_reducible refine w_F ?h1 ?_); (case h1 => decide +kernel)))
local macro_rules | `(tactic| walk_at "w") => `(tactic| repeat walk_at "w1")

theorem done_ok (cell : Int) (s : S3) (hb : 0 < s.boxes.length) : ∃ s' g, doneRw (rowOf cell s.pile.length s.boxes.length) s = some (s', g) ∧ s'.boxes.length = s.boxes.length ∧ s'.pile.length ≤ s.pile.length + 1 ∧ s'.said.length ≤ s.said.length + 1 := by
  obtain ⟨pile, boxes, said⟩ := s
  dsimp only at hb ⊢
  have hm : 0 ≤ cell / 10 % (boxes.length : Int) ∧ cell / 10 % (boxes.length : Int) < boxes.length := ⟨Int.emod_nonneg _ (by omega), Int.emod_lt_of_pos _ (by omega)⟩
  have hk : 0 ≤ kindOf cell pile.length ∧ kindOf cell pile.length < 10 ∧ (pile.length < 1 → kindOf cell pile.length ≤ 3) ∧ (pile.length < 2 → kindOf cell pile.length ≤ 5) := by
    unfold kindOf
    split <;> omega
  unfold rowOf
  by_cases k3 : kindOf cell pile.length < 3
  · rw [if_pos k3]
    exact ⟨_, _, rfl, rfl, by simp, by simp⟩
  rw [if_neg k3]
  by_cases k4 : kindOf cell pile.length = 3
  · rw [if_pos k4]
    have hv : nth boxes (cell / 10 % (boxes.length : Int)) = some boxes[(cell / 10 % (boxes.length : Int)).toNat] := by
      unfold nth
      rw [if_pos hm.1]
      exact List.getElem?_eq_getElem (by omega)
    refine ⟨_, _, by simp only [doneRw, hv]; rfl, rfl, by simp, by simp⟩
  rw [if_neg k4]
  match pile, hk with
  | [], hk =>
    have := hk.2.2.1 (by simp)
    omega
  | v :: q, hk =>
  by_cases k5 : kindOf cell (v :: q).length = 4
  · rw [if_pos k5]
    exact ⟨_, _, by simp only [doneRw]; rw [if_pos hm], by simp, by simp <;> omega, by simp⟩
  rw [if_neg k5]
  by_cases k6 : kindOf cell (v :: q).length = 5
  · rw [if_pos k6]
    exact ⟨_, _, rfl, rfl, by simp <;> omega, by simp⟩
  rw [if_neg k6]
  match q, hk, k3, k4, k5, k6 with
  | [], hk, k3, k4, k5, k6 =>
    have := hk.2.2.2 (by simp)
    omega
  | u :: p, hk, k3, k4, k5, k6 =>
  by_cases k7 : kindOf cell (v :: u :: p).length = 6
  · rw [if_pos k7]
    exact ⟨_, _, rfl, rfl, by simp <;> omega, by simp⟩
  rw [if_neg k7]
  by_cases k8 : kindOf cell (v :: u :: p).length = 7
  · rw [if_pos k8]
    exact ⟨_, _, rfl, rfl, by simp <;> omega, by simp⟩
  rw [if_neg k8]
  by_cases k9 : kindOf cell (v :: u :: p).length = 8
  · rw [if_pos k9]
    exact ⟨_, _, rfl, rfl, by simp <;> omega, by simp⟩
  rw [if_neg k9]
  by_cases z : v = 0
  · exact ⟨_, _, by simp only [doneRw]; rw [if_pos z], rfl, by simp <;> omega, by simp⟩
  · exact ⟨_, _, by simp only [doneRw]; rw [if_neg z], rfl, by simp <;> omega, by simp⟩
def turn3 (x : T3) (cell : Int) : T3 := if x.good then (match doneRw (rowOf cell x.s.pile.length x.s.boxes.length) x.s with
  | some (s', g) => ⟨x.rows ++ [rowOf cell x.s.pile.length x.s.boxes.length], s', g⟩
  | none => x) else x
/-- what stands behind i turns -/
structure In3 (s0 : S3) (i : Nat) (x : T3) : Prop where
  at_ : At3 s0 x
  bx : x.s.boxes.length = s0.boxes.length
  rl : x.rows.length ≤ i
  pl : x.s.pile.length ≤ i
  sl : x.s.said.length ≤ i
theorem In3.next {s0 : S3} {i : Nat} {x : T3} (h : In3 s0 i x) (hb : 0 < s0.boxes.length) (cell : Int) : In3 s0 (i + 1) (turn3 x cell) := by
  unfold turn3
  by_cases g : x.good = true
  · rw [if_pos g]
    obtain ⟨s', g', e, e1, e2, e3⟩ := done_ok cell x.s (by rw [h.bx]; exact hb)
    rw [e]
    have := h.rl
    have := h.pl
    have := h.sl
    refine ⟨at3_next h.at_ g e, e1.trans h.bx, by simp <;> omega, by dsimp only; omega, by dsimp only; omega⟩
  · rw [if_neg g]
    exact ⟨h.at_, h.bx, by have := h.rl; omega, by have := h.pl; omega, by have := h.sl; omega⟩
theorem fold_snoc {α β : Type} (f : β → α → β) {xs : List α} {i : Nat} {x : α} (b : β) (h : xs[i]? = some x) : (xs.take (i + 1)).foldl f b = f ((xs.take i).foldl f b) x := by
  rw [List.take_add_one, h, List.foldl_append]
  rfl
theorem In3.all {s0 : S3} (hb : 0 < s0.boxes.length) (hp : s0.pile = []) (hs : s0.said = []) (cells : List Int) : ∀ i, i ≤ cells.length → In3 s0 i ((cells.take i).foldl turn3 ⟨[], s0, true⟩)
  | 0, _ => ⟨at3_start s0, rfl, by simp, by simp [hp], by simp [hs]⟩
  | i + 1, h => by
    rw [fold_snoc turn3 _ (List.getElem?_eq_getElem (by omega : i < cells.length))]
    exact (In3.all hb hp hs cells i (by omega)).next hb _
end U

set_option maxHeartbeats 4000000
namespace U
open PySem PySem.Spec PyProof.Rows L2 Un
local macro_rules | `(tactic| walk_at "w1") => `(tactic| first
  | with_reducible refine w_seq ?_
  | with_reducible refine w_asg ?_
  | with_reducible refine w_op ?_
  | ((with_reducible refine' w_var ?h1 ?_); (case h1 => rfl))
  | with_reducible refine w_c ?_
  | with_reducible refine w_name ?_
  | with_reducible refine w_tFd ?_
  | ((with_reducible refine' w_fld ?h1 ?h2 ?_); (case h1 => assumption); (case h2 => rfl))
  | with_reducible refine w_if ?_
  | with_reducible refine w_test ?_
  | with_reducible refine w_eqS ?_
  | with_reducible refine w_eqI ?_
  | with_reducible refine w_neS ?_
  | with_reducible refine w_neI ?_
  | with_reducible refine w_isN ?_
  | with_reducible refine w_isnN ?_
  | with_reducible refine w_bl ?_
  | with_reducible refine w_ret ?_
  | with_reducible refine w_drop ?_
  | with_reducible refine w_next ?_
  | with_reducible refine w_cons ?_
  | with_reducible refine w_nil ?_
  | with_reducible refine w_call ?_
  | with_reducible refine w_cb ?_
  | with_reducible refine w_meth ?_
  | ((with_reducible refine' w_recv ?h1 ?h2 ?_); (case h1 => assumption); (case h2 => rfl))
  | with_reducible refine w_sFd ?_
  | ((with_reducible refine' w_put ?h1 ?h2 ?_); (case h1 => assumption); (case h2 => exact Nat.le_of_ble_eq_true rfl))
  | with_reducible refine w_add ?_
  | with_reducible refine w_sub ?_
  | with_reducible refine w_lt ?_
  | with_reducible refine w_le ?_
  | with_reducible refine w_gt ?_
  | with_reducible refine w_ge ?_
  | with_reducible refine w_bm ?_
  | with_reducible refine w_bm0 ?_
  | ((with_reducible refine' w_ty ?h1 ?_); (case h1 => assumption))
  | with_reducible refine w_tup ?_
  | with_reducible refine w_lst ?_
  | ((with_reducible refine' w_new ?h1 ?_); (case h1 => exact Nat.le_of_ble_eq_true rfl))
  | with_reducible refine w_gsub ?_
  | with_reducible refine w_make ?_
  | with_reducible refine w_lc ?_
  | with_reducible refine w_iList ?_
  | with_reducible refine w_for ?_
  | with_reducible refine w_yes ?_
  | with_reducible refine w_tSl ?_
  | with_reducible refine w_part ?_
  | with_reducible refine w_nopart ?_
  | with_reducible refine w_i ?_
  | with_reducible refine w_rng1 ?_
  | with_reducible refine w_rng2 ?_
  | with_reducible refine w_isiII ?_
  | with_reducible refine w_isiIB ?_
  | with_reducible refine w_isiSS ?_
  | ((with_reducible refine w_mod ?h1 ?_); (case h1 => decide))
  | ((with_reducible refine w_fdC' ?h1 ?h2 ?_); (case h1 => decide); (case h2 => decide))
  | ((with_reducible refine w_mulR ?h1 ?h2 ?_); (case h1 => decide); (case h2 => decide))
  | ((with_reducible refine w_mulL ?h1 ?h2 ?_); (case h1 => decide); (case h2 => decide))
  | ((with_reducible refine w_pow' ?h1 ?h2 ?h3 ?_); (case h1 => decide); (case h2 => decide); (case h3 => decide))
  | with_reducible refine w_andV ?_
  | with_reducible refine w_orV ?_
  | with_reducible refine w_notV ?_
  | with_reducible refine w_B ?_
  | with_reducible refine w_not ?_
  | with_reducible refine w_and ?_
  | with_reducible refine w_or ?_
  | with_reducible refine w_ifx ?_
  | with_reducible refine w_un ?_
  | ((with_reducible refine w_T ?h1 ?_); (case h1 => with_reducible rfl))
  | ((with_reducible refine w_F ?h1 ?_); (case h1 => with_reducible rfl))
  | ((with_reducible refine w_T ?h1 ?_); (case h1 => decide +kernel))
  | ((with_reducible refine w_F ?h1 ?_); (case h1 => decide +kernel)))
local macro_rules | `(tactic| walk_at "w") => `(tactic| repeat walk_at "w1")

theorem lists3 (a b c : Addr) (x y z : List V) : Lists [(a, .lst x), (b, .lst y), (c, .lst z)] := by
  intro p hp
  rcases List.mem_cons.mp hp with e | hp
  · exact ⟨_, by rw [e]⟩
  rcases List.mem_cons.mp hp with e | hp
  · exact ⟨_, by rw [e]⟩
  rcases List.mem_cons.mp hp with e | hp
  · exact ⟨_, by rw [e]⟩
  · cases hp
theorem rot1 {a b c d : Cell} : List.Perm [a, b, c, d] [b, c, d, a] := List.perm_append_comm (l₁ := [a]) (l₂ := [b, c, d])
theorem rot1' {a b c d : Cell} : List.Perm [b, c, d, a] [a, b, c, d] := List.perm_append_comm (l₁ := [b, c, d]) (l₂ := [a])
def dueOf (good : Bool) (S : List Stretch) (q : Int) : Ed × Int := if good = true then (.answer, q) else if S = [] then (.fault, 101) else (.answer, 101)
theorem p_law {K : PySem.W.Frag} (vs : List V) (H : Hp) (Q : VK) (E : XK) (h : spLaw K vs H Q E) :
    t_law K (sp_l_cell_at K) (sp_l_number K) (sp_l_row K) (sp_l_done K) (sp_run K) (sp_l_whole K) { nx := fun _ H' => Q .non H', rt := Q } (L2.start n_law vs) H := by
  obtain ⟨a, ns, rfl, hS, hl, q⟩ := h
  unfold t_law
  walk_at "w"
  refine ⟨a, ns, 0, rfl, hS, by decide, ?_⟩
  walk_at "w"
  refine ⟨a, ns, 1, rfl, hS, by decide, ?_⟩
  walk_at "w"
  refine ⟨_, rfl, ?_⟩
  generalize hF : cellAt ns 0 = F
  generalize hG : numberOf (cellAt ns 1) = G
  walk_at "w"
  refine fun p1 h1 => ?_
  walk_at "w"
  refine fun p2 h2 => ?_
  walk_at "w"
  have h1' : upd (upd H p1 (.lst [.int G])) p2 (.lst [.int 0]) p1 = some (.lst [.int G]) := same_one h2 upd_same
  have s1 : Same H (upd (upd H p1 (.lst [.int G])) p2 (.lst [.int 0])) := (same_lay h1).trans (same_lay h2)
  refine w_rep1 upd_same (by omega) (by omega) fun p3 h3 => ?_
  refine w_cat (same_one h3 h1') upd_same (by rw [List.length_replicate, sizeLine_eq]; simp; omega) fun b hb => ?_
  have s2 : Same H _ := s1.trans (same_lay (o := .lst (List.replicate (F % 7).toNat (.int 0))) h3)
  generalize hH3 : upd (upd (upd H p1 (.lst [.int G])) p2 (.lst [.int 0])) p3 (.lst (List.replicate (F % 7).toNat (.int 0))) = H3 at *
  have eb : [V.int G] ++ List.replicate (F % 7).toNat (.int 0) = (newBoxes (1 + F % 7) G).map V.int := by
    unfold newBoxes
    rw [List.map_cons, List.map_replicate, show (1 + F % 7 - 1).toNat = (F % 7).toNat by omega]
    rfl
  rw [eb]
  have w1 := (Own.nil s2).take (o := .lst ((newBoxes (1 + F % 7) G).map V.int)) hb
  walk_at "w"
  refine fun c hc => ?_
  have w2 := w1.take (o := .lst []) hc
  walk_at "w"
  refine fun p hp => ?_
  have w3 := w2.take (o := .lst []) hp
  walk_at "w"
  refine fun sd hsd => ?_
  have w4 := w3.take (o := .lst []) hsd
  walk_at "w"
  have w5 : Own H _ ((c, .lst []) :: s3Cells p b sd true ⟨[], newBoxes (1 + F % 7) G, []⟩) :=
    w4.perm (show List.Perm [(sd, HO.lst []), (p, .lst []), (c, .lst []), (b, .lst ((newBoxes (1 + F % 7) G).map V.int))] [(c, .lst []), (p, .lst []), (b, .lst ((newBoxes (1 + F % 7) G).map V.int)), (sd, .lst [])] from
      (List.perm_append_comm (l₁ := [(sd, HO.lst []), (p, .lst [])]) (l₂ := [(c, .lst []), (b, .lst ((newBoxes (1 + F % 7) G).map V.int))])).trans
        (.cons _ ((List.perm_append_comm (l₁ := [(b, HO.lst ((newBoxes (1 + F % 7) G).map V.int)), (sd, .lst [])]) (l₂ := [(p, .lst [])])))))
  generalize upd (upd (upd (upd H3 b (.lst ((newBoxes (1 + F % 7) G).map V.int))) c (.lst [])) p (.lst [])) sd (.lst []) = H4 at *
  refine w_slL (w5.same.seq hS) fun p4 h4 => ?_
  have ecut : cutV (ns.map V.int) (some 2) none = (ns.drop 2).map V.int := by rw [List.map_drop]; exact cut_from _ 2
  rw [ecut]
  have w6 := w5.take (o := .lst ((ns.drop 2).map V.int)) h4
  generalize upd H4 p4 (.lst ((ns.drop 2).map V.int)) = H5 at *
  have hb0 : 0 < (newBoxes (1 + F % 7) G).length := by simp [newBoxes]
  have inn := In3.all (s0 := ⟨[], newBoxes (1 + F % 7) G, []⟩) hb0 rfl rfl (ns.drop 2)
  have nl : (ns.drop 2).length ≤ 61 := by rw [List.length_drop]; omega
  generalize hs0 : (⟨[], newBoxes (1 + F % 7) G, []⟩ : S3) = s0 at *
  have hb1 : 0 < s0.boxes.length := by rw [← hs0]; exact hb0
  refine w_refL (SqL.of (w6.ix 0 rfl)) (for_list (xs := (ns.drop 2).map V.int) (fun i σ H' => ∃ vs y X, X = ((ns.drop 2).take i).foldl turn3 ⟨[], s0, true⟩ ∧ Own H H' ((p4, .lst ((ns.drop 2).map V.int)) :: (c, .lst vs) :: s3Cells p b sd X.good X.s) ∧
      All2 (IsRow K H') vs X.rows ∧ σ = [some (.ref a), some (.int F), some (.int G), some (.ref b), some (.ref c), some (.ref p), some (.ref sd), some (.bl X.good), y, none, none, none, none, none])
    ⟨[], _, _, rfl, by subst hs0; exact w6, .nil, rfl⟩ (fun i σ H' _ ⟨_, _, _, _, w, _⟩ => SqL.of (w.ix 0 rfl)) ?_ ?_)
  · rintro i x σ H' hx ⟨vs, y, X, hX, w, r, rfl⟩
    rw [List.getElem?_map] at hx
    cases hc : (ns.drop 2)[i]? with
    | none => rw [hc] at hx; cases hx
    | some cell =>
    rw [hc] at hx
    cases hx
    have hi : i < (ns.drop 2).length := (List.getElem?_eq_some_iff.mp hc).1
    have iX := inn i (by omega)
    rw [← hX] at iX
    have hX' := fold_snoc turn3 (⟨[], s0, true⟩ : T3) hc
    rw [← hX] at hX'
    obtain ⟨rows, st, good⟩ := X
    cases good with
    | false =>
      walk_at "w"
      exact ⟨vs, _, _, hX'.symm, w, r, rfl⟩
    | true =>
      have iXp := iX.pl
      have iXs := iX.sl
      have iXb := iX.bx
      have iXr := iX.rl
      dsimp only at iXp iXs iXb iXr
      obtain ⟨s', g', e, _⟩ := done_ok cell st (by rw [iXb]; exact hb1)
      unfold turn3 at hX'
      dsimp only at hX'
      rw [if_pos rfl, e] at hX'
      dsimp only at hX'
      have cc := w.ix 1 rfl
      have cp := w.ix 2 rfl
      have cb := w.ix 3 rfl
      walk_at "w"
      refine w_lenL (SqL.of cp) ?_
      walk_at "w"
      refine w_lenL (SqL.of cb) ?_
      walk_at "w"
      refine ⟨cell, (pileV st.pile).length, (st.boxes.map V.int).length, rfl, by rw [List.length_map, iXb]; exact hb1, fun H1 rw sm nw hrw => ?_⟩
      rw [pileV_len, List.length_map] at hrw
      walk_at "w"
      have w1 := w.kept sm
      have lv : vs.length ≤ 61 := by rw [r.len]; dsimp only; omega
      refine w_app (w1.ix 1 rfl) (small1000 (by omega)) ?_
      have w2 := w1.set 1 (.lst (vs ++ [.ref rw])) rfl
      have r2 : All2 (IsRow K (upd H1 c (.lst (vs ++ [.ref rw])))) (vs ++ [.ref rw]) (rows ++ [rowOf cell st.pile.length st.boxes.length]) :=
        (rows_put (w1.ix 1 rfl) (rows_mono sm r)).snoc (IsTup.put (w1.ix 1 rfl) ⟨rw, rfl, SqT.of hrw⟩)
      have hrow : SqT K (upd H1 c (.lst (vs ++ [.ref rw]))) rw (words (rowOf cell st.pile.length st.boxes.length)) := tup_put (w1.ix 1 rfl) (SqT.of hrw)
      walk_at "w"
      refine w_lenL (SqL.of (w2.ix 1 rfl)) ?_
      walk_at "w"
      refine w_ixL (SqL.of (w2.ix 1 rfl)) last_at ?_
      walk_at "w"
      have w2' : Own H _ ([(p4, .lst ((ns.drop 2).map V.int)), (c, .lst (vs ++ [.ref rw]))] ++ s3Cells p b sd true st) := w2
      have w3 : Own H _ (s3Cells p b sd true st ++ [(p4, .lst ((ns.drop 2).map V.int)), (c, .lst (vs ++ [.ref rw]))]) :=
        w2'.perm List.perm_append_comm
      have l3 : Lists (s3Cells p b sd true st) := lists3 _ _ _ _ _ _
      refine ⟨less _ (s3Cells p b sd true st), rw, _, p, b, sd, st, s', g', rfl, tup_less w3.sub l3 hrow, w3.sub.lend, e, by unfold LIM; omega, by unfold LIM; omega, fun H2 w4 => ?_⟩
      have w5 := w3.back w4
      have r5 := rows_over w3.sub l3 w4 r2
      refine ⟨vs ++ [.ref rw], _, _, hX'.symm, w5.perm ?_, r5, rfl⟩
      exact List.perm_append_comm (l₁ := s3Cells p b sd g' s') (l₂ := [(p4, HO.lst ((ns.drop 2).map V.int)), (c, .lst (vs ++ [.ref rw]))])
  · rintro σ H' ⟨vs, y, X, hX, w, r, rfl⟩
    have iX := inn (ns.drop 2).length (Nat.le_refl _)
    rw [List.length_map] at hX
    rw [← hX] at iX
    obtain ⟨rows, st, good⟩ := X
    have iXr := iX.rl
    dsimp only at iXr r
    have hc := w.ix 1 rfl
    walk_at "w"
    refine fun t1 ht1 => ?_
    walk_at "w"
    have w1 := w.lay (o := .tup [.str "put", .int (F / 7 % 100)]) ht1
    have r1 := rows_mono (same_lay (o := .tup [.str "put", .int (F / 7 % 100)]) ht1) r
    have n1 := new_tup (K := K) (H := H') (p := t1) (xs := [.str "put", .int (F / 7 % 100)])
    have lv : vs.length ≤ 61 := by rw [r.len]; omega
    refine w_app (w1.ix 1 rfl) (small1000 (by omega)) ?_
    have w2 := w1.set 1 (.lst (vs ++ [.ref t1])) rfl
    have r2 := (rows_put (o := .lst (vs ++ [.ref t1])) (w1.ix 1 rfl) r1).snoc (show IsRow K _ (.ref t1) (.put (F / 7 % 100)) from IsTup.put (w1.ix 1 rfl) n1)
    generalize upd (upd H' t1 (.tup [.str "put", .int (F / 7 % 100)])) c (.lst (vs ++ [.ref t1])) = H6 at *
    have hc6 := w2.ix 1 rfl
    walk_at "w"
    refine fun t2 ht2 => ?_
    walk_at "w"
    have w3 := w2.lay (o := .tup [.str "back"]) ht2
    have r3 := rows_mono (same_lay (o := .tup [.str "back"]) ht2) r2
    have n3 := new_tup (K := K) (H := H6) (p := t2) (xs := [.str "back"])
    refine w_app (w3.ix 1 rfl) (small1000 (by rw [List.length_append]; simp; omega)) ?_
    have w4 := w3.set 1 (.lst (vs ++ [.ref t1] ++ [.ref t2])) rfl
    have r4 := (rows_put (o := .lst (vs ++ [.ref t1] ++ [.ref t2])) (w3.ix 1 rfl) r3).snoc (show IsRow K _ (.ref t2) .back from IsTup.put (w3.ix 1 rfl) n3)
    generalize upd (upd H6 t2 (.tup [.str "back"])) c (.lst (vs ++ [.ref t1] ++ [.ref t2])) = H7 at *
    walk_at "w"
    refine fun s9 hs9 => ?_
    have w5 := w4.take (o := .lst []) hs9
    have r5 := rows_mono (same_lay (o := .lst []) hs9) r4
    generalize upd H7 s9 (.lst []) = H8 at *
    have len8 : (vs ++ [V.ref t1] ++ [V.ref t2]).length = rows.length + 2 := by rw [List.length_append, List.length_append, r.len]; rfl
    generalize hvs : vs ++ [V.ref t1] ++ [V.ref t2] = ws at *
    with_reducible refine w_name ?_
    with_reducible refine w_cut (fun σ H' => ∃ us S, Own H H' ((s9, .lst us) :: (p4, .lst ((ns.drop 2).map V.int)) :: (c, .lst ws) :: s3Cells p b sd good st) ∧ All2 (IsRow K H') ws (rows ++ [.put (F / 7 % 100)] ++ [.back]) ∧ All2 (IsStr K H') us S ∧
      (S = [] ∨ S = [(0, (rows.length : Int) + 1, (rows.length : Int) + 1)]) ∧
      σ = [some (.ref a), some (.int F), some (.int G), some (.ref b), some (.ref c), some (.ref p), some (.ref sd), some (.bl good), y, some (.ref s9), none, none, none, none]) ?_ fun N key => ?_
    · rintro σ H9 ⟨us, S, w9, r9, t9, hS9, rfl⟩
      walk_at "w"
      refine fun d1 hd1 => ?_
      have w10 := w9.lay (o := .tup [.str "answer", .int (F / 7 % 100)]) hd1
      have sm10 : Same H9 _ := same_lay (o := .tup [.str "answer", .int (F / 7 % 100)]) hd1
      have r10 := rows_mono sm10 r9
      have t10 := strs_mono sm10 t9
      have n10 := new_tup (K := K) (H := H9) (p := d1) (xs := [.str "answer", .int (F / 7 % 100)])
      generalize upd H9 d1 (.tup [.str "answer", .int (F / 7 % 100)]) = H10 at *
      with_reducible refine w_name ?_
      with_reducible refine w_cut (fun σ H' => ∃ dd, Own H H' ((s9, .lst us) :: (p4, .lst ((ns.drop 2).map V.int)) :: (c, .lst ws) :: s3Cells p b sd good st) ∧ All2 (IsRow K H') ws (rows ++ [.put (F / 7 % 100)] ++ [.back]) ∧ All2 (IsStr K H') us S ∧
        IsTup K H' (.ref dd) [.str (dueOf good S (F / 7 % 100)).1.str, .int (dueOf good S (F / 7 % 100)).2] ∧
        σ = [some (.ref a), some (.int F), some (.int G), some (.ref b), some (.ref c), some (.ref p), some (.ref sd), some (.bl good), y, some (.ref s9), some (.ref dd), none, none, none]) ?_ fun N key => ?_
      · rintro σ H11 ⟨dd, w11, r11, t11, due, rfl⟩
        have hc11 := w11.ix 2 rfl
        have hs11 := w11.ix 0 rfl
        walk_at "w"
        refine w_listQ (SqL.of hc11) fun l1 hl1 => ?_
        have w12 := w11.take (o := .lst ws) hl1
        have hs12 := w12.ix 1 rfl
        walk_at "w"
        refine w_listQ (SqL.of hs12) fun l2 hl2 => ?_
        have w13 := w12.take (o := .lst us) hl2
        walk_at "w"
        refine fun l3 hl3 => ?_
        have w14 := w13.take (o := .lst [.int 0]) hl3
        walk_at "w"
        refine fun pt hpt => ?_
        have w15 := w14.lay (o := .tup [.ref l1, .ref l2, .ref l3, .int (1 + F % 7)]) hpt
        have sm : Same H11 _ := (((same_lay (o := .lst ws) hl1).trans (same_lay (o := .lst us) hl2)).trans (same_lay (o := .lst [.int 0]) hl3)).trans (same_lay (o := .tup [.ref l1, .ref l2, .ref l3, .int (1 + F % 7)]) hpt)
        have r15 := rows_mono sm r11
        have t15 := strs_mono sm t11
        have due15 := IsTup.mono sm due
        have npt := new_tup (K := K) (H := upd (upd (upd H11 l1 (.lst ws)) l2 (.lst us)) l3 (.lst [.int 0])) (p := pt) (xs := [.ref l1, .ref l2, .ref l3, .int (1 + F % 7)])
        generalize upd (upd (upd (upd H11 l1 (.lst ws)) l2 (.lst us)) l3 (.lst [.int 0])) pt (.tup [.ref l1, .ref l2, .ref l3, .int (1 + F % 7)]) = H15 at *
        walk_at "w"
        obtain ⟨_, e0, hpt⟩ := npt
        cases e0
        -- the machine
        have runs : ∃ n M, n ≤ rows.length + 2 ∧ rowSteps ⟨rows ++ [.put (F / 7 % 100)] ++ [.back], S, [0], 1 + F % 7⟩ n (M3 0 s0) = some M ∧ M.ended = some (dueOf good S (F / 7 % 100)) ∧ M.said = st.said := by
          cases good with
          | true =>
            obtain ⟨M, a1, a2, a3⟩ := run3_good (q := F / 7 % 100) (P := ⟨rows ++ [.put (F / 7 % 100)] ++ [.back], S, [0], 1 + F % 7⟩) iX.at_ rfl (by simp)
            exact ⟨_, M, Nat.le_refl _, a1, a2, a3⟩
          | false =>
            rcases hS9 with e | e
            · obtain ⟨n, M, a0, a1, a2, a3⟩ := run3_bad (P := ⟨rows ++ [.put (F / 7 % 100)] ++ [.back], S, [0], 1 + F % 7⟩) iX.at_ rfl (tl := [.put (F / 7 % 100), .back]) (by simp) e
              exact ⟨n, M, by dsimp only at a0; omega, a1, by rw [a2, dueOf, if_neg (by simp), if_pos e], a3⟩
            · obtain ⟨n, M, a0, a1, a2, a3⟩ := run3_caught (q := F / 7 % 100) (P := ⟨rows ++ [.put (F / 7 % 100)] ++ [.back], S, [0], 1 + F % 7⟩) iX.at_ rfl (by simp) e
              exact ⟨n, M, a0, a1, by rw [a2, dueOf, if_neg (by simp), if_neg (by rw [e]; simp)], a3⟩
        generalize dueOf good S (F / 7 % 100) = du at *
        obtain ⟨x, z⟩ := du
        dsimp only at due15
        obtain ⟨n, M, a0, a1, a2, a3⟩ := runs
        refine ⟨pt, l1, l2, l3, ⟨rows ++ [.put (F / 7 % 100)] ++ [.back], S, [0], 1 + F % 7⟩, G, 0, M3 0 s0, n, M, _, _, rfl, hpt, ⟨⟨ws, SqL.of (w15.ix 2 rfl), r15⟩, ⟨us, SqL.of (w15.ix 1 rfl), t15⟩, SqL.of (w15.ix 0 rfl)⟩, by dsimp only; omega, by dsimp only; omega, by rw [← hs0]; rfl, a1, a2, by omega, ?_⟩
        intro H16 fp fs sm16 nfp nfs hfs hfp
        rw [a3] at hfs
        have w16 := w15.kept sm16
        have r16 := rows_mono sm16 r15
        have t16 := strs_mono sm16 t15
        obtain ⟨_, e1, due16⟩ := IsTup.mono sm16 due15
        cases e1
        have hpt16 := same_tup sm16 hpt
        walk_at "w"
        refine w_ixT hpt16 rfl ?_
        walk_at "w"
        refine w_neSame (.lst (SqL.of (w16.ix 2 rfl)) (dp_rows r16)) (.lst (SqL.of (w16.ix 5 rfl)) (dp_rows r16)) (shaped_rows _) ?_
        walk_at "w"
        refine w_ixT hpt16 rfl ?_
        walk_at "w"
        refine w_neSame (.lst (SqL.of (w16.ix 1 rfl)) (dp_strs t16)) (.lst (SqL.of (w16.ix 3 rfl)) (dp_strs t16)) (shaped_strs _) ?_
        walk_at "w"
        refine w_ixT hpt16 rfl ?_
        walk_at "w"
        refine fun l5 hl5 => ?_
        have sm17 : Same H16 _ := same_lay (o := .lst [.int 0]) hl5
        have w17 := w16.kept sm17
        refine w_neSame (d := .list ([0].map PyData.int)) (.lst (SqL.of (w17.ix 0 rfl)) (dp_ints [0])) (.lst (SqL.of upd_same) (dp_ints [0])) (shaped_ints [0]) ?_
        walk_at "w"
        have hfp17 := sm17 _ _ hfp
        have hfs17 := sm17 _ _ hfs
        refine w_isiTT hfp17 ?_
        walk_at "w"
        refine w_lenT (SqT.of hfp17) ?_
        walk_at "w"
        refine w_ND (fun _ => ?_) (fun h => absurd rfl h)
        walk_at "w"
        refine w_ixT (SqT.of hfp17) rfl ?_
        walk_at "w"
        refine w_isiLL hfs17 ?_
        walk_at "w"
        refine w_ixT (SqT.of hfp17) rfl ?_
        refine w_refL (SqL.of hfs17) (w_nowhole (SqL.of hfs17) (Nat.le_of_ble_eq_true rfl) fun D hD => ?_)
        have sm18 : Same _ _ := sm17.trans (same_lay (o := .lst []) hD)
        have w18 := w16.kept sm18
        have hfp18 := sm18 _ _ hfp
        have hfs18 := sm18 _ _ hfs
        walk_at "w"
        refine w_lenL (SqL.of upd_same) ?_
        walk_at "w"
        refine w_ixT (SqT.of hfp18) rfl ?_
        walk_at "w"
        refine w_neSame (.lst (SqL.of hfs18) (dp_ints _)) (.lst (SqL.of (w18.ix 8 rfl)) (dp_ints _)) (shaped_ints _) ?_
        walk_at "w"
        refine w_ixT (SqT.of hfp18) rfl ?_
        walk_at "w"
        refine w_ixT (SqT.of hfp18) rfl ?_
        walk_at "w"
        refine ⟨_, rfl, ?_⟩
        walk_at "w"
        refine w_ixT (SqT.of hfp18) rfl ?_
        walk_at "w"
        refine w_ixT (SqT.of hfp18) rfl ?_
        walk_at "w"
        refine fun z1 hz1 => ?_
        have due19 := same_tup (sm18.trans (same_lay (o := .tup [.str x.str, .int z]) hz1)) due16
        walk_at "w"
        refine w_eqSame (d := .tuple [.str x.str, .int z]) (.tup (SqT.of upd_same) (.cons (.str _) (.cons (.int _) .nil))) (.tup due19 (.cons (.str _) (.cons (.int _) .nil))) (shaped_end x z) ?_
        exact q _
      · walk_at "w"
        cases good with
        | true =>
          walk_at "w"
          exact key _ _ ⟨d1, w10, r10, t10, n10, rfl⟩
        | false =>
          walk_at "w"
          refine fun d2 hd2 => ?_
          walk_at "w"
          refine fun d3 hd3 => ?_
          walk_at "w"
          refine fun l7 hl7 => ?_
          have sm13 : Same H10 _ := ((same_lay (o := .tup [.str "fault", .int 101]) hd2).trans (same_lay (o := .tup [.str "answer", .int 101]) hd3)).trans (same_lay (o := .lst [.ref d2, .ref d3]) hl7)
          have w13 := w10.kept sm13
          have r13 := rows_mono sm13 r10
          have t13 := strs_mono sm13 t10
          have n2 := IsTup.mono ((same_lay (o := .tup [.str "answer", .int 101]) hd3).trans (same_lay (o := .lst [.ref d2, .ref d3]) hl7)) (new_tup (K := K) (H := H10) (p := d2) (xs := [.str "fault", .int 101]))
          have n3 := IsTup.mono (same_lay (o := .lst [.ref d2, .ref d3]) hl7) (new_tup (K := K) (H := upd H10 d2 (.tup [.str "fault", .int 101])) (p := d3) (xs := [.str "answer", .int 101]))
          have nl := SqL.of (K := K) (upd_same (H := upd (upd H10 d2 (.tup [.str "fault", .int 101])) d3 (.tup [.str "answer", .int 101])) (a := l7) (o := .lst [.ref d2, .ref d3]))
          generalize upd (upd (upd H10 d2 (.tup [.str "fault", .int 101])) d3 (.tup [.str "answer", .int 101])) l7 (.lst [.ref d2, .ref d3]) = H13 at *
          walk_at "w"
          refine w_lenL (SqL.of (w13.ix 0 rfl)) ?_
          have tl := t13.len
          rcases hS9 with e | e
          · rw [e] at tl
            refine w_ixL (v := .ref d2) nl (by rw [tl]; rfl) ?_
            walk_at "w"
            exact key _ _ ⟨d2, w13, r13, t13, by rw [dueOf, if_neg (by simp), if_pos e]; exact n2, rfl⟩
          · rw [e] at tl
            refine w_ixL (v := .ref d3) nl (by rw [tl]; rfl) ?_
            walk_at "w"
            exact key _ _ ⟨d3, w13, r13, t13, by rw [dueOf, if_neg (by simp), if_neg (by rw [e]; simp)]; exact n3, rfl⟩
    · have hs8 := w5.ix 0 rfl
      have hc8 := w5.ix 2 rfl
      walk_at "w"
      refine w_D (fun cc => ?_) (fun cc => ?_)
      · walk_at "w"
        refine w_lenL (SqL.of hc8) ?_
        walk_at "w"
        refine w_lenL (SqL.of hc8) ?_
        walk_at "w"
        refine fun u1 hu1 => ?_
        have e1 : (ws.length : Int) - 1 = (rows.length : Int) + 1 := by omega
        rw [e1]
        have w9 := w5.lay (o := .tup [.int 0, .int ((rows.length : Int) + 1), .int ((rows.length : Int) + 1)]) hu1
        have sm9 : Same H8 _ := same_lay (o := .tup [.int 0, .int ((rows.length : Int) + 1), .int ((rows.length : Int) + 1)]) hu1
        have r9 := rows_mono sm9 r5
        have n9 := new_tup (K := K) (H := H8) (p := u1) (xs := [.int 0, .int ((rows.length : Int) + 1), .int ((rows.length : Int) + 1)])
        walk_at "w"
        refine w_app (w9.ix 0 rfl) (by simp; decide) ?_
        exact key _ _ ⟨_, _, w9.set 0 _ rfl, rows_put (w9.ix 0 rfl) r9, .cons (show IsStr K _ (.ref u1) (0, (rows.length : Int) + 1, (rows.length : Int) + 1) from IsTup.put (w9.ix 0 rfl) n9) .nil, .inr rfl, rfl⟩
      · walk_at "w"
        exact key _ _ ⟨[], [], w5, r5, .nil, .inl rfl, rfl⟩
end U

set_option maxHeartbeats 8000000
namespace Lw
open PySem PySem.Spec PyProof.Rows L2 Un U

local macro_rules | `(tactic| walk_at "len") => `(tactic| (intro vs H Q E h; first
  | (obtain ⟨e, _⟩ := h; exact (congrArg List.length e).trans rfl) | (obtain ⟨_, e, _⟩ := h; exact (congrArg List.length e).trans rfl) | (obtain ⟨_, _, e, _⟩ := h; exact (congrArg List.length e).trans rfl) | (obtain ⟨_, _, _, e, _⟩ := h; exact (congrArg List.length e).trans rfl) | (obtain ⟨_, _, _, _, e, _⟩ := h; exact (congrArg List.length e).trans rfl) | (obtain ⟨_, _, _, _, _, e, _⟩ := h; exact (congrArg List.length e).trans rfl) | (obtain ⟨_, _, _, _, _, _, e, _⟩ := h; exact (congrArg List.length e).trans rfl) | (obtain ⟨_, _, _, _, _, _, _, e, _⟩ := h; exact (congrArg List.length e).trans rfl) | (obtain ⟨_, _, _, _, _, _, _, _, e, _⟩ := h; exact (congrArg List.length e).trans rfl) | (obtain ⟨_, _, _, _, _, _, _, _, _, e, _⟩ := h; exact (congrArg List.length e).trans rfl) | (obtain ⟨_, _, _, _, _, _, _, _, _, _, e, _⟩ := h; exact (congrArg List.length e).trans rfl) | (obtain ⟨_, _, _, _, _, _, _, _, _, _, _, e, _⟩ := h; exact (congrArg List.length e).trans rfl) | (obtain ⟨_, _, _, _, _, _, _, _, _, _, _, _, e, _⟩ := h; exact (congrArg List.length e).trans rfl) | (obtain ⟨_, _, _, _, _, _, _, _, _, _, _, _, _, e, _⟩ := h; exact (congrArg List.length e).trans rfl) | (obtain ⟨_, _, _, _, _, _, _, _, _, _, _, _, _, _, e, _⟩ := h; exact (congrArg List.length e).trans rfl) | (obtain ⟨_, _, _, _, _, _, _, _, _, _, _, _, _, _, _, e, _⟩ := h; exact (congrArg List.length e).trans rfl) | (obtain ⟨_, _, _, _, _, _, _, _, _, _, _, _, _, _, _, _, e, _⟩ := h; exact (congrArg List.length e).trans rfl) | (obtain ⟨_, _, _, _, _, _, _, _, _, _, _, _, _, _, _, _, _, e, _⟩ := h; exact (congrArg List.length e).trans rfl) | (obtain ⟨_, _, _, _, _, _, _, _, _, _, _, _, _, _, _, _, _, _, e, _⟩ := h; exact (congrArg List.length e).trans rfl) | (obtain ⟨_, _, _, _, _, _, _, _, _, _, _, _, _, _, _, _, _, _, _, e, _⟩ := h; exact (congrArg List.length e).trans rfl) | (obtain ⟨_, _, _, _, _, _, _, _, _, _, _, _, _, _, _, _, _, _, _, _, e, _⟩ := h; exact (congrArg List.length e).trans rfl) | (obtain ⟨_, _, _, _, _, _, _, _, _, _, _, _, _, _, _, _, _, _, _, _, _, e, _⟩ := h; exact (congrArg List.length e).trans rfl)))
/-! ### the text by places -/
def top (i : Nat) : Stmt := PySem.Challenge.pw_unwind_k03_plain_rows.main.body.getD i (.Pass ⟨0, 0, 0, 0⟩)
abbrev s_goal_of : Stmt := top 4
abbrev s_Frame___init__ : Stmt := inClass (top 5) 0
abbrev s_Frame_lay : Stmt := inClass (top 5) 1
abbrev s_Machine___init__ : Stmt := inClass (top 6) 0
abbrev s_Machine_step : Stmt := inClass (top 6) 1
abbrev s_Machine_taken : Stmt := inClass (top 6) 2
abbrev s_Machine_move : Stmt := inClass (top 6) 3
abbrev s_Machine_meet : Stmt := inClass (top 6) 4
abbrev s_Machine_jump : Stmt := inClass (top 6) 5
abbrev s_Machine_enter : Stmt := inClass (top 6) 6
abbrev s_Machine_back : Stmt := inClass (top 6) 7
abbrev s_Machine_fault : Stmt := inClass (top 6) 8
abbrev s_run : Stmt := top 7
abbrev s_l_whole : Stmt := top 9
abbrev s_l_cell_at : Stmt := top 10
abbrev s_l_number : Stmt := top 11
abbrev s_l_row : Stmt := top 12
abbrev s_l_joined : Stmt := top 13
abbrev s_l_done : Stmt := top 14
abbrev s_law : Stmt := top 15
/-! ### what the head tells -/
def d_goal_of : He.FnD := ⟨("goal_of", none), "goal_of", "goal_of", defArgs s_goal_of, defBody s_goal_of, defScope s_goal_of⟩
def d_Frame___init__ : He.FnD := ⟨("Frame", some "__init__"), "__init__", "Frame.__init__", defArgs s_Frame___init__, defBody s_Frame___init__, defScope s_Frame___init__⟩
def d_Frame_lay : He.FnD := ⟨("Frame", some "lay"), "lay", "Frame.lay", defArgs s_Frame_lay, defBody s_Frame_lay, defScope s_Frame_lay⟩
def d_Machine___init__ : He.FnD := ⟨("Machine", some "__init__"), "__init__", "Machine.__init__", defArgs s_Machine___init__, defBody s_Machine___init__, defScope s_Machine___init__⟩
def d_Machine_step : He.FnD := ⟨("Machine", some "step"), "step", "Machine.step", defArgs s_Machine_step, defBody s_Machine_step, defScope s_Machine_step⟩
def d_Machine_taken : He.FnD := ⟨("Machine", some "taken"), "taken", "Machine.taken", defArgs s_Machine_taken, defBody s_Machine_taken, defScope s_Machine_taken⟩
def d_Machine_move : He.FnD := ⟨("Machine", some "move"), "move", "Machine.move", defArgs s_Machine_move, defBody s_Machine_move, defScope s_Machine_move⟩
def d_Machine_meet : He.FnD := ⟨("Machine", some "meet"), "meet", "Machine.meet", defArgs s_Machine_meet, defBody s_Machine_meet, defScope s_Machine_meet⟩
def d_Machine_jump : He.FnD := ⟨("Machine", some "jump"), "jump", "Machine.jump", defArgs s_Machine_jump, defBody s_Machine_jump, defScope s_Machine_jump⟩
def d_Machine_enter : He.FnD := ⟨("Machine", some "enter"), "enter", "Machine.enter", defArgs s_Machine_enter, defBody s_Machine_enter, defScope s_Machine_enter⟩
def d_Machine_back : He.FnD := ⟨("Machine", some "back"), "back", "Machine.back", defArgs s_Machine_back, defBody s_Machine_back, defScope s_Machine_back⟩
def d_Machine_fault : He.FnD := ⟨("Machine", some "fault"), "fault", "Machine.fault", defArgs s_Machine_fault, defBody s_Machine_fault, defScope s_Machine_fault⟩
def d_run : He.FnD := ⟨("run", none), "run", "run", defArgs s_run, defBody s_run, defScope s_run⟩
def d_l_whole : He.FnD := ⟨("_law_whole", none), "_law_whole", "_law_whole", defArgs s_l_whole, defBody s_l_whole, defScope s_l_whole⟩
def d_l_cell_at : He.FnD := ⟨("_law_cell_at", none), "_law_cell_at", "_law_cell_at", defArgs s_l_cell_at, defBody s_l_cell_at, defScope s_l_cell_at⟩
def d_l_number : He.FnD := ⟨("_law_number", none), "_law_number", "_law_number", defArgs s_l_number, defBody s_l_number, defScope s_l_number⟩
def d_l_row : He.FnD := ⟨("_law_row", none), "_law_row", "_law_row", defArgs s_l_row, defBody s_l_row, defScope s_l_row⟩
def d_l_joined : He.FnD := ⟨("_law_joined", none), "_law_joined", "_law_joined", defArgs s_l_joined, defBody s_l_joined, defScope s_l_joined⟩
def d_l_done : He.FnD := ⟨("_law_done", none), "_law_done", "_law_done", defArgs s_l_done, defBody s_l_done, defScope s_l_done⟩
def d_law : He.FnD := ⟨("law", none), "law", "law", defArgs s_law, defBody s_law, defScope s_law⟩
def fn : List He.FnD := ([d_goal_of, d_Frame___init__, d_Frame_lay, d_Machine___init__, d_Machine_step, d_Machine_taken, d_Machine_move, d_Machine_meet, d_Machine_jump, d_Machine_enter, d_Machine_back, d_Machine_fault, d_run, d_l_whole, d_l_cell_at, d_l_number, d_l_row, d_l_joined, d_l_done, d_law] : List He.FnD)
def fa : List He.Fa := ([.int "DEEPEST" 8, .int "NOUGHT" 101, .int "DEEP" 102, .glo "goal_of", .keep "goal_of", .glo "Frame", .cls "Frame", .noat "Frame" "boxes", .noat "Frame" "pile", .noat "Frame" "place", .mkr "Frame", .meth "Frame" "lay", .glo "Machine", .cls "Machine", .noat "Machine" "boxes", .noat "Machine" "code", .noat "Machine" "ended", .noat "Machine" "frames", .noat "Machine" "said", .noat "Machine" "starts", .noat "Machine" "stretches", .noat "Machine" "turns", .mkr "Machine", .meth "Machine" "step", .meth "Machine" "taken", .meth "Machine" "move", .meth "Machine" "meet", .meth "Machine" "jump", .meth "Machine" "enter", .meth "Machine" "back"] : List He.Fa) ++ ([.meth "Machine" "fault", .glo "run", .keep "run", .glo "_law_whole", .keep "_law_whole", .glo "_law_cell_at", .keep "_law_cell_at", .glo "_law_number", .keep "_law_number", .glo "_law_row", .keep "_law_row", .glo "_law_joined", .keep "_law_joined", .glo "_law_done", .keep "_law_done", .glo "law", .keep "law", .free "bool", .free "int", .free "isinstance", .free "len", .free "list", .free "str", .free "tuple"] : List He.Fa)
def loose : List PySem.Str := (["DEEPEST", "NOUGHT", "DEEP", "goal_of", "Frame", "Machine", "run", "_law_whole", "_law_cell_at", "_law_number", "_law_row", "_law_joined", "_law_done"] : List PySem.Str)

abbrev R : PySem.W.OpenRow := PySem.W.OpenLaw.row PySem.Challenge.rw_unwind_k03_plain_rows
abbrev hk : PySem.W.Hook := He.hookE 5 fa fn
def ob (s : PySem.W.SharedT) : He.Al := He.obsG 5 fa fn (HandSHeadRun.getT s)
theorem ob_eq (s : PySem.W.SharedT) : ob s = hk.obs s.abs := He.obsG_eq (HandSHeadRun.getT_eq s)
theorem run (w : World) : HandSHeadRun.RunEq R (PySem.W.view R.prog [15]) hk ob 30000 loose w := by
  intro os
  kernel_rfl

structure Tx (Z : Zt) : Prop where
  says : He.SaysE fa fn Z.K
  kin : Z.K.In Z.base
  ns : Z.base.Ns mainGlobals Z.mg
  seer : Z.base.NoSeer
  tree : Z.P.given.tree = none
section
variable {Z : Zt}
theorem i_DEEPEST (T : Tx Z) : ∃ t, Z.mg "DEEPEST" = some (.int 8 t) := He.int_ok T.kin T.ns (T.says.fact 0 (f := .int "DEEPEST" 8) rfl)
theorem i_NOUGHT (T : Tx Z) : ∃ t, Z.mg "NOUGHT" = some (.int 101 t) := He.int_ok T.kin T.ns (T.says.fact 1 (f := .int "NOUGHT" 101) rfl)
theorem i_DEEP (T : Tx Z) : ∃ t, Z.mg "DEEP" = some (.int 102 t) := He.int_ok T.kin T.ns (T.says.fact 2 (f := .int "DEEP" 102) rfl)
theorem g_goal_of (T : Tx Z) : Z.mg "goal_of" = some (.ref (He.ga Z.K "goal_of")) := He.glo_ok T.kin T.ns (T.says.fact 3 (f := .glo "goal_of") rfl)
theorem kp_goal_of (T : Tx Z) : PySem.W.keepIn Z.K (.ref (He.ga Z.K "goal_of")) = true := He.keep_ok (T.says.fact 4 (f := .keep "goal_of") rfl)
theorem g_Frame (T : Tx Z) : Z.mg "Frame" = some (.ref (He.ga Z.K "Frame")) := He.glo_ok T.kin T.ns (T.says.fact 5 (f := .glo "Frame") rfl)
theorem cl_Frame (T : Tx Z) : Cls Z.K (He.ga Z.K "Frame") := He.cls_ok (T.says.fact 6 (f := .cls "Frame") rfl)
theorem na_Frame_boxes (T : Tx Z) : NoAttr Z.K (He.ga Z.K "Frame") "boxes" := He.noat_ok (T.says.fact 7 (f := .noat "Frame" "boxes") rfl)
theorem na_Frame_pile (T : Tx Z) : NoAttr Z.K (He.ga Z.K "Frame") "pile" := He.noat_ok (T.says.fact 8 (f := .noat "Frame" "pile") rfl)
theorem na_Frame_place (T : Tx Z) : NoAttr Z.K (He.ga Z.K "Frame") "place" := He.noat_ok (T.says.fact 9 (f := .noat "Frame" "place") rfl)
theorem mk_Frame (T : Tx Z) : Mk Z.K (He.ga Z.K "Frame") (He.ma Z.K (He.ga Z.K "Frame") "__init__") := He.mkr_ok (T.says.fact 10 (f := .mkr "Frame") rfl)
theorem m_Frame_lay (T : Tx Z) : Meth Z.K (He.ga Z.K "Frame") "lay" (He.ma Z.K (He.ga Z.K "Frame") "lay") := He.meth_ok (T.says.fact 11 (f := .meth "Frame" "lay") rfl)
theorem g_Machine (T : Tx Z) : Z.mg "Machine" = some (.ref (He.ga Z.K "Machine")) := He.glo_ok T.kin T.ns (T.says.fact 12 (f := .glo "Machine") rfl)
theorem cl_Machine (T : Tx Z) : Cls Z.K (He.ga Z.K "Machine") := He.cls_ok (T.says.fact 13 (f := .cls "Machine") rfl)
theorem na_Machine_boxes (T : Tx Z) : NoAttr Z.K (He.ga Z.K "Machine") "boxes" := He.noat_ok (T.says.fact 14 (f := .noat "Machine" "boxes") rfl)
theorem na_Machine_code (T : Tx Z) : NoAttr Z.K (He.ga Z.K "Machine") "code" := He.noat_ok (T.says.fact 15 (f := .noat "Machine" "code") rfl)
theorem na_Machine_ended (T : Tx Z) : NoAttr Z.K (He.ga Z.K "Machine") "ended" := He.noat_ok (T.says.fact 16 (f := .noat "Machine" "ended") rfl)
theorem na_Machine_frames (T : Tx Z) : NoAttr Z.K (He.ga Z.K "Machine") "frames" := He.noat_ok (T.says.fact 17 (f := .noat "Machine" "frames") rfl)
theorem na_Machine_said (T : Tx Z) : NoAttr Z.K (He.ga Z.K "Machine") "said" := He.noat_ok (T.says.fact 18 (f := .noat "Machine" "said") rfl)
theorem na_Machine_starts (T : Tx Z) : NoAttr Z.K (He.ga Z.K "Machine") "starts" := He.noat_ok (T.says.fact 19 (f := .noat "Machine" "starts") rfl)
theorem na_Machine_stretches (T : Tx Z) : NoAttr Z.K (He.ga Z.K "Machine") "stretches" := He.noat_ok (T.says.fact 20 (f := .noat "Machine" "stretches") rfl)
theorem na_Machine_turns (T : Tx Z) : NoAttr Z.K (He.ga Z.K "Machine") "turns" := He.noat_ok (T.says.fact 21 (f := .noat "Machine" "turns") rfl)
theorem mk_Machine (T : Tx Z) : Mk Z.K (He.ga Z.K "Machine") (He.ma Z.K (He.ga Z.K "Machine") "__init__") := He.mkr_ok (T.says.fact 22 (f := .mkr "Machine") rfl)
theorem m_Machine_step (T : Tx Z) : Meth Z.K (He.ga Z.K "Machine") "step" (He.ma Z.K (He.ga Z.K "Machine") "step") := He.meth_ok (T.says.fact 23 (f := .meth "Machine" "step") rfl)
theorem m_Machine_taken (T : Tx Z) : Meth Z.K (He.ga Z.K "Machine") "taken" (He.ma Z.K (He.ga Z.K "Machine") "taken") := He.meth_ok (T.says.fact 24 (f := .meth "Machine" "taken") rfl)
theorem m_Machine_move (T : Tx Z) : Meth Z.K (He.ga Z.K "Machine") "move" (He.ma Z.K (He.ga Z.K "Machine") "move") := He.meth_ok (T.says.fact 25 (f := .meth "Machine" "move") rfl)
theorem m_Machine_meet (T : Tx Z) : Meth Z.K (He.ga Z.K "Machine") "meet" (He.ma Z.K (He.ga Z.K "Machine") "meet") := He.meth_ok (T.says.fact 26 (f := .meth "Machine" "meet") rfl)
theorem m_Machine_jump (T : Tx Z) : Meth Z.K (He.ga Z.K "Machine") "jump" (He.ma Z.K (He.ga Z.K "Machine") "jump") := He.meth_ok (T.says.fact 27 (f := .meth "Machine" "jump") rfl)
theorem m_Machine_enter (T : Tx Z) : Meth Z.K (He.ga Z.K "Machine") "enter" (He.ma Z.K (He.ga Z.K "Machine") "enter") := He.meth_ok (T.says.fact 28 (f := .meth "Machine" "enter") rfl)
theorem m_Machine_back (T : Tx Z) : Meth Z.K (He.ga Z.K "Machine") "back" (He.ma Z.K (He.ga Z.K "Machine") "back") := He.meth_ok (T.says.fact 29 (f := .meth "Machine" "back") rfl)
theorem m_Machine_fault (T : Tx Z) : Meth Z.K (He.ga Z.K "Machine") "fault" (He.ma Z.K (He.ga Z.K "Machine") "fault") := He.meth_ok (T.says.fact 30 (f := .meth "Machine" "fault") rfl)
theorem g_run (T : Tx Z) : Z.mg "run" = some (.ref (He.ga Z.K "run")) := He.glo_ok T.kin T.ns (T.says.fact 31 (f := .glo "run") rfl)
theorem kp_run (T : Tx Z) : PySem.W.keepIn Z.K (.ref (He.ga Z.K "run")) = true := He.keep_ok (T.says.fact 32 (f := .keep "run") rfl)
theorem g_l_whole (T : Tx Z) : Z.mg "_law_whole" = some (.ref (He.ga Z.K "_law_whole")) := He.glo_ok T.kin T.ns (T.says.fact 33 (f := .glo "_law_whole") rfl)
theorem kp_l_whole (T : Tx Z) : PySem.W.keepIn Z.K (.ref (He.ga Z.K "_law_whole")) = true := He.keep_ok (T.says.fact 34 (f := .keep "_law_whole") rfl)
theorem g_l_cell_at (T : Tx Z) : Z.mg "_law_cell_at" = some (.ref (He.ga Z.K "_law_cell_at")) := He.glo_ok T.kin T.ns (T.says.fact 35 (f := .glo "_law_cell_at") rfl)
theorem kp_l_cell_at (T : Tx Z) : PySem.W.keepIn Z.K (.ref (He.ga Z.K "_law_cell_at")) = true := He.keep_ok (T.says.fact 36 (f := .keep "_law_cell_at") rfl)
theorem g_l_number (T : Tx Z) : Z.mg "_law_number" = some (.ref (He.ga Z.K "_law_number")) := He.glo_ok T.kin T.ns (T.says.fact 37 (f := .glo "_law_number") rfl)
theorem kp_l_number (T : Tx Z) : PySem.W.keepIn Z.K (.ref (He.ga Z.K "_law_number")) = true := He.keep_ok (T.says.fact 38 (f := .keep "_law_number") rfl)
theorem g_l_row (T : Tx Z) : Z.mg "_law_row" = some (.ref (He.ga Z.K "_law_row")) := He.glo_ok T.kin T.ns (T.says.fact 39 (f := .glo "_law_row") rfl)
theorem kp_l_row (T : Tx Z) : PySem.W.keepIn Z.K (.ref (He.ga Z.K "_law_row")) = true := He.keep_ok (T.says.fact 40 (f := .keep "_law_row") rfl)
theorem g_l_joined (T : Tx Z) : Z.mg "_law_joined" = some (.ref (He.ga Z.K "_law_joined")) := He.glo_ok T.kin T.ns (T.says.fact 41 (f := .glo "_law_joined") rfl)
theorem kp_l_joined (T : Tx Z) : PySem.W.keepIn Z.K (.ref (He.ga Z.K "_law_joined")) = true := He.keep_ok (T.says.fact 42 (f := .keep "_law_joined") rfl)
theorem g_l_done (T : Tx Z) : Z.mg "_law_done" = some (.ref (He.ga Z.K "_law_done")) := He.glo_ok T.kin T.ns (T.says.fact 43 (f := .glo "_law_done") rfl)
theorem kp_l_done (T : Tx Z) : PySem.W.keepIn Z.K (.ref (He.ga Z.K "_law_done")) = true := He.keep_ok (T.says.fact 44 (f := .keep "_law_done") rfl)
theorem g_law (T : Tx Z) : Z.mg "law" = some (.ref (He.ga Z.K "law")) := He.glo_ok T.kin T.ns (T.says.fact 45 (f := .glo "law") rfl)
theorem kp_law (T : Tx Z) : PySem.W.keepIn Z.K (.ref (He.ga Z.K "law")) = true := He.keep_ok (T.says.fact 46 (f := .keep "law") rfl)
theorem g_bool (T : Tx Z) : Z.mg "bool" = none := He.free_ok T.kin T.ns (T.says.fact 47 (f := .free "bool") rfl)
theorem g_int (T : Tx Z) : Z.mg "int" = none := He.free_ok T.kin T.ns (T.says.fact 48 (f := .free "int") rfl)
theorem g_isinstance (T : Tx Z) : Z.mg "isinstance" = none := He.free_ok T.kin T.ns (T.says.fact 49 (f := .free "isinstance") rfl)
theorem g_len (T : Tx Z) : Z.mg "len" = none := He.free_ok T.kin T.ns (T.says.fact 50 (f := .free "len") rfl)
theorem g_list (T : Tx Z) : Z.mg "list" = none := He.free_ok T.kin T.ns (T.says.fact 51 (f := .free "list") rfl)
theorem g_str (T : Tx Z) : Z.mg "str" = none := He.free_ok T.kin T.ns (T.says.fact 52 (f := .free "str") rfl)
theorem g_tuple (T : Tx Z) : Z.mg "tuple" = none := He.free_ok T.kin T.ns (T.says.fact 53 (f := .free "tuple") rfl)
theorem fx_goal_of (T : Tx Z) : ∃ fd, FunE Z.K "goal_of" "goal_of" s_goal_of (He.fAd Z.K ("goal_of", none)) fd := fun_of (T.says.def_ 0 (d := d_goal_of) rfl)
theorem fx_Frame___init__ (T : Tx Z) : ∃ fd, FunE Z.K "__init__" "Frame.__init__" s_Frame___init__ (He.fAd Z.K ("Frame", some "__init__")) fd := fun_of (T.says.def_ 1 (d := d_Frame___init__) rfl)
theorem fx_Frame_lay (T : Tx Z) : ∃ fd, FunE Z.K "lay" "Frame.lay" s_Frame_lay (He.fAd Z.K ("Frame", some "lay")) fd := fun_of (T.says.def_ 2 (d := d_Frame_lay) rfl)
theorem fx_Machine___init__ (T : Tx Z) : ∃ fd, FunE Z.K "__init__" "Machine.__init__" s_Machine___init__ (He.fAd Z.K ("Machine", some "__init__")) fd := fun_of (T.says.def_ 3 (d := d_Machine___init__) rfl)
theorem fx_Machine_step (T : Tx Z) : ∃ fd, FunE Z.K "step" "Machine.step" s_Machine_step (He.fAd Z.K ("Machine", some "step")) fd := fun_of (T.says.def_ 4 (d := d_Machine_step) rfl)
theorem fx_Machine_taken (T : Tx Z) : ∃ fd, FunE Z.K "taken" "Machine.taken" s_Machine_taken (He.fAd Z.K ("Machine", some "taken")) fd := fun_of (T.says.def_ 5 (d := d_Machine_taken) rfl)
theorem fx_Machine_move (T : Tx Z) : ∃ fd, FunE Z.K "move" "Machine.move" s_Machine_move (He.fAd Z.K ("Machine", some "move")) fd := fun_of (T.says.def_ 6 (d := d_Machine_move) rfl)
theorem fx_Machine_meet (T : Tx Z) : ∃ fd, FunE Z.K "meet" "Machine.meet" s_Machine_meet (He.fAd Z.K ("Machine", some "meet")) fd := fun_of (T.says.def_ 7 (d := d_Machine_meet) rfl)
theorem fx_Machine_jump (T : Tx Z) : ∃ fd, FunE Z.K "jump" "Machine.jump" s_Machine_jump (He.fAd Z.K ("Machine", some "jump")) fd := fun_of (T.says.def_ 8 (d := d_Machine_jump) rfl)
theorem fx_Machine_enter (T : Tx Z) : ∃ fd, FunE Z.K "enter" "Machine.enter" s_Machine_enter (He.fAd Z.K ("Machine", some "enter")) fd := fun_of (T.says.def_ 9 (d := d_Machine_enter) rfl)
theorem fx_Machine_back (T : Tx Z) : ∃ fd, FunE Z.K "back" "Machine.back" s_Machine_back (He.fAd Z.K ("Machine", some "back")) fd := fun_of (T.says.def_ 10 (d := d_Machine_back) rfl)
theorem fx_Machine_fault (T : Tx Z) : ∃ fd, FunE Z.K "fault" "Machine.fault" s_Machine_fault (He.fAd Z.K ("Machine", some "fault")) fd := fun_of (T.says.def_ 11 (d := d_Machine_fault) rfl)
theorem fx_run (T : Tx Z) : ∃ fd, FunE Z.K "run" "run" s_run (He.fAd Z.K ("run", none)) fd := fun_of (T.says.def_ 12 (d := d_run) rfl)
theorem fx_l_whole (T : Tx Z) : ∃ fd, FunE Z.K "_law_whole" "_law_whole" s_l_whole (He.fAd Z.K ("_law_whole", none)) fd := fun_of (T.says.def_ 13 (d := d_l_whole) rfl)
theorem fx_l_cell_at (T : Tx Z) : ∃ fd, FunE Z.K "_law_cell_at" "_law_cell_at" s_l_cell_at (He.fAd Z.K ("_law_cell_at", none)) fd := fun_of (T.says.def_ 14 (d := d_l_cell_at) rfl)
theorem fx_l_number (T : Tx Z) : ∃ fd, FunE Z.K "_law_number" "_law_number" s_l_number (He.fAd Z.K ("_law_number", none)) fd := fun_of (T.says.def_ 15 (d := d_l_number) rfl)
theorem fx_l_row (T : Tx Z) : ∃ fd, FunE Z.K "_law_row" "_law_row" s_l_row (He.fAd Z.K ("_law_row", none)) fd := fun_of (T.says.def_ 16 (d := d_l_row) rfl)
theorem fx_l_joined (T : Tx Z) : ∃ fd, FunE Z.K "_law_joined" "_law_joined" s_l_joined (He.fAd Z.K ("_law_joined", none)) fd := fun_of (T.says.def_ 17 (d := d_l_joined) rfl)
theorem fx_l_done (T : Tx Z) : ∃ fd, FunE Z.K "_law_done" "_law_done" s_l_done (He.fAd Z.K ("_law_done", none)) fd := fun_of (T.says.def_ 18 (d := d_l_done) rfl)
theorem fx_law (T : Tx Z) : ∃ fd, FunE Z.K "law" "law" s_law (He.fAd Z.K ("law", none)) fd := fun_of (T.says.def_ 19 (d := d_law) rfl)
end
section
variable {Z : Zt} {n : Nat}
theorem sc_goal_of : FnScope n_goal_of ["stretches", "place"] (defScope s_goal_of) := ⟨rfl, rfl, rfl, by decide +kernel, rfl, by decide +kernel, by decide +kernel⟩
theorem dv_goal_of (T : Tx Z) {sp : Sp} (len : ∀ vs H Q E, sp vs H Q E → vs.length = 2)
    (pure : ∀ (vs : List V) (H : Hp) (Q : VK) (E : XK), sp vs H Q E → t_goal_of Z.K { nx := fun _ H' => Q .non H', rt := Q } (L2.start n_goal_of vs) H) : Cal Z CX0 (n + 1) "goal_of" ["stretches", "place"] sp := by
  obtain ⟨fd, F⟩ := fx_goal_of T
  have B : L2.Binds Z.K fd ["stretches", "place"] [] := F.binds fun _ _ _ _ _ _ us hl => match us, hl with | [_, _], _ => rfl
  refine ⟨⟨_, fd, g_goal_of T, kp_goal_of T, B, mkR (tb := t_goal_of Z.K) F sc_goal_of len (fun cdv A outer s H E hr => ?_) pure⟩⟩
  skip
  exact (pss_cons (ps_for PassesOwn.never rfl (pi_list (pv 0)) (pg_name (i := 2) sc_goal_of.nd rfl (Or.inl rfl)) (pss_one (ps_if (PW.pt (pw_and (pt_cmpR op_leI (pe_ix ix_tup (pv 2) pe_int (fun _ _ => rfl)) (pv 1) (nomark _)) (pw_and1 (pt_cmpR op_ltI (pv 1) (pe_ix ix_tup (pv 2) pe_int (fun _ _ => rfl)) (nomark _))))) (pss_one (ps_ret (pe_ix ix_tup (pv 2) pe_int (fun _ _ => rfl)))) pss_nil)))
    (pss_one (ps_ret pe_non)))
theorem sc_Frame___init__ : FnScope n_Frame___init__ ["self", "place", "boxes", "number"] (defScope s_Frame___init__) := ⟨rfl, rfl, rfl, by decide +kernel, rfl, by decide +kernel, by decide +kernel⟩
theorem dv_Frame___init__ (T : Tx Z) {sp : Sp} (len : ∀ vs H Q E, sp vs H Q E → vs.length = 4)
    (pure : ∀ (vs : List V) (H : Hp) (Q : VK) (E : XK), sp vs H Q E → t_Frame___init__ Z.K { nx := fun _ H' => Q .non H', rt := Q } (L2.start n_Frame___init__ vs) H) : CalN Z CX0 (n + 1) "Frame" (He.ga Z.K "Frame") ["self", "place", "boxes", "number"] sp := by
  obtain ⟨fd, F⟩ := fx_Frame___init__ T
  have B : L2.Binds Z.K fd ["self", "place", "boxes", "number"] [] := F.binds fun _ _ _ _ _ _ us hl => match us, hl with | [_, _, _, _], _ => rfl
  refine ⟨⟨_, fd, mk_Frame T, g_Frame T, B, mkR (tb := t_Frame___init__ Z.K) F sc_Frame___init__ len (fun cdv A outer s H E hr => ?_) pure⟩⟩
  skip
  exact (pss_cons (psfd (cl_Frame T) (na_Frame_place T) (pv 0) (pv 1))
    (pss_cons (psfd (cl_Frame T) (na_Frame_boxes T) (pv 0) (pe_op op_cat (pe_lst (pa_cons (pv 3) pa_nil)) (pe_op op_rep (pe_lst (pa_cons pe_int pa_nil)) (pe_op op_subI (pv 2) pe_int))))
    (pss_one (psfd (cl_Frame T) (na_Frame_pile T) (pv 0) (pe_lst pa_nil)))))
theorem sc_Frame_lay : FnScope n_Frame_lay ["self", "number"] (defScope s_Frame_lay) := ⟨rfl, rfl, rfl, by decide +kernel, rfl, by decide +kernel, by decide +kernel⟩
theorem dv_Frame_lay (T : Tx Z) {sp : Sp} (len : ∀ vs H Q E, sp vs H Q E → vs.length = 2)
    (pure : ∀ (vs : List V) (H : Hp) (Q : VK) (E : XK), sp vs H Q E → t_Frame_lay Z.K { nx := fun _ H' => Q .non H', rt := Q } (L2.start n_Frame_lay vs) H) : CalM Z CX0 (n + 1) (He.ga Z.K "Frame") "lay" ["self", "number"] sp := by
  obtain ⟨fd, F⟩ := fx_Frame_lay T
  have B : L2.Binds Z.K fd ["self", "number"] [] := F.binds fun _ _ _ _ _ _ us hl => match us, hl with | [_, _], _ => rfl
  refine ⟨⟨_, fd, m_Frame_lay T, B, mkR (tb := t_Frame_lay Z.K) F sc_Frame_lay len (fun cdv A outer s H E hr => ?_) pure⟩⟩
  skip
  exact (pss_cons (ps_expr (pe_bm PySem.F.plainAttrs_list PySem.F.slot_list_append PySem.F.type_list_append mt_append (pfd (cl_Frame T) (na_Frame_pile T) (pv 0)) (pa_cons (pv 1) pa_nil)))
    (pss_one (psfd (cl_Frame T) (na_Frame_place T) (pv 0) (pe_op op_addI (pfd (cl_Frame T) (na_Frame_place T) (pv 0)) pe_int))))
theorem sc_Machine___init__ : FnScope n_Machine___init__ ["self", "parts", "number", "turns"] (defScope s_Machine___init__) := ⟨rfl, rfl, rfl, by decide +kernel, rfl, by decide +kernel, by decide +kernel⟩
theorem dv_Machine___init__ (T : Tx Z) {k_Frame___init__ : Nat} {ps_Frame___init__ : List Str} {sp_Frame___init__ : Sp} (c_Frame___init__ : CalN Z CX0 k_Frame___init__ "Frame" (He.ga Z.K "Frame") ps_Frame___init__ sp_Frame___init__) (h_Frame___init__ : k_Frame___init__ + 1 ≤ n) {sp : Sp} (len : ∀ vs H Q E, sp vs H Q E → vs.length = 4)
    (pure : ∀ (vs : List V) (H : Hp) (Q : VK) (E : XK), sp vs H Q E → t_Machine___init__ Z.K sp_Frame___init__ { nx := fun _ H' => Q .non H', rt := Q } (L2.start n_Machine___init__ vs) H) : CalN Z CX0 (n + 1) "Machine" (He.ga Z.K "Machine") ["self", "parts", "number", "turns"] sp := by
  obtain ⟨fd, F⟩ := fx_Machine___init__ T
  have B : L2.Binds Z.K fd ["self", "parts", "number", "turns"] [] := F.binds fun _ _ _ _ _ _ us hl => match us, hl with | [_, _, _, _], _ => rfl
  refine ⟨⟨_, fd, mk_Machine T, g_Machine T, B, mkR (tb := t_Machine___init__ Z.K sp_Frame___init__) F sc_Machine___init__ len (fun cdv A outer s H E hr => ?_) pure⟩⟩
  have r_Frame___init__ := hr.mono h_Frame___init__
  exact (pss_cons (psfd (cl_Machine T) (na_Machine_code T) (pv 0) (pe_ix ix_tup (pv 1) pe_int (fun _ _ => rfl)))
    (pss_cons (psfd (cl_Machine T) (na_Machine_stretches T) (pv 0) (pe_ix ix_tup (pv 1) pe_int (fun _ _ => rfl)))
    (pss_cons (psfd (cl_Machine T) (na_Machine_starts T) (pv 0) (pe_ix ix_tup (pv 1) pe_int (fun _ _ => rfl)))
    (pss_cons (psfd (cl_Machine T) (na_Machine_boxes T) (pv 0) (pe_ix ix_tup (pv 1) pe_int (fun _ _ => rfl)))
    (pss_cons (psfd (cl_Machine T) (na_Machine_turns T) (pv 0) (pv 3))
    (pss_cons (psfd (cl_Machine T) (na_Machine_said T) (pv 0) (pe_lst pa_nil))
    (pss_cons (psfd (cl_Machine T) (na_Machine_ended T) (pv 0) pe_non)
    (pss_one (psfd (cl_Machine T) (na_Machine_frames T) (pv 0) (pe_lst (pa_cons (pmak c_Frame___init__ r_Frame___init__ (by rfl) pass0 (pa_cons (pe_ix ix_list (pfd (cl_Machine T) (na_Machine_starts T) (pv 0)) pe_int (fun _ _ => rfl)) (pa_cons (pfd (cl_Machine T) (na_Machine_boxes T) (pv 0)) (pa_cons (pv 2) pa_nil)))) pa_nil)))))))))))
theorem sc_Machine_step : FnScope n_Machine_step ["self"] (defScope s_Machine_step) := ⟨rfl, rfl, rfl, by decide +kernel, rfl, by decide +kernel, by decide +kernel⟩
theorem dv_Machine_step (T : Tx Z) {k_Machine_meet : Nat} {ps_Machine_meet : List Str} {sp_Machine_meet : Sp} (c_Machine_meet : CalM Z CX0 k_Machine_meet (He.ga Z.K "Machine") "meet" ps_Machine_meet sp_Machine_meet) (h_Machine_meet : k_Machine_meet ≤ n) {k_Machine_move : Nat} {ps_Machine_move : List Str} {sp_Machine_move : Sp} (c_Machine_move : CalM Z CX0 k_Machine_move (He.ga Z.K "Machine") "move" ps_Machine_move sp_Machine_move) (h_Machine_move : k_Machine_move ≤ n) {k_Machine_jump : Nat} {ps_Machine_jump : List Str} {sp_Machine_jump : Sp} (c_Machine_jump : CalM Z CX0 k_Machine_jump (He.ga Z.K "Machine") "jump" ps_Machine_jump sp_Machine_jump) (h_Machine_jump : k_Machine_jump ≤ n) {k_Machine_taken : Nat} {ps_Machine_taken : List Str} {sp_Machine_taken : Sp} (c_Machine_taken : CalM Z CX0 k_Machine_taken (He.ga Z.K "Machine") "taken" ps_Machine_taken sp_Machine_taken) (h_Machine_taken : k_Machine_taken ≤ n) {k_Machine_enter : Nat} {ps_Machine_enter : List Str} {sp_Machine_enter : Sp} (c_Machine_enter : CalM Z CX0 k_Machine_enter (He.ga Z.K "Machine") "enter" ps_Machine_enter sp_Machine_enter) (h_Machine_enter : k_Machine_enter ≤ n) {k_Machine_back : Nat} {ps_Machine_back : List Str} {sp_Machine_back : Sp} (c_Machine_back : CalM Z CX0 k_Machine_back (He.ga Z.K "Machine") "back" ps_Machine_back sp_Machine_back) (h_Machine_back : k_Machine_back ≤ n) {k_Machine_fault : Nat} {ps_Machine_fault : List Str} {sp_Machine_fault : Sp} (c_Machine_fault : CalM Z CX0 k_Machine_fault (He.ga Z.K "Machine") "fault" ps_Machine_fault sp_Machine_fault) (h_Machine_fault : k_Machine_fault ≤ n) {sp : Sp} (len : ∀ vs H Q E, sp vs H Q E → vs.length = 1)
    (pure : ∀ (vs : List V) (H : Hp) (Q : VK) (E : XK), sp vs H Q E → t_Machine_step Z.K sp_Machine_meet sp_Machine_move sp_Machine_jump sp_Machine_taken sp_Machine_enter sp_Machine_back sp_Machine_fault { nx := fun _ H' => Q .non H', rt := Q } (L2.start n_Machine_step vs) H) : CalM Z CX0 (n + 1) (He.ga Z.K "Machine") "step" ["self"] sp := by
  obtain ⟨fd, F⟩ := fx_Machine_step T
  have B : L2.Binds Z.K fd ["self"] [] := F.binds fun _ _ _ _ _ _ us hl => match us, hl with | [_], _ => rfl
  refine ⟨⟨_, fd, m_Machine_step T, B, mkR (tb := t_Machine_step Z.K sp_Machine_meet sp_Machine_move sp_Machine_jump sp_Machine_taken sp_Machine_enter sp_Machine_back sp_Machine_fault) F sc_Machine_step len (fun cdv A outer s H E hr => ?_) pure⟩⟩
  have r_Machine_meet := hr.mono h_Machine_meet
  have r_Machine_move := hr.mono h_Machine_move
  have r_Machine_jump := hr.mono h_Machine_jump
  have r_Machine_taken := hr.mono h_Machine_taken
  have r_Machine_enter := hr.mono h_Machine_enter
  have r_Machine_back := hr.mono h_Machine_back
  have r_Machine_fault := hr.mono h_Machine_fault
  exact (pss_cons (ps_set (i := 1) sc_Machine_step.nd rfl (Or.inl rfl) (pe_ix ix_list (pfd (cl_Machine T) (na_Machine_frames T) (pv 0)) (pe_op op_subI (pe_callB call_lenQ (by rfl) (g_len T) PySem.boot_len (pa_cons (pfd (cl_Machine T) (na_Machine_frames T) (pv 0)) pa_nil)) pe_int) (fun _ _ => rfl)))
    (pss_cons (ps_set (i := 2) sc_Machine_step.nd rfl (Or.inl rfl) (pe_ix ix_list (pfd (cl_Machine T) (na_Machine_code T) (pv 0)) (pfd (cl_Frame T) (na_Frame_place T) (pv 1)) (fun _ _ => rfl)))
    (pss_cons (ps_set (i := 3) sc_Machine_step.nd rfl (Or.inl rfl) (pe_ix ix_tup (pv 2) pe_int (fun _ _ => rfl)))
    (pss_one (ps_if (pt_cmpR op_in_seq (pv 3) (pe_tup (pa_cons pe_str (pa_cons pe_str (pa_cons pe_str (pa_cons pe_str pa_nil))))) (by rfl)) (pss_one (ps_expr (pmet (pv 0) (cl_Machine T) c_Machine_meet r_Machine_meet pass0 (pa_cons (pv 1) (pa_cons (pv 3) pa_nil))))) (pss_one (ps_if (pt_cmpR op_in_seq (pv 3) (pe_tup (pa_cons pe_str (pa_cons pe_str (pa_cons pe_str (pa_cons pe_str pa_nil))))) (by rfl)) (pss_one (ps_expr (pmet (pv 0) (cl_Machine T) c_Machine_move r_Machine_move pass0 (pa_cons (pv 1) (pa_cons (pv 2) pa_nil))))) (pss_one (ps_if (pt_cmpR op_in_seq (pv 3) (pe_tup (pa_cons pe_str (pa_cons pe_str (pa_cons pe_str pa_nil)))) (by rfl)) (pss_one (ps_expr (pmet (pv 0) (cl_Machine T) c_Machine_jump r_Machine_jump pass0 (pa_cons (pv 1) (pa_cons (pv 2) pa_nil))))) (pss_one (ps_if (pt_cmpR op_eq (pv 3) pe_str (nomark _)) (pss_one (ps_if (pt_val (pmet0 (pv 0) (cl_Machine T) c_Machine_taken r_Machine_taken pass0)) (pss_one (psfd (cl_Frame T) (na_Frame_place T) (pv 1) (pe_op op_addI (pfd (cl_Frame T) (na_Frame_place T) (pv 1)) pe_int))) pss_nil)) (pss_one (ps_if (pt_cmpR op_eq (pv 3) pe_str (nomark _)) (pss_one (ps_expr (pmet (pv 0) (cl_Machine T) c_Machine_enter r_Machine_enter pass0 (pa_cons (pe_ix ix_tup (pv 2) pe_int (fun _ _ => rfl)) (pa_cons (pe_bm0 PySem.F.plainAttrs_list PySem.F.slot_list_pop PySem.F.type_list_pop mt_pop (pfd (cl_Frame T) (na_Frame_pile T) (pv 1))) pa_nil))))) (pss_one (ps_if (pt_cmpR op_eq (pv 3) pe_str (nomark _)) (pss_one (ps_expr (pmet (pv 0) (cl_Machine T) c_Machine_back r_Machine_back pass0 (pa_cons (pe_bm0 PySem.F.plainAttrs_list PySem.F.slot_list_pop PySem.F.type_list_pop mt_pop (pfd (cl_Frame T) (na_Frame_pile T) (pv 1))) pa_nil)))) (pss_one (ps_expr (pmet (pv 0) (cl_Machine T) c_Machine_fault r_Machine_fault pass0 (pa_cons (pe_bm0 PySem.F.plainAttrs_list PySem.F.slot_list_pop PySem.F.type_list_pop mt_pop (pfd (cl_Frame T) (na_Frame_pile T) (pv 1))) pa_nil)))))))))))))))))))
theorem sc_Machine_taken : FnScope n_Machine_taken ["self"] (defScope s_Machine_taken) := ⟨rfl, rfl, rfl, by decide +kernel, rfl, by decide +kernel, by decide +kernel⟩
theorem dv_Machine_taken (T : Tx Z) {sp : Sp} (len : ∀ vs H Q E, sp vs H Q E → vs.length = 1)
    (pure : ∀ (vs : List V) (H : Hp) (Q : VK) (E : XK), sp vs H Q E → t_Machine_taken Z.K { nx := fun _ H' => Q .non H', rt := Q } (L2.start n_Machine_taken vs) H) : CalM Z CX0 (n + 1) (He.ga Z.K "Machine") "taken" ["self"] sp := by
  obtain ⟨fd, F⟩ := fx_Machine_taken T
  have B : L2.Binds Z.K fd ["self"] [] := F.binds fun _ _ _ _ _ _ us hl => match us, hl with | [_], _ => rfl
  refine ⟨⟨_, fd, m_Machine_taken T, B, mkR (tb := t_Machine_taken Z.K) F sc_Machine_taken len (fun cdv A outer s H E hr => ?_) pure⟩⟩
  skip
  exact (pss_cons (ps_if (pt_cmpR op_eq (pfd (cl_Machine T) (na_Machine_turns T) (pv 0)) pe_int (nomark _)) (pss_cons (psfd (cl_Machine T) (na_Machine_ended T) (pv 0) (pe_tup (pa_cons pe_str (pa_cons pe_int pa_nil))))
    (pss_one (ps_ret pe_bl))) pss_nil)
    (pss_cons (psfd (cl_Machine T) (na_Machine_turns T) (pv 0) (pe_op op_subI (pfd (cl_Machine T) (na_Machine_turns T) (pv 0)) pe_int))
    (pss_one (ps_ret pe_bl))))
theorem sc_Machine_move : FnScope n_Machine_move ["self", "frame", "row"] (defScope s_Machine_move) := ⟨rfl, rfl, rfl, by decide +kernel, rfl, by decide +kernel, by decide +kernel⟩
theorem dv_Machine_move (T : Tx Z) {k_Frame_lay : Nat} {ps_Frame_lay : List Str} {sp_Frame_lay : Sp} (c_Frame_lay : CalM Z CX0 k_Frame_lay (He.ga Z.K "Frame") "lay" ps_Frame_lay sp_Frame_lay) (h_Frame_lay : k_Frame_lay ≤ n) {sp : Sp} (len : ∀ vs H Q E, sp vs H Q E → vs.length = 3)
    (pure : ∀ (vs : List V) (H : Hp) (Q : VK) (E : XK), sp vs H Q E → t_Machine_move Z.K sp_Frame_lay { nx := fun _ H' => Q .non H', rt := Q } (L2.start n_Machine_move vs) H) : CalM Z CX0 (n + 1) (He.ga Z.K "Machine") "move" ["self", "frame", "row"] sp := by
  obtain ⟨fd, F⟩ := fx_Machine_move T
  have B : L2.Binds Z.K fd ["self", "frame", "row"] [] := F.binds fun _ _ _ _ _ _ us hl => match us, hl with | [_, _, _], _ => rfl
  refine ⟨⟨_, fd, m_Machine_move T, B, mkR (tb := t_Machine_move Z.K sp_Frame_lay) F sc_Machine_move len (fun cdv A outer s H E hr => ?_) pure⟩⟩
  have r_Frame_lay := hr.mono h_Frame_lay
  exact (pss_cons (ps_if (pt_cmpR op_eq (pe_ix ix_tup (pv 2) pe_int (fun _ _ => rfl)) pe_str (nomark _)) (pss_cons (ps_expr (pmet (pv 1) (cl_Frame T) c_Frame_lay r_Frame_lay pass0 (pa_cons (pe_ix ix_tup (pv 2) pe_int (fun _ _ => rfl)) pa_nil)))
    (pss_one ps_retN)) pss_nil)
    (pss_cons (ps_if (pt_cmpR op_eq (pe_ix ix_tup (pv 2) pe_int (fun _ _ => rfl)) pe_str (nomark _)) (pss_cons (ps_expr (pmet (pv 1) (cl_Frame T) c_Frame_lay r_Frame_lay pass0 (pa_cons (pe_ix ix_list (pfd (cl_Frame T) (na_Frame_boxes T) (pv 1)) (pe_ix ix_tup (pv 2) pe_int (fun _ _ => rfl)) (fun _ _ => rfl)) pa_nil)))
    (pss_one ps_retN)) pss_nil)
    (pss_cons (ps_set (i := 3) sc_Machine_move.nd rfl (Or.inl rfl) (pe_bm0 PySem.F.plainAttrs_list PySem.F.slot_list_pop PySem.F.type_list_pop mt_pop (pfd (cl_Frame T) (na_Frame_pile T) (pv 1))))
    (pss_cons (ps_if (pt_cmpR op_eq (pe_ix ix_tup (pv 2) pe_int (fun _ _ => rfl)) pe_str (nomark _)) (pss_one (ps_asg (pv 3) (pg_sub (pfd (cl_Frame T) (na_Frame_boxes T) (pv 1)) (pe_ix ix_tup (pv 2) pe_int (fun _ _ => rfl)) set_list))) (pss_one (ps_expr (pe_bm PySem.F.plainAttrs_list PySem.F.slot_list_append PySem.F.type_list_append mt_append (pfd (cl_Machine T) (na_Machine_said T) (pv 0)) (pa_cons (pv 3) pa_nil)))))
    (pss_one (psfd (cl_Frame T) (na_Frame_place T) (pv 1) (pe_op op_addI (pfd (cl_Frame T) (na_Frame_place T) (pv 1)) pe_int)))))))
theorem sc_Machine_meet : FnScope n_Machine_meet ["self", "frame", "word"] (defScope s_Machine_meet) := ⟨rfl, rfl, rfl, by decide +kernel, rfl, by decide +kernel, by decide +kernel⟩
theorem dv_Machine_meet (T : Tx Z) {k_Frame_lay : Nat} {ps_Frame_lay : List Str} {sp_Frame_lay : Sp} (c_Frame_lay : CalM Z CX0 k_Frame_lay (He.ga Z.K "Frame") "lay" ps_Frame_lay sp_Frame_lay) (h_Frame_lay : k_Frame_lay ≤ n) {k_Machine_fault : Nat} {ps_Machine_fault : List Str} {sp_Machine_fault : Sp} (c_Machine_fault : CalM Z CX0 k_Machine_fault (He.ga Z.K "Machine") "fault" ps_Machine_fault sp_Machine_fault) (h_Machine_fault : k_Machine_fault ≤ n) {sp : Sp} (len : ∀ vs H Q E, sp vs H Q E → vs.length = 3)
    (pure : ∀ (vs : List V) (H : Hp) (Q : VK) (E : XK), sp vs H Q E → t_Machine_meet Z.K sp_Frame_lay sp_Machine_fault { nx := fun _ H' => Q .non H', rt := Q } (L2.start n_Machine_meet vs) H) : CalM Z CX0 (n + 1) (He.ga Z.K "Machine") "meet" ["self", "frame", "word"] sp := by
  obtain ⟨fd, F⟩ := fx_Machine_meet T
  have B : L2.Binds Z.K fd ["self", "frame", "word"] [] := F.binds fun _ _ _ _ _ _ us hl => match us, hl with | [_, _, _], _ => rfl
  refine ⟨⟨_, fd, m_Machine_meet T, B, mkR (tb := t_Machine_meet Z.K sp_Frame_lay sp_Machine_fault) F sc_Machine_meet len (fun cdv A outer s H E hr => ?_) pure⟩⟩
  have r_Frame_lay := hr.mono h_Frame_lay
  have r_Machine_fault := hr.mono h_Machine_fault
  exact (pss_cons (ps_set (i := 3) sc_Machine_meet.nd rfl (Or.inl rfl) (pe_bm0 PySem.F.plainAttrs_list PySem.F.slot_list_pop PySem.F.type_list_pop mt_pop (pfd (cl_Frame T) (na_Frame_pile T) (pv 1))))
    (pss_cons (ps_set (i := 4) sc_Machine_meet.nd rfl (Or.inl rfl) (pe_bm0 PySem.F.plainAttrs_list PySem.F.slot_list_pop PySem.F.type_list_pop mt_pop (pfd (cl_Frame T) (na_Frame_pile T) (pv 1))))
    (pss_one (ps_if (pt_cmpR op_eq (pv 2) pe_str (nomark _)) (pss_one (ps_expr (pmet (pv 1) (cl_Frame T) c_Frame_lay r_Frame_lay pass0 (pa_cons (pe_op op_addI (pv 4) (pv 3)) pa_nil)))) (pss_one (ps_if (pt_cmpR op_eq (pv 2) pe_str (nomark _)) (pss_one (ps_expr (pmet (pv 1) (cl_Frame T) c_Frame_lay r_Frame_lay pass0 (pa_cons (pe_op op_subI (pv 4) (pv 3)) pa_nil)))) (pss_one (ps_if (pt_cmpR op_eq (pv 2) pe_str (nomark _)) (pss_one (ps_expr (pmet (pv 1) (cl_Frame T) c_Frame_lay r_Frame_lay pass0 (pa_cons (pe_ifExp (pt_cmpR op_ltI (pv 4) (pv 3) (nomark _)) pe_int pe_int) pa_nil)))) (pss_one (ps_if (pt_cmpR op_eq (pv 3) pe_int (nomark _)) (pss_one (ps_expr (pmet (pv 0) (cl_Machine T) c_Machine_fault r_Machine_fault pass0 (pa_cons (pe_glob (by rfl) (i_NOUGHT T).choose_spec ⟨_, rfl⟩) pa_nil)))) (pss_one (ps_expr (pmet (pv 1) (cl_Frame T) c_Frame_lay r_Frame_lay pass0 (pa_cons (pe_op (op_fdZ T.seer T.tree rfl rfl rfl hr) (pv 4) (pv 3)) pa_nil))))))))))))))
theorem sc_Machine_jump : FnScope n_Machine_jump ["self", "frame", "row"] (defScope s_Machine_jump) := ⟨rfl, rfl, rfl, by decide +kernel, rfl, by decide +kernel, by decide +kernel⟩
theorem dv_Machine_jump (T : Tx Z) {sp : Sp} (len : ∀ vs H Q E, sp vs H Q E → vs.length = 3)
    (pure : ∀ (vs : List V) (H : Hp) (Q : VK) (E : XK), sp vs H Q E → t_Machine_jump Z.K { nx := fun _ H' => Q .non H', rt := Q } (L2.start n_Machine_jump vs) H) : CalM Z CX0 (n + 1) (He.ga Z.K "Machine") "jump" ["self", "frame", "row"] sp := by
  obtain ⟨fd, F⟩ := fx_Machine_jump T
  have B : L2.Binds Z.K fd ["self", "frame", "row"] [] := F.binds fun _ _ _ _ _ _ us hl => match us, hl with | [_, _, _], _ => rfl
  refine ⟨⟨_, fd, m_Machine_jump T, B, mkR (tb := t_Machine_jump Z.K) F sc_Machine_jump len (fun cdv A outer s H E hr => ?_) pure⟩⟩
  skip
  exact (pss_one (ps_if (pt_cmpR op_eq (pe_ix ix_tup (pv 2) pe_int (fun _ _ => rfl)) pe_str (nomark _)) (pss_one (psfd (cl_Frame T) (na_Frame_place T) (pv 1) (pe_ix ix_list (pfd (cl_Frame T) (na_Frame_boxes T) (pv 1)) (pe_ix ix_tup (pv 2) pe_int (fun _ _ => rfl)) (fun _ _ => rfl)))) (pss_one (ps_if (PW.pt (pw_or (pt_cmpR op_eq (pe_ix ix_tup (pv 2) pe_int (fun _ _ => rfl)) pe_str (nomark _)) (pw_or1 (pt_cmpR op_eq (pe_bm0 PySem.F.plainAttrs_list PySem.F.slot_list_pop PySem.F.type_list_pop mt_pop (pfd (cl_Frame T) (na_Frame_pile T) (pv 1))) pe_int (nomark _))))) (pss_one (psfd (cl_Frame T) (na_Frame_place T) (pv 1) (pe_ix ix_tup (pv 2) pe_int (fun _ _ => rfl)))) (pss_one (psfd (cl_Frame T) (na_Frame_place T) (pv 1) (pe_op op_addI (pfd (cl_Frame T) (na_Frame_place T) (pv 1)) pe_int)))))))
theorem sc_Machine_enter : FnScope n_Machine_enter ["self", "number", "given"] (defScope s_Machine_enter) := ⟨rfl, rfl, rfl, by decide +kernel, rfl, by decide +kernel, by decide +kernel⟩
theorem dv_Machine_enter (T : Tx Z) {k_Machine_taken : Nat} {ps_Machine_taken : List Str} {sp_Machine_taken : Sp} (c_Machine_taken : CalM Z CX0 k_Machine_taken (He.ga Z.K "Machine") "taken" ps_Machine_taken sp_Machine_taken) (h_Machine_taken : k_Machine_taken ≤ n) {k_Machine_fault : Nat} {ps_Machine_fault : List Str} {sp_Machine_fault : Sp} (c_Machine_fault : CalM Z CX0 k_Machine_fault (He.ga Z.K "Machine") "fault" ps_Machine_fault sp_Machine_fault) (h_Machine_fault : k_Machine_fault ≤ n) {k_Frame___init__ : Nat} {ps_Frame___init__ : List Str} {sp_Frame___init__ : Sp} (c_Frame___init__ : CalN Z CX0 k_Frame___init__ "Frame" (He.ga Z.K "Frame") ps_Frame___init__ sp_Frame___init__) (h_Frame___init__ : k_Frame___init__ + 1 ≤ n) {sp : Sp} (len : ∀ vs H Q E, sp vs H Q E → vs.length = 3)
    (pure : ∀ (vs : List V) (H : Hp) (Q : VK) (E : XK), sp vs H Q E → t_Machine_enter Z.K sp_Machine_taken sp_Machine_fault sp_Frame___init__ { nx := fun _ H' => Q .non H', rt := Q } (L2.start n_Machine_enter vs) H) : CalM Z CX0 (n + 1) (He.ga Z.K "Machine") "enter" ["self", "number", "given"] sp := by
  obtain ⟨fd, F⟩ := fx_Machine_enter T
  have B : L2.Binds Z.K fd ["self", "number", "given"] [] := F.binds fun _ _ _ _ _ _ us hl => match us, hl with | [_, _, _], _ => rfl
  refine ⟨⟨_, fd, m_Machine_enter T, B, mkR (tb := t_Machine_enter Z.K sp_Machine_taken sp_Machine_fault sp_Frame___init__) F sc_Machine_enter len (fun cdv A outer s H E hr => ?_) pure⟩⟩
  have r_Machine_taken := hr.mono h_Machine_taken
  have r_Machine_fault := hr.mono h_Machine_fault
  have r_Frame___init__ := hr.mono h_Frame___init__
  exact (pss_cons (ps_if (pt_not (pt_val (pmet0 (pv 0) (cl_Machine T) c_Machine_taken r_Machine_taken pass0))) (pss_one ps_retN) pss_nil)
    (pss_one (ps_if (pt_cmpR op_eq (pe_callB call_lenQ (by rfl) (g_len T) PySem.boot_len (pa_cons (pfd (cl_Machine T) (na_Machine_frames T) (pv 0)) pa_nil)) (pe_glob (by rfl) (i_DEEPEST T).choose_spec ⟨_, rfl⟩) (nomark _)) (pss_one (ps_expr (pmet (pv 0) (cl_Machine T) c_Machine_fault r_Machine_fault pass0 (pa_cons (pe_glob (by rfl) (i_DEEP T).choose_spec ⟨_, rfl⟩) pa_nil)))) (pss_one (ps_expr (pe_bm PySem.F.plainAttrs_list PySem.F.slot_list_append PySem.F.type_list_append mt_append (pfd (cl_Machine T) (na_Machine_frames T) (pv 0)) (pa_cons (pmak c_Frame___init__ r_Frame___init__ (by rfl) pass0 (pa_cons (pe_ix ix_list (pfd (cl_Machine T) (na_Machine_starts T) (pv 0)) (pv 1) (fun _ _ => rfl)) (pa_cons (pfd (cl_Machine T) (na_Machine_boxes T) (pv 0)) (pa_cons (pv 2) pa_nil)))) pa_nil)))))))
theorem sc_Machine_back : FnScope n_Machine_back ["self", "given"] (defScope s_Machine_back) := ⟨rfl, rfl, rfl, by decide +kernel, rfl, by decide +kernel, by decide +kernel⟩
theorem dv_Machine_back (T : Tx Z) {k_Frame_lay : Nat} {ps_Frame_lay : List Str} {sp_Frame_lay : Sp} (c_Frame_lay : CalM Z CX0 k_Frame_lay (He.ga Z.K "Frame") "lay" ps_Frame_lay sp_Frame_lay) (h_Frame_lay : k_Frame_lay ≤ n) {sp : Sp} (len : ∀ vs H Q E, sp vs H Q E → vs.length = 2)
    (pure : ∀ (vs : List V) (H : Hp) (Q : VK) (E : XK), sp vs H Q E → t_Machine_back Z.K sp_Frame_lay { nx := fun _ H' => Q .non H', rt := Q } (L2.start n_Machine_back vs) H) : CalM Z CX0 (n + 1) (He.ga Z.K "Machine") "back" ["self", "given"] sp := by
  obtain ⟨fd, F⟩ := fx_Machine_back T
  have B : L2.Binds Z.K fd ["self", "given"] [] := F.binds fun _ _ _ _ _ _ us hl => match us, hl with | [_, _], _ => rfl
  refine ⟨⟨_, fd, m_Machine_back T, B, mkR (tb := t_Machine_back Z.K sp_Frame_lay) F sc_Machine_back len (fun cdv A outer s H E hr => ?_) pure⟩⟩
  have r_Frame_lay := hr.mono h_Frame_lay
  exact (pss_cons (ps_expr (pe_bm0 PySem.F.plainAttrs_list PySem.F.slot_list_pop PySem.F.type_list_pop mt_pop (pfd (cl_Machine T) (na_Machine_frames T) (pv 0))))
    (pss_one (ps_if (pt_cmpR op_eq (pe_callB call_lenQ (by rfl) (g_len T) PySem.boot_len (pa_cons (pfd (cl_Machine T) (na_Machine_frames T) (pv 0)) pa_nil)) pe_int (nomark _)) (pss_one (psfd (cl_Machine T) (na_Machine_ended T) (pv 0) (pe_tup (pa_cons pe_str (pa_cons (pv 1) pa_nil))))) (pss_one (ps_expr (pmet (pe_ix ix_list (pfd (cl_Machine T) (na_Machine_frames T) (pv 0)) (pe_op op_subI (pe_callB call_lenQ (by rfl) (g_len T) PySem.boot_len (pa_cons (pfd (cl_Machine T) (na_Machine_frames T) (pv 0)) pa_nil)) pe_int) (fun _ _ => rfl)) (cl_Frame T) c_Frame_lay r_Frame_lay pass0 (pa_cons (pv 1) pa_nil)))))))
theorem sc_Machine_fault : FnScope n_Machine_fault ["self", "number"] (defScope s_Machine_fault) := ⟨rfl, rfl, rfl, by decide +kernel, rfl, by decide +kernel, by decide +kernel⟩
theorem dv_Machine_fault (T : Tx Z) {k_goal_of : Nat} {ps_goal_of : List Str} {sp_goal_of : Sp} (c_goal_of : Cal Z CX0 k_goal_of "goal_of" ps_goal_of sp_goal_of) (h_goal_of : k_goal_of ≤ n) {sp : Sp} (len : ∀ vs H Q E, sp vs H Q E → vs.length = 2)
    (pure : ∀ (vs : List V) (H : Hp) (Q : VK) (E : XK), sp vs H Q E → t_Machine_fault Z.K sp_goal_of { nx := fun _ H' => Q .non H', rt := Q } (L2.start n_Machine_fault vs) H) : CalM Z CX0 (n + 1) (He.ga Z.K "Machine") "fault" ["self", "number"] sp := by
  obtain ⟨fd, F⟩ := fx_Machine_fault T
  have B : L2.Binds Z.K fd ["self", "number"] [] := F.binds fun _ _ _ _ _ _ us hl => match us, hl with | [_, _], _ => rfl
  refine ⟨⟨_, fd, m_Machine_fault T, B, mkR (tb := t_Machine_fault Z.K sp_goal_of) F sc_Machine_fault len (fun cdv A outer s H E hr => ?_) pure⟩⟩
  have r_goal_of := hr.mono h_goal_of
  exact (pss_cons (ps_while PassesOwn.never (pt_cmpR op_gtI (pe_callB call_lenQ (by rfl) (g_len T) PySem.boot_len (pa_cons (pfd (cl_Machine T) (na_Machine_frames T) (pv 0)) pa_nil)) pe_int (nomark _)) (pss_cons (ps_set (i := 2) sc_Machine_fault.nd rfl (Or.inl rfl) (pe_ix ix_list (pfd (cl_Machine T) (na_Machine_frames T) (pv 0)) (pe_op op_subI (pe_callB call_lenQ (by rfl) (g_len T) PySem.boot_len (pa_cons (pfd (cl_Machine T) (na_Machine_frames T) (pv 0)) pa_nil)) pe_int) (fun _ _ => rfl)))
    (pss_cons (ps_set (i := 3) sc_Machine_fault.nd rfl (Or.inl rfl) (pcal c_goal_of r_goal_of (by rfl) pass0 (pa_cons (pfd (cl_Machine T) (na_Machine_stretches T) (pv 0)) (pa_cons (pfd (cl_Frame T) (na_Frame_place T) (pv 2)) pa_nil))))
    (pss_cons (ps_if (pt_cmpR op_isNotNo (pv 3) pe_non (nomark _)) (pss_cons (psfd (cl_Frame T) (na_Frame_pile T) (pv 2) (pe_lst (pa_cons (pv 1) pa_nil)))
    (pss_cons (psfd (cl_Frame T) (na_Frame_place T) (pv 2) (pv 3))
    (pss_one ps_retN))) pss_nil)
    (pss_one (ps_expr (pe_bm0 PySem.F.plainAttrs_list PySem.F.slot_list_pop PySem.F.type_list_pop mt_pop (pfd (cl_Machine T) (na_Machine_frames T) (pv 0)))))))))
    (pss_one (psfd (cl_Machine T) (na_Machine_ended T) (pv 0) (pe_tup (pa_cons pe_str (pa_cons (pv 1) pa_nil))))))
theorem sc_run : FnScope n_run ["parts", "number", "turns"] (defScope s_run) := ⟨rfl, rfl, rfl, by decide +kernel, rfl, by decide +kernel, by decide +kernel⟩
theorem dv_run (T : Tx Z) {k_Machine___init__ : Nat} {ps_Machine___init__ : List Str} {sp_Machine___init__ : Sp} (c_Machine___init__ : CalN Z CX0 k_Machine___init__ "Machine" (He.ga Z.K "Machine") ps_Machine___init__ sp_Machine___init__) (h_Machine___init__ : k_Machine___init__ + 1 ≤ n) {k_Machine_step : Nat} {ps_Machine_step : List Str} {sp_Machine_step : Sp} (c_Machine_step : CalM Z CX0 k_Machine_step (He.ga Z.K "Machine") "step" ps_Machine_step sp_Machine_step) (h_Machine_step : k_Machine_step ≤ n) {sp : Sp} (len : ∀ vs H Q E, sp vs H Q E → vs.length = 3)
    (pure : ∀ (vs : List V) (H : Hp) (Q : VK) (E : XK), sp vs H Q E → t_run Z.K sp_Machine___init__ sp_Machine_step { nx := fun _ H' => Q .non H', rt := Q } (L2.start n_run vs) H) : Cal Z CX0 (n + 1) "run" ["parts", "number", "turns"] sp := by
  obtain ⟨fd, F⟩ := fx_run T
  have B : L2.Binds Z.K fd ["parts", "number", "turns"] [] := F.binds fun _ _ _ _ _ _ us hl => match us, hl with | [_, _, _], _ => rfl
  refine ⟨⟨_, fd, g_run T, kp_run T, B, mkR (tb := t_run Z.K sp_Machine___init__ sp_Machine_step) F sc_run len (fun cdv A outer s H E hr => ?_) pure⟩⟩
  have r_Machine___init__ := hr.mono h_Machine___init__
  have r_Machine_step := hr.mono h_Machine_step
  exact (pss_cons (ps_set (i := 3) sc_run.nd rfl (Or.inl rfl) (pmak c_Machine___init__ r_Machine___init__ (by rfl) pass0 (pa_cons (pv 0) (pa_cons (pv 1) (pa_cons (pv 2) pa_nil)))))
    (pss_cons (ps_while PassesOwn.never (pt_cmpR op_isNo (pfd (cl_Machine T) (na_Machine_ended T) (pv 3)) pe_non (nomark _)) (pss_one (ps_expr (pmet0 (pv 3) (cl_Machine T) c_Machine_step r_Machine_step pass0))))
    (pss_one (ps_ret (pe_tup (pa_cons (pfd (cl_Machine T) (na_Machine_said T) (pv 3)) (pa_cons (pe_ix ix_tup (pfd (cl_Machine T) (na_Machine_ended T) (pv 3)) pe_int (fun _ _ => rfl)) (pa_cons (pe_ix ix_tup (pfd (cl_Machine T) (na_Machine_ended T) (pv 3)) pe_int (fun _ _ => rfl)) pa_nil))))))))
theorem sc_l_whole : FnScope n_l_whole ["_law_found"] (defScope s_l_whole) := ⟨rfl, rfl, rfl, by decide +kernel, rfl, by decide +kernel, by decide +kernel⟩
theorem dv_l_whole (T : Tx Z) {sp : Sp} (len : ∀ vs H Q E, sp vs H Q E → vs.length = 1)
    (pure : ∀ (vs : List V) (H : Hp) (Q : VK) (E : XK), sp vs H Q E → t_l_whole Z.K { nx := fun _ H' => Q .non H', rt := Q } (L2.start n_l_whole vs) H) : Cal Z CX0 (n + 1) "_law_whole" ["_law_found"] sp := by
  obtain ⟨fd, F⟩ := fx_l_whole T
  have B : L2.Binds Z.K fd ["_law_found"] [] := F.binds fun _ _ _ _ _ _ us hl => match us, hl with | [_], _ => rfl
  refine ⟨⟨_, fd, g_l_whole T, kp_l_whole T, B, mkR (tb := t_l_whole Z.K) F sc_l_whole len (fun cdv A outer s H E hr => ?_) pure⟩⟩
  skip
  exact (pss_one (ps_ret (pe_and (pe_callB call_isi (by rfl) (g_isinstance T) (by decide +kernel) (pa_cons (pv 0) (pa_cons (pe_bltn (v := .ty "int") (by rfl) (g_int T) (by decide +kernel) rfl) pa_nil))) (pe_one (pe_not (pe_callB call_isi (by rfl) (g_isinstance T) (by decide +kernel) (pa_cons (pv 0) (pa_cons (pe_bltn (v := .ty "bool") (by rfl) (g_bool T) (by decide +kernel) rfl) pa_nil))))))))
theorem sc_l_cell_at : FnScope n_l_cell_at ["_law_script", "_law_k"] (defScope s_l_cell_at) := ⟨rfl, rfl, rfl, by decide +kernel, rfl, by decide +kernel, by decide +kernel⟩
theorem dv_l_cell_at (T : Tx Z) {sp : Sp} (len : ∀ vs H Q E, sp vs H Q E → vs.length = 2)
    (pure : ∀ (vs : List V) (H : Hp) (Q : VK) (E : XK), sp vs H Q E → t_l_cell_at Z.K { nx := fun _ H' => Q .non H', rt := Q } (L2.start n_l_cell_at vs) H) : Cal Z CX0 (n + 1) "_law_cell_at" ["_law_script", "_law_k"] sp := by
  obtain ⟨fd, F⟩ := fx_l_cell_at T
  have B : L2.Binds Z.K fd ["_law_script", "_law_k"] [] := F.binds fun _ _ _ _ _ _ us hl => match us, hl with | [_, _], _ => rfl
  refine ⟨⟨_, fd, g_l_cell_at T, kp_l_cell_at T, B, mkR (tb := t_l_cell_at Z.K) F sc_l_cell_at len (fun cdv A outer s H E hr => ?_) pure⟩⟩
  skip
  exact (pss_cons (ps_if (pt_cmpR op_ltI (pv 1) (pe_callB call_lenQ (by rfl) (g_len T) PySem.boot_len (pa_cons (pv 0) pa_nil)) (nomark _)) (pss_one (ps_ret (pe_ix ix_list (pv 0) (pv 1) (fun _ _ => rfl)))) pss_nil)
    (pss_one (ps_ret pe_int)))
theorem sc_l_number : FnScope n_l_number ["_law_cell"] (defScope s_l_number) := ⟨rfl, rfl, rfl, by decide +kernel, rfl, by decide +kernel, by decide +kernel⟩
theorem dv_l_number (T : Tx Z) {sp : Sp} (len : ∀ vs H Q E, sp vs H Q E → vs.length = 1)
    (pure : ∀ (vs : List V) (H : Hp) (Q : VK) (E : XK), sp vs H Q E → t_l_number Z.K { nx := fun _ H' => Q .non H', rt := Q } (L2.start n_l_number vs) H) : Cal Z CX0 (n + 1) "_law_number" ["_law_cell"] sp := by
  obtain ⟨fd, F⟩ := fx_l_number T
  have B : L2.Binds Z.K fd ["_law_cell"] [] := F.binds fun _ _ _ _ _ _ us hl => match us, hl with | [_], _ => rfl
  refine ⟨⟨_, fd, g_l_number T, kp_l_number T, B, mkR (tb := t_l_number Z.K) F sc_l_number len (fun cdv A outer s H E hr => ?_) pure⟩⟩
  skip
  exact (pss_cons (ps_if (pt_cmpR op_eq (pe_op op_modP (pv 0) pe_int) pe_int (nomark _)) (pss_one (ps_ret (pe_op op_subI (pe_op op_modP (pe_op op_fdC (pv 0) pe_int) (pe_op op_powI pe_int pe_int)) (pe_op op_mulI pe_int (pe_op op_powI pe_int pe_int))))) pss_nil)
    (pss_one (ps_ret (pe_op op_subI (pe_op op_modP (pe_op op_fdC (pv 0) pe_int) pe_int) pe_int))))
theorem sc_l_row : FnScope n_l_row ["_law_cell", "_law_high", "_law_boxes"] (defScope s_l_row) := ⟨rfl, rfl, rfl, by decide +kernel, rfl, by decide +kernel, by decide +kernel⟩
theorem dv_l_row (T : Tx Z) {k_l_number : Nat} {ps_l_number : List Str} {sp_l_number : Sp} (c_l_number : Cal Z CX0 k_l_number "_law_number" ps_l_number sp_l_number) (h_l_number : k_l_number ≤ n) {sp : Sp} (len : ∀ vs H Q E, sp vs H Q E → vs.length = 3)
    (pure : ∀ (vs : List V) (H : Hp) (Q : VK) (E : XK), sp vs H Q E → t_l_row Z.K sp_l_number { nx := fun _ H' => Q .non H', rt := Q } (L2.start n_l_row vs) H) : Cal Z CX0 (n + 1) "_law_row" ["_law_cell", "_law_high", "_law_boxes"] sp := by
  obtain ⟨fd, F⟩ := fx_l_row T
  have B : L2.Binds Z.K fd ["_law_cell", "_law_high", "_law_boxes"] [] := F.binds fun _ _ _ _ _ _ us hl => match us, hl with | [_, _, _], _ => rfl
  refine ⟨⟨_, fd, g_l_row T, kp_l_row T, B, mkR (tb := t_l_row Z.K sp_l_number) F sc_l_row len (fun cdv A outer s H E hr => ?_) pure⟩⟩
  have r_l_number := hr.mono h_l_number
  exact (pss_cons (ps_set (i := 3) sc_l_row.nd rfl (Or.inl rfl) (pe_op op_modP (pv 0) pe_int))
    (pss_cons (ps_if (PW.pt (pw_or (PW.pt (pw_and (pt_cmpR op_ltI (pv 1) pe_int (nomark _)) (pw_and1 (pt_cmpR op_gtI (pv 3) pe_int (nomark _))))) (pw_or1 (PW.pt (pw_and (pt_cmpR op_ltI (pv 1) pe_int (nomark _)) (pw_and1 (pt_cmpR op_gtI (pv 3) pe_int (nomark _)))))))) (pss_one (ps_set (i := 3) sc_l_row.nd rfl (Or.inl rfl) (pe_op op_modP (pv 3) pe_int))) pss_nil)
    (pss_cons (ps_if (pt_cmpR op_ltI (pv 3) pe_int (nomark _)) (pss_one (ps_ret (pe_tup (pa_cons pe_str (pa_cons (pcal c_l_number r_l_number (by rfl) pass0 (pa_cons (pe_op op_fdC (pv 0) pe_int) pa_nil)) pa_nil))))) pss_nil)
    (pss_cons (ps_if (pt_cmpR op_eq (pv 3) pe_int (nomark _)) (pss_one (ps_ret (pe_tup (pa_cons pe_str (pa_cons (pe_op op_modP (pe_op op_fdC (pv 0) pe_int) (pv 2)) pa_nil))))) pss_nil)
    (pss_cons (ps_if (pt_cmpR op_eq (pv 3) pe_int (nomark _)) (pss_one (ps_ret (pe_tup (pa_cons pe_str (pa_cons (pe_op op_modP (pe_op op_fdC (pv 0) pe_int) (pv 2)) pa_nil))))) pss_nil)
    (pss_cons (ps_if (pt_cmpR op_eq (pv 3) pe_int (nomark _)) (pss_one (ps_ret (pe_tup (pa_cons pe_str pa_nil)))) pss_nil)
    (pss_one (ps_ret (pe_tup (pa_cons (pe_ix ix_list (pe_lst (pa_cons pe_str (pa_cons pe_str (pa_cons pe_str (pa_cons pe_str pa_nil))))) (pe_op op_subI (pv 3) pe_int) (fun _ _ => rfl)) pa_nil))))))))))
theorem sc_l_joined : FnScope n_l_joined ["_law_word", "_law_one", "_law_other"] (defScope s_l_joined) := ⟨rfl, rfl, rfl, by decide +kernel, rfl, by decide +kernel, by decide +kernel⟩
theorem dv_l_joined (T : Tx Z) {sp : Sp} (len : ∀ vs H Q E, sp vs H Q E → vs.length = 3)
    (pure : ∀ (vs : List V) (H : Hp) (Q : VK) (E : XK), sp vs H Q E → t_l_joined Z.K { nx := fun _ H' => Q .non H', rt := Q } (L2.start n_l_joined vs) H) : Cal Z CX0 (n + 1) "_law_joined" ["_law_word", "_law_one", "_law_other"] sp := by
  obtain ⟨fd, F⟩ := fx_l_joined T
  have B : L2.Binds Z.K fd ["_law_word", "_law_one", "_law_other"] [] := F.binds fun _ _ _ _ _ _ us hl => match us, hl with | [_, _, _], _ => rfl
  refine ⟨⟨_, fd, g_l_joined T, kp_l_joined T, B, mkR (tb := t_l_joined Z.K) F sc_l_joined len (fun cdv A outer s H E hr => ?_) pure⟩⟩
  skip
  exact (pss_cons (ps_if (pt_cmpR op_eq (pv 0) pe_str (nomark _)) (pss_one (ps_ret (pe_op op_addI (pv 1) (pv 2)))) pss_nil)
    (pss_cons (ps_if (pt_cmpR op_eq (pv 0) pe_str (nomark _)) (pss_one (ps_ret (pe_op op_subI (pv 1) (pv 2)))) pss_nil)
    (pss_cons (ps_if (pt_cmpR op_eq (pv 0) pe_str (nomark _)) (pss_one (ps_ret (pe_callTy call_intB (by rfl) (g_int T) (by decide +kernel) (pa_cons (pe_cmpR op_ltI (pv 1) (pv 2) (nomark _)) pa_nil)))) pss_nil)
    (pss_cons (ps_if (pt_cmpR op_eq (pv 2) pe_int (nomark _)) (pss_one (ps_ret pe_non)) pss_nil)
    (pss_one (ps_ret (pe_op (op_fdZ T.seer T.tree rfl rfl rfl hr) (pv 1) (pv 2))))))))
theorem sc_l_done : FnScope n_l_done ["_law_row_here", "_law_pile", "_law_boxes", "_law_said"] (defScope s_l_done) := ⟨rfl, rfl, rfl, by decide +kernel, rfl, by decide +kernel, by decide +kernel⟩
theorem dv_l_done (T : Tx Z) {k_l_joined : Nat} {ps_l_joined : List Str} {sp_l_joined : Sp} (c_l_joined : Cal Z CX0 k_l_joined "_law_joined" ps_l_joined sp_l_joined) (h_l_joined : k_l_joined ≤ n) {sp : Sp} (len : ∀ vs H Q E, sp vs H Q E → vs.length = 4)
    (pure : ∀ (vs : List V) (H : Hp) (Q : VK) (E : XK), sp vs H Q E → t_l_done Z.K sp_l_joined { nx := fun _ H' => Q .non H', rt := Q } (L2.start n_l_done vs) H) : Cal Z CX0 (n + 1) "_law_done" ["_law_row_here", "_law_pile", "_law_boxes", "_law_said"] sp := by
  obtain ⟨fd, F⟩ := fx_l_done T
  have B : L2.Binds Z.K fd ["_law_row_here", "_law_pile", "_law_boxes", "_law_said"] [] := F.binds fun _ _ _ _ _ _ us hl => match us, hl with | [_, _, _, _], _ => rfl
  refine ⟨⟨_, fd, g_l_done T, kp_l_done T, B, mkR (tb := t_l_done Z.K sp_l_joined) F sc_l_done len (fun cdv A outer s H E hr => ?_) pure⟩⟩
  have r_l_joined := hr.mono h_l_joined
  exact (pss_cons (ps_if (pt_cmpR op_eq (pe_ix ix_tup (pv 0) pe_int (fun _ _ => rfl)) pe_str (nomark _)) (pss_one (ps_expr (pe_bm PySem.F.plainAttrs_list PySem.F.slot_list_append PySem.F.type_list_append mt_append (pv 1) (pa_cons (pe_ix ix_tup (pv 0) pe_int (fun _ _ => rfl)) pa_nil)))) (pss_one (ps_if (pt_cmpR op_eq (pe_ix ix_tup (pv 0) pe_int (fun _ _ => rfl)) pe_str (nomark _)) (pss_one (ps_expr (pe_bm PySem.F.plainAttrs_list PySem.F.slot_list_append PySem.F.type_list_append mt_append (pv 1) (pa_cons (pe_ix ix_list (pv 2) (pe_ix ix_tup (pv 0) pe_int (fun _ _ => rfl)) (fun _ _ => rfl)) pa_nil)))) (pss_one (ps_if (pt_cmpR op_eq (pe_ix ix_tup (pv 0) pe_int (fun _ _ => rfl)) pe_str (nomark _)) (pss_one (ps_asg (pe_bm0 PySem.F.plainAttrs_list PySem.F.slot_list_pop PySem.F.type_list_pop mt_pop (pv 1)) (pg_sub (pv 2) (pe_ix ix_tup (pv 0) pe_int (fun _ _ => rfl)) set_list))) (pss_one (ps_if (pt_cmpR op_eq (pe_ix ix_tup (pv 0) pe_int (fun _ _ => rfl)) pe_str (nomark _)) (pss_one (ps_expr (pe_bm PySem.F.plainAttrs_list PySem.F.slot_list_append PySem.F.type_list_append mt_append (pv 3) (pa_cons (pe_bm0 PySem.F.plainAttrs_list PySem.F.slot_list_pop PySem.F.type_list_pop mt_pop (pv 1)) pa_nil)))) (pss_cons (ps_set (i := 4) sc_l_done.nd rfl (Or.inl rfl) (pe_bm0 PySem.F.plainAttrs_list PySem.F.slot_list_pop PySem.F.type_list_pop mt_pop (pv 1)))
    (pss_one (ps_expr (pe_bm PySem.F.plainAttrs_list PySem.F.slot_list_append PySem.F.type_list_append mt_append (pv 1) (pa_cons (pcal c_l_joined r_l_joined (by rfl) pass0 (pa_cons (pe_ix ix_tup (pv 0) pe_int (fun _ _ => rfl)) (pa_cons (pe_bm0 PySem.F.plainAttrs_list PySem.F.slot_list_pop PySem.F.type_list_pop mt_pop (pv 1)) (pa_cons (pv 4) pa_nil)))) pa_nil))))))))))))
    (pss_one (ps_ret (pe_or (pe_cmpR op_eq (pe_callB call_lenQ (by rfl) (g_len T) PySem.boot_len (pa_cons (pv 1) pa_nil)) pe_int (nomark _)) (pe_one (pe_cmpR op_isNotNo (pe_ix ix_list (pv 1) (pe_op op_subI (pe_callB call_lenQ (by rfl) (g_len T) PySem.boot_len (pa_cons (pv 1) pa_nil)) pe_int) (fun _ _ => rfl)) pe_non (nomark _)))))))
theorem sc_law : FnScope n_law ["_law_script"] (defScope s_law) := ⟨rfl, rfl, rfl, by decide +kernel, rfl, by decide +kernel, by decide +kernel⟩
theorem dv_law (T : Tx Z) {k_l_cell_at : Nat} {ps_l_cell_at : List Str} {sp_l_cell_at : Sp} (c_l_cell_at : Cal Z CX0 k_l_cell_at "_law_cell_at" ps_l_cell_at sp_l_cell_at) (h_l_cell_at : k_l_cell_at ≤ n) {k_l_number : Nat} {ps_l_number : List Str} {sp_l_number : Sp} (c_l_number : Cal Z CX0 k_l_number "_law_number" ps_l_number sp_l_number) (h_l_number : k_l_number ≤ n) {k_l_row : Nat} {ps_l_row : List Str} {sp_l_row : Sp} (c_l_row : Cal Z CX0 k_l_row "_law_row" ps_l_row sp_l_row) (h_l_row : k_l_row ≤ n) {k_l_done : Nat} {ps_l_done : List Str} {sp_l_done : Sp} (c_l_done : Cal Z CX0 k_l_done "_law_done" ps_l_done sp_l_done) (h_l_done : k_l_done ≤ n) {k_run : Nat} {ps_run : List Str} {sp_run : Sp} (c_run : Cal Z CX0 k_run "run" ps_run sp_run) (h_run : k_run ≤ n) {k_l_whole : Nat} {ps_l_whole : List Str} {sp_l_whole : Sp} (c_l_whole : Cal Z CX0 k_l_whole "_law_whole" ps_l_whole sp_l_whole) (h_l_whole : k_l_whole ≤ n) {sp : Sp} {fd : FuncData} (F : FunE Z.K "law" "law" s_law (He.fAd Z.K ("law", none)) fd) (len : ∀ vs H Q E, sp vs H Q E → vs.length = 1)
    (pure : ∀ (vs : List V) (H : Hp) (Q : VK) (E : XK), sp vs H Q E → t_law Z.K sp_l_cell_at sp_l_number sp_l_row sp_l_done sp_run sp_l_whole { nx := fun _ H' => Q .non H', rt := Q } (L2.start n_law vs) H) : FnR Z CX0 (n + 1) (He.ga Z.K "law") fd ["_law_script"] sp := by
  refine mkR (tb := t_law Z.K sp_l_cell_at sp_l_number sp_l_row sp_l_done sp_run sp_l_whole) F sc_law len (fun cdv A outer s H E hr => ?_) pure
  have r_l_cell_at := hr.mono h_l_cell_at
  have r_l_number := hr.mono h_l_number
  have r_l_row := hr.mono h_l_row
  have r_l_done := hr.mono h_l_done
  have r_run := hr.mono h_run
  have r_l_whole := hr.mono h_l_whole
  exact (pss_cons (ps_set (i := 1) sc_law.nd rfl (Or.inl rfl) (pcal c_l_cell_at r_l_cell_at (by rfl) pass0 (pa_cons (pv 0) (pa_cons pe_int pa_nil))))
    (pss_cons (ps_set (i := 2) sc_law.nd rfl (Or.inl rfl) (pcal c_l_number r_l_number (by rfl) pass0 (pa_cons (pcal c_l_cell_at r_l_cell_at (by rfl) pass0 (pa_cons (pv 0) (pa_cons pe_int pa_nil))) pa_nil)))
    (pss_cons (ps_set (i := 3) sc_law.nd rfl (Or.inl rfl) (pe_op op_cat (pe_lst (pa_cons (pv 2) pa_nil)) (pe_op op_rep (pe_lst (pa_cons pe_int pa_nil)) (pe_op op_modP (pv 1) pe_int))))
    (pss_cons (ps_set (i := 4) sc_law.nd rfl (Or.inl rfl) (pe_lst pa_nil))
    (pss_cons (ps_set (i := 5) sc_law.nd rfl (Or.inl rfl) (pe_lst pa_nil))
    (pss_cons (ps_set (i := 6) sc_law.nd rfl (Or.inl rfl) (pe_lst pa_nil))
    (pss_cons (ps_set (i := 7) sc_law.nd rfl (Or.inl rfl) pe_bl)
    (pss_cons (ps_for PassesOwn.never rfl (pi_list (pe_slice sl_list (pv 0) (po_some pe_int) po_none)) (pg_name (i := 8) sc_law.nd rfl (Or.inl rfl)) (pss_one (ps_if (pt_val (pv 7)) (pss_cons (ps_expr (pe_bm PySem.F.plainAttrs_list PySem.F.slot_list_append PySem.F.type_list_append mt_append (pv 4) (pa_cons (pcal c_l_row r_l_row (by rfl) pass0 (pa_cons (pv 8) (pa_cons (pe_callB call_lenQ (by rfl) (g_len T) PySem.boot_len (pa_cons (pv 5) pa_nil)) (pa_cons (pe_callB call_lenQ (by rfl) (g_len T) PySem.boot_len (pa_cons (pv 3) pa_nil)) pa_nil)))) pa_nil)))
    (pss_one (ps_set (i := 7) sc_law.nd rfl (Or.inl rfl) (pcal c_l_done r_l_done (by rfl) pass0 (pa_cons (pe_ix ix_list (pv 4) (pe_op op_subI (pe_callB call_lenQ (by rfl) (g_len T) PySem.boot_len (pa_cons (pv 4) pa_nil)) pe_int) (fun _ _ => rfl)) (pa_cons (pv 5) (pa_cons (pv 3) (pa_cons (pv 6) pa_nil)))))))) pss_nil)))
    (pss_cons (ps_expr (pe_bm PySem.F.plainAttrs_list PySem.F.slot_list_append PySem.F.type_list_append mt_append (pv 4) (pa_cons (pe_tup (pa_cons pe_str (pa_cons (pe_op op_modP (pe_op op_fdC (pv 1) pe_int) pe_int) pa_nil))) pa_nil)))
    (pss_cons (ps_expr (pe_bm PySem.F.plainAttrs_list PySem.F.slot_list_append PySem.F.type_list_append mt_append (pv 4) (pa_cons (pe_tup (pa_cons pe_str pa_nil)) pa_nil)))
    (pss_cons (ps_set (i := 9) sc_law.nd rfl (Or.inl rfl) (pe_lst pa_nil))
    (pss_cons (ps_if (pt_cmpR op_eq (pe_op op_modP (pe_op op_fdC (pv 1) pe_int) pe_int) pe_int (nomark _)) (pss_one (ps_expr (pe_bm PySem.F.plainAttrs_list PySem.F.slot_list_append PySem.F.type_list_append mt_append (pv 9) (pa_cons (pe_tup (pa_cons pe_int (pa_cons (pe_op op_subI (pe_callB call_lenQ (by rfl) (g_len T) PySem.boot_len (pa_cons (pv 4) pa_nil)) pe_int) (pa_cons (pe_op op_subI (pe_callB call_lenQ (by rfl) (g_len T) PySem.boot_len (pa_cons (pv 4) pa_nil)) pe_int) pa_nil)))) pa_nil)))) pss_nil)
    (pss_cons (ps_set (i := 10) sc_law.nd rfl (Or.inl rfl) (pe_tup (pa_cons pe_str (pa_cons (pe_op op_modP (pe_op op_fdC (pv 1) pe_int) pe_int) pa_nil))))
    (pss_cons (ps_if (pt_not (pt_val (pv 7))) (pss_one (ps_set (i := 10) sc_law.nd rfl (Or.inl rfl) (pe_ix ix_list (pe_lst (pa_cons (pe_tup (pa_cons pe_str (pa_cons pe_int pa_nil))) (pa_cons (pe_tup (pa_cons pe_str (pa_cons pe_int pa_nil))) pa_nil))) (pe_callB call_lenQ (by rfl) (g_len T) PySem.boot_len (pa_cons (pv 9) pa_nil)) (fun _ _ => rfl)))) pss_nil)
    (pss_cons (ps_set (i := 11) sc_law.nd rfl (Or.inl rfl) (pe_tup (pa_cons (pe_callTy call_listQ (by rfl) (g_list T) (by decide +kernel) (pa_cons (pv 4) pa_nil)) (pa_cons (pe_callTy call_listQ (by rfl) (g_list T) (by decide +kernel) (pa_cons (pv 9) pa_nil)) (pa_cons (pe_lst (pa_cons pe_int pa_nil)) (pa_cons (pe_op op_addI pe_int (pe_op op_modP (pv 1) pe_int)) pa_nil))))))
    (pss_cons (ps_set (i := 12) sc_law.nd rfl (Or.inl rfl) (pcal c_run r_run (by rfl) pass0 (pa_cons (pv 11) (pa_cons (pv 2) (pa_cons pe_int pa_nil)))))
    (pss_cons (ps_if (PW.pt (pw_or (pt_cmpR (op_neD hr.hu) (pe_ix ix_tup (pv 11) pe_int (fun _ _ => rfl)) (pv 4) (nomark _)) (pw_or (pt_cmpR (op_neD hr.hu) (pe_ix ix_tup (pv 11) pe_int (fun _ _ => rfl)) (pv 9) (nomark _)) (pw_or (pt_cmpR (op_neD hr.hu) (pe_ix ix_tup (pv 11) pe_int (fun _ _ => rfl)) (pe_lst (pa_cons pe_int pa_nil)) (nomark _)) (pw_or (pt_not (pt_val (pe_callB call_isi (by rfl) (g_isinstance T) (by decide +kernel) (pa_cons (pv 12) (pa_cons (pe_bltn (v := .ty "tuple") (by rfl) (g_tuple T) (by decide +kernel) rfl) pa_nil))))) (pw_or1 (pt_cmpR op_ne (pe_callB call_lenQ (by rfl) (g_len T) PySem.boot_len (pa_cons (pv 12) pa_nil)) pe_int (nomark _)))))))) (pss_one (ps_ret pe_bl)) pss_nil)
    (pss_cons (ps_if (PW.pt (pw_or (pt_not (pt_val (pe_callB call_isi (by rfl) (g_isinstance T) (by decide +kernel) (pa_cons (pe_ix ix_tup (pv 12) pe_int (fun _ _ => rfl)) (pa_cons (pe_bltn (v := .ty "list") (by rfl) (g_list T) (by decide +kernel) rfl) pa_nil))))) (pw_or (pt_cmpR op_gtI (pe_callB call_lenQ (by rfl) (g_len T) PySem.boot_len (pa_cons (pe_lc (own := [("_law_x", 13)]) (g := gName 13) (tt := (tNot (tB (tCall sp_l_whole [] E0 (tCons (tVar 13) tNil))))) rfl sc_law.nd (pi_list (pe_ix ix_tup (pv 12) pe_int (fun _ _ => rfl))) (blkOk_by (N := ["_law_script", "_law_first", "_law_given", "_law_boxes", "_law_code", "_law_pile", "_law_said", "_law_good", "_law_cell", "_law_stretches", "_law_due", "_law_parts", "_law_found", "_law_x"]) (sc := defScope s_law) (by decide +kernel)) (fun _ _ _ _ _ => pg_name (i := 13) sc_law.nd rfl (Or.inl rfl)) (fun _ _ _ _ _ => pts_one (pt_not (pt_val (pcal c_l_whole r_l_whole (by rfl) pass0 (pa_cons (pv 13) pa_nil))))) (fun _ _ _ _ _ => (pv 13))) pa_nil)) pe_int (nomark _)) (pw_or1 (pt_cmpR (op_neD hr.hu) (pe_ix ix_tup (pv 12) pe_int (fun _ _ => rfl)) (pv 6) (nomark _)))))) (pss_one (ps_ret pe_bl)) pss_nil)
    (pss_one (ps_ret (pe_and (pe_callB call_isi (by rfl) (g_isinstance T) (by decide +kernel) (pa_cons (pe_ix ix_tup (pv 12) pe_int (fun _ _ => rfl)) (pa_cons (pe_bltn (v := .ty "str") (by rfl) (g_str T) (by decide +kernel) rfl) pa_nil))) (pe_and (pcal c_l_whole r_l_whole (by rfl) pass0 (pa_cons (pe_ix ix_tup (pv 12) pe_int (fun _ _ => rfl)) pa_nil)) (pe_one (pe_cmpR (op_eqD hr.hu) (pe_tup (pa_cons (pe_ix ix_tup (pv 12) pe_int (fun _ _ => rfl)) (pa_cons (pe_ix ix_tup (pv 12) pe_int (fun _ _ => rfl)) pa_nil))) (pv 10) (nomark _)))))))))))))))))))))))))
end

section
variable {Z : Zt}
theorem ok_goal_of (T : Tx Z) : Cal Z CX0 1 "goal_of" ["stretches", "place"] (sp_goal_of Z.K) := dv_goal_of (n := 0) T (by walk_at "len") p_goal_of
theorem ok_Frame___init__ (T : Tx Z) : CalN Z CX0 1 "Frame" (He.ga Z.K "Frame") ["self", "place", "boxes", "number"] (sp_Frame___init__ Z.K) := dv_Frame___init__ (n := 0) T (by walk_at "len") p_Frame___init__
theorem ok_Frame_lay (T : Tx Z) : CalM Z CX0 1 (He.ga Z.K "Frame") "lay" ["self", "number"] (sp_Frame_lay Z.K) := dv_Frame_lay (n := 0) T (by walk_at "len") p_Frame_lay
theorem ok_Machine___init__ (T : Tx Z) : CalN Z CX0 3 "Machine" (He.ga Z.K "Machine") ["self", "parts", "number", "turns"] (sp_Machine___init__ Z.K) := dv_Machine___init__ (n := 2) T (ok_Frame___init__ T) (by decide) (by walk_at "len") p_Machine___init__
theorem ok_Machine_taken (T : Tx Z) : CalM Z CX0 1 (He.ga Z.K "Machine") "taken" ["self"] (sp_Machine_taken Z.K) := dv_Machine_taken (n := 0) T (by walk_at "len") p_Machine_taken
theorem ok_Machine_move (T : Tx Z) : CalM Z CX0 2 (He.ga Z.K "Machine") "move" ["self", "frame", "row"] (sp_Machine_move Z.K) := dv_Machine_move (n := 1) T (ok_Frame_lay T) (by decide) (by walk_at "len") p_Machine_move
theorem ok_Machine_jump (T : Tx Z) : CalM Z CX0 1 (He.ga Z.K "Machine") "jump" ["self", "frame", "row"] (sp_Machine_jump Z.K) := dv_Machine_jump (n := 0) T (by walk_at "len") p_Machine_jump
theorem ok_Machine_back (T : Tx Z) : CalM Z CX0 2 (He.ga Z.K "Machine") "back" ["self", "given"] (sp_Machine_back Z.K) := dv_Machine_back (n := 1) T (ok_Frame_lay T) (by decide) (by walk_at "len") p_Machine_back
theorem ok_Machine_fault (T : Tx Z) : CalM Z CX0 2 (He.ga Z.K "Machine") "fault" ["self", "number"] (sp_Machine_fault Z.K) := dv_Machine_fault (n := 1) T (ok_goal_of T) (by decide) (by walk_at "len") p_Machine_fault
theorem ok_Machine_meet (T : Tx Z) : CalM Z CX0 3 (He.ga Z.K "Machine") "meet" ["self", "frame", "word"] (sp_Machine_meet Z.K) := dv_Machine_meet (n := 2) T (ok_Frame_lay T) (by decide) (ok_Machine_fault T) (by decide) (by walk_at "len") p_Machine_meet
theorem ok_Machine_enter (T : Tx Z) : CalM Z CX0 3 (He.ga Z.K "Machine") "enter" ["self", "number", "given"] (sp_Machine_enter Z.K) := dv_Machine_enter (n := 2) T (ok_Machine_taken T) (by decide) (ok_Machine_fault T) (by decide) (ok_Frame___init__ T) (by decide) (by walk_at "len") p_Machine_enter
theorem ok_Machine_step (T : Tx Z) : CalM Z CX0 4 (He.ga Z.K "Machine") "step" ["self"] (sp_Machine_step Z.K) := dv_Machine_step (n := 3) T (ok_Machine_meet T) (by decide) (ok_Machine_move T) (by decide) (ok_Machine_jump T) (by decide) (ok_Machine_taken T) (by decide) (ok_Machine_enter T) (by decide) (ok_Machine_back T) (by decide) (ok_Machine_fault T) (by decide) (by walk_at "len") p_Machine_step
theorem ok_run (T : Tx Z) : Cal Z CX0 5 "run" ["parts", "number", "turns"] (sp_run Z.K) := dv_run (n := 4) T (ok_Machine___init__ T) (by decide) (ok_Machine_step T) (by decide) (by walk_at "len") p_run
theorem ok_l_whole (T : Tx Z) : Cal Z CX0 1 "_law_whole" ["_law_found"] (sp_l_whole Z.K) := dv_l_whole (n := 0) T (by walk_at "len") p_l_whole
theorem ok_l_cell_at (T : Tx Z) : Cal Z CX0 1 "_law_cell_at" ["_law_script", "_law_k"] (sp_l_cell_at Z.K) := dv_l_cell_at (n := 0) T (by walk_at "len") p_l_cell_at
theorem ok_l_number (T : Tx Z) : Cal Z CX0 1 "_law_number" ["_law_cell"] (sp_l_number Z.K) := dv_l_number (n := 0) T (by walk_at "len") p_l_number
theorem ok_l_row (T : Tx Z) : Cal Z CX0 2 "_law_row" ["_law_cell", "_law_high", "_law_boxes"] (sp_l_row Z.K) := dv_l_row (n := 1) T (ok_l_number T) (by decide) (by walk_at "len") p_l_row
theorem ok_l_joined (T : Tx Z) : Cal Z CX0 1 "_law_joined" ["_law_word", "_law_one", "_law_other"] (sp_l_joined Z.K) := dv_l_joined (n := 0) T (by walk_at "len") p_l_joined
theorem ok_l_done (T : Tx Z) : Cal Z CX0 2 "_law_done" ["_law_row_here", "_law_pile", "_law_boxes", "_law_said"] (sp_l_done Z.K) := dv_l_done (n := 1) T (ok_l_joined T) (by decide) (by walk_at "len") p_l_done
theorem ok_law (T : Tx Z) {fd : FuncData} (F : FunE Z.K "law" "law" s_law (He.fAd Z.K ("law", none)) fd) : FnR Z CX0 6 (He.ga Z.K "law") fd ["_law_script"] (spLaw Z.K) := dv_law (n := 5) T (ok_l_cell_at T) (by decide) (ok_l_number T) (by decide) (ok_l_row T) (by decide) (ok_l_done T) (by decide) (ok_run T) (by decide) (ok_l_whole T) (by decide) F (by walk_at "len") p_law
end

theorem g_law0 {K : PySem.W.Frag} {h : Heap} {mg : Str → Option Value} (KX : K.In h) (G : h.Ns mainGlobals mg) (c : He.SaysE fa fn K) : mg "law" = some (.ref (He.ga K "law")) := He.glo_ok KX G (c.fact 45 (f := .glo "law") rfl)


theorem fin {w : World} {K : PySem.W.Frag} {h : Heap} {mg : Str → Option Value} (KX : K.In h) (G : h.Ns mainGlobals mg) (c : He.SaysE fa fn K) {fl : Addr} (hmg : mg "law" = some (.ref fl)) :
    ∃ (K : PySem.W.Frag) (fd : FuncData) (sp : Sp), K.In h ∧ (∀ (s : Shared) (u : Value), BindsTo s fd ⟨[u], []⟩ [("_law_script", u)]) ∧
      (∀ (H : Hp) (a : Addr) (ns : List Int), ns.length ≤ 63 → Only H → SqL K H a (ns.map V.int) → sp [.ref a] H (fun v _ => v = .bl true) fun _ _ _ => False) ∧
      ∀ base : Heap, K.In base → base.Ns mainGlobals mg → base.NoSeer → U.FnR ⟨(PySem.Challenge.rw_unwind_k03_plain_rows).prog, w, K, mg, base⟩ CX0 6 fl fd ["_law_script"] sp := by
  have e0 := hmg.symm.trans (g_law0 KX G c)
  cases e0
  obtain ⟨fd, F⟩ := fun_of (Z := ⟨PySem.Challenge.pw_unwind_k03_plain_rows, w, K, mg, h⟩) (f := He.fAd K ("law", none)) (x := "law") (qual := "law") (st := s_law) (c.def_ 19 (d := d_law) rfl)
  refine ⟨K, fd, spLaw K, KX, fun s u => ?_, fun H a ns hl _ hS => ⟨a, ns, rfl, hS, hl, fun _ => rfl⟩, fun base KB GB NB => ?_⟩
  · obtain ⟨oc, od, kV, doc, pm, an, cdv, ct, osl, rfl, _, _⟩ := F.ex
    exact .of_eq rfl
  · have T : Tx ⟨(PySem.Challenge.rw_unwind_k03_plain_rows).prog, w, K, mg, base⟩ := ⟨c, KB, GB, NB, rfl⟩
    exact ok_law T F


end Lw
open PySem PySem.W PySem.Calls PyProof.Rows
set_option maxRecDepth 100000 in
set_option maxHeartbeats 0 in
theorem PySem.Challenge.cw_unwind_k03_plain_rows_holds : PySem.Challenge.rw_unwind_k03_plain_rows.Holds := by
  w_on; o_law
  refine HandSHeadRun.head_any (r := OpenLaw.row PySem.Challenge.rw_unwind_k03_plain_rows) (q := view (OpenLaw.row PySem.Challenge.rw_unwind_k03_plain_rows).prog [15]) (H := Lw.hk) (ob := Lw.ob) (M := 30000) (loose := Lw.loose) (d := HandSHeadRun.topDef (OpenLaw.row PySem.Challenge.rw_unwind_k03_plain_rows).prog 15) (kwd := []) Lw.ob_eq
    (by kernel_rfl) (fun s => by kernel_rfl) Lw.run (by kernel_rfl) (by kernel_rfl) (by kernel_rfl) (by rfl) (by first | assumption | decide +kernel) (by decide +kernel) ⟨rfl, rfl, rfl, rfl, rfl, by decide +kernel⟩ ?hw ?hc
  case hw => w_witness2
  case hc =>
    refine U.walkU (l := PySem.Challenge.rw_unwind_k03_plain_rows) (n := 6) (x := "_law_script") rfl (by kernel_rfl) (by decide +kernel) (by decide) ?F
    intro w mg fa h Y G hmg0
    obtain ⟨K, KX, c⟩ := Y
    have e : (HandSHeadRun.topDef (OpenLaw.row PySem.Challenge.rw_unwind_k03_plain_rows).prog 15).name = ("law" : PySem.Str) := by kernel_rfl
    have hmg : mg ("law" : PySem.Str) = some (.ref fa) := by
      rw [← e]
      exact hmg0
    exact Lw.fin (w := w) KX G c hmg


