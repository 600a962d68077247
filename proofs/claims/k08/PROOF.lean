import PyProof.Rows.All
import Wide.All
import OpenK.AllK
import Wide.FinOn
import HandS.ForMost
import HandS.IsInst
import HandS.HeadHook1
import PyProof.NoPylong
import HandS.Head0
import HandS.Head1
import HandS.Head2
import HandS.HeadEnd
import HandS.Small
import PySem.Challenge.RW_unwind_k08_told_by_hand
set_option Elab.async false
set_option linter.all false
set_option maxRecDepth 100000
set_option maxHeartbeats 4000000
namespace U
open PySem PySem.Spec PyProof.Rows L2

/-! ### room: one frame a level -/
structure Rm (n : Nat) (A : Around) : Prop where
  noh : A.handled = none
  fr : A.depth + n + 105 < recursionLimit
  cu : A.units + 4 * n + 400 < cLine
theorem Rm.mono {m n : Nat} {A : Around} (r : Rm n A) (h : m ≤ n) : Rm m A :=
  ⟨r.noh, by have q := r.fr; omega, by have q := r.cu; omega⟩
theorem Rm.down {n : Nat} {A : Around} (r : Rm (n + 1) A) (env : Env) : Rm n (A.deeper env) := by
  refine ⟨r.noh, ?_, ?_⟩
  · have q := r.fr
    show A.depth + 1 + n + 105 < _
    omega
  · have q := r.cu
    show A.units + 3 + 4 * n + 400 < _
    omega
theorem Rm.mk_ {n : Nat} {A : Around} (r : Rm (n + 1) A) (C : Addr) (us : List Value) (kw : List (Str × Value)) :
    Rm n (A.under (.builtin "type.__call__" ⟨.ref C :: us, kw⟩)) := by
  refine ⟨r.noh, ?_, ?_⟩
  · have q := r.fr
    rw [make_depth]
    omega
  · have q := r.cu
    rw [make_units]
    omega
theorem Rm.rm {n : Nat} {A : Around} (r : Rm n A) : Room 6 A :=
  ⟨r.noh, by have q := r.fr; omega, by have q := r.cu; omega⟩
theorem Rm.dep {n : Nat} {A : Around} (r : Rm n A) : A.depth < recursionLimit := by
  have q := r.fr
  omega
theorem Rm.hu {n : Nat} {A : Around} (r : Rm n A) : A.units + 64 < cLine := by
  have q := r.cu
  omega

/-! ### the surroundings of a text -/
structure Zt where
  P : Program
  w : World
  K : PySem.W.Frag
  mg : Str → Option Value
  base : Heap

/-- a def that keeps its promise wherever n more frames have room -/
structure FnR (Z : Zt) (CX : CXT) (n : Nat) (f : Addr) (fd : FuncData) (ps : List Str) (sp : Sp) : Prop where
  len : ∀ vs H Q E, sp vs H Q E → vs.length = ps.length
  run : ∀ (A : Around) (outer : List Env) (s : Shared) (H : Hp) (args : Args) (us : List Value) (vs : List V) (Q : VK) (E : XK),
    Rm n A → Env0 Z.P Z.w Z.K Z.mg Z.base A outer s H → BindsTo s fd args (ps.zip us) → Vals vs us → sp vs H Q E →
      codeAny (model Z.P Z.w) A (.call (.ref f) args) (CR CX outer Z.P Z.w H s Q E) s

theorem FnR.up {Z : Zt} {CX : CXT} {m n : Nat} {f : Addr} {fd : FuncData} {ps : List Str} {sp : Sp} (F : FnR Z CX m f fd ps sp) (h : m ≤ n) : FnR Z CX n f fd ps sp :=
  ⟨F.len, fun A outer s H args us vs Q E hr => F.run A outer s H args us vs Q E (hr.mono h)⟩

theorem FnR.toOk {Z : Zt} {CX : CXT} {n : Nat} {f : Addr} {fd : FuncData} {ps : List Str} {sp : Sp} (F : FnR Z CX n f fd ps sp) (h : n ≤ 500) :
    FnOk Z.P Z.w Z.K Z.mg Z.base CX 231 f fd ps sp := by
  refine ⟨F.len, fun A outer s H args us vs Q E hr => F.run A outer s H args us vs Q E ⟨hr.hd, ?_, ?_⟩⟩
  · have q := hr.dp
    omega
  · have q := hr.un
    omega

section
variable {X : Cx} {CX : CXT} {n : Nat} {f C : Addr} {fd : FuncData} {ps : List Str} {sp : Sp} {E : XK}

theorem runR {pins : List (Addr × Obj)} {σ : L2.St} {H : Hp} {s : Shared} {Q : VK} {us : List Value} {vs : List V} (F : FnR ⟨X.prog, X.w, X.K, X.mg, X.base⟩ CX n f fd ps sp) (hr : Rm n X.A)
    (hb : L2.Binds X.K fd ps []) (hx : Passes CX X E) (I : Inv X pins σ H s) (r : Vals vs us) (h : sp vs H Q E) :
    wpAny (model X.prog X.w) X.A (call (.ref f) us) (EP X pins σ Q) X.xe s := by
  have hlen : (us ++ []).length = ps.length := by
    rw [List.append_nil, ← r.length]
    exact F.len _ _ _ _ h
  have hbind := hb s us I.kIn hlen
  rw [List.append_nil] at hbind
  refine wpAny_call (codeAny_mono (F.run X.A X.stack s H ⟨us, []⟩ us vs Q E hr I.env0 hbind r h) fun res s' hq => ?_)
  match res, hq with
  | .error e, hq => exact hx pins σ H s e s' I hq
  | .ok (.ret u), hq => exact I.after hq
  | .ok .next, hq => exact hq.elim
  | .ok .brk, hq => exact hq.elim
  | .ok .cont, hq => exact hq.elim

theorem runMk {pins : List (Addr × Obj)} {σ : L2.St} {H : Hp} {s : Shared} {Q : VK} {us : List Value} {vs : List V} (M : Mk X.K C f) (F : FnR ⟨X.prog, X.w, X.K, X.mg, X.base⟩ CX n f fd ps sp) (hr : Rm (n + 1) X.A)
    (hb : L2.Binds X.K fd ps []) (hx : Passes CX X E) (I : Inv X pins σ H s) (r : Vals vs us)
    (h : ∀ x dx, H x = none → H dx = none → dx ≠ x → sp (.ref x :: (vs ++ [])) (upd (upd H dx (.own x)) x (.ins C dx [])) (fun v H2 => v = .non ∧ Q (.ref x) H2) E) :
    wpAny (model X.prog X.w) X.A (call (.ref C) us) (EP X pins σ Q) X.xe s := by
  have h1 := h (s.heap.objs.size + 1) s.heap.objs.size (I.hok.fresh (Nat.le_succ _)) (I.hok.fresh (Nat.le_refl _)) (Nat.ne_of_lt (Nat.lt_succ_self _))
  rw [List.append_nil] at h1
  have J := Inv.made (C := C) I
  have rr : Vals (V.ref (s.heap.objs.size + 1) :: vs) (Value.ref (s.heap.objs.size + 1) :: us) := .cons rfl r
  have hlen : ((Value.ref (s.heap.objs.size + 1) :: us) ++ []).length = ps.length := by
    rw [List.append_nil, ← rr.length]
    exact F.len _ _ _ _ h1
  have hbind := hb (Shared.mk _ _ _ _ _) (Value.ref (s.heap.objs.size + 1) :: us) J.kIn hlen
  rw [List.append_nil] at hbind
  refine wpAny_call (make_map (f := f) I.kIn M.makes M.init (beq_iff_eq.mp M.fn) (codeAny_mono (F.run _ X.stack _ _ ⟨Value.ref (s.heap.objs.size + 1) :: us, []⟩ _ _ _ E (hr.mk_ C us [])
    (J.env0.make C us []) hbind rr h1) fun res s' hq => ?_))
  match res, hq with
  | .error e, hq => exact hx pins σ _ _ e s' J hq
  | .ok (.ret u), hq =>
    obtain ⟨v, H', I3, rv, ev, q3⟩ := J.after hq
    subst ev
    exact ⟨rv, ⟨V.ref (s.heap.objs.size + 1), H', I3, rfl, q3⟩⟩
  | .ok .next, hq => exact hq.elim
  | .ok .brk, hq => exact hq.elim
  | .ok .cont, hq => exact hq.elim
end
end U

set_option maxHeartbeats 4000000
namespace U
open PySem PySem.Spec PyProof.Rows L2

/-! ### what may be called by name, as a method, as a class -/
structure Cal (Z : Zt) (CX : CXT) (n : Nat) (x : Str) (ps : List Str) (sp : Sp) : Prop where
  ex : ∃ f fd, Z.mg x = some (.ref f) ∧ PySem.W.keepIn Z.K (.ref f) = true ∧ L2.Binds Z.K fd ps [] ∧ FnR Z CX n f fd ps sp
structure CalM (Z : Zt) (CX : CXT) (n : Nat) (C : Addr) (m : Str) (ps : List Str) (sp : Sp) : Prop where
  ex : ∃ f fd, Meth Z.K C m f ∧ L2.Binds Z.K fd ps [] ∧ FnR Z CX n f fd ps sp
structure CalN (Z : Zt) (CX : CXT) (n : Nat) (x : Str) (C : Addr) (ps : List Str) (sp : Sp) : Prop where
  ex : ∃ f fd, Mk Z.K C f ∧ Z.mg x = some (.ref C) ∧ L2.Binds Z.K fd ps [] ∧ FnR Z CX n f fd ps sp

theorem Cal.up {Z : Zt} {CX : CXT} {m n : Nat} {x : Str} {ps : List Str} {sp : Sp} (c : Cal Z CX m x ps sp) (h : m ≤ n) : Cal Z CX n x ps sp := by
  obtain ⟨f, fd, h1, h2, h3, h4⟩ := c.ex
  exact ⟨f, fd, h1, h2, h3, h4.up h⟩
theorem CalM.up {Z : Zt} {CX : CXT} {m n : Nat} {C : Addr} {x : Str} {ps : List Str} {sp : Sp} (c : CalM Z CX m C x ps sp) (h : m ≤ n) : CalM Z CX n C x ps sp := by
  obtain ⟨f, fd, h1, h3, h4⟩ := c.ex
  exact ⟨f, fd, h1, h3, h4.up h⟩
theorem CalN.up {Z : Zt} {CX : CXT} {m n : Nat} {C : Addr} {x : Str} {ps : List Str} {sp : Sp} (c : CalN Z CX m x C ps sp) (h : m ≤ n) : CalN Z CX n x C ps sp := by
  obtain ⟨f, fd, h1, h2, h3, h4⟩ := c.ex
  exact ⟨f, fd, h1, h2, h3, h4.up h⟩

section
variable {X : Cx} {CX : CXT} {n : Nat} {C : Addr} {ps : List Str} {sp : Sp} {E : XK} {x m : Str} {p pos apos : Pos} {e o : Expr} {es : List Expr} {ta : TE} {t : TA}

theorem pcal (c : Cal ⟨X.prog, X.w, X.K, X.mg, X.base⟩ CX n x ps sp) (hr : Rm n X.A) (hg : Gl X x) (hx : Passes CX X E) (ha : PA X (e :: es) t)
    (hdb : (x == ("__debug__" : Str)) = false := by decide) (he : starEach (e :: es) X.env = (false, eval e X.env) :: starEach es X.env := by rfl)
    (hpl : (backTo pos (starEach es X.env)).any (·.1) = false := by rfl) : PE X (.Call (.Name x p) (e :: es) [] pos) (tCall sp [] E t) := by
  obtain ⟨f, fd, hm, hk, hb, F⟩ := c.ex
  constructor
  intro pins s σ H Q I h
  apply wpAny_Call_Name_kw
  apply ld_glob I hg hm _ hdb
  refine PySem.W.callWith_K (h₀ := X.base) I.ok.mod.kin hk ?_ he hpl
  refine thn (ha.run pos pins s σ H _ I h) ?_
  rintro us s1 ⟨vs, H1, I1, r, q⟩
  refine ⟨I1.kIn, ?_⟩
  have q' : sp (vs ++ []) H1 Q E := q
  rw [List.append_nil] at q'
  exact runR F hr hb hx I1 r q'

theorem pcal0 (c : Cal ⟨X.prog, X.w, X.K, X.mg, X.base⟩ CX n x ps sp) (hr : Rm n X.A) (hg : Gl X x) (hx : Passes CX X E)
    (hdb : (x == ("__debug__" : Str)) = false := by decide) : PE X (.Call (.Name x p) [] [] pos) (tCall sp [] E tNil) := by
  obtain ⟨f, fd, hm, hk, hb, F⟩ := c.ex
  constructor
  intro pins s σ H Q I h
  apply wpAny_Call_Name_kw
  apply ld_glob I hg hm _ hdb
  exact PySem.W.callWith_K0 I.kIn hk (runR (us := []) F hr hb hx I .nil h)

theorem pmet {pl : Sem Bool} (he : PE X o ta) (cl : Cls X.K C) (c : CalM ⟨X.prog, X.w, X.K, X.mg, X.base⟩ CX n C m ps sp) (hr : Rm n X.A) (hx : Passes CX X E) (ha : PA X (e :: es) t)
    (hst : starEach (e :: es) X.env = (false, eval e X.env) :: starEach es X.env := by rfl) (hpl : (backTo pos (starEach es X.env)).any (·.1) = false := by rfl)
    (ht : eval (.Call (.Attribute o m apos) (e :: es) [] pos) X.env = (do
      let ov ← eval o X.env; standAt apos.atName
      let (f, first) ← holding [ov] (getMethod ov m pl)
      callWith pos f first (backTo pos (starEach (e :: es) X.env)) (backToKw pos (keywordEach [] X.env))) := by rfl) :
    PE X (.Call (.Attribute o m apos) (e :: es) [] pos) (tMeth C m sp [] E ta t) := by
  obtain ⟨f, fd, hm, hb, F⟩ := c.ex
  constructor
  intro pins s σ H Q I h
  refine PySem.W.methodCall_KW (pl := pl) (thn (he.run pins s σ H _ I h) ?_) ht
  rintro u s1 ⟨y, H1, I1, ry, a, dx, fs, ey, ea, l, q⟩
  subst ey
  obtain rfl : u = Value.ref a := ry
  refine getmeth_ok I1 ea cl hm l ?_
  refine PySem.W.callWith_K (first := [.ref a]) (h₀ := X.base) I.ok.mod.kin hm.kp (thn (ha.run pos pins s1 σ H1 _ I1 q) ?_) hst hpl
  rintro us s2 ⟨vs, H2, I2, r, q2⟩
  refine ⟨I2.kIn, ?_⟩
  have q' : sp (.ref a :: (vs ++ [])) H2 Q E := q2
  rw [List.append_nil] at q'
  exact runR (us := .ref a :: us) (vs := .ref a :: vs) F hr hb hx I2 (.cons rfl r) q'

theorem pmet0 {pl : Sem Bool} (he : PE X o ta) (cl : Cls X.K C) (c : CalM ⟨X.prog, X.w, X.K, X.mg, X.base⟩ CX n C m ps sp) (hr : Rm n X.A) (hx : Passes CX X E)
    (ht : eval (.Call (.Attribute o m apos) [] [] pos) X.env = (do
      let ov ← eval o X.env; standAt apos.atName
      let (f, first) ← holding [ov] (getMethod ov m pl)
      callWith pos f first (backTo pos (starEach [] X.env)) (backToKw pos (keywordEach [] X.env))) := by rfl) :
    PE X (.Call (.Attribute o m apos) [] [] pos) (tMeth C m sp [] E ta tNil) := by
  obtain ⟨f, fd, hm, hb, F⟩ := c.ex
  constructor
  intro pins s σ H Q I h
  refine PySem.W.methodCall_KW (pl := pl) (thn (he.run pins s σ H _ I h) ?_) ht
  rintro u s1 ⟨y, H1, I1, ry, a, dx, fs, ey, ea, l, q⟩
  subst ey
  obtain rfl : u = Value.ref a := ry
  refine getmeth_ok I1 ea cl hm l ?_
  exact PySem.W.callWith_K0 (first := [.ref a]) I1.kIn hm.kp (runR (us := [.ref a]) (vs := [.ref a]) F hr hb hx I1 (.cons rfl .nil) q)

theorem pmak (c : CalN ⟨X.prog, X.w, X.K, X.mg, X.base⟩ CX n x C ps sp) (hr : Rm (n + 1) X.A) (hg : Gl X x) (hx : Passes CX X E) (ha : PA X (e :: es) t)
    (hdb : (x == ("__debug__" : Str)) = false := by decide) (he : starEach (e :: es) X.env = (false, eval e X.env) :: starEach es X.env := by rfl)
    (hpl : (backTo pos (starEach es X.env)).any (·.1) = false := by rfl) : PE X (.Call (.Name x p) (e :: es) [] pos) (tMake C sp [] E t) := by
  obtain ⟨f, fd, M, hm, hb, F⟩ := c.ex
  constructor
  intro pins s σ H Q I h
  apply wpAny_Call_Name_kw
  apply ld_glob I hg hm _ hdb
  refine PySem.W.callWith_K (h₀ := X.base) I.ok.mod.kin M.kp ?_ he hpl
  refine thn (ha.run pos pins s σ H _ I h) ?_
  rintro us s1 ⟨vs, H1, I1, r, q⟩
  exact ⟨I1.kIn, runMk M F hr hb hx I1 r q⟩

theorem pmak0 (c : CalN ⟨X.prog, X.w, X.K, X.mg, X.base⟩ CX n x C ps sp) (hr : Rm (n + 1) X.A) (hg : Gl X x) (hx : Passes CX X E)
    (hdb : (x == ("__debug__" : Str)) = false := by decide) : PE X (.Call (.Name x p) [] [] pos) (tMake C sp [] E tNil) := by
  obtain ⟨f, fd, M, hm, hb, F⟩ := c.ex
  constructor
  intro pins s σ H Q I h
  apply wpAny_Call_Name_kw
  apply ld_glob I hg hm _ hdb
  exact PySem.W.callWith_K0 I.kIn M.kp (runMk (us := []) M F hr hb hx I .nil h)

/-- // by any number but 0, in a def's own frame -/
def rFd : R2 := fun x y H Q => ∃ i j, x = .int i ∧ y = .int j ∧ j ≠ 0 ∧ Q (.int (i.fdiv j)) H
end

/-! ### a def by its body -/
structure FunE (K : PySem.W.Frag) (x qual : Str) (st : Stmt) (f : Addr) (fd : FuncData) : Prop where
  ex : ∃ (oc : Value) (od : Option Addr) (kV doc pm : Value) (an : Option Addr) (cdv ct : Value) (osl : Array (Option Value)),
    fd = PySem.W.fnOf x qual (defArgs st) (defBody st) (defScope st) .none kV doc pm an cdv ct ∧ K.lookup f = some ⟨oc, od, .func fd, osl⟩ ∧ PySem.W.codeIn K cdv qual = true
theorem FunE.binds {K : PySem.W.Frag} {x qual : Str} {st : Stmt} {f : Addr} {fd : FuncData} {ps : List Str} (F : FunE K x qual st f fd)
    (h : ∀ (kV doc pm : Value) (an : Option Addr) (cdv ct : Value) (us : List Value), us.length = ps.length → bindArgs (PySem.W.fnOf x qual (defArgs st) (defBody st) (defScope st) .none kV doc pm an cdv ct) ⟨us, []⟩ = pure (ps.zip us)) : L2.Binds K fd ps [] := by
  obtain ⟨oc, od, kV, doc, pm, an, cdv, ct, osl, rfl, lk, hcd⟩ := F.ex
  exact .all (h kV doc pm an cdv ct)
section
variable {Z : Zt} {x qual : Str} {st : Stmt} {f : Addr} {fd : FuncData} {N ps : List Str} {n : Nat} {sp : Sp}
theorem mkR0 {CX : CXT} (F : FunE Z.K x qual st f fd) (S : FnScope N ps (defScope st)) (len : ∀ vs H Q E, sp vs H Q E → vs.length = ps.length)
    (hbody : ∀ (cdv : Value) (A : Around) (outer : List Env) (s : Shared) (H : Hp) (vs : List V) (Q : VK) (E : XK), Rm n (A.deeper (envOfC qual (defScope st) s.heap.objs.size f cdv)) → sp vs H Q E →
      ∃ t, PSs (cxOf CX Z.P Z.w Z.K Z.mg Z.base N qual (defScope st) f cdv A outer s H E) (defBody st) t ∧ t { nx := fun _ H' => Q .non H', rt := Q } (start N vs) H) :
    FnR Z CX (n + 1) f fd ps sp := by
  obtain ⟨oc, od, kV, doc, pm, an, cdv, ct, osl, rfl, lk, hcd⟩ := F.ex
  refine ⟨len, fun A outer s H args us vs Q E hr e0 hb r hsp => ?_⟩
  have hl := len _ _ _ _ hsp
  have kx : Z.K.In s.heap := e0.mod.kin.keeps fun b o e => (e0.bs b o e).1
  have nl : s.heap.NoLimit := e0.mod.nolimit.keeps fun b o e => (e0.bs b o e).1
  refine codeAny_call_function hr.dep (kx _ _ lk) rfl S.co S.gen rfl (PySem.W.codeRec_of kx hcd) (hb _ _ _ _ ?_)
  refine wpAny_newFunctionEnv_cells S.kind ?_ ?_
  · rintro ⟨y, v⟩ hy
    rcases S.par y (List.of_mem_zip hy).1 with q | q
    · exact .inl q
    · exact .inr ⟨q, PySem.W.cellsFrom_some _ _ _ (.inl q)⟩
  · intro env he s1 hin
    subst he
    refine ⟨nl.keeps hin.toInCall.keep, codeAny_func ?_⟩
    obtain ⟨t, ht, hq⟩ := hbody cdv A outer s H vs Q E (hr.down _) hsp
    have I := inv_start (CX := CX) (E := E) S hr.noh e0 hl r hin
    refine wpAny_mono (ht.run [] s1 (start N vs) H _ I hq) ?_ fun e s' hs => hs
    intro fl s' hs
    match fl, hs with
    | .ret u, hs =>
      obtain ⟨v, σ', H', J, rv, q⟩ := hs
      exact ⟨v, H', J.os, J.bare, J.base, J.hok, rv, q⟩
    | .next, hs =>
      obtain ⟨σ', H', J, q⟩ := hs
      exact ⟨V.non, H', J.os, J.bare, J.base, J.hok, rfl, q⟩
    | .brk, hs =>
      obtain ⟨_, _, _, q⟩ := hs
      exact q.elim
    | .cont, hs =>
      obtain ⟨_, _, _, q⟩ := hs
      exact q.elim

/-- nothing leaves it by an exception -/
theorem mkR {tb : TS} (F : FunE Z.K x qual st f fd) (S : FnScope N ps (defScope st)) (len : ∀ vs H Q E, sp vs H Q E → vs.length = ps.length)
    (hbody : ∀ (cdv : Value) (A : Around) (outer : List Env) (s : Shared) (H : Hp) (E : XK), Rm n (A.deeper (envOfC qual (defScope st) s.heap.objs.size f cdv)) →
      PSs (cxOf CX0 Z.P Z.w Z.K Z.mg Z.base N qual (defScope st) f cdv A outer s H E).nox (defBody st) tb)
    (pure : ∀ (vs : List V) (H : Hp) (Q : VK) (E : XK), sp vs H Q E → tb { nx := fun _ H' => Q .non H', rt := Q } (start N vs) H) :
    FnR Z CX0 (n + 1) f fd ps sp :=
  mkR0 F S len fun cdv A outer s H vs Q E hr h => ⟨tb, (hbody cdv A outer s H E hr).nox, pure vs H Q E h⟩

theorem fun_of (F : ∃ oc od osl kV doc pm an cdv ct, Z.K.lookup f = some ⟨oc, od, .func (PySem.W.fnOf x qual (defArgs st) (defBody st) (defScope st) .none kV doc pm an cdv ct), osl⟩ ∧ PySem.W.codeIn Z.K cdv qual = true) :
    ∃ fd, FunE Z.K x qual st f fd := by
  obtain ⟨oc, od, osl, kV, doc, pm, an, cdv, ct, h1, h2⟩ := F
  exact ⟨_, ⟨oc, od, kV, doc, pm, an, cdv, ct, osl, rfl, h1, h2⟩⟩
end
end U

set_option maxHeartbeats 4000000
namespace U
open PySem PySem.Spec PyProof.Rows L2

/-! ### // by any number but 0 -/
theorem op_fdZ {X : Cx} {m : Nat} (hN : X.base.NoSeer) (ht : X.prog.given.tree = none) (hst : X.stack = X.env :: X.outer) (hgn : X.env.scope.isGenerator = false) (hco : X.env.scope.isCoroutine = false)
    (hr : Rm m X.A) : OpR X (binaryOp .FloorDiv) rFd := by
  intro pins s σ H x y v u Q I rx ry h
  obtain ⟨i, j, rfl, rfl, hj, q⟩ := h
  obtain ⟨t, rfl⟩ := rx
  obtain ⟨t', rfl⟩ := ry
  refine floordiv_int hj ?_ (.inr (PylongRoom.of I.nolimit ?_ ?_))
  · exact ⟨.int (i.fdiv j), H, I.tok _, ⟨_, rfl⟩, q⟩
  · have z := hr.fr
    have e : Builtin.pylongFrames = 100 := rfl
    omega
  · exact SeerAt.of (hN.keeps I.bk) ht (by rw [I.ok.frames, hst]) hgn hco I.ok.blt I.ok.glob

/-! ### the law's call -/
def scriptAt (a : Addr) (vs : List Value) (ns : List Int) : Hp := fun b => if b = a then some (.frz { cls := .type "list", data := .seq vs.toArray } (.lst (ns.map V.int))) else none

theorem callU {P : Program} {w : World} {K : PySem.W.Frag} {mg mb : Str → Option Value} {n : Nat} {fa a : Addr} {fd : FuncData} {x : Str} {sp : Sp} {s : Shared} {vs : List Value} {ns : List Int}
    (kx : K.In s.heap) (hns : s.heap.Ns mainGlobals mg) (hb : s.heap.Ns builtinsNs mb) (hbb : ∀ x : Str, x ≠ "__name__" → mb x = bootBuiltins x) (hlim : s.heap.NoLimit) (hsee : s.heap.NoSeer) (hg : s.gens = #[])
    (ha : s.heap.get? a = some { cls := .type "list", data := .seq vs.toArray }) (hi : IntsAre vs ns) (hl : ns.length ≤ sizeLine) (hr : Rm n callerA)
    (F : ∀ base : Heap, K.In base → base.Ns mainGlobals mg → base.NoSeer → FnR ⟨P, w, K, mg, base⟩ CX0 n fa fd [x] sp) (hbind : ∀ (s : Shared) (u : Value), BindsTo s fd ⟨[u], []⟩ [(x, u)])
    (hsp : ∀ H : Hp, Only H → SqL K H a (ns.map V.int) → sp [.ref a] H (fun v _ => v = .bl true) fun _ _ _ => False) :
    codeAny (model P w) callerA (.call (.ref fa) ⟨[.ref a], []⟩) (fun r s' => r = .ok (.ret (.bool true)) ∧ OldK s.heap s'.heap ∧ s'.os = s.os ∧ AllBare s'.gens) s := by
  have rv := vals_ints hi
  have main : ∀ H : Hp, Only H → SqL K H a (ns.map V.int) → HOk P w H s.heap → (∀ b, H b ≠ none → b = a) → (H a ≠ none → K.lookup a = none) →
      codeAny (model P w) callerA (.call (.ref fa) ⟨[.ref a], []⟩) (fun r s' => r = .ok (.ret (.bool true)) ∧ OldK s.heap s'.heap ∧ s'.os = s.os ∧ AllBare s'.gens) s := by
    intro H hO hS hok only notK
    have free : ∀ {b : Addr} {o : Obj}, s.heap.get? b = some o → (∀ n', o.data ≠ .seq vs.toArray n') → H b = none := by
      intro b o e d
      by_cases z : H b = none
      · exact z
      · have eb := only b z
        subst eb
        rw [ha] at e
        cases e
        exact absurd rfl (d _)
    have freeD : ∀ {b : Addr} {o : Obj} {es : Array DictEntry} {ep : Nat}, s.heap.get? b = some o → o.data = .dict es ep → H b = none := by
      intro b o es ep e d
      refine free e fun n' z => ?_
      rw [d] at z
      cases z
    have ns' : ∀ {b : Addr} {m : Str → Option Value}, s.heap.Ns b m → (hidT s.heap H).Ns b m := by
      rintro b m ⟨o, es, ep, e, d, r⟩
      exact ⟨o, es, ep, hidT_get e (freeD e d), d, r⟩
    have kb : K.In (hidT s.heap H) := by
      intro b o e
      refine hidT_get (kx b o e) ?_
      by_cases z : H b = none
      · exact z
      · have eb := only b z
        subst eb
        rw [notK z] at e
        cases e
    have seer : (hidT s.heap H).NoSeer := by
      obtain ⟨mc, c1, c2⟩ := hsee.statics
      obtain ⟨mm, m1, m2⟩ := hsee.mods
      obtain ⟨m3, m4, m5⟩ := hsee.imp
      obtain ⟨mg', bm, ob, g1, g2, g3, g4, g5⟩ := hsee.main
      refine ⟨⟨mc, ns' c1, c2⟩, ⟨mm, ns' m1, m2⟩, ⟨m3, ns' m4, m5⟩, ⟨mg', bm, ob, ns' g1, g2, hidT_get g3 ?_, g4, g5⟩⟩
      by_cases z : H bm = none
      · exact z
      · have eb := only bm z
        subst eb
        rw [ha] at g3
        injection g3 with g3
        rw [← g3] at g4
        simp at g4
    have md : Mod K mg (hidT s.heap H) := by
      obtain ⟨mc, l1, l2⟩ := hlim
      exact ⟨kb, ns' hns, ⟨mb, ns' hb, hbb⟩, ⟨mc, ns' l1, l2⟩⟩
    have e0 : Env0 P w K mg (hidT s.heap H) callerA [] s H :=
      ⟨rfl, md, fun b o e => of_hidT e, Nat.le_of_eq (hidT_size _ _), trivial, fun b hb => (by cases hb), hok, .of_eq hg⟩
    refine codeAny_mono ((F _ kb (ns' hns) seer).run callerA [] s H ⟨[.ref a], []⟩ [.ref a] [.ref a] _ _ hr e0 (hbind s (.ref a)) (.cons rfl .nil) (hsp H hO hS)) ?_
    intro r s' h
    match r, h with
    | .error e, h => exact h.elim
    | .ok .next, h => exact h.elim
    | .ok .brk, h => exact h.elim
    | .ok .cont, h => exact h.elim
    | .ok (.ret u), h =>
      obtain ⟨v, H', os, bare, un, hok', r', q⟩ := h
      have qv : v = .bl true := q
      subst qv
      obtain rfl : u = Value.bool true := r'
      refine ⟨rfl, OldK.of_keep ?_, os, bare⟩
      intro b o e
      rcases hO b with z | ⟨ob, xs, z⟩
      · exact un.keep b o e z (fun k => by cases k) (fun k => by cases k)
      · obtain ⟨e1, _⟩ := hok b _ z
        obtain ⟨e2, _⟩ := hok' b _ (un.frzs b ob _ z)
        rw [e] at e1
        cases e1
        exact e2
  cases hk : K.lookup a with
  | some o =>
    have e := kx a o hk
    rw [ha] at e
    cases e
    refine main (fun _ => none) (fun _ => .inl rfl) (.inr ⟨_, vs.toArray, _, hk, rfl, rfl, rfl, ?_, ?_⟩) (fun b u z => by cases z) (fun b z => absurd rfl z) fun z => absurd rfl z
    · rw [List.size_toArray, hi.length]
      exact hl
    · simpa using rv
  | none =>
    have at_a : scriptAt a vs ns a = some (.frz { cls := .type "list", data := .seq vs.toArray } (.lst (ns.map V.int))) := if_pos rfl
    have off : ∀ b, b ≠ a → scriptAt a vs ns b = none := fun b hb => if_neg hb
    refine main (scriptAt a vs ns) (fun b => ?_) (.inl (.inr ⟨_, at_a⟩)) (fun b u z => ?_) (fun b z => ?_) fun _ => hk
    · by_cases hb : b = a
      · subst hb
        exact .inr ⟨_, _, at_a⟩
      · exact .inl (off b hb)
    · by_cases hb : b = a
      · subst hb
        rw [at_a] at z
        cases z
        exact ⟨ha, by rw [List.length_map]; exact hl, vs, _, rv, ha⟩
      · rw [off b hb] at z
        cases z
    · by_cases hb : b = a
      · exact hb
      · exact absurd (off b hb) z

/-- the end of a law's row -/
theorem walkU {l : PySem.W.OpenLaw} {n : Nat} {q : Program} {loose : List Str} {XP : (Str → Option Value) → Heap → Prop} {YP : World → Heap → Prop} {d : DefRec} {x : Str}
    (hm : l.most = some 63) (hdf : d.params.defaults = []) (him : importsNone q = true) (hn : n ≤ 500)
    (F : ∀ (w : World) (mg : Str → Option Value) (fa : Addr) (h : Heap), YP w h → h.Ns mainGlobals mg → mg d.name = some (.ref fa) →
      ∃ (K : PySem.W.Frag) (fd : FuncData) (sp : Sp), K.In h ∧ (∀ (s : Shared) (u : Value), BindsTo s fd ⟨[u], []⟩ [(x, u)]) ∧
        (∀ (H : Hp) (a : Addr) (ns : List Int), ns.length ≤ 63 → Only H → SqL K H a (ns.map V.int) → sp [.ref a] H (fun v _ => v = .bl true) fun _ _ _ => False) ∧
        ∀ base : Heap, K.In base → base.Ns mainGlobals mg → base.NoSeer → FnR ⟨l.prog, w, K, mg, base⟩ CX0 n fa fd [x] sp) :
    PySem.W.WalkO q loose XP YP l.row.toRowW d [] (fun f vs => PySem.call f vs) := by
  refine Att.attach_call hm hdf ?_
  intro w s₀ s mg mb fa o pm cd doc a vs ns G Y ho hd hcd hmg hobj hints hlen hg
  obtain ⟨K, fd, sp, kx, hb, hsp, hF⟩ := F w mg fa _ Y G.T.g hmg
  have room : Rm n callerA := by
    refine ⟨rfl, ?_, ?_⟩
    · show 1 + claimMargin + n + 105 < recursionLimit
      have e1 : claimMargin = 300 := rfl
      have e2 : recursionLimit = 1000 := rfl
      omega
    · show 4 + 4 * n + 400 < cLine
      have e1 : cLine = 9900 := rfl
      omega
  exact callU kx G.T.g G.T.b G.T.builtins G.T.nolimit (G.T.seer him) hg hobj hints (Nat.le_trans hlen (by decide)) room hF hb fun H hO hS => hsp H a ns hlen hO hS
end U

set_option maxHeartbeats 4000000
namespace U
open PySem PySem.Spec PyProof.Rows L2

/-! ### operators by name -/
def rAddI : R2 := rI0 fun i j => .int (i + j)
def rSubI : R2 := rI0 fun i j => .int (i - j)
def rMulI : R2 := rI CMul fun i j => .int (i * j)
def rFdC : R2 := rI CDiv fun i j => .int (i / j)
def rModP : R2 := rI (fun _ j => 0 < j) fun i j => .int (i % j)
def rPowI : R2 := rI CPow fun i j => .int (i ^ j.toNat)
def rLtI : R2 := rI0 fun i j => .bl (decide (i < j))
def rLeI : R2 := rI0 fun i j => .bl (decide (i ≤ j))
def rGtI : R2 := rI0 fun i j => .bl (decide (j < i))
def rGeI : R2 := rI0 fun i j => .bl (decide (j ≤ i))
def rIsNo : R2 := fun x y H Q => y = .non ∧ Q (.bl (decide (x = .non))) H
def rIsNotNo : R2 := fun x y H Q => y = .non ∧ Q (.bl (!decide (x = .non))) H
section
variable {X : Cx}
theorem op_addI : OpR X (binaryOp .Add) rAddI := op_add
theorem op_subI : OpR X (binaryOp .Sub) rSubI := op_sub
theorem op_mulI : OpR X (binaryOp .Mult) rMulI := op_mul
theorem op_fdC : OpR X (binaryOp .FloorDiv) rFdC := op_fdiv
theorem op_modP : OpR X (binaryOp .Mod) rModP := op_mod
theorem op_powI : OpR X (binaryOp .Pow) rPowI := op_pow
theorem op_ltI : OpR X (compareOp .Lt) rLtI := op_lt
theorem op_leI : OpR X (compareOp .LtE) rLeI := op_le
theorem op_gtI : OpR X (compareOp .Gt) rGtI := op_gt
theorem op_geI : OpR X (compareOp .GtE) rGeI := op_ge
theorem op_isNo : OpR X (compareOp .Is) rIsNo := op_isN
theorem op_isNotNo : OpR X (compareOp .IsNot) rIsNotNo := op_notN
end
def rLenQ (K : PySem.W.Frag) : List V → Hp → VK → Prop := fun xs H Q => ∃ p ys, xs = [.ref p] ∧ (SqL K H p ys ∨ SqT K H p ys) ∧ Q (.int ys.length) H
theorem call_lenQ {X : Cx} : CallR X (.builtin "len") (rLenQ X.K) := call_len_seq
def rListQ (K : PySem.W.Frag) : List V → Hp → VK → Prop := fun xs H Q => ∃ p ys, xs = [.ref p] ∧ (SqL K H p ys ∨ SqT K H p ys) ∧ ∀ l, H l = none → Q (.ref l) (upd H l (.lst ys))
theorem call_listQ {X : Cx} : CallR X (.type "list") (rListQ X.K) := call_list_of
def rIntB : List V → Hp → VK → Prop := fun xs H Q => ∃ k, xs = [.bl k] ∧ Q (.int (if k then 1 else 0)) H
theorem call_intB {X : Cx} : CallR X (.type "int") rIntB := by
  intro pins s σ H xs us Q I r h
  exact call_int1 pins s σ H xs us Q I r (.inr h)
def rMax2 : List V → Hp → VK → Prop := fun xs H Q => ∃ i j, xs = [.int i, .int j] ∧ Q (.int (if j > i then j else i)) H
theorem call_max2Q {X : Cx} (hc : X.calm = true) : CallR X (.builtin "max") rMax2 := call_max2 hc
def rMin2 : List V → Hp → VK → Prop := fun xs H Q => ∃ i j, xs = [.int i, .int j] ∧ Q (.int (if j < i then j else i)) H
theorem call_min2Q {X : Cx} (hc : X.calm = true) : CallR X (.builtin "min") rMin2 := call_min2 hc

/-! ### attributes of an instance whose class is known -/
def tFd (C : Addr) (f : Str) (ta : TE) : TE := fun σ H Q => ta σ H fun x H1 => ∃ a dx fs v, x = .ref a ∧ H1 a = some (.ins C dx fs) ∧ fs.lookup f = some v ∧ Q v H1
def sFd (C : Addr) (f : Str) (ta tv : TE) : TS := fun D σ H => tv σ H fun y H1 => ta σ H1 fun x H2 => ∃ a dx fs, x = .ref a ∧ H2 a = some (.ins C dx fs) ∧ fs.length < 1000 ∧
  D.nx σ (upd H2 a (.ins C dx (putF f y fs)))
section
variable {X : Cx} {o e value : Expr} {f : Str} {pos pos' : Pos} {ta tv : TE} {C : Addr}
theorem pfd (cl : Cls X.K C) (na : NoAttr X.K C f) (he : PE X e ta) (hb : attributeBase e f X.env (eval e X.env) = eval e X.env := by rfl) : PE X (.Attribute e f pos) (tFd C f ta) := by
  constructor
  intro pins s σ H Q I h
  refine attr_of hb (thn (he.run pins s σ H _ I h) ?_)
  rintro u s1 ⟨x, H1, I1, rx, a, dx, fs, v, ex, ea, l, q⟩
  subst ex
  obtain rfl : u = Value.ref a := rx
  exact getattr_ok I1 ea cl na l fun u' s2 I2 ru => ⟨v, H1, I2, ru, q⟩
theorem psfd (cl : Cls X.K C) (na : NoAttr X.K C f) (ha : PE X o ta) (hv : PE X value tv) (hs : swapsWith value (some (.Attribute o f pos')) pos.line X.env = pure false := by rfl) :
    PS X (.Assign [.Attribute o f pos'] value pos) (sFd C f ta tv) := by
  constructor
  intro pins s σ H D I h
  refine plainObj_wpAny_Assign_Attribute (thn (hv.run pins s σ H _ I h) ?_) hs
  rintro u s1 ⟨y, H1, I1, ry, q⟩
  refine thn (ha.run pins s1 σ H1 _ I1 q) ?_
  rintro ov s2 ⟨x, H2, I2, rx, a, dx, fs, ex, ea, l, q2⟩
  subst ex
  obtain rfl : ov = Value.ref a := rx
  exact setattr_ok I2 ea cl na l ry fun s3 I3 => ⟨σ, _, I3, q2⟩
end

/-! ### reading, one construct at a time -/
section
variable {K : PySem.W.Frag} {σ : L2.St} {H : Hp} {Q : VK} {D : Ends} {ta tb te tv : TE} {t u : TS} {c c' : TT} {v x y : V} {i j : Int} {k : Nat} {a p l C dx : Addr} {xs ys : List V} {fs : List (Str × V)} {f m : Str} {QT : Bool → Hp → Prop} {QA : List V → Hp → Prop} {tr : TA}
theorem w_seq (h : t { D with nx := u D } σ H) : tSeq t u D σ H := h
theorem w_next (h : D.nx σ H) : tNext D σ H := h
theorem w_asg {g : TG} (h : te σ H fun x H1 => g x σ H1 D.nx) : tAsg te g D σ H := h
theorem w_name {QS : L2.St → Hp → Prop} (h : QS (σ.set k (some v)) H) : gName k v σ H QS := h
theorem w_ret (h : te σ H D.rt) : tRet te D σ H := h
theorem w_drop (h : te σ H fun _ H1 => D.nx σ H1) : tDrop te D σ H := h
theorem w_if (h : c σ H fun b H1 => if b = true then t D σ H1 else u D σ H1) : tIfS c t u D σ H := h
theorem w_var (h : σ[k]? = some (some v)) (q : Q v H) : tVar k σ H Q := ⟨v, h, q⟩
theorem w_c (q : Q v H) : tC v σ H Q := q
theorem w_op {r : R2} (h : ta σ H fun x H1 => tb σ H1 fun y H2 => r x y H2 Q) : tOp r ta tb σ H Q := h
theorem w_un {r : V → Hp → VK → Prop} (h : ta σ H fun x H1 => r x H1 Q) : tUn r ta σ H Q := h
theorem w_test (h : te σ H fun x H1 => ∃ k, x = .bl k ∧ QT k H1) : tTest te σ H QT := h
theorem w_B (h : te σ H fun x H1 => ∃ k, x = .bl k ∧ QT k H1) : tB te σ H QT := h
theorem w_bl {b : Bool} {P : Bool → Prop} (h : P b) : ∃ k, V.bl b = .bl k ∧ P k := ⟨b, rfl, h⟩
theorem w_not (h : c σ H fun b H1 => QT (!b) H1) : tNot c σ H QT := h
theorem w_and (h : c σ H fun b H1 => if b = true then c' σ H1 QT else QT false H1) : tAnd c c' σ H QT := h
theorem w_or (h : c σ H fun b H1 => if b = true then QT true H1 else c' σ H1 QT) : tOr c c' σ H QT := h
theorem w_ifx (h : c σ H fun b H1 => if b = true then ta σ H1 Q else tb σ H1 Q) : tIf c ta tb σ H Q := h
theorem w_andV (h : ta σ H fun x H1 => ∃ c, x = .bl c ∧ if c = true then tb σ H1 Q else Q (.bl false) H1) : tAndV ta tb σ H Q := h
theorem w_orV (h : ta σ H fun x H1 => ∃ c, x = .bl c ∧ if c = true then Q (.bl true) H1 else tb σ H1 Q) : tOrV ta tb σ H Q := h
theorem w_notV (h : ta σ H fun x H1 => ∃ c, x = .bl c ∧ Q (.bl (!c)) H1) : tNotV ta σ H Q := h
theorem w_add (q : Q (.int (i + j)) H) : rAddI (.int i) (.int j) H Q := ⟨i, j, rfl, rfl, q⟩
theorem w_sub (q : Q (.int (i - j)) H) : rSubI (.int i) (.int j) H Q := ⟨i, j, rfl, rfl, q⟩
theorem w_mul (h : CMul i j) (q : Q (.int (i * j)) H) : rMulI (.int i) (.int j) H Q := ⟨i, j, rfl, rfl, h, q⟩
theorem w_fdC (h : CDiv i j) (q : Q (.int (i / j)) H) : rFdC (.int i) (.int j) H Q := ⟨i, j, rfl, rfl, h, q⟩
theorem w_fd (h : j ≠ 0) (q : Q (.int (i.fdiv j)) H) : rFd (.int i) (.int j) H Q := ⟨i, j, rfl, rfl, h, q⟩
theorem w_mod (h : 0 < j) (q : Q (.int (i % j)) H) : rModP (.int i) (.int j) H Q := ⟨i, j, rfl, rfl, h, q⟩
theorem w_pow (h : CPow i j) (q : Q (.int (i ^ j.toNat)) H) : rPowI (.int i) (.int j) H Q := ⟨i, j, rfl, rfl, h, q⟩
theorem w_lt (q : Q (.bl (decide (i < j))) H) : rLtI (.int i) (.int j) H Q := ⟨i, j, rfl, rfl, q⟩
theorem w_le (q : Q (.bl (decide (i ≤ j))) H) : rLeI (.int i) (.int j) H Q := ⟨i, j, rfl, rfl, q⟩
theorem w_gt (q : Q (.bl (decide (j < i))) H) : rGtI (.int i) (.int j) H Q := ⟨i, j, rfl, rfl, q⟩
theorem w_ge (q : Q (.bl (decide (j ≤ i))) H) : rGeI (.int i) (.int j) H Q := ⟨i, j, rfl, rfl, q⟩
theorem w_eqI (q : Q (.bl (decide (i = j))) H) : rEq (.int i) (.int j) H Q := ⟨rfl, by
  have e : decide (V.int i = V.int j) = decide (i = j) := by
    by_cases h : i = j
    · rw [decide_eq_true h, decide_eq_true (congrArg V.int h)]
    · rw [decide_eq_false h, decide_eq_false fun z => h (V.int.inj z)]
  rw [e]; exact q⟩
theorem w_neI (q : Q (.bl (!decide (i = j))) H) : rNe (.int i) (.int j) H Q := ⟨rfl, by
  have e : decide (V.int i = V.int j) = decide (i = j) := by
    by_cases h : i = j
    · rw [decide_eq_true h, decide_eq_true (congrArg V.int h)]
    · rw [decide_eq_false h, decide_eq_false fun z => h (V.int.inj z)]
  rw [e]; exact q⟩
theorem w_eqS {s z : Str} (q : Q (.bl (decide (s = z))) H) : rEq (.str s) (.str z) H Q := ⟨rfl, by
  have e : decide (V.str s = V.str z) = decide (s = z) := by
    by_cases h : s = z
    · rw [decide_eq_true h, decide_eq_true (congrArg V.str h)]
    · rw [decide_eq_false h, decide_eq_false fun z => h (V.str.inj z)]
  rw [e]; exact q⟩
theorem w_neS {s z : Str} (q : Q (.bl (!decide (s = z))) H) : rNe (.str s) (.str z) H Q := ⟨rfl, by
  have e : decide (V.str s = V.str z) = decide (s = z) := by
    by_cases h : s = z
    · rw [decide_eq_true h, decide_eq_true (congrArg V.str h)]
    · rw [decide_eq_false h, decide_eq_false fun z => h (V.str.inj z)]
  rw [e]; exact q⟩
theorem w_isN (q : Q (.bl (decide (x = .non))) H) : rIsNo x .non H Q := ⟨rfl, q⟩
theorem w_isnN (q : Q (.bl (!decide (x = .non))) H) : rIsNotNo x .non H Q := ⟨rfl, q⟩
theorem w_ixL (h : SqL K H p xs) (ha : atI xs i = some v) (q : Q v H) : rIxL K (.ref p) (.int i) H Q := ⟨p, xs, i, v, rfl, rfl, h, ha, q⟩
theorem w_ixT (h : SqT K H p xs) (ha : atI xs i = some v) (q : Q v H) : rIxT K (.ref p) (.int i) H Q := ⟨p, xs, i, v, rfl, rfl, h, ha, q⟩
theorem w_tFd (h : ta σ H fun x H1 => ∃ a dx fs v, x = .ref a ∧ H1 a = some (.ins C dx fs) ∧ fs.lookup f = some v ∧ Q v H1) : tFd C f ta σ H Q := h
theorem w_fld {P : V → Prop} (h : H a = some (.ins C dx fs)) (l : fs.lookup f = some v) (q : P v) : ∃ a' dx' fs' v', V.ref a = .ref a' ∧ H a' = some (.ins C dx' fs') ∧ fs'.lookup f = some v' ∧ P v' := ⟨a, dx, fs, v, rfl, h, l, q⟩
theorem w_sFd (h : tv σ H fun y H1 => ta σ H1 fun x H2 => ∃ a dx fs, x = .ref a ∧ H2 a = some (.ins C dx fs) ∧ fs.length < 1000 ∧ D.nx σ (upd H2 a (.ins C dx (putF f y fs)))) : sFd C f ta tv D σ H := h
theorem w_put {P : List (Str × V) → Addr → Addr → Prop} (h : H a = some (.ins C dx fs)) (n : fs.length < 1000) (q : P fs dx a) : ∃ a' dx' fs', V.ref a = .ref a' ∧ H a' = some (.ins C dx' fs') ∧ fs'.length < 1000 ∧ P fs' dx' a' := ⟨a, dx, fs, rfl, h, n, q⟩
theorem w_nil (h : QA [] H) : tNil σ H QA := h
theorem w_cons (h : ta σ H fun x H1 => tr σ H1 fun xs H2 => QA (x :: xs) H2) : tCons ta tr σ H QA := h
theorem w_tup (h : tr σ H fun xs H1 => xs.length ≤ sizeLine ∧ ∀ p, H1 p = none → Q (.ref p) (upd H1 p (.tup xs))) : tTup tr σ H Q := h
theorem w_lst (h : tr σ H fun xs H1 => xs.length ≤ sizeLine ∧ ∀ p, H1 p = none → Q (.ref p) (upd H1 p (.lst xs))) : tLst tr σ H Q := h
theorem w_call {sp : Sp} {E : XK} (h : tr σ H fun vs H1 => sp (vs ++ []) H1 Q E) : tCall sp [] E tr σ H Q := h
theorem w_meth {sp : Sp} {E : XK} (h : ta σ H fun x H1 => ∃ a dx fs, x = .ref a ∧ H1 a = some (.ins C dx fs) ∧ fs.lookup m = none ∧ tr σ H1 fun vs H2 => sp (x :: (vs ++ [])) H2 Q E) : tMeth C m sp [] E ta tr σ H Q := h
theorem w_recv {P : Addr → Prop} (h : H a = some (.ins C dx fs)) (l : fs.lookup m = none) (q : P a) : ∃ a' dx' fs', V.ref a = .ref a' ∧ H a' = some (.ins C dx' fs') ∧ fs'.lookup m = none ∧ P a' := ⟨a, dx, fs, rfl, h, l, q⟩
theorem w_cb {r : List V → Hp → VK → Prop} (h : tr σ H fun vs H1 => r vs H1 Q) : tCB r tr σ H Q := h
theorem w_lenL (h : SqL K H p xs) (q : Q (.int xs.length) H) : rLenQ K [.ref p] H Q := ⟨p, xs, rfl, .inl h, q⟩
theorem w_lenT (h : SqT K H p xs) (q : Q (.int xs.length) H) : rLenQ K [.ref p] H Q := ⟨p, xs, rfl, .inr h, q⟩
theorem w_bm {r : V → List V → Hp → VK → Prop} (h : ta σ H fun x H1 => tyV K "list" x H1 ∧ tr σ H1 fun xs H2 => r x xs H2 Q) : tBM K "list" r ta tr σ H Q := h
theorem w_bm0 {r : V → List V → Hp → VK → Prop} (h : ta σ H fun x H1 => tyV K "list" x H1 ∧ r x [] H1 Q) : tBM0 K "list" r ta σ H Q := h
theorem w_ty {B : Prop} (h : H p = some (.lst xs)) (q : B) : tyV K "list" (.ref p) H ∧ B := ⟨.inl ⟨rfl, xs, SqL.of h⟩, q⟩
theorem w_app (h : H p = some (.lst xs)) (n : xs.length < sizeLine) (q : Q .non (upd H p (.lst (xs ++ [v])))) : rAppend (.ref p) [v] H Q := ⟨p, xs, v, rfl, rfl, h, n, q⟩
theorem w_pop (h : H p = some (.lst xs)) (e : xs[xs.length - 1]? = some v) (q : Q v (upd H p (.lst xs.dropLast))) : rPop (.ref p) [] H Q := ⟨p, xs, v, rfl, rfl, h, e, q⟩
theorem w_popB {P : List V} (h : H p = some (.lst (P ++ [v]))) (q : Q v (upd H p (.lst P))) : rPop (.ref p) [] H Q :=
  w_pop (v := v) h (by simp) (by rw [List.dropLast_concat]; exact q)
theorem w_T {A B : Prop} {b : Bool} (e : b = true) (h : A) : if b = true then A else B := by rw [if_pos e]; exact h
theorem w_F {A B : Prop} {b : Bool} (e : b = false) (h : B) : if b = true then A else B := by rw [e]; exact iteF h
theorem w_2 {A B : Prop} {b : Bool} (h1 : b = true → A) (h2 : b = false → B) : if b = true then A else B := by
  cases b
  · exact iteF (h2 rfl)
  · exact iteT (h1 rfl)
theorem w_D {A B p : Prop} [Decidable p] (h1 : p → A) (h2 : ¬p → B) : if decide p = true then A else B := by
  by_cases h : p
  · rw [decide_eq_true h]; exact iteT (h1 h)
  · rw [decide_eq_false h]; exact iteF (h2 h)
theorem w_ND {A B p : Prop} [Decidable p] (h1 : p → B) (h2 : ¬p → A) : if (!decide p) = true then A else B := by
  by_cases h : p
  · rw [decide_eq_true h]; exact iteF (h1 h)
  · rw [decide_eq_false h]; exact iteT (h2 h)
end
end U

set_option maxHeartbeats 4000000
namespace U
open PySem PySem.Spec PyProof.Rows L2

/-! ### cells that one owns, over a heap that stands -/
abbrev Cell := Addr × HO
def ads (L : List Cell) : List Addr := L.map (·.1)
structure Own (H0 H : Hp) (L : List Cell) : Prop where
  at_ : ∀ p ∈ L, H p.1 = some p.2
  nd : (ads L).Nodup
  new : ∀ a ∈ ads L, H0 a = none
  same : Same H0 H
/-- the heap without the cells L -/
def less (H : Hp) (L : List Cell) : Hp := fun a => if a ∈ ads L then none else H a
theorem less_off {H : Hp} {L : List Cell} {a : Addr} (h : a ∉ ads L) : less H L a = H a := if_neg h
theorem less_on {H : Hp} {L : List Cell} {a : Addr} (h : a ∈ ads L) : less H L a = none := if_pos h
theorem ads_append (L R : List Cell) : ads (L ++ R) = ads L ++ ads R := List.map_append
theorem mem_ads {L : List Cell} {p : Cell} (h : p ∈ L) : p.1 ∈ ads L := List.mem_map_of_mem h
theorem Own.get {H0 H : Hp} {L : List Cell} {a : Addr} {o : HO} (w : Own H0 H L) (h : (a, o) ∈ L) : H a = some o := w.at_ _ h
theorem Own.perm {H0 H : Hp} {L L' : List Cell} (w : Own H0 H L) (p : L.Perm L') : Own H0 H L' := by
  refine ⟨fun x hx => w.at_ x (p.mem_iff.mpr hx), ?_, fun a ha => w.new a ((p.map _).mem_iff.mpr ha), w.same⟩
  exact (List.Perm.nodup_iff (p.map fun x : Cell => x.1)).mp w.nd
theorem Own.sub {H0 H : Hp} {L R : List Cell} (w : Own H0 H (L ++ R)) : Own H0 H L := by
  refine ⟨fun x hx => w.at_ x (List.mem_append_left _ hx), ?_, fun a ha => w.new a ?_, w.same⟩
  · have := w.nd
    rw [ads_append] at this
    exact (List.nodup_append.mp this).1
  · rw [ads_append]
    exact List.mem_append_left _ ha
theorem Own.nil {H0 H : Hp} (s : Same H0 H) : Own H0 H [] := ⟨fun _ h => (by cases h), List.nodup_nil, fun _ h => (by cases h), s⟩
/-- the cell at a is written -/
theorem Own.put {H0 H : Hp} {L R : List Cell} {a : Addr} {o o' : HO} (w : Own H0 H (L ++ (a, o) :: R)) : Own H0 (upd H a o') (L ++ (a, o') :: R) := by
  have e : ads (L ++ (a, o') :: R) = ads (L ++ (a, o) :: R) := by simp [ads]
  have nd : (ads (L ++ (a, o') :: R)).Nodup := by rw [e]; exact w.nd
  refine ⟨fun p hp => ?_, nd, by rw [e]; exact w.new, fun b u hb => ?_⟩
  · by_cases ha : p.1 = a
    · have hp2 : p = (a, o') := by
        rw [ads, List.map_append, List.map_cons] at nd
        rcases List.mem_append.mp hp with h | h
        · exact absurd rfl ((List.nodup_append.mp nd).2.2 p.1 (List.mem_map_of_mem h) a (by simp) |> fun z => by rw [ha] at z; exact z)
        · rcases List.mem_cons.mp h with h | h
          · exact h
          · have q := (List.nodup_cons.mp (List.nodup_append.mp nd).2.1).1
            exact absurd (show a ∈ R.map (·.1) by rw [← ha]; exact List.mem_map_of_mem (f := fun x : Cell => x.1) h) q
      rw [hp2]; exact upd_same
    · rw [upd_ne ha]
      refine w.at_ p ?_
      rcases List.mem_append.mp hp with h | h
      · exact List.mem_append_left _ h
      · rcases List.mem_cons.mp h with h | h
        · rw [h] at ha; exact absurd rfl ha
        · exact List.mem_append_right _ (List.mem_cons_of_mem _ h)
  · have hn : H0 a = none := w.new a (by simp [ads])
    rw [upd_ne (ne_of_none hb hn)]
    exact w.same b u hb
/-- something new is laid and not owned -/
theorem Own.lay {H0 H : Hp} {L : List Cell} {a : Addr} {o : HO} (w : Own H0 H L) (h : H a = none) : Own H0 (upd H a o) L := by
  refine ⟨fun p hp => ?_, w.nd, w.new, fun b u hb => ?_⟩
  · rw [upd_ne (ne_of_none (w.at_ p hp) h)]; exact w.at_ p hp
  · rw [upd_ne (ne_of_none (w.same b u hb) h)]; exact w.same b u hb
/-- something new is laid and owned -/
theorem Own.take {H0 H : Hp} {L : List Cell} {a : Addr} {o : HO} (w : Own H0 H L) (h : H a = none) : Own H0 (upd H a o) ((a, o) :: L) := by
  refine ⟨fun p hp => ?_, ?_, fun b hb => ?_, (w.lay h).same⟩
  · rcases List.mem_cons.mp hp with h1 | h1
    · rw [h1]; exact upd_same
    · exact (w.lay h).at_ p h1
  · refine List.nodup_cons.mpr ⟨fun hm => ?_, w.nd⟩
    obtain ⟨p, hp, e⟩ := List.mem_map.mp hm
    have q := w.at_ p hp
    rw [e, h] at q
    cases q
  · rcases List.mem_cons.mp hb with h1 | h1
    · rw [h1]
      cases e : H0 a with
      | none => rfl
      | some u =>
        have := w.same a u e
        rw [h] at this
        cases this
    · exact w.new b h1
/-- cells are dropped -/
theorem Own.drop {H0 H : Hp} {L R : List Cell} (w : Own H0 H (L ++ R)) : Own H0 H R := by
  have p : (L ++ R).Perm (R ++ L) := List.perm_append_comm
  exact (w.perm p).sub
/-- what stood stands below -/
theorem Own.base {H0 H : Hp} {L : List Cell} (w : Own H0 H L) : Same H0 (less H L) := fun b u hb => by
  have : b ∉ ads L := fun hm => by
    rw [w.new b hm] at hb
    cases hb
  rw [less_off this]
  exact w.same b u hb
/-- a callee's own: the cells L out of L ++ R -/
theorem Own.lend {H0 H : Hp} {L : List Cell} (w : Own H0 H L) : Own (less H L) H L := by
  refine ⟨w.at_, w.nd, fun a ha => less_on ha, fun b u hb => ?_⟩
  by_cases h : b ∈ ads L
  · rw [less_on h] at hb; cases hb
  · rw [less_off h] at hb; exact hb
/-- .. and back -/
theorem Own.back {H0 H H' : Hp} {L R L' : List Cell} (w : Own H0 H (L ++ R)) (w' : Own (less H L) H' L') : Own H0 H' (L' ++ R) := by
  have hs : Same H0 (less H L) := w.sub.base
  have nd := w.nd
  rw [ads_append] at nd
  have dis := (List.nodup_append.mp nd).2.2
  have offL : ∀ p ∈ R, p.1 ∉ ads L := fun p hp hm => dis _ hm _ (mem_ads hp) rfl
  have atR : ∀ p ∈ R, less H L p.1 = some p.2 := fun p hp => by
    rw [less_off (offL p hp)]
    exact w.at_ p (List.mem_append_right _ hp)
  refine ⟨fun p hp => ?_, ?_, fun a ha => ?_, hs.trans w'.same⟩
  · rcases List.mem_append.mp hp with h | h
    · exact w'.at_ p h
    · exact w'.same _ _ (atR p h)
  · rw [ads_append]
    refine List.nodup_append.mpr ⟨w'.nd, (List.nodup_append.mp nd).2.1, fun a ha b hb e => ?_⟩
    obtain ⟨p, hp, e2⟩ := List.mem_map.mp hb
    have q := w'.new a ha
    rw [e, ← e2, atR p hp] at q
    cases q
  · rw [ads_append] at ha
    rcases List.mem_append.mp ha with h | h
    · have q := w'.new a h
      cases e : H0 a with
      | none => rfl
      | some u =>
        rw [hs a u e] at q
        cases q
    · exact w.new a (by rw [ads_append]; exact List.mem_append_right _ h)
/-- a callee that has nothing of its own -/
theorem Own.kept {H0 H H' : Hp} {L : List Cell} (w : Own H0 H L) (s : Same H H') : Own H0 H' L :=
  ⟨fun p hp => s _ _ (w.at_ p hp), w.nd, w.new, w.same.trans s⟩
theorem same_lay {H : Hp} {p : Addr} {o : HO} (h : H p = none) : Same H (upd H p o) := fun b u e => by
  rw [upd_ne (ne_of_none e h)]
  exact e
theorem same_tup {K : PySem.W.Frag} {H H' : Hp} {a : Addr} {xs : List V} (e : Same H H') (h : SqT K H a xs) : SqT K H' a xs := by
  rcases h with (h | ⟨o, h⟩) | h
  · exact .inl (.inl (e _ _ h))
  · exact .inl (.inr ⟨o, e _ _ h⟩)
  · exact .inr h

theorem Own.set {H0 H : Hp} {L : List Cell} {a : Addr} {o : HO} (w : Own H0 H L) (i : Nat) (o' : HO) (h : L[i]? = some (a, o)) : Own H0 (upd H a o') (L.set i (a, o')) := by
  obtain ⟨hi, e⟩ := List.getElem?_eq_some_iff.mp h
  have e1 : L = L.take i ++ (a, o) :: L.drop (i + 1) := by
    rw [← e]
    rw [List.getElem_cons_drop, List.take_append_drop]
  have e2 : L.set i (a, o') = L.take i ++ (a, o') :: L.drop (i + 1) := by rw [List.set_eq_take_append_cons_drop, if_pos hi]
  rw [e2]
  rw [e1] at w
  exact w.put
theorem Own.ix {H0 H : Hp} {L : List Cell} {a : Addr} {o : HO} (w : Own H0 H L) (i : Nat) (h : L[i]? = some (a, o)) : H a = some o := w.get (List.mem_of_getElem? h)
theorem Own.slist {H0 H : Hp} {L L' : List Cell} (w : Own H0 H L) (s : L'.Sublist L) : Own H0 H L' :=
  ⟨fun p hp => w.at_ p (s.subset hp), List.Nodup.sublist (s.map fun x : Cell => x.1) w.nd, fun a ha => w.new a ((s.map fun x : Cell => x.1).subset ha), w.same⟩
/-- the cell at place i is given up -/
theorem Own.del {H0 H : Hp} {L : List Cell} (w : Own H0 H L) (i : Nat) : Own H0 H (L.eraseIdx i) := w.slist (List.eraseIdx_sublist ..)
/-- the first cell takes the i-th one's place -/
theorem Own.repl {H0 H : Hp} {L : List Cell} {c : Cell} (w : Own H0 H (c :: L)) (i : Nat) (hi : i < L.length) : Own H0 H (L.set i c) := by
  have e1 : L = L.take i ++ L[i] :: L.drop (i + 1) := by rw [List.getElem_cons_drop, List.take_append_drop]
  have e2 : L.set i c = L.take i ++ c :: L.drop (i + 1) := by rw [List.set_eq_take_append_cons_drop, if_pos hi]
  have p : (c :: L).Perm (L[i] :: L.set i c) := by
    rw [e2]
    refine List.Perm.trans (l₂ := c :: L[i] :: (L.take i ++ L.drop (i + 1))) (.cons _ ?_) ((List.Perm.swap _ _ _).trans (.cons _ List.perm_middle.symm))
    exact List.Perm.trans (List.Perm.of_eq e1) List.perm_middle
  exact (w.perm p).slist (List.sublist_cons_self ..)
theorem Own.lend1 {H0 H : Hp} {c : Cell} {L : List Cell} (w : Own H0 H (c :: L)) : Own (less H [c]) H [c] := (Own.sub (L := [c]) w).lend
/-- three new ones go behind the three ahead -/
theorem Own.rot3 {H0 H : Hp} {a b c x y z : Cell} {L : List Cell} (w : Own H0 H (a :: b :: c :: x :: y :: z :: L)) : Own H0 H (x :: y :: z :: a :: b :: c :: L) := by
  refine w.perm ?_
  have p : ([a, b, c] ++ [x, y, z] : List Cell).Perm ([x, y, z] ++ [a, b, c]) := List.perm_append_comm
  exact p.append_right L
theorem w_make {σ : L2.St} {H : Hp} {C : Addr} {sp : Sp} {E : XK} {tr : TA} {Q : VK} (h : tr σ H fun vs H1 => ∀ x dx, H1 x = none → H1 dx = none → dx ≠ x →
    sp (.ref x :: (vs ++ [])) (upd (upd H1 dx (.own x)) x (.ins C dx [])) (fun v H2 => v = .non ∧ Q (.ref x) H2) E) : tMake C sp [] E tr σ H Q := h
theorem w_inT {K : PySem.W.Frag} {H : Hp} {Q : VK} {x : V} {p : Addr} {xs : List V} (h : SqT K H p xs) (hx : flatV x = true) (ha : xs.all flatV = true) (q : Q (.bl (inV x xs)) H) : rIn K false x (.ref p) H Q :=
  ⟨p, xs, rfl, .inr h, hx, ha, q⟩
theorem w_gsub {σ : L2.St} {H : Hp} {v : V} {to ti : TE} {r : TSet} {QS : L2.St → Hp → Prop} (h : to σ H fun o H1 => ti σ H1 fun i H2 => r o i v H2 fun H3 => QS σ H3) : gSub to ti r v σ H QS := h
theorem w_setL {H : Hp} {p : Addr} {xs : List V} {k : Int} {v : V} {Q : Hp → Prop} (h : H p = some (.lst xs)) (h0 : 0 ≤ k) (h1 : k < xs.length) (q : Q (upd H p (.lst (xs.set k.toNat v)))) : rSetL (.ref p) (.int k) v H Q := by
  refine ⟨p, xs, k, k.toNat, rfl, rfl, h, ?_, q⟩
  unfold ixN
  rw [if_pos h0, if_pos h1]
theorem len_ok {n : Nat} (h : n ≤ 100) : n ≤ sizeLine := Nat.le_trans h (by rw [sizeLine_eq]; decide)
theorem w_new {xs : List V} {B : Prop} (h : xs.length ≤ 100) (q : B) : xs.length ≤ sizeLine ∧ B := ⟨len_ok h, q⟩
/-- x in a written tuple -/
theorem w_memb {K : PySem.W.Frag} {σ : L2.St} {H : Hp} {k : Nat} {x : V} {xs : List V} {ta : TA} {QT : Bool → Hp → Prop} (hv : σ[k]? = some (some x)) (ht : ∀ (H : Hp) (QA : List V → Hp → Prop), QA xs H → ta σ H QA)
    (hx : flatV x = true) (ha : xs.all flatV = true) (hl : xs.length ≤ sizeLine) (q : ∀ p, H p = none → QT (inV x xs) (upd H p (.tup xs))) : tTest (tOp (rIn K false) (tVar k) (tTup ta)) σ H QT := by
  refine ⟨x, hv, ht _ _ ⟨hl, fun p hp => ⟨p, xs, rfl, .inr (SqT.of upd_same), hx, ha, inV x xs, rfl, q p hp⟩⟩⟩

theorem w_cat {H : Hp} {Q : VK} {l p : Addr} {xs ys : List V} (h : H l = some (.lst xs)) (h' : H p = some (.lst ys)) (n : xs.length + ys.length ≤ sizeLine)
    (q : ∀ r, H r = none → Q (.ref r) (upd H r (.lst (xs ++ ys)))) : rCat (.ref l) (.ref p) H Q := ⟨l, p, xs, ys, rfl, rfl, h, h', n, q⟩
theorem flat_rep (v : V) : ∀ n : Nat, (List.replicate n [v]).flatten = List.replicate n v
  | 0 => rfl
  | n + 1 => by rw [List.replicate_succ, List.flatten_cons, flat_rep v n]; rfl
theorem w_rep1 {H : Hp} {Q : VK} {l : Addr} {v : V} {k : Int} (h : H l = some (.lst [v])) (h0 : -1000 ≤ k) (h1 : k < 16000000)
    (q : ∀ r, H r = none → Q (.ref r) (upd H r (.lst (List.replicate k.toNat v)))) : rRep (.ref l) (.int k) H Q := by
  refine ⟨l, k, [v], rfl, rfl, h, by omega, by omega, ?_, fun p hp => ?_⟩
  · rw [sizeLine_eq]
    show 1 * k.toNat ≤ _
    omega
  · rw [flat_rep]
    exact q p hp

/-! ### places in lists -/
theorem atI_ok {α : Type} {xs : List α} {i : Int} {v : α} (h0 : 0 ≤ i) (h : xs[i.toNat]? = some v) : atI xs i = some v := by
  have e : i = ((i.toNat : Nat) : Int) := by omega
  rw [e]
  exact atI_nat h
theorem atI_end {α : Type} {xs : List α} {v : α} {n : Int} (h : n = ((xs ++ [v]).length : Int) - 1) : atI (xs ++ [v]) n = some v := by
  have e : n = ((xs.length : Nat) : Int) := by
    rw [List.length_append] at h
    simp at h
    omega
  rw [e]
  exact atI_nat (by simp)
end U

set_option maxHeartbeats 4000000
namespace U
open PySem PySem.Spec PyProof.Rows L2
section
variable {K : PySem.W.Frag} {σ : L2.St} {H : Hp} {Q : VK} {D : Ends} {ta tb te tv : TE} {v x y : V} {i j : Int} {k : Nat} {a p l C dx : Addr} {xs ys : List V} {QO : Option Int → Hp → Prop} {tr : TA} {R : It → Hp → Prop} {lo hi : Option Int}
theorem w_lc {wi : TI} {g : TG} {tt : TT} {n : List Nat} (h : wi σ H fun J H1 => ∀ D, H1 D = none → ∃ W : Nat → Nat → Hp → Prop, (∃ m, W 0 m (upd H1 D (.lst []))) ∧ ∀ i m H, W i m H →
    (J.stop i H ∧ Q (.ref D) H) ∨ (J.go i H ∧ ∃ Nx : Hp → Prop, (∀ H', Nx H' → ∃ m', m' < m ∧ W (i + 1) m' H') ∧ ∀ x H', J.yld i H x H' → g x (wipe σ n) H' fun σ2 H2 => wipe σ2 n = wipe σ n ∧ tt σ2 H2 fun b H3 =>
    if b = true then te σ2 H3 fun y H4 => ∃ acc, H4 D = some (.lst acc) ∧ acc.length < sizeLine ∧ Nx (upd H4 D (.lst (acc ++ [y]))) else Nx H3)) : tLc wi g tt te n σ H Q := h
theorem w_for {wi : TI} {g : TG} {tb : TS} (h : wi σ H fun J H1 => ∃ W : Nat → Nat → L2.St → Hp → Prop, (∃ m, W 0 m σ H1) ∧ ∀ i m σ H, W i m σ H →
    (J.stop i H ∧ D.nx σ H) ∨ (J.go i H ∧ ∃ N : L2.St → Hp → Prop, (∀ σ' H', N σ' H' → ∃ m', m' < m ∧ W (i + 1) m' σ' H') ∧ ∀ x H', J.yld i H x H' → g x σ H' fun σ2 H2 => tb { D with nx := N, ct := N, bk := D.nx } σ2 H2)) : tFor wi g tb D σ H := h
theorem w_yes {QT : Bool → Hp → Prop} (h : QT true H) : tYes σ H QT := h
theorem w_iList (h : te σ H fun x H1 => ∃ a, x = .ref a ∧ (∃ xs, SqL K H1 a xs) ∧ R (Itl K a) H1) : iList K te σ H R := h
theorem w_refL {P : Addr → Prop} (h : SqL K H a xs) (q : P a) : ∃ a', V.ref a = .ref a' ∧ (∃ xs, SqL K H a' xs) ∧ P a' := ⟨a, rfl, ⟨xs, h⟩, q⟩
theorem w_tSl {r : V → Option Int → Option Int → Hp → VK → Prop} {tl th : TO} (h : te σ H fun x H1 => tl σ H1 fun l H2 => th σ H2 fun u H3 => r x l u H3 Q) : tSl r te tl th σ H Q := h
theorem w_part (h : te σ H fun x H1 => ∃ i, x = .int i ∧ QO (some i) H1) : tPart te σ H QO := h
theorem w_nopart (h : QO none H) : tNoPart σ H QO := h
theorem w_i {P : Int → Prop} (h : P i) : ∃ j, V.int i = .int j ∧ P j := ⟨i, rfl, h⟩
theorem w_slL (h : SqL K H a xs) (q : ∀ p, H p = none → Q (.ref p) (upd H p (.lst (cutV xs lo hi)))) : rSlL K (.ref a) lo hi H Q := ⟨a, xs, rfl, h, q⟩
theorem w_rng1 (h : tr σ H fun vs H1 => ∃ j : Int, vs = [.int j] ∧ -(2 ^ 62) ≤ j ∧ j < 2 ^ 62 ∧ R (Itr 0 j.toNat) H1) : iRng1 tr σ H R := h
theorem w_rng2 (h : tr σ H fun vs H1 => ∃ i j : Int, vs = [.int i, .int j] ∧ (-(2 ^ 62) ≤ i ∧ i < 2 ^ 62 ∧ -(2 ^ 62) ≤ j ∧ j < 2 ^ 62) ∧ R (Itr i (j - i).toNat) H1) : iRng2 tr σ H R := h
theorem w_r1 {P : Int → Prop} (h0 : -1000000 ≤ i) (h1 : i < 100000000) (q : P i) : ∃ j : Int, [V.int i] = [.int j] ∧ -(2 ^ 62) ≤ j ∧ j < 2 ^ 62 ∧ P j := ⟨i, rfl, by omega, by omega, q⟩
theorem w_listQ (h : SqL K H p xs) (q : ∀ l, H l = none → Q (.ref l) (upd H l (.lst xs))) : rListQ K [.ref p] H Q := ⟨p, xs, rfl, .inl h, q⟩
theorem w_isiII (q : Q (.bl true) H) : rIsi K [.int i, .ty "int"] H Q := ⟨_, _, _, _, true, rfl, .ty _, .base (.int i), kit_ty (by decide +kernel), q⟩
theorem w_isiIB (q : Q (.bl false) H) : rIsi K [.int i, .ty "bool"] H Q := ⟨_, _, _, _, false, rfl, .ty _, .base (.int i), kit_ty (by decide +kernel), q⟩
theorem w_isiTT (h : H a = some (.tup xs)) (q : Q (.bl true) H) : rIsi K [.ref a, .ty "tuple"] H Q := ⟨_, _, _, _, true, rfl, .ty _, .base (.tup h), kit_ty (by decide +kernel), q⟩
theorem w_isiLL (h : H a = some (.lst xs)) (q : Q (.bl true) H) : rIsi K [.ref a, .ty "list"] H Q := ⟨_, _, _, _, true, rfl, .ty _, .base (.lst h), kit_ty (by decide +kernel), q⟩
theorem w_isiSS {s : Str} (q : Q (.bl true) H) : rIsi K [.str s, .ty "str"] H Q := ⟨_, _, _, _, true, rfl, .ty _, .base (.str s), kit_ty (by decide +kernel), q⟩
theorem w_neD {d e : PyData} (h1 : Dp K H x d) (h2 : Dp K H y e) (s1 : SeqAt.shaped d = true) (s2 : SeqAt.shaped e = true) (q : Q (.bl (!PyData.eqv d e)) H) : rNeD K x y H Q := ⟨d, e, h1, h2, s1, s2, q⟩
theorem w_eqD {d e : PyData} (h1 : Dp K H x d) (h2 : Dp K H y e) (s1 : SeqAt.shaped d = true) (s2 : SeqAt.shaped e = true) (q : Q (.bl (PyData.eqv d e)) H) : rEqD K x y H Q := ⟨d, e, h1, h2, s1, s2, q⟩
theorem w_orV1 {A B : Prop} {b : Bool} (h1 : b = true → A) (h2 : b = false → B) : ∃ c, V.bl b = .bl c ∧ if c = true then A else B := ⟨b, rfl, w_2 h1 h2⟩
theorem w_fdC' (h0 : 0 < j) (h1 : j < 1073741824) (q : Q (.int (i / j)) H) : rFdC (.int i) (.int j) H Q := w_fdC ⟨h0, h1⟩ q
theorem w_mulR (h0 : -(2 ^ 64) < j) (h1 : j < 2 ^ 64) (q : Q (.int (i * j)) H) : rMulI (.int i) (.int j) H Q := w_mul (.inr ⟨h0, h1⟩) q
theorem w_mulL (h0 : -(2 ^ 64) < i) (h1 : i < 2 ^ 64) (q : Q (.int (i * j)) H) : rMulI (.int i) (.int j) H Q := w_mul (.inl ⟨h0, h1⟩) q
theorem w_pow' (h0 : 0 ≤ j) (h1 : j ≤ 1000000) (h2 : i.natAbs < 2 ^ 64) (q : Q (.int (i ^ j.toNat)) H) : rPowI (.int i) (.int j) H Q := w_pow ⟨h0, h1, h2⟩ q
end
/-- a tuple stands while a list is written -/
theorem tup_put {K : PySem.W.Frag} {H : Hp} {D a : Addr} {ys xs : List V} {o : HO} (hD : H D = some (.lst ys)) (h : SqT K H a xs) : SqT K (upd H D o) a xs := by
  rcases h with (h | ⟨ob, h⟩) | h
  · exact .inl (.inl (by rw [upd_ne (ne_of h hD (by intro z; cases z))]; exact h))
  · exact .inl (.inr ⟨ob, by rw [upd_ne (ne_of h hD (by intro z; cases z))]; exact h⟩)
  · exact .inr h
theorem cut_from (xs : List V) (k : Nat) : cutV xs (some (k : Int)) none = xs.drop k := by
  unfold cutV
  rw [HT.sIx_nat, HT.sIx_none, List.take_of_length_le (by rw [List.length_drop]; omega)]
  by_cases h : k ≤ xs.length
  · rw [Nat.min_eq_left h]
  · rw [Nat.min_eq_right (by omega), List.drop_eq_nil_of_le (Nat.le_refl _), List.drop_eq_nil_of_le (by omega)]
theorem cut_to (xs : List V) (k : Nat) : cutV xs none (some (k : Int)) = xs.take k := by
  unfold cutV
  rw [HT.sIx_nat, HT.sIx_none, List.drop_zero, Nat.sub_zero]
  by_cases h : k ≤ xs.length
  · rw [Nat.min_eq_left h]
  · rw [Nat.min_eq_right (by omega), List.take_of_length_le (Nat.le_refl _), List.take_of_length_le (by omega)]
theorem w_cut {t u : TS} {D : Ends} {σ : L2.St} {H : Hp} (P : L2.St → Hp → Prop) (key : ∀ σ' H', P σ' H' → u D σ' H') (main : ∀ N : L2.St → Hp → Prop, (∀ σ' H', P σ' H' → N σ' H') → t { D with nx := N } σ H) : tSeq t u D σ H := main _ key
theorem pick2 (x : Int) (u v : V) : atI [u, v] (x % 2) = some (if x % 2 = 0 then u else v) := by
  rcases (by omega : x % 2 = 0 ∨ x % 2 = 1) with h | h <;> rw [h] <;> rfl
theorem same_sym {H H' : Hp} {p : Addr} (s : Same H H') (h : H' p = none) : H p = none := Same.free s h
/-- the law's own promise -/
def spLaw (K : PySem.W.Frag) : Sp := fun vs H Q _ => ∃ (a : Addr) (ns : List Int), vs = [.ref a] ∧ SqL K H a (ns.map V.int) ∧ ns.length ≤ 63 ∧ ∀ H', Q (.bl true) H'
inductive All2 {α β : Type} (R : α → β → Prop) : List α → List β → Prop
  | nil : All2 R [] []
  | cons {a b as bs} : R a b → All2 R as bs → All2 R (a :: as) (b :: bs)
theorem All2.len {α β : Type} {R : α → β → Prop} {as : List α} {bs : List β} (h : All2 R as bs) : as.length = bs.length := by
  induction h with
  | nil => rfl
  | cons _ _ ih => simp [ih]
theorem All2.get {α β : Type} {R : α → β → Prop} {as : List α} {bs : List β} (h : All2 R as bs) : ∀ {i : Nat} {b : β}, bs[i]? = some b → ∃ a, as[i]? = some a ∧ R a b := by
  induction h with
  | nil => intro i b e; simp at e
  | cons r _ ih =>
    intro i b e
    cases i with
    | zero =>
      simp at e
      exact ⟨_, rfl, e ▸ r⟩
    | succ i =>
      obtain ⟨a, h1, h2⟩ := ih (i := i) (b := b) (by simpa using e)
      exact ⟨a, by simpa using h1, h2⟩
theorem All2.mono {α β : Type} {R R' : α → β → Prop} (f : ∀ a b, R a b → R' a b) {as : List α} {bs : List β} (h : All2 R as bs) : All2 R' as bs := by
  induction h with
  | nil => exact .nil
  | cons r _ ih => exact .cons (f _ _ r) ih
theorem All2.app {α β : Type} {R : α → β → Prop} {as as' : List α} {bs bs' : List β} (h : All2 R as bs) (h' : All2 R as' bs') : All2 R (as ++ as') (bs ++ bs') := by
  induction h with
  | nil => exact h'
  | cons r _ ih => exact .cons r ih
theorem All2.snoc {α β : Type} {R : α → β → Prop} {as : List α} {bs : List β} {a : α} {b : β} (h : All2 R as bs) (r : R a b) : All2 R (as ++ [a]) (bs ++ [b]) := h.app (.cons r .nil)
theorem All2.drop {α β : Type} {R : α → β → Prop} {as : List α} {bs : List β} (h : All2 R as bs) : ∀ (i : Nat) {a : α}, as[i]? = some a → ∃ b, R a b ∧ bs.drop i = b :: bs.drop (i + 1) := by
  induction h with
  | nil => intro i a e; simp at e
  | cons r _ ih =>
    intro i a e
    cases i with
    | zero =>
      simp at e
      exact ⟨_, e ▸ r, rfl⟩
    | succ i =>
      obtain ⟨b, h1, h2⟩ := ih i (a := a) (by simpa using e)
      exact ⟨b, h1, by simpa using h2⟩
theorem take_map_snoc {α β : Type} (f : α → β) {xs : List α} {i : Nat} {x : α} (h : xs[i]? = some x) : (xs.take (i + 1)).map f = (xs.take i).map f ++ [f x] := by
  rw [List.take_add_one, h, List.map_append]
  rfl
end U

namespace U
open PySem PySem.Spec PyProof.Rows L2
/-! readings of the defs -/
def t_check_box (K : PySem.W.Frag) : TS :=
  (tIfS (tOr (tTest (tOp rLtI (tVar 0) (tC (.int 0)))) (tTest (tOp rGeI (tVar 0) (tC (.int 4))))) tNever tNext)
def n_check_box : List Str := ["number"]
def t_check_tree (K : PySem.W.Frag) (sp_check_box sp_check_tree : Sp) : TS :=
  (tSeq (tIfS (tTest (tOp rGtI (tVar 2) (tC (.int 6)))) tNever tNext)
    (tIfS (tTest (tOp rEq (tOp (rIxT K) (tVar 0) (tC (.int 0))) (tC (.str "box")))) (tDrop (tCall sp_check_box [] E0 (tCons (tOp (rIxT K) (tVar 0) (tC (.int 1))) tNil))) (tIfS (tTest (tOp rEq (tOp (rIxT K) (tVar 0) (tC (.int 0))) (tC (.str "call")))) (tSeq (tIfS (tOr (tTest (tOp rLtI (tOp (rIxT K) (tVar 0) (tC (.int 1))) (tC (.int 0)))) (tTest (tOp rGeI (tOp (rIxT K) (tVar 0) (tC (.int 1))) (tVar 1)))) tNever tNext)
    (tDrop (tCall sp_check_tree [] E0 (tCons (tOp (rIxT K) (tVar 0) (tC (.int 2))) (tCons (tVar 1) (tCons (tOp rAddI (tVar 2) (tC (.int 1))) tNil)))))) (tIfS (tTest (tOp rNe (tOp (rIxT K) (tVar 0) (tC (.int 0))) (tC (.str "num")))) (tSeq (tDrop (tCall sp_check_tree [] E0 (tCons (tOp (rIxT K) (tVar 0) (tC (.int 1))) (tCons (tVar 1) (tCons (tOp rAddI (tVar 2) (tC (.int 1))) tNil)))))
    (tDrop (tCall sp_check_tree [] E0 (tCons (tOp (rIxT K) (tVar 0) (tC (.int 2))) (tCons (tVar 1) (tCons (tOp rAddI (tVar 2) (tC (.int 1))) tNil)))))) tNext))))
def n_check_tree : List Str := ["tree", "count", "deep"]
def t_check_block (K : PySem.W.Frag) (sp_check_row : Sp) : TS :=
  (tSeq (tIfS (tTest (tOp rGtI (tVar 3) (tC (.int 8)))) tNever tNext)
    (tFor (iList K (tVar 0)) (gName 4) (tDrop (tCall sp_check_row [] E0 (tCons (tVar 4) (tCons (tVar 1) (tCons (tVar 2) (tCons (tVar 3) tNil))))))))
def n_check_block : List Str := ["block", "count", "loops", "deep", "row"]
def t_check_row (K : PySem.W.Frag) (sp_check_box sp_check_tree sp_check_block : Sp) : TS :=
  (tSeq (tAsg (tOp (rIxT K) (tVar 0) (tC (.int 0))) (gName 4))
    (tIfS (tOr (tTest (tOp rEq (tVar 4) (tC (.str "leave")))) (tTest (tOp rEq (tVar 4) (tC (.str "next"))))) (tIfS (tTest (tOp rEq (tVar 2) (tC (.int 0)))) tNever tNext) (tIfS (tTest (tOp rEq (tVar 4) (tC (.str "set")))) (tSeq (tDrop (tCall sp_check_box [] E0 (tCons (tOp (rIxT K) (tVar 0) (tC (.int 1))) tNil)))
    (tDrop (tCall sp_check_tree [] E0 (tCons (tOp (rIxT K) (tVar 0) (tC (.int 2))) (tCons (tVar 1) (tCons (tC (.int 1)) tNil)))))) (tIfS (tTest (tOp rEq (tVar 4) (tC (.str "if")))) (tSeq (tDrop (tCall sp_check_tree [] E0 (tCons (tOp (rIxT K) (tVar 0) (tC (.int 1))) (tCons (tVar 1) (tCons (tC (.int 1)) tNil)))))
    (tSeq (tDrop (tCall sp_check_block [] E0 (tCons (tOp (rIxT K) (tVar 0) (tC (.int 2))) (tCons (tVar 1) (tCons (tVar 2) (tCons (tOp rAddI (tVar 3) (tC (.int 1))) tNil))))))
    (tDrop (tCall sp_check_block [] E0 (tCons (tOp (rIxT K) (tVar 0) (tC (.int 3))) (tCons (tVar 1) (tCons (tVar 2) (tCons (tOp rAddI (tVar 3) (tC (.int 1))) tNil)))))))) (tIfS (tTest (tOp rEq (tVar 4) (tC (.str "loop")))) (tSeq (tDrop (tCall sp_check_tree [] E0 (tCons (tOp (rIxT K) (tVar 0) (tC (.int 1))) (tCons (tVar 1) (tCons (tC (.int 1)) tNil)))))
    (tDrop (tCall sp_check_block [] E0 (tCons (tOp (rIxT K) (tVar 0) (tC (.int 2))) (tCons (tVar 1) (tCons (tOp rAddI (tVar 2) (tC (.int 1))) (tCons (tOp rAddI (tVar 3) (tC (.int 1))) tNil))))))) (tIfS (tTest (tOp rEq (tVar 4) (tC (.str "catch")))) (tSeq (tDrop (tCall sp_check_block [] E0 (tCons (tOp (rIxT K) (tVar 0) (tC (.int 1))) (tCons (tVar 1) (tCons (tVar 2) (tCons (tOp rAddI (tVar 3) (tC (.int 1))) tNil))))))
    (tSeq (tDrop (tCall sp_check_box [] E0 (tCons (tOp (rIxT K) (tVar 0) (tC (.int 3))) tNil)))
    (tDrop (tCall sp_check_block [] E0 (tCons (tOp (rIxT K) (tVar 0) (tC (.int 4))) (tCons (tVar 1) (tCons (tVar 2) (tCons (tOp rAddI (tVar 3) (tC (.int 1))) tNil)))))))) (tIfS (tTest (tOp rEq (tVar 4) (tC (.str "end")))) (tSeq (tDrop (tCall sp_check_block [] E0 (tCons (tOp (rIxT K) (tVar 0) (tC (.int 1))) (tCons (tVar 1) (tCons (tVar 2) (tCons (tOp rAddI (tVar 3) (tC (.int 1))) tNil))))))
    (tDrop (tCall sp_check_block [] E0 (tCons (tOp (rIxT K) (tVar 0) (tC (.int 2))) (tCons (tVar 1) (tCons (tVar 2) (tCons (tOp rAddI (tVar 3) (tC (.int 1))) tNil))))))) (tDrop (tCall sp_check_tree [] E0 (tCons (tOp (rIxT K) (tVar 0) (tC (.int 1))) (tCons (tVar 1) (tCons (tC (.int 1)) tNil))))))))))))
def n_check_row : List Str := ["row", "count", "loops", "deep", "word"]
def t_checked (K : PySem.W.Frag) (sp_check_block : Sp) : TS :=
  (tSeq (tIfS (tTest (tOp rEq (tCB (rLenQ K) (tCons (tVar 0) tNil)) (tC (.int 0)))) tNever tNext)
    (tFor (iList K (tVar 0)) (gName 1) (tDrop (tCall sp_check_block [] E0 (tCons (tVar 1) (tCons (tCB (rLenQ K) (tCons (tVar 0) tNil)) (tCons (tC (.int 0)) (tCons (tC (.int 1)) tNil))))))))
def n_checked : List Str := ["program", "block"]
end U

namespace U
open PySem PySem.Spec PyProof.Rows L2
/-! readings of the defs -/
def t_World___init__ (K : PySem.W.Frag) : TS :=
  (tSeq (sFd (He.ga K "World") "program" (tVar 0) (tVar 1))
    (tSeq (sFd (He.ga K "World") "said" (tVar 0) (tLst tNil))
    (tSeq (sFd (He.ga K "World") "turns" (tVar 0) (tVar 2))
    (sFd (He.ga K "World") "deep" (tVar 0) (tC (.int 0))))))
def n_World___init__ : List Str := ["self", "program", "turns"]
def t_World_taken (K : PySem.W.Frag) : TS :=
  (tSeq (tIfS (tTest (tOp rEq (tFd (He.ga K "World") "turns" (tVar 0)) (tC (.int 0)))) (tRet (tC (.bl false))) tNext)
    (tSeq (sFd (He.ga K "World") "turns" (tVar 0) (tOp rSubI (tFd (He.ga K "World") "turns" (tVar 0)) (tC (.int 1))))
    (tRet (tC (.bl true)))))
def n_World_taken : List Str := ["self"]
def t_joined (K : PySem.W.Frag) : TS :=
  (tSeq (tIfS (tTest (tOp rEq (tVar 0) (tC (.str "add")))) (tRet (tTup (tCons (tC (.str "value")) (tCons (tOp rAddI (tVar 1) (tVar 2)) tNil)))) tNext)
    (tSeq (tIfS (tTest (tOp rEq (tVar 0) (tC (.str "sub")))) (tRet (tTup (tCons (tC (.str "value")) (tCons (tOp rSubI (tVar 1) (tVar 2)) tNil)))) tNext)
    (tSeq (tIfS (tTest (tOp rEq (tVar 0) (tC (.str "less")))) (tRet (tTup (tCons (tC (.str "value")) (tCons (tIf (tTest (tOp rLtI (tVar 1) (tVar 2))) (tC (.int 1)) (tC (.int 0))) tNil)))) tNext)
    (tSeq (tIfS (tTest (tOp rEq (tVar 2) (tC (.int 0)))) (tRet (tTup (tCons (tC (.str "fault")) (tCons (tC (.int 101)) tNil)))) tNext)
    (tRet (tTup (tCons (tC (.str "value")) (tCons (tOp rFd (tVar 1) (tVar 2)) tNil))))))))
def n_joined : List Str := ["word", "one", "other"]
def t_reckoned (K : PySem.W.Frag) (sp_reckoned sp_called sp_joined : Sp) : TS :=
  (tSeq (tAsg (tOp (rIxT K) (tVar 0) (tC (.int 0))) (gName 3))
    (tSeq (tIfS (tTest (tOp rEq (tVar 3) (tC (.str "num")))) (tRet (tTup (tCons (tC (.str "value")) (tCons (tOp (rIxT K) (tVar 0) (tC (.int 1))) tNil)))) tNext)
    (tSeq (tIfS (tTest (tOp rEq (tVar 3) (tC (.str "box")))) (tRet (tTup (tCons (tC (.str "value")) (tCons (tOp (rIxL K) (tVar 1) (tOp (rIxT K) (tVar 0) (tC (.int 1)))) tNil)))) tNext)
    (tSeq (tIfS (tTest (tOp rEq (tVar 3) (tC (.str "call")))) (tSeq (tAsg (tCall sp_reckoned [] E0 (tCons (tOp (rIxT K) (tVar 0) (tC (.int 2))) (tCons (tVar 1) (tCons (tVar 2) tNil)))) (gName 4))
    (tSeq (tIfS (tTest (tOp rNe (tOp (rIxT K) (tVar 4) (tC (.int 0))) (tC (.str "value")))) (tRet (tVar 4)) tNext)
    (tRet (tCall sp_called [] E0 (tCons (tOp (rIxT K) (tVar 0) (tC (.int 1))) (tCons (tOp (rIxT K) (tVar 4) (tC (.int 1))) (tCons (tVar 2) tNil))))))) tNext)
    (tSeq (tAsg (tCall sp_reckoned [] E0 (tCons (tOp (rIxT K) (tVar 0) (tC (.int 1))) (tCons (tVar 1) (tCons (tVar 2) tNil)))) (gName 5))
    (tSeq (tIfS (tTest (tOp rNe (tOp (rIxT K) (tVar 5) (tC (.int 0))) (tC (.str "value")))) (tRet (tVar 5)) tNext)
    (tSeq (tAsg (tCall sp_reckoned [] E0 (tCons (tOp (rIxT K) (tVar 0) (tC (.int 2))) (tCons (tVar 1) (tCons (tVar 2) tNil)))) (gName 6))
    (tSeq (tIfS (tTest (tOp rNe (tOp (rIxT K) (tVar 6) (tC (.int 0))) (tC (.str "value")))) (tRet (tVar 6)) tNext)
    (tRet (tCall sp_joined [] E0 (tCons (tVar 3) (tCons (tOp (rIxT K) (tVar 5) (tC (.int 1))) (tCons (tOp (rIxT K) (tVar 6) (tC (.int 1))) tNil)))))))))))))
def n_reckoned : List Str := ["tree", "boxes", "world", "word", "found", "one", "other"]
def t_called (K : PySem.W.Frag) (sp_World_taken sp_entered : Sp) : TS :=
  (tSeq (tIfS (tNot (tB (tMeth (He.ga K "World") "taken" sp_World_taken [] E0 (tVar 2) tNil))) (tRet (tTup (tCons (tC (.str "tired")) (tCons (tC (.int 0)) tNil)))) tNext)
    (tSeq (tIfS (tTest (tOp rEq (tFd (He.ga K "World") "deep" (tVar 2)) (tC (.int 8)))) (tRet (tTup (tCons (tC (.str "fault")) (tCons (tC (.int 102)) tNil)))) tNext)
    (tRet (tCall sp_entered [] E0 (tCons (tVar 0) (tCons (tVar 1) (tCons (tVar 2) tNil)))))))
def n_called : List Str := ["number", "given", "world"]
def t_entered (K : PySem.W.Frag) (sp_block_done : Sp) : TS :=
  (tSeq (sFd (He.ga K "World") "deep" (tVar 2) (tOp rAddI (tFd (He.ga K "World") "deep" (tVar 2)) (tC (.int 1))))
    (tSeq (tAsg (tCall sp_block_done [] E0 (tCons (tOp (rIxL K) (tFd (He.ga K "World") "program" (tVar 2)) (tVar 0)) (tCons (tOp rCat (tLst (tCons (tVar 1) tNil)) (tOp rRep (tLst (tCons (tC (.int 0)) tNil)) (tOp rSubI (tC (.int 4)) (tC (.int 1))))) (tCons (tVar 2) tNil)))) (gName 3))
    (tSeq (sFd (He.ga K "World") "deep" (tVar 2) (tOp rSubI (tFd (He.ga K "World") "deep" (tVar 2)) (tC (.int 1))))
    (tSeq (tIfS (tTest (tOp rEq (tOp (rIxT K) (tVar 3) (tC (.int 0))) (tC (.str "on")))) (tRet (tTup (tCons (tC (.str "value")) (tCons (tC (.int 0)) tNil)))) tNext)
    (tSeq (tIfS (tTest (tOp rEq (tOp (rIxT K) (tVar 3) (tC (.int 0))) (tC (.str "give")))) (tRet (tTup (tCons (tC (.str "value")) (tCons (tOp (rIxT K) (tVar 3) (tC (.int 1))) tNil)))) tNext)
    (tRet (tVar 3)))))))
def n_entered : List Str := ["number", "given", "world", "found"]
def t_block_done (K : PySem.W.Frag) (sp_row_done : Sp) : TS :=
  (tSeq (tFor (iList K (tVar 0)) (gName 3) (tSeq (tAsg (tCall sp_row_done [] E0 (tCons (tVar 3) (tCons (tVar 1) (tCons (tVar 2) tNil)))) (gName 4))
    (tIfS (tTest (tOp rNe (tOp (rIxT K) (tVar 4) (tC (.int 0))) (tC (.str "on")))) (tRet (tVar 4)) tNext)))
    (tRet (tTup (tCons (tC (.str "on")) (tCons (tC (.int 0)) tNil)))))
def n_block_done : List Str := ["block", "boxes", "world", "row", "found"]
def t_row_done (K : PySem.W.Frag) (sp_loop_done sp_catch_done sp_end_done sp_reckoned sp_block_done : Sp) : TS :=
  (tSeq (tAsg (tOp (rIxT K) (tVar 0) (tC (.int 0))) (gName 3))
    (tSeq (tIfS (tOr (tTest (tOp rEq (tVar 3) (tC (.str "leave")))) (tTest (tOp rEq (tVar 3) (tC (.str "next"))))) (tRet (tTup (tCons (tVar 3) (tCons (tC (.int 0)) tNil)))) tNext)
    (tSeq (tIfS (tTest (tOp rEq (tVar 3) (tC (.str "loop")))) (tRet (tCall sp_loop_done [] E0 (tCons (tVar 0) (tCons (tVar 1) (tCons (tVar 2) tNil))))) tNext)
    (tSeq (tIfS (tTest (tOp rEq (tVar 3) (tC (.str "catch")))) (tRet (tCall sp_catch_done [] E0 (tCons (tVar 0) (tCons (tVar 1) (tCons (tVar 2) tNil))))) tNext)
    (tSeq (tIfS (tTest (tOp rEq (tVar 3) (tC (.str "end")))) (tRet (tCall sp_end_done [] E0 (tCons (tVar 0) (tCons (tVar 1) (tCons (tVar 2) tNil))))) tNext)
    (tSeq (tAsg (tCall sp_reckoned [] E0 (tCons (tIf (tTest (tOp rEq (tVar 3) (tC (.str "set")))) (tOp (rIxT K) (tVar 0) (tC (.int 2))) (tOp (rIxT K) (tVar 0) (tC (.int 1)))) (tCons (tVar 1) (tCons (tVar 2) tNil)))) (gName 4))
    (tSeq (tIfS (tTest (tOp rNe (tOp (rIxT K) (tVar 4) (tC (.int 0))) (tC (.str "value")))) (tRet (tVar 4)) tNext)
    (tSeq (tIfS (tTest (tOp rEq (tVar 3) (tC (.str "if")))) (tRet (tCall sp_block_done [] E0 (tCons (tIf (tTest (tOp rEq (tOp (rIxT K) (tVar 4) (tC (.int 1))) (tC (.int 0)))) (tOp (rIxT K) (tVar 0) (tC (.int 3))) (tOp (rIxT K) (tVar 0) (tC (.int 2)))) (tCons (tVar 1) (tCons (tVar 2) tNil))))) tNext)
    (tSeq (tIfS (tTest (tOp rEq (tVar 3) (tC (.str "give")))) (tRet (tTup (tCons (tC (.str "give")) (tCons (tOp (rIxT K) (tVar 4) (tC (.int 1))) tNil)))) tNext)
    (tSeq (tIfS (tTest (tOp rEq (tVar 3) (tC (.str "raise")))) (tRet (tTup (tCons (tC (.str "fault")) (tCons (tOp (rIxT K) (tVar 4) (tC (.int 1))) tNil)))) tNext)
    (tSeq (tIfS (tTest (tOp rEq (tVar 3) (tC (.str "set")))) (tAsg (tOp (rIxT K) (tVar 4) (tC (.int 1))) (gSub (tVar 1) (tOp (rIxT K) (tVar 0) (tC (.int 1))) rSetL)) (tDrop (tBM K "list" rAppend (tFd (He.ga K "World") "said" (tVar 2)) (tCons (tOp (rIxT K) (tVar 4) (tC (.int 1))) tNil))))
    (tRet (tTup (tCons (tC (.str "on")) (tCons (tC (.int 0)) tNil)))))))))))))))
def n_row_done : List Str := ["row", "boxes", "world", "word", "found"]
def t_loop_done (K : PySem.W.Frag) (sp_World_taken sp_reckoned sp_block_done : Sp) : TS :=
  (tSeq (tWhile (tB (tMeth (He.ga K "World") "taken" sp_World_taken [] E0 (tVar 2) tNil)) (tSeq (tAsg (tCall sp_reckoned [] E0 (tCons (tOp (rIxT K) (tVar 0) (tC (.int 1))) (tCons (tVar 1) (tCons (tVar 2) tNil)))) (gName 3))
    (tSeq (tIfS (tTest (tOp rNe (tOp (rIxT K) (tVar 3) (tC (.int 0))) (tC (.str "value")))) (tRet (tVar 3)) tNext)
    (tSeq (tIfS (tTest (tOp rEq (tOp (rIxT K) (tVar 3) (tC (.int 1))) (tC (.int 0)))) (tRet (tTup (tCons (tC (.str "on")) (tCons (tC (.int 0)) tNil)))) tNext)
    (tSeq (tAsg (tCall sp_block_done [] E0 (tCons (tOp (rIxT K) (tVar 0) (tC (.int 2))) (tCons (tVar 1) (tCons (tVar 2) tNil)))) (gName 3))
    (tSeq (tIfS (tTest (tOp rEq (tOp (rIxT K) (tVar 3) (tC (.int 0))) (tC (.str "leave")))) (tRet (tTup (tCons (tC (.str "on")) (tCons (tC (.int 0)) tNil)))) tNext)
    (tIfS (tAnd (tTest (tOp rNe (tOp (rIxT K) (tVar 3) (tC (.int 0))) (tC (.str "on")))) (tTest (tOp rNe (tOp (rIxT K) (tVar 3) (tC (.int 0))) (tC (.str "next"))))) (tRet (tVar 3)) tNext)))))))
    (tRet (tTup (tCons (tC (.str "tired")) (tCons (tC (.int 0)) tNil)))))
def n_loop_done : List Str := ["row", "boxes", "world", "found"]
def t_catch_done (K : PySem.W.Frag) (sp_block_done : Sp) : TS :=
  (tSeq (tAsg (tCall sp_block_done [] E0 (tCons (tOp (rIxT K) (tVar 0) (tC (.int 1))) (tCons (tVar 1) (tCons (tVar 2) tNil)))) (gName 3))
    (tSeq (tIfS (tTest (tOp rNe (tOp (rIxT K) (tVar 3) (tC (.int 0))) (tC (.str "fault")))) (tRet (tVar 3)) tNext)
    (tSeq (tIfS (tAnd (tTest (tOp rIsNotNo (tOp (rIxT K) (tVar 0) (tC (.int 2))) (tC .non))) (tTest (tOp rNe (tOp (rIxT K) (tVar 3) (tC (.int 1))) (tOp (rIxT K) (tVar 0) (tC (.int 2)))))) (tRet (tVar 3)) tNext)
    (tSeq (tAsg (tOp (rIxT K) (tVar 3) (tC (.int 1))) (gSub (tVar 1) (tOp (rIxT K) (tVar 0) (tC (.int 3))) rSetL))
    (tRet (tCall sp_block_done [] E0 (tCons (tOp (rIxT K) (tVar 0) (tC (.int 4))) (tCons (tVar 1) (tCons (tVar 2) tNil)))))))))
def n_catch_done : List Str := ["row", "boxes", "world", "found"]
def t_end_done (K : PySem.W.Frag) (sp_block_done : Sp) : TS :=
  (tSeq (tAsg (tCall sp_block_done [] E0 (tCons (tOp (rIxT K) (tVar 0) (tC (.int 1))) (tCons (tVar 1) (tCons (tVar 2) tNil)))) (gName 3))
    (tSeq (tIfS (tTest (tOp rEq (tOp (rIxT K) (tVar 3) (tC (.int 0))) (tC (.str "tired")))) (tRet (tVar 3)) tNext)
    (tSeq (tAsg (tCall sp_block_done [] E0 (tCons (tOp (rIxT K) (tVar 0) (tC (.int 2))) (tCons (tVar 1) (tCons (tVar 2) tNil)))) (gName 4))
    (tSeq (tIfS (tTest (tOp rNe (tOp (rIxT K) (tVar 4) (tC (.int 0))) (tC (.str "on")))) (tRet (tVar 4)) tNext)
    (tRet (tVar 3))))))
def n_end_done : List Str := ["row", "boxes", "world", "found", "last"]
def t_told (K : PySem.W.Frag) (sp_checked sp_World___init__ sp_entered : Sp) : TS :=
  (tSeq (tDrop (tCall sp_checked [] E0 (tCons (tVar 0) tNil)))
    (tSeq (tAsg (tMake (He.ga K "World") sp_World___init__ [] E0 (tCons (tVar 0) (tCons (tVar 2) tNil))) (gName 3))
    (tSeq (tAsg (tCall sp_entered [] E0 (tCons (tC (.int 0)) (tCons (tVar 1) (tCons (tVar 3) tNil)))) (gName 4))
    (tSeq (tAsg (tIf (tTest (tOp rEq (tOp (rIxT K) (tVar 4) (tC (.int 0))) (tC (.str "value")))) (tC (.str "answer")) (tOp (rIxT K) (tVar 4) (tC (.int 0)))) (gName 5))
    (tRet (tTup (tCons (tFd (He.ga K "World") "said" (tVar 3)) (tCons (tVar 5) (tCons (tOp (rIxT K) (tVar 4) (tC (.int 1))) tNil)))))))))
def n_told : List Str := ["program", "number", "turns", "world", "found", "word"]
end U

/-! programs and what they tell, in plain Lean -/
namespace Un
open PySem

inductive Op where
  | add | sub | less | share
  deriving DecidableEq, Repr
def Op.str : Op → Str
  | .add => "add"
  | .sub => "sub"
  | .less => "less"
  | .share => "share"
inductive Tree where
  | num (n : Int)
  | box (k : Int)
  | call (f : Int) (t : Tree)
  | bin (o : Op) (a b : Tree)
  deriving DecidableEq, Repr
inductive Sm where
  | set (k : Int) (e : Tree)
  | say (e : Tree)
  | ife (e : Tree) (a b : List Sm)
  | loop (e : Tree) (b : List Sm)
  | leave
  | next
  | give (e : Tree)
  | raise (e : Tree)
  | ctch (b : List Sm) (n : Option Int) (k : Int) (h : List Sm)
  | endd (b l : List Sm)

def at? {α : Type} (xs : List α) (i : Int) : Option α := if 0 ≤ i then xs[i.toNat]? else none

/-! ### what is well formed -/
def Tree.ok (count : Nat) : Nat → Tree → Bool
  | 0, _ => false
  | _ + 1, .num _ => true
  | _ + 1, .box k => decide (0 ≤ k ∧ k < 4)
  | d + 1, .call f t => decide (0 ≤ f ∧ f < count) && t.ok count d
  | d + 1, .bin _ a b => a.ok count d && b.ok count d
mutual
def Sm.ok (count : Nat) (loops : Bool) : Nat → Sm → Bool
  | _, .set k e => decide (0 ≤ k ∧ k < 4) && e.ok count 6
  | _, .say e => e.ok count 6
  | 0, .ife _ _ _ => false
  | d + 1, .ife e a b => e.ok count 6 && (oks count loops d a && oks count loops d b)
  | 0, .loop _ _ => false
  | d + 1, .loop e b => e.ok count 6 && oks count true d b
  | _, .leave => loops
  | _, .next => loops
  | _, .give e => e.ok count 6
  | _, .raise e => e.ok count 6
  | 0, .ctch _ _ _ _ => false
  | d + 1, .ctch b _ k h => oks count loops d b && (decide (0 ≤ k ∧ k < 4) && oks count loops d h)
  | 0, .endd _ _ => false
  | d + 1, .endd b l => oks count loops d b && oks count loops d l
def oks (count : Nat) (loops : Bool) : Nat → List Sm → Bool
  | _, [] => true
  | d, s :: r => s.ok count loops d && oks count loops d r
end
/-- a program that is not refused: d more blocks within a function's own (7) -/
def okProg (P : List (List Sm)) : Bool := decide (0 < P.length) && P.all (oks P.length false 7)

/-! ### what it tells -/
structure Wd where
  said : List Int
  turns : Nat
  deep : Nat
inductive Wy where
  | value | fault | tired | on | leave | next | give
  deriving DecidableEq, Repr
def Wy.str : Wy → Str
  | .value => "value"
  | .fault => "fault"
  | .tired => "tired"
  | .on => "on"
  | .leave => "leave"
  | .next => "next"
  | .give => "give"
abbrev Res := Wy × Int
def joinT (o : Op) (a b : Int) : Res := match o with
  | .add => (.value, a + b)
  | .sub => (.value, a - b)
  | .less => (.value, if a < b then 1 else 0)
  | .share => if b = 0 then (.fault, 101) else (.value, a.fdiv b)
/-- the defs that call one another, at a level -/
structure Ev where
  tree : Tree → List Int → Wd → Option (Res × Wd)
  call : Int → Int → Wd → Option (Res × Wd)
  enter : Int → Int → Wd → Option (Res × Wd)
  block : List Sm → List Int → Wd → Option (Res × List Int × Wd)
  row : Sm → List Int → Wd → Option (Res × List Int × Wd)
  loop : Tree → List Sm → List Int → Wd → Option (Res × List Int × Wd)
  ctch : List Sm → Option Int → Int → List Sm → List Int → Wd → Option (Res × List Int × Wd)
  endd : List Sm → List Sm → List Int → Wd → Option (Res × List Int × Wd)
def Ev.no : Ev := ⟨fun _ _ _ => none, fun _ _ _ => none, fun _ _ _ => none, fun _ _ _ => none, fun _ _ _ => none, fun _ _ _ _ => none, fun _ _ _ _ _ _ => none, fun _ _ _ _ => none⟩
def treeS (E : Ev) (t : Tree) (bx : List Int) (w : Wd) : Option (Res × Wd) := match t with
  | .num n => some ((.value, n), w)
  | .box k => (at? bx k).map fun v => ((.value, v), w)
  | .call f t => match E.tree t bx w with
    | some ((.value, v), w1) => E.call f v w1
    | r => r
  | .bin o a b => match E.tree a bx w with
    | some ((.value, x), w1) => match E.tree b bx w1 with
      | some ((.value, y), w2) => some (joinT o x y, w2)
      | r => r
    | r => r
def callS (E : Ev) (f v : Int) (w : Wd) : Option (Res × Wd) :=
  if w.turns = 0 then some ((.tired, 0), w)
  else if w.deep = 8 then some ((.fault, 102), { w with turns := w.turns - 1 })
  else E.enter f v { w with turns := w.turns - 1 }
def outOf : Res → Res
  | (.on, _) => (.value, 0)
  | (.give, v) => (.value, v)
  | r => r
def enterS (P : List (List Sm)) (E : Ev) (f v : Int) (w : Wd) : Option (Res × Wd) := match at? P f with
  | none => none
  | some b => (E.block b [v, 0, 0, 0] { w with deep := w.deep + 1 }).map fun r => (outOf r.1, { r.2.2 with deep := r.2.2.deep - 1 })
def blockS (E : Ev) : List Sm → List Int → Wd → Option (Res × List Int × Wd)
  | [], bx, w => some ((.on, 0), bx, w)
  | s :: b, bx, w => match E.row s bx w with
    | some ((.on, _), bx1, w1) => blockS E b bx1 w1
    | r => r
/-- the value of e, and on with it -/
def thenT (E : Ev) (e : Tree) (bx : List Int) (w : Wd) (k : Int → Wd → Option (Res × List Int × Wd)) : Option (Res × List Int × Wd) := match E.tree e bx w with
  | some ((.value, v), w1) => k v w1
  | some (r, w1) => some (r, bx, w1)
  | none => none
def rowS (E : Ev) (s : Sm) (bx : List Int) (w : Wd) : Option (Res × List Int × Wd) := match s with
  | .leave => some ((.leave, 0), bx, w)
  | .next => some ((.next, 0), bx, w)
  | .loop e b => E.loop e b bx w
  | .ctch b n k h => E.ctch b n k h bx w
  | .endd b l => E.endd b l bx w
  | .ife e a b => thenT E e bx w fun v w1 => E.block (if v = 0 then b else a) bx w1
  | .give e => thenT E e bx w fun v w1 => some ((.give, v), bx, w1)
  | .raise e => thenT E e bx w fun v w1 => some ((.fault, v), bx, w1)
  | .set k e => thenT E e bx w fun v w1 => if 0 ≤ k ∧ k < bx.length then some ((.on, 0), bx.set k.toNat v, w1) else none
  | .say e => thenT E e bx w fun v w1 => some ((.on, 0), bx, { w1 with said := w1.said ++ [v] })
def loopGo (E : Ev) (e : Tree) (b : List Sm) : Nat → List Int → Wd → Option (Res × List Int × Wd)
  | 0, _, _ => none
  | c + 1, bx, w =>
    if w.turns = 0 then some ((.tired, 0), bx, w)
    else thenT E e bx { w with turns := w.turns - 1 } fun v w1 =>
      if v = 0 then some ((.on, 0), bx, w1)
      else match E.block b bx w1 with
        | some ((.leave, _), bx2, w2) => some ((.on, 0), bx2, w2)
        | some ((.on, _), bx2, w2) => loopGo E e b c bx2 w2
        | some ((.next, _), bx2, w2) => loopGo E e b c bx2 w2
        | r => r
def loopS (E : Ev) (e : Tree) (b : List Sm) (bx : List Int) (w : Wd) : Option (Res × List Int × Wd) := loopGo E e b (w.turns + 1) bx w
def ctchS (E : Ev) (b : List Sm) (n : Option Int) (k : Int) (h : List Sm) (bx : List Int) (w : Wd) : Option (Res × List Int × Wd) := match E.block b bx w with
  | some ((.fault, v), bx1, w1) => if n ≠ none ∧ some v ≠ n then some ((.fault, v), bx1, w1) else if 0 ≤ k ∧ k < bx1.length then E.block h (bx1.set k.toNat v) w1 else none
  | r => r
def endS (E : Ev) (b l : List Sm) (bx : List Int) (w : Wd) : Option (Res × List Int × Wd) := match E.block b bx w with
  | some ((.tired, v), bx1, w1) => some ((.tired, v), bx1, w1)
  | some (r, bx1, w1) => match E.block l bx1 w1 with
    | some ((.on, _), bx2, w2) => some (r, bx2, w2)
    | r2 => r2
  | none => none
def ev (P : List (List Sm)) : Nat → Ev
  | 0 => Ev.no
  | n + 1 => ⟨treeS (ev P n), callS (ev P n), enterS P (ev P n), blockS (ev P n), rowS (ev P n), loopS (ev P n), ctchS (ev P n), endS (ev P n)⟩
end Un

/-! what grows and what stays along an evaluation -/
namespace Un
open PySem
structure Le (w w' : Wd) : Prop where
  said : w.said <+: w'.said
  turns : w'.turns ≤ w.turns
  deep : w'.deep = w.deep
theorem Le.refl (w : Wd) : Le w w := ⟨List.prefix_refl _, Nat.le_refl _, rfl⟩
theorem Le.trans {a b c : Wd} (h : Le a b) (k : Le b c) : Le a c := ⟨h.said.trans k.said, Nat.le_trans k.turns h.turns, k.deep.trans h.deep⟩
theorem Le.turn {w w' : Wd} {t : Nat} (ht : t ≤ w.turns) (h : Le { w with turns := t } w') : Le w w' := ⟨h.said, Nat.le_trans h.turns ht, h.deep⟩
theorem Le.len {w w' : Wd} (h : Le w w') : w.said.length ≤ w'.said.length := h.said.length_le
structure Good (E : Ev) : Prop where
  tree : ∀ {t bx w r w'}, E.tree t bx w = some (r, w') → Le w w'
  call : ∀ {f v w r w'}, E.call f v w = some (r, w') → Le w w'
  enter : ∀ {f v w r w'}, E.enter f v w = some (r, w') → Le w w'
  block : ∀ {b bx w r bx' w'}, E.block b bx w = some (r, bx', w') → Le w w' ∧ bx'.length = bx.length
  row : ∀ {s bx w r bx' w'}, E.row s bx w = some (r, bx', w') → Le w w' ∧ bx'.length = bx.length
  loop : ∀ {e b bx w r bx' w'}, E.loop e b bx w = some (r, bx', w') → Le w w' ∧ bx'.length = bx.length
  ctch : ∀ {b n k h bx w r bx' w'}, E.ctch b n k h bx w = some (r, bx', w') → Le w w' ∧ bx'.length = bx.length
  endd : ∀ {b l bx w r bx' w'}, E.endd b l bx w = some (r, bx', w') → Le w w' ∧ bx'.length = bx.length
theorem good_no : Good Ev.no :=
  by constructor <;> (intros; rename_i h; cases h)
theorem thenT_good {E : Ev} (G : Good E) {e : Tree} {bx : List Int} {w : Wd} {k : Int → Wd → Option (Res × List Int × Wd)} {r : Res} {bx' : List Int} {w' : Wd} (h : thenT E e bx w k = some (r, bx', w'))
    (hk : ∀ v w1, k v w1 = some (r, bx', w') → Le w1 w' ∧ bx'.length = bx.length) : Le w w' ∧ bx'.length = bx.length := by
  unfold thenT at h
  split at h
  · rename_i v w1 he
    have q := hk _ _ h
    exact ⟨(G.tree he).trans q.1, q.2⟩
  · rename_i r1 w1 _ he
    cases h
    exact ⟨G.tree he, rfl⟩
  · cases h
theorem loopGo_good {E : Ev} (G : Good E) (e : Tree) (b : List Sm) : ∀ (c : Nat) {bx : List Int} {w : Wd} {r : Res} {bx' : List Int} {w' : Wd}, loopGo E e b c bx w = some (r, bx', w') → Le w w' ∧ bx'.length = bx.length
  | 0, _, _, _, _, _, h => by cases h
  | c + 1, bx, w, r, bx', w', h => by
    unfold loopGo at h
    split at h
    · cases h
      exact ⟨Le.refl _, rfl⟩
    · have q := thenT_good G h fun v w1 hk => by
        split at hk
        · cases hk
          exact ⟨Le.refl _, rfl⟩
        · split at hk
          · rename_i hb
            cases hk
            exact G.block hb
          · rename_i hb
            have i := G.block hb
            have j := loopGo_good G e b c hk
            exact ⟨i.1.trans j.1, j.2.trans i.2⟩
          · rename_i hb
            have i := G.block hb
            have j := loopGo_good G e b c hk
            exact ⟨i.1.trans j.1, j.2.trans i.2⟩
          · exact G.block hk
      exact ⟨q.1.turn (by omega), q.2⟩
theorem blockS_good {E : Ev} (G : Good E) : ∀ (b : List Sm) {bx : List Int} {w : Wd} {r : Res} {bx' : List Int} {w' : Wd}, blockS E b bx w = some (r, bx', w') → Le w w' ∧ bx'.length = bx.length
  | [], _, _, _, _, _, h => by
    cases h
    exact ⟨Le.refl _, rfl⟩
  | s :: b, bx, w, r, bx', w', h => by
    unfold blockS at h
    split at h
    · rename_i hr
      have i := G.row hr
      have j := blockS_good G b h
      exact ⟨i.1.trans j.1, j.2.trans i.2⟩
    · exact G.row h
theorem good_ev (P : List (List Sm)) : ∀ n, Good (ev P n)
  | 0 => good_no
  | n + 1 => by
    have G := good_ev P n
    refine ⟨?_, ?_, ?_, fun h => blockS_good G _ h, ?_, fun h => loopGo_good G _ _ _ h, ?_, ?_⟩
    · intro t bx w r w' h
      have h : treeS (ev P n) t bx w = some (r, w') := h
      unfold treeS at h
      cases t with
      | num n => cases h; exact Le.refl _
      | box k =>
        dsimp only at h
        cases hv : at? bx k with
        | none => rw [hv] at h; cases h
        | some v => rw [hv] at h; cases h; exact Le.refl _
      | call f t =>
        dsimp only at h
        split at h
        · rename_i he
          exact (G.tree he).trans (G.call h)
        · exact G.tree h
      | bin o a b =>
        dsimp only at h
        split at h
        · rename_i ha
          split at h
          · rename_i hb
            cases h
            exact (G.tree ha).trans (G.tree hb)
          · exact (G.tree ha).trans (G.tree h)
        · exact G.tree h
    · intro f v w r w' h
      have h : callS (ev P n) f v w = some (r, w') := h
      unfold callS at h
      split at h
      · cases h; exact Le.refl _
      · split at h
        · cases h
          exact ⟨List.prefix_refl _, by dsimp only; omega, rfl⟩
        · exact (G.enter h).turn (by omega)
    · intro f v w r w' h
      have h : enterS P (ev P n) f v w = some (r, w') := h
      unfold enterS at h
      split at h
      · cases h
      · cases hb : (ev P n).block _ [v, 0, 0, 0] { w with deep := w.deep + 1 } with
        | none => rw [hb] at h; cases h
        | some x =>
          obtain ⟨r1, bx1, w1⟩ := x
          rw [hb] at h
          cases h
          have i := (G.block hb).1
          exact ⟨i.said, i.turns, by have := i.deep; dsimp only at this ⊢; omega⟩
    · intro s bx w r bx' w' h
      have h : rowS (ev P n) s bx w = some (r, bx', w') := h
      unfold rowS at h
      cases s with
      | leave => cases h; exact ⟨Le.refl _, rfl⟩
      | next => cases h; exact ⟨Le.refl _, rfl⟩
      | loop e b => exact G.loop h
      | ctch b n k h' => exact G.ctch h
      | endd b l => exact G.endd h
      | ife e a b => exact thenT_good G h fun v w1 hk => G.block hk
      | give e => exact thenT_good G h fun v w1 hk => by cases hk; exact ⟨Le.refl _, rfl⟩
      | raise e => exact thenT_good G h fun v w1 hk => by cases hk; exact ⟨Le.refl _, rfl⟩
      | set k e =>
        exact thenT_good G h fun v w1 hk => by
          split at hk
          · cases hk
            exact ⟨Le.refl _, by simp⟩
          · cases hk
      | say e =>
        exact thenT_good G h fun v w1 hk => by
          cases hk
          exact ⟨⟨List.prefix_append _ _, Nat.le_refl _, rfl⟩, rfl⟩
    · intro b m k h' bx w r bx' w' h
      have h : ctchS (ev P n) b m k h' bx w = some (r, bx', w') := h
      unfold ctchS at h
      split at h
      · rename_i hb
        have i := G.block hb
        split at h
        · cases h
          exact i
        · split at h
          · have j := G.block h
            exact ⟨i.1.trans j.1, by rw [j.2, List.length_set, i.2]⟩
          · cases h
      · exact G.block h
    · intro b l bx w r bx' w' h
      have h : endS (ev P n) b l bx w = some (r, bx', w') := h
      unfold endS at h
      split at h
      · rename_i hb
        cases h
        exact G.block hb
      · rename_i hb
        have i := G.block hb
        split at h
        · rename_i hl
          cases h
          have j := G.block hl
          exact ⟨i.1.trans j.1, j.2.trans i.2⟩
        · have j := G.block h
          exact ⟨i.1.trans j.1, j.2.trans i.2⟩
      · cases h
end Un

namespace U
open PySem PySem.Spec PyProof.Rows L2
/-! readings of the defs -/
def t_goal_of (K : PySem.W.Frag) : TS :=
  (tSeq (tFor (iList K (tVar 0)) (gName 2) (tIfS (tAnd (tTest (tOp rLeI (tOp (rIxT K) (tVar 2) (tC (.int 0))) (tVar 1))) (tTest (tOp rLtI (tVar 1) (tOp (rIxT K) (tVar 2) (tC (.int 1)))))) (tRet (tOp (rIxT K) (tVar 2) (tC (.int 2)))) tNext))
    (tRet (tC .non)))
def n_goal_of : List Str := ["stretches", "place", "row"]
def t_Frame___init__ (K : PySem.W.Frag) : TS :=
  (tSeq (sFd (He.ga K "Frame") "place" (tVar 0) (tVar 1))
    (tSeq (sFd (He.ga K "Frame") "boxes" (tVar 0) (tOp rCat (tLst (tCons (tVar 3) tNil)) (tOp rRep (tLst (tCons (tC (.int 0)) tNil)) (tOp rSubI (tVar 2) (tC (.int 1))))))
    (sFd (He.ga K "Frame") "pile" (tVar 0) (tLst tNil))))
def n_Frame___init__ : List Str := ["self", "place", "boxes", "number"]
def t_Frame_lay (K : PySem.W.Frag) : TS :=
  (tSeq (tDrop (tBM K "list" rAppend (tFd (He.ga K "Frame") "pile" (tVar 0)) (tCons (tVar 1) tNil)))
    (sFd (He.ga K "Frame") "place" (tVar 0) (tOp rAddI (tFd (He.ga K "Frame") "place" (tVar 0)) (tC (.int 1)))))
def n_Frame_lay : List Str := ["self", "number"]
def t_Machine___init__ (K : PySem.W.Frag) (sp_Frame___init__ : Sp) : TS :=
  (tSeq (sFd (He.ga K "Machine") "code" (tVar 0) (tOp (rIxT K) (tVar 1) (tC (.int 0))))
    (tSeq (sFd (He.ga K "Machine") "stretches" (tVar 0) (tOp (rIxT K) (tVar 1) (tC (.int 1))))
    (tSeq (sFd (He.ga K "Machine") "starts" (tVar 0) (tOp (rIxT K) (tVar 1) (tC (.int 2))))
    (tSeq (sFd (He.ga K "Machine") "boxes" (tVar 0) (tOp (rIxT K) (tVar 1) (tC (.int 3))))
    (tSeq (sFd (He.ga K "Machine") "turns" (tVar 0) (tVar 3))
    (tSeq (sFd (He.ga K "Machine") "said" (tVar 0) (tLst tNil))
    (tSeq (sFd (He.ga K "Machine") "ended" (tVar 0) (tC .non))
    (sFd (He.ga K "Machine") "frames" (tVar 0) (tLst (tCons (tMake (He.ga K "Frame") sp_Frame___init__ [] E0 (tCons (tOp (rIxL K) (tFd (He.ga K "Machine") "starts" (tVar 0)) (tC (.int 0))) (tCons (tFd (He.ga K "Machine") "boxes" (tVar 0)) (tCons (tVar 2) tNil)))) tNil))))))))))
def n_Machine___init__ : List Str := ["self", "parts", "number", "turns"]
def t_Machine_step (K : PySem.W.Frag) (sp_Machine_meet sp_Machine_move sp_Machine_jump sp_Machine_taken sp_Machine_enter sp_Machine_back sp_Machine_fault : Sp) : TS :=
  (tSeq (tAsg (tOp (rIxL K) (tFd (He.ga K "Machine") "frames" (tVar 0)) (tOp rSubI (tCB (rLenQ K) (tCons (tFd (He.ga K "Machine") "frames" (tVar 0)) tNil)) (tC (.int 1)))) (gName 1))
    (tSeq (tAsg (tOp (rIxL K) (tFd (He.ga K "Machine") "code" (tVar 0)) (tFd (He.ga K "Frame") "place" (tVar 1))) (gName 2))
    (tSeq (tAsg (tOp (rIxT K) (tVar 2) (tC (.int 0))) (gName 3))
    (tIfS (tTest (tOp (rIn K false) (tVar 3) (tTup (tCons (tC (.str "add")) (tCons (tC (.str "sub")) (tCons (tC (.str "less")) (tCons (tC (.str "share")) tNil))))))) (tDrop (tMeth (He.ga K "Machine") "meet" sp_Machine_meet [] E0 (tVar 0) (tCons (tVar 1) (tCons (tVar 3) tNil)))) (tIfS (tTest (tOp (rIn K false) (tVar 3) (tTup (tCons (tC (.str "put")) (tCons (tC (.str "get")) (tCons (tC (.str "set")) (tCons (tC (.str "say")) tNil))))))) (tDrop (tMeth (He.ga K "Machine") "move" sp_Machine_move [] E0 (tVar 0) (tCons (tVar 1) (tCons (tVar 2) tNil)))) (tIfS (tTest (tOp (rIn K false) (tVar 3) (tTup (tCons (tC (.str "go")) (tCons (tC (.str "nought")) (tCons (tC (.str "on")) tNil)))))) (tDrop (tMeth (He.ga K "Machine") "jump" sp_Machine_jump [] E0 (tVar 0) (tCons (tVar 1) (tCons (tVar 2) tNil)))) (tIfS (tTest (tOp rEq (tVar 3) (tC (.str "turn")))) (tIfS (tB (tMeth (He.ga K "Machine") "taken" sp_Machine_taken [] E0 (tVar 0) tNil)) (sFd (He.ga K "Frame") "place" (tVar 1) (tOp rAddI (tFd (He.ga K "Frame") "place" (tVar 1)) (tC (.int 1)))) tNext) (tIfS (tTest (tOp rEq (tVar 3) (tC (.str "call")))) (tDrop (tMeth (He.ga K "Machine") "enter" sp_Machine_enter [] E0 (tVar 0) (tCons (tOp (rIxT K) (tVar 2) (tC (.int 1))) (tCons (tBM0 K "list" rPop (tFd (He.ga K "Frame") "pile" (tVar 1))) tNil)))) (tIfS (tTest (tOp rEq (tVar 3) (tC (.str "back")))) (tDrop (tMeth (He.ga K "Machine") "back" sp_Machine_back [] E0 (tVar 0) (tCons (tBM0 K "list" rPop (tFd (He.ga K "Frame") "pile" (tVar 1))) tNil))) (tDrop (tMeth (He.ga K "Machine") "fault" sp_Machine_fault [] E0 (tVar 0) (tCons (tBM0 K "list" rPop (tFd (He.ga K "Frame") "pile" (tVar 1))) tNil))))))))))))
def n_Machine_step : List Str := ["self", "frame", "row", "word"]
def t_Machine_taken (K : PySem.W.Frag) : TS :=
  (tSeq (tIfS (tTest (tOp rEq (tFd (He.ga K "Machine") "turns" (tVar 0)) (tC (.int 0)))) (tSeq (sFd (He.ga K "Machine") "ended" (tVar 0) (tTup (tCons (tC (.str "tired")) (tCons (tC (.int 0)) tNil))))
    (tRet (tC (.bl false)))) tNext)
    (tSeq (sFd (He.ga K "Machine") "turns" (tVar 0) (tOp rSubI (tFd (He.ga K "Machine") "turns" (tVar 0)) (tC (.int 1))))
    (tRet (tC (.bl true)))))
def n_Machine_taken : List Str := ["self"]
def t_Machine_move (K : PySem.W.Frag) (sp_Frame_lay : Sp) : TS :=
  (tSeq (tIfS (tTest (tOp rEq (tOp (rIxT K) (tVar 2) (tC (.int 0))) (tC (.str "put")))) (tSeq (tDrop (tMeth (He.ga K "Frame") "lay" sp_Frame_lay [] E0 (tVar 1) (tCons (tOp (rIxT K) (tVar 2) (tC (.int 1))) tNil)))
    tRetN) tNext)
    (tSeq (tIfS (tTest (tOp rEq (tOp (rIxT K) (tVar 2) (tC (.int 0))) (tC (.str "get")))) (tSeq (tDrop (tMeth (He.ga K "Frame") "lay" sp_Frame_lay [] E0 (tVar 1) (tCons (tOp (rIxL K) (tFd (He.ga K "Frame") "boxes" (tVar 1)) (tOp (rIxT K) (tVar 2) (tC (.int 1)))) tNil)))
    tRetN) tNext)
    (tSeq (tAsg (tBM0 K "list" rPop (tFd (He.ga K "Frame") "pile" (tVar 1))) (gName 3))
    (tSeq (tIfS (tTest (tOp rEq (tOp (rIxT K) (tVar 2) (tC (.int 0))) (tC (.str "set")))) (tAsg (tVar 3) (gSub (tFd (He.ga K "Frame") "boxes" (tVar 1)) (tOp (rIxT K) (tVar 2) (tC (.int 1))) rSetL)) (tDrop (tBM K "list" rAppend (tFd (He.ga K "Machine") "said" (tVar 0)) (tCons (tVar 3) tNil))))
    (sFd (He.ga K "Frame") "place" (tVar 1) (tOp rAddI (tFd (He.ga K "Frame") "place" (tVar 1)) (tC (.int 1))))))))
def n_Machine_move : List Str := ["self", "frame", "row", "number"]
def t_Machine_meet (K : PySem.W.Frag) (sp_Frame_lay sp_Machine_fault : Sp) : TS :=
  (tSeq (tAsg (tBM0 K "list" rPop (tFd (He.ga K "Frame") "pile" (tVar 1))) (gName 3))
    (tSeq (tAsg (tBM0 K "list" rPop (tFd (He.ga K "Frame") "pile" (tVar 1))) (gName 4))
    (tIfS (tTest (tOp rEq (tVar 2) (tC (.str "add")))) (tDrop (tMeth (He.ga K "Frame") "lay" sp_Frame_lay [] E0 (tVar 1) (tCons (tOp rAddI (tVar 4) (tVar 3)) tNil))) (tIfS (tTest (tOp rEq (tVar 2) (tC (.str "sub")))) (tDrop (tMeth (He.ga K "Frame") "lay" sp_Frame_lay [] E0 (tVar 1) (tCons (tOp rSubI (tVar 4) (tVar 3)) tNil))) (tIfS (tTest (tOp rEq (tVar 2) (tC (.str "less")))) (tDrop (tMeth (He.ga K "Frame") "lay" sp_Frame_lay [] E0 (tVar 1) (tCons (tIf (tTest (tOp rLtI (tVar 4) (tVar 3))) (tC (.int 1)) (tC (.int 0))) tNil))) (tIfS (tTest (tOp rEq (tVar 3) (tC (.int 0)))) (tDrop (tMeth (He.ga K "Machine") "fault" sp_Machine_fault [] E0 (tVar 0) (tCons (tC (.int 101)) tNil))) (tDrop (tMeth (He.ga K "Frame") "lay" sp_Frame_lay [] E0 (tVar 1) (tCons (tOp rFd (tVar 4) (tVar 3)) tNil)))))))))
def n_Machine_meet : List Str := ["self", "frame", "word", "other", "one"]
def t_Machine_jump (K : PySem.W.Frag) : TS :=
  (tIfS (tTest (tOp rEq (tOp (rIxT K) (tVar 2) (tC (.int 0))) (tC (.str "on")))) (sFd (He.ga K "Frame") "place" (tVar 1) (tOp (rIxL K) (tFd (He.ga K "Frame") "boxes" (tVar 1)) (tOp (rIxT K) (tVar 2) (tC (.int 1))))) (tIfS (tOr (tTest (tOp rEq (tOp (rIxT K) (tVar 2) (tC (.int 0))) (tC (.str "go")))) (tTest (tOp rEq (tBM0 K "list" rPop (tFd (He.ga K "Frame") "pile" (tVar 1))) (tC (.int 0))))) (sFd (He.ga K "Frame") "place" (tVar 1) (tOp (rIxT K) (tVar 2) (tC (.int 1)))) (sFd (He.ga K "Frame") "place" (tVar 1) (tOp rAddI (tFd (He.ga K "Frame") "place" (tVar 1)) (tC (.int 1))))))
def n_Machine_jump : List Str := ["self", "frame", "row"]
def t_Machine_enter (K : PySem.W.Frag) (sp_Machine_taken sp_Machine_fault sp_Frame___init__ : Sp) : TS :=
  (tSeq (tIfS (tNot (tB (tMeth (He.ga K "Machine") "taken" sp_Machine_taken [] E0 (tVar 0) tNil))) tRetN tNext)
    (tIfS (tTest (tOp rEq (tCB (rLenQ K) (tCons (tFd (He.ga K "Machine") "frames" (tVar 0)) tNil)) (tC (.int 8)))) (tDrop (tMeth (He.ga K "Machine") "fault" sp_Machine_fault [] E0 (tVar 0) (tCons (tC (.int 102)) tNil))) (tDrop (tBM K "list" rAppend (tFd (He.ga K "Machine") "frames" (tVar 0)) (tCons (tMake (He.ga K "Frame") sp_Frame___init__ [] E0 (tCons (tOp (rIxL K) (tFd (He.ga K "Machine") "starts" (tVar 0)) (tVar 1)) (tCons (tFd (He.ga K "Machine") "boxes" (tVar 0)) (tCons (tVar 2) tNil)))) tNil)))))
def n_Machine_enter : List Str := ["self", "number", "given"]
def t_Machine_back (K : PySem.W.Frag) (sp_Frame_lay : Sp) : TS :=
  (tSeq (tDrop (tBM0 K "list" rPop (tFd (He.ga K "Machine") "frames" (tVar 0))))
    (tIfS (tTest (tOp rEq (tCB (rLenQ K) (tCons (tFd (He.ga K "Machine") "frames" (tVar 0)) tNil)) (tC (.int 0)))) (sFd (He.ga K "Machine") "ended" (tVar 0) (tTup (tCons (tC (.str "answer")) (tCons (tVar 1) tNil)))) (tDrop (tMeth (He.ga K "Frame") "lay" sp_Frame_lay [] E0 (tOp (rIxL K) (tFd (He.ga K "Machine") "frames" (tVar 0)) (tOp rSubI (tCB (rLenQ K) (tCons (tFd (He.ga K "Machine") "frames" (tVar 0)) tNil)) (tC (.int 1)))) (tCons (tVar 1) tNil)))))
def n_Machine_back : List Str := ["self", "given"]
def t_Machine_fault (K : PySem.W.Frag) (sp_goal_of : Sp) : TS :=
  (tSeq (tWhile (tTest (tOp rGtI (tCB (rLenQ K) (tCons (tFd (He.ga K "Machine") "frames" (tVar 0)) tNil)) (tC (.int 0)))) (tSeq (tAsg (tOp (rIxL K) (tFd (He.ga K "Machine") "frames" (tVar 0)) (tOp rSubI (tCB (rLenQ K) (tCons (tFd (He.ga K "Machine") "frames" (tVar 0)) tNil)) (tC (.int 1)))) (gName 2))
    (tSeq (tAsg (tCall sp_goal_of [] E0 (tCons (tFd (He.ga K "Machine") "stretches" (tVar 0)) (tCons (tFd (He.ga K "Frame") "place" (tVar 2)) tNil))) (gName 3))
    (tSeq (tIfS (tTest (tOp rIsNotNo (tVar 3) (tC .non))) (tSeq (sFd (He.ga K "Frame") "pile" (tVar 2) (tLst (tCons (tVar 1) tNil)))
    (tSeq (sFd (He.ga K "Frame") "place" (tVar 2) (tVar 3))
    tRetN)) tNext)
    (tDrop (tBM0 K "list" rPop (tFd (He.ga K "Machine") "frames" (tVar 0))))))))
    (sFd (He.ga K "Machine") "ended" (tVar 0) (tTup (tCons (tC (.str "fault")) (tCons (tVar 1) tNil)))))
def n_Machine_fault : List Str := ["self", "number", "frame", "goal"]
def t_run (K : PySem.W.Frag) (sp_Machine___init__ sp_Machine_step : Sp) : TS :=
  (tSeq (tAsg (tMake (He.ga K "Machine") sp_Machine___init__ [] E0 (tCons (tVar 0) (tCons (tVar 1) (tCons (tVar 2) tNil)))) (gName 3))
    (tSeq (tWhile (tTest (tOp rIsNo (tFd (He.ga K "Machine") "ended" (tVar 3)) (tC .non))) (tDrop (tMeth (He.ga K "Machine") "step" sp_Machine_step [] E0 (tVar 3) tNil)))
    (tRet (tTup (tCons (tFd (He.ga K "Machine") "said" (tVar 3)) (tCons (tOp (rIxT K) (tFd (He.ga K "Machine") "ended" (tVar 3)) (tC (.int 0))) (tCons (tOp (rIxT K) (tFd (He.ga K "Machine") "ended" (tVar 3)) (tC (.int 1))) tNil)))))))
def n_run : List Str := ["parts", "number", "turns", "machine"]
end U

/-! the machine, in plain Lean -/
namespace Un
open PySem

inductive Rw where
  | put (n : Int) | get (k : Int) | set (k : Int) | say | add | sub | less | share | go (p : Int) | nought (p : Int) | on (k : Int) | turn | call (f : Int) | back | raise
  deriving DecidableEq, Repr

abbrev Stretch := Int × Int × Int
structure Parts where
  code : List Rw
  str : List Stretch
  starts : List Int
  boxes : Int

structure Fr where
  place : Int
  boxes : List Int
  pile : List Int

inductive Ed where
  | answer | fault | tired
  deriving DecidableEq, Repr
def Ed.str : Ed → Str
  | .answer => "answer"
  | .fault => "fault"
  | .tired => "tired"

structure Mc where
  frames : List Fr
  said : List Int
  turns : Nat
  ended : Option (Ed × Int)

def nth {α : Type} (xs : List α) (i : Int) : Option α := if 0 ≤ i then xs[i.toNat]? else none
def goalOf : List Stretch → Int → Option Int
  | [], _ => none
  | s :: r, p => if s.1 ≤ p ∧ p < s.2.1 then some s.2.2 else goalOf r p
def Fr.lay (f : Fr) (n : Int) : Fr := { f with pile := n :: f.pile, place := f.place + 1 }
def faultF (S : List Stretch) (n : Int) : List Fr → List Fr
  | [] => []
  | f :: r => match goalOf S f.place with
    | some g => { f with pile := [n], place := g } :: r
    | none => faultF S n r
def Mc.fault (P : Parts) (m : Mc) (n : Int) : Mc := match faultF P.str n m.frames with
  | [] => { m with frames := [], ended := some (.fault, n) }
  | f :: r => { m with frames := f :: r }
def Mc.tired (m : Mc) : Mc := { m with ended := some (.tired, 0) }
def newBoxes (nb given : Int) : List Int := given :: List.replicate (nb - 1).toNat 0
def Mc.enter (P : Parts) (m : Mc) (g v : Int) : Option Mc :=
  if m.turns = 0 then some m.tired
  else if m.frames.length = 8 then some (({ m with turns := m.turns - 1 } : Mc).fault P 102)
  else (nth P.starts g).map fun s => { m with turns := m.turns - 1, frames := ⟨s, newBoxes P.boxes v, []⟩ :: m.frames }
def Mc.back (m : Mc) (v : Int) : Mc := match m.frames with
  | [] => m
  | [_] => { m with frames := [], ended := some (.answer, v) }
  | _ :: g :: r => { m with frames := g.lay v :: r }
/-- a number laid or taken -/
def moveRw (row : Rw) (f : Fr) (r : List Fr) (m : Mc) : Option Mc := match row with
  | .put n => some { m with frames := f.lay n :: r }
  | .get k => (nth f.boxes k).map fun v => { m with frames := f.lay v :: r }
  | .set k => match f.pile with
    | v :: p => if 0 ≤ k ∧ k < f.boxes.length then some { m with frames := ⟨f.place + 1, f.boxes.set k.toNat v, p⟩ :: r } else none
    | [] => none
  | .say => match f.pile with
    | v :: p => some { m with said := m.said ++ [v], frames := ⟨f.place + 1, f.boxes, p⟩ :: r }
    | [] => none
  | _ => none
/-- two numbers joined -/
def meetRw (P : Parts) (row : Rw) (f : Fr) (r : List Fr) (m : Mc) : Option Mc := match f.pile with
  | b :: a :: p => match row with
    | .add => some { m with frames := (⟨f.place, f.boxes, p⟩ : Fr).lay (a + b) :: r }
    | .sub => some { m with frames := (⟨f.place, f.boxes, p⟩ : Fr).lay (a - b) :: r }
    | .less => some { m with frames := (⟨f.place, f.boxes, p⟩ : Fr).lay (if a < b then 1 else 0) :: r }
    | .share => if b = 0 then some (({ m with frames := ⟨f.place, f.boxes, p⟩ :: r } : Mc).fault P 101) else some { m with frames := (⟨f.place, f.boxes, p⟩ : Fr).lay (a.fdiv b) :: r }
    | _ => none
  | _ => none
/-- on at another place -/
def jumpRw (row : Rw) (f : Fr) (r : List Fr) (m : Mc) : Option Mc := match row with
  | .go p => some { m with frames := { f with place := p } :: r }
  | .nought p => match f.pile with
    | v :: q => some { m with frames := ⟨if v = 0 then p else f.place + 1, f.boxes, q⟩ :: r }
    | [] => none
  | .on k => (nth f.boxes k).map fun v => { m with frames := { f with place := v } :: r }
  | _ => none
/-- one row, the innermost frame f, those around r -/
def stepRw (P : Parts) (row : Rw) (f : Fr) (r : List Fr) (m : Mc) : Option Mc := match row with
  | .put n => moveRw (.put n) f r m
  | .get k => moveRw (.get k) f r m
  | .set k => moveRw (.set k) f r m
  | .say => moveRw .say f r m
  | .add => meetRw P .add f r m
  | .sub => meetRw P .sub f r m
  | .less => meetRw P .less f r m
  | .share => meetRw P .share f r m
  | .go p => jumpRw (.go p) f r m
  | .nought p => jumpRw (.nought p) f r m
  | .on k => jumpRw (.on k) f r m
  | .turn => if m.turns = 0 then some m.tired else some { m with turns := m.turns - 1, frames := { f with place := f.place + 1 } :: r }
  | .call g => match f.pile with
    | v :: q => ({ m with frames := { f with pile := q } :: r } : Mc).enter P g v
    | [] => none
  | .back => match f.pile with
    | v :: q => some (({ m with frames := { f with pile := q } :: r } : Mc).back v)
    | [] => none
  | .raise => match f.pile with
    | v :: q => some (({ m with frames := { f with pile := q } :: r } : Mc).fault P v)
    | [] => none
def rowStep (P : Parts) (m : Mc) : Option Mc := match m.frames with
  | [] => none
  | f :: r => match nth P.code f.place with
    | none => none
    | some row => stepRw P row f r m
def begun (P : Parts) (number : Int) (turns : Nat) : Option Mc := (nth P.starts 0).map fun s => ⟨[⟨s, newBoxes P.boxes number, []⟩], [], turns, none⟩
/-- k rows, none behind the end -/
def rowSteps (P : Parts) : Nat → Mc → Option Mc
  | 0, m => some m
  | k + 1, m => if m.ended.isSome then none else (rowStep P m).bind (rowSteps P k)
end Un

set_option maxHeartbeats 4000000
namespace U
open PySem PySem.Spec PyProof.Rows L2 Un
local macro_rules | `(tactic| walk_at "w1") => `(tactic| first
  | with_reducible refine w_seq ?_
  | with_reducible refine w_asg ?_
  | with_reducible refine w_op ?_
  | ((with_reducible refine' w_var ?h1 ?_); (case h1 => rfl))
  | with_reducible refine w_c ?_
  | with_reducible refine w_name ?_
  | with_reducible refine w_tFd ?_
  | ((with_reducible refine' w_fld ?h1 ?h2 ?_); (case h1 => assumption); (case h2 => rfl))
  | with_reducible refine w_if ?_
  | with_reducible refine w_test ?_
  | with_reducible refine w_eqS ?_
  | with_reducible refine w_eqI ?_
  | with_reducible refine w_neS ?_
  | with_reducible refine w_neI ?_
  | with_reducible refine w_isN ?_
  | with_reducible refine w_isnN ?_
  | with_reducible refine w_bl ?_
  | with_reducible refine w_ret ?_
  | with_reducible refine w_drop ?_
  | with_reducible refine w_next ?_
  | with_reducible refine w_cons ?_
  | with_reducible refine w_nil ?_
  | with_reducible refine w_call ?_
  | with_reducible refine w_cb ?_
  | with_reducible refine w_meth ?_
  | ((with_reducible refine' w_recv ?h1 ?h2 ?_); (case h1 => assumption); (case h2 => rfl))
  | with_reducible refine w_sFd ?_
  | ((with_reducible refine' w_put ?h1 ?h2 ?_); (case h1 => assumption); (case h2 => exact Nat.le_of_ble_eq_true rfl))
  | with_reducible refine w_add ?_
  | with_reducible refine w_sub ?_
  | with_reducible refine w_lt ?_
  | with_reducible refine w_le ?_
  | with_reducible refine w_gt ?_
  | with_reducible refine w_ge ?_
  | with_reducible refine w_bm ?_
  | with_reducible refine w_bm0 ?_
  | ((with_reducible refine' w_ty ?h1 ?_); (case h1 => assumption))
  | with_reducible refine w_tup ?_
  | with_reducible refine w_lst ?_
  | ((with_reducible refine' w_new ?h1 ?_); (case h1 => exact Nat.le_of_ble_eq_true rfl))
  | with_reducible refine w_gsub ?_
  | with_reducible refine w_make ?_
  | with_reducible refine w_lc ?_
  | with_reducible refine w_iList ?_
  | with_reducible refine w_for ?_
  | with_reducible refine w_yes ?_
  | with_reducible refine w_tSl ?_
  | with_reducible refine w_part ?_
  | with_reducible refine w_nopart ?_
  | with_reducible refine w_i ?_
  | with_reducible refine w_rng1 ?_
  | with_reducible refine w_rng2 ?_
  | with_reducible refine w_isiII ?_
  | with_reducible refine w_isiIB ?_
  | with_reducible refine w_isiSS ?_
  | ((with_reducible refine w_mod ?h1 ?_); (case h1 => decide))
  | ((with_reducible refine w_fdC' ?h1 ?h2 ?_); (case h1 => decide); (case h2 => decide))
  | ((with_reducible refine w_mulR ?h1 ?h2 ?_); (case h1 => decide); (case h2 => decide))
  | ((with_reducible refine w_mulL ?h1 ?h2 ?_); (case h1 => decide); (case h2 => decide))
  | ((with_reducible refine w_pow' ?h1 ?h2 ?h3 ?_); (case h1 => decide); (case h2 => decide); (case h3 => decide))
  | with_reducible refine w_andV ?_
  | with_reducible refine w_orV ?_
  | with_reducible refine w_notV ?_
  | with_reducible refine w_B ?_
  | with_reducible refine w_not ?_
  | with_reducible refine w_and ?_
  | with_reducible refine w_or ?_
  | with_reducible refine w_ifx ?_
  | with_reducible refine w_un ?_
  | ((with_reducible refine w_T ?h1 ?_); (case h1 => with_reducible rfl))
  | ((with_reducible refine w_F ?h1 ?_); (case h1 => with_reducible rfl))
  | ((with_reducible refine w_T ?h1 ?_); (case h1 => decide +kernel))
  | ((with_reducible refine w_F ?h1 ?_); (case h1 => decide +kernel)))
local macro_rules | `(tactic| walk_at "w") => `(tactic| repeat walk_at "w1")

/-! ### what stands where -/
def words : Rw → List V
  | .put n => [.str "put", .int n]
  | .get k => [.str "get", .int k]
  | .set k => [.str "set", .int k]
  | .say => [.str "say"]
  | .add => [.str "add"]
  | .sub => [.str "sub"]
  | .less => [.str "less"]
  | .share => [.str "share"]
  | .go p => [.str "go", .int p]
  | .nought p => [.str "nought", .int p]
  | .on k => [.str "on", .int k]
  | .turn => [.str "turn"]
  | .call f => [.str "call", .int f]
  | .back => [.str "back"]
  | .raise => [.str "raise"]
def IsTup (K : PySem.W.Frag) (H : Hp) (v : V) (xs : List V) : Prop := ∃ a, v = .ref a ∧ SqT K H a xs
def IsRow (K : PySem.W.Frag) (H : Hp) (v : V) (r : Rw) : Prop := IsTup K H v (words r)
def IsStr (K : PySem.W.Frag) (H : Hp) (v : V) (s : Stretch) : Prop := IsTup K H v [.int s.1, .int s.2.1, .int s.2.2]
theorem IsTup.mono {K : PySem.W.Frag} {H H' : Hp} {v : V} {xs : List V} (s : Same H H') (h : IsTup K H v xs) : IsTup K H' v xs := by
  obtain ⟨a, e, h⟩ := h
  exact ⟨a, e, same_tup s h⟩
/-- the code, the stretches and the starts stand at c, st, sr -/
structure PartsIn (K : PySem.W.Frag) (H : Hp) (c st sr : Addr) (P : Parts) : Prop where
  code : ∃ vs, SqL K H c vs ∧ All2 (IsRow K H) vs P.code
  str : ∃ vs, SqL K H st vs ∧ All2 (IsStr K H) vs P.str
  starts : SqL K H sr (P.starts.map V.int)
theorem PartsIn.mono {K : PySem.W.Frag} {H H' : Hp} {c st sr : Addr} {P : Parts} (s : Same H H') (h : PartsIn K H c st sr P) : PartsIn K H' c st sr P := by
  obtain ⟨⟨v1, a1, b1⟩, ⟨v2, a2, b2⟩, h3⟩ := h
  exact ⟨⟨v1, s.seq a1, b1.mono fun _ _ q => q.mono s⟩, ⟨v2, s.seq a2, b2.mono fun _ _ q => q.mono s⟩, s.seq h3⟩

/-! ### goal_of -/
def goalV : Option Int → V
  | none => .non
  | some g => .int g
def sp_goal_of (K : PySem.W.Frag) : Sp := fun vs H Q _ => ∃ a ss S p, vs = [.ref a, .int p] ∧ SqL K H a ss ∧ All2 (IsStr K H) ss S ∧ Q (goalV (goalOf S p)) H
theorem p_goal_of {K : PySem.W.Frag} (vs : List V) (H : Hp) (Q : VK) (E : XK) (h : sp_goal_of K vs H Q E) : t_goal_of K { nx := fun _ H' => Q .non H', rt := Q } (start n_goal_of vs) H := by
  obtain ⟨a, ss, S, p, rfl, hS, hR, q⟩ := h
  refine w_seq ⟨_, rfl, a, rfl, ⟨_, hS⟩, for_list (xs := ss) (fun i σ H' => H' = H ∧ goalOf (S.drop i) p = goalOf S p ∧ ∃ x, σ = [some (.ref a), some (.int p), x])
    ⟨rfl, rfl, _, rfl⟩ (fun i σ H' _ h => h.1 ▸ hS) ?_ ?_⟩
  · rintro i x σ H' hx ⟨rfl, hg, y, rfl⟩
    obtain ⟨s, ⟨b, rfl, hb⟩, hd⟩ := hR.drop i hx
    rw [hd] at hg
    walk_at "w"
    refine w_ixT hb rfl ?_
    walk_at "w"
    refine w_D (fun c1 => ?_) (fun c1 => ?_)
    · walk_at "w"
      refine w_ixT hb rfl ?_
      walk_at "w"
      refine w_D (fun c2 => ?_) (fun c2 => ?_)
      · walk_at "w"
        refine w_ixT hb rfl ?_
        have e : goalOf S p = some s.2.2 := by
          rw [← hg, goalOf, if_pos ⟨c1, c2⟩]
        rw [e] at q
        exact q
      · walk_at "w"
        refine ⟨rfl, ?_, _, rfl⟩
        rw [← hg, goalOf, if_neg (fun z => c2 z.2)]
    · walk_at "w"
      refine ⟨rfl, ?_, _, rfl⟩
      rw [← hg, goalOf, if_neg (fun z => c1 z.1)]
  · rintro σ H' ⟨rfl, hg, y, rfl⟩
    rw [hR.len, List.drop_length] at hg
    rw [← hg] at q
    walk_at "w"
    exact q

/-! ### frames and the machine -/
def frF (p : Int) (b q : Addr) : List (Str × V) := [("place", .int p), ("boxes", .ref b), ("pile", .ref q)]
def mcF (c st sr : Addr) (nb t : Int) (s : Addr) (e : V) (l : Addr) : List (Str × V) :=
  [("code", .ref c), ("stretches", .ref st), ("starts", .ref sr), ("boxes", .int nb), ("turns", .int t), ("said", .ref s), ("ended", e), ("frames", .ref l)]
def pileV : List Int → List V
  | [] => []
  | n :: p => pileV p ++ [.int n]
structure FA where
  a : Addr
  dx : Addr
  b : Addr
  q : Addr
def refsV : List FA → List V
  | [] => []
  | x :: xs => refsV xs ++ [.ref x.a]
def frsCells (K : PySem.W.Frag) : List FA → List Fr → List Cell
  | x :: xs, f :: fs => (x.a, .ins (He.ga K "Frame") x.dx (frF f.place x.b x.q)) :: (x.b, .lst (f.boxes.map V.int)) :: (x.q, .lst (pileV f.pile)) :: frsCells K xs fs
  | _, _ => []
/-- where the machine at m stands: c, st, sr its parts' lists -/
structure Wh where
  m : Addr
  c : Addr
  st : Addr
  sr : Addr
structure Ad where
  dx : Addr
  l : Addr
  s : Addr
  fas : List FA
def mcCells (K : PySem.W.Frag) (w : Wh) (nb : Int) (d : Ad) (e : V) (M : Mc) : List Cell :=
  (w.m, .ins (He.ga K "Machine") d.dx (mcF w.c w.st w.sr nb M.turns d.s e d.l)) :: (d.l, .lst (refsV d.fas)) :: (d.s, .lst (M.said.map V.int)) :: frsCells K d.fas M.frames
def EndAt (H : Hp) (e : V) : Option (Ed × Int) → Prop
  | none => e = .non
  | some (x, n) => ∃ t, e = .ref t ∧ H t = some (.tup [.str x.str, .int n])
structure MAt (K : PySem.W.Frag) (H0 H : Hp) (w : Wh) (nb : Int) (M : Mc) (d : Ad) (e : V) : Prop where
  own : Own H0 H (mcCells K w nb d e M)
  len : d.fas.length = M.frames.length
  endd : EndAt H e M.ended
def MIn (K : PySem.W.Frag) (H0 H : Hp) (w : Wh) (nb : Int) (M : Mc) : Prop := ∃ d e, MAt K H0 H w nb M d e
def LIM : Nat := 16000000
theorem lim_lt {n : Nat} (h : n < LIM) : n < sizeLine := Nat.lt_of_lt_of_le h (by show (16000000 : Nat) ≤ sizeLine; rw [sizeLine_eq]; decide)
theorem pileV_len : ∀ p : List Int, (pileV p).length = p.length
  | [] => rfl
  | n :: p => by simp [pileV, pileV_len p]

/-! ### Frame -/
def sp_Frame_lay (K : PySem.W.Frag) : Sp := fun vs H Q _ => ∃ a n dx p b q xs, vs = [.ref a, .int n] ∧ H a = some (.ins (He.ga K "Frame") dx (frF p b q)) ∧ H q = some (.lst xs) ∧ xs.length < LIM ∧
  Q .non (upd (upd H q (.lst (xs ++ [.int n]))) a (.ins (He.ga K "Frame") dx (frF (p + 1) b q)))
theorem ins_lst {H : Hp} {a b C dx : Addr} {fs : List (Str × V)} {xs : List V} (h : H a = some (.ins C dx fs)) (h' : H b = some (.lst xs)) : a ≠ b := ne_of h h' (by intro z; cases z)
theorem p_Frame_lay {K : PySem.W.Frag} (vs : List V) (H : Hp) (Q : VK) (E : XK) (h : sp_Frame_lay K vs H Q E) : t_Frame_lay K { nx := fun _ H' => Q .non H', rt := Q } (L2.start n_Frame_lay vs) H := by
  obtain ⟨a, n, dx, p, b, q, xs, rfl, ha, hq, hl, k⟩ := h
  unfold t_Frame_lay
  walk_at "w"
  refine w_app hq (lim_lt hl) ?_
  have ha' : upd H q (.lst (xs ++ [.int n])) a = some (.ins (He.ga K "Frame") dx (frF p b q)) := by
    rw [upd_ne (ins_lst ha hq)]; exact ha
  walk_at "w"
  exact k

def sp_Frame___init__ (K : PySem.W.Frag) : Sp := fun vs H Q _ => ∃ H0 a p nb n dx, vs = [.ref a, .int p, .int nb, .int n] ∧ Own H0 H [(a, .ins (He.ga K "Frame") dx [])] ∧ 0 ≤ nb ∧ nb < 16000000 ∧
  ∀ b q H', Own H0 H' [(a, .ins (He.ga K "Frame") dx (frF p b q)), (b, .lst ((newBoxes nb n).map V.int)), (q, .lst [])] → Q .non H'
theorem p_Frame___init__ {K : PySem.W.Frag} (vs : List V) (H : Hp) (Q : VK) (E : XK) (h : sp_Frame___init__ K vs H Q E) : t_Frame___init__ K { nx := fun _ H' => Q .non H', rt := Q } (L2.start n_Frame___init__ vs) H := by
  obtain ⟨H0, a, p, nb, n, dx, rfl, w, hn0, hn, k⟩ := h
  have ha := w.ix 0 rfl
  unfold t_Frame___init__
  walk_at "w"
  have w1 := w.set 0 (.ins (He.ga K "Frame") dx [("place", .int p)]) rfl
  refine fun p1 h1 => ?_
  walk_at "w"
  refine fun p2 h2 => ?_
  walk_at "w"
  have w2 := (w1.lay (o := .lst [.int n]) h1).lay (o := .lst [.int 0]) h2
  refine w_rep1 upd_same (by omega) (by omega) fun p3 h3 => ?_
  have e1 : upd (upd (upd (upd H a (.ins (He.ga K "Frame") dx [("place", .int p)])) p1 (.lst [.int n])) p2 (.lst [.int 0])) p3 (.lst (List.replicate (nb - 1).toNat (.int 0))) p1 = some (.lst [.int n]) := by
    rw [upd_ne (ne_of_none (o := .lst [.int n]) (by rw [upd_ne (ne_of_none upd_same h2)]; exact upd_same) h3), upd_ne (ne_of_none upd_same h2), upd_same]
  refine w_cat e1 upd_same ?_ fun b hb => ?_
  · rw [List.length_replicate, sizeLine_eq]
    show 1 + _ ≤ _
    omega
  have w3 := (w2.lay (o := .lst (List.replicate (nb - 1).toNat (.int 0))) h3).take (o := .lst ([.int n] ++ List.replicate (nb - 1).toNat (.int 0))) hb
  have ha3 := w3.ix 1 rfl
  walk_at "w"
  have w4 := w3.set 1 (.ins (He.ga K "Frame") dx [("place", .int p), ("boxes", .ref b)]) rfl
  refine fun q hq => ?_
  have w5 := w4.take (o := .lst []) hq
  have ha5 := w5.ix 2 rfl
  walk_at "w"
  have w6 := w5.set 2 (.ins (He.ga K "Frame") dx (frF p b q)) rfl
  refine k b q _ ?_
  have eb : (newBoxes nb n).map V.int = [.int n] ++ List.replicate (nb - 1).toNat (.int 0) := by simp [newBoxes]
  rw [eb]
  exact w6.perm (by
    refine List.Perm.trans (l₂ := [(q, HO.lst []), (a, HO.ins (He.ga K "Frame") dx (frF p b q)), (b, .lst ([.int n] ++ List.replicate (nb - 1).toNat (.int 0)))]) ?_ ?_
    · exact .cons _ (.swap _ _ _)
    · exact (List.Perm.swap _ _ _).trans (.cons _ (.swap _ _ _)))

/-! ### Machine.taken -/
def sp_Machine_taken (K : PySem.W.Frag) : Sp := fun vs H Q _ => ∃ H0 wh nb M d, vs = [.ref wh.m] ∧ Own H0 H (mcCells K wh nb d .non M) ∧
  (M.turns = 0 → ∀ H' t, Own H0 H' (mcCells K wh nb d (.ref t) M) → H' t = some (.tup [.str "tired", .int 0]) → Q (.bl false) H') ∧
  (M.turns ≠ 0 → ∀ H', Own H0 H' (mcCells K wh nb d .non { M with turns := M.turns - 1 }) → Q (.bl true) H')
theorem p_Machine_taken {K : PySem.W.Frag} (vs : List V) (H : Hp) (Q : VK) (E : XK) (h : sp_Machine_taken K vs H Q E) : t_Machine_taken K { nx := fun _ H' => Q .non H', rt := Q } (L2.start n_Machine_taken vs) H := by
  obtain ⟨H0, wh, nb, M, d, rfl, w, k0, k1⟩ := h
  have hm := w.ix 0 rfl
  unfold t_Machine_taken
  walk_at "w"
  refine w_D (fun c => ?_) (fun c => ?_)
  · walk_at "w"
    refine fun t ht => ?_
    have w1 := w.lay (o := .tup [.str "tired", .int 0]) ht
    have hm1 := w1.ix 0 rfl
    walk_at "w"
    refine k0 (by omega) _ t (w1.set 0 _ rfl) ?_
    rw [upd_ne (ne_of_none hm ht).symm, upd_same]
  · walk_at "w"
    refine k1 (by omega) _ ?_
    have e : ((M.turns : Nat) : Int) - 1 = ((M.turns - 1 : Nat) : Int) := by omega
    rw [e]
    exact w.set 0 _ rfl

/-! ### Machine.fault -/
theorem refs_last {x : FA} {xs : List FA} : atI (refsV (x :: xs)) (((refsV (x :: xs)).length : Int) - 1) = some (.ref x.a) := atI_end rfl
theorem refs_len : ∀ xs : List FA, (refsV xs).length = xs.length
  | [] => rfl
  | x :: xs => by simp [refsV, refs_len xs]
def sp_Machine_fault (K : PySem.W.Frag) : Sp := fun vs H Q _ => ∃ H0 wh P M d n, vs = [.ref wh.m, .int n] ∧ MAt K H0 H wh P.boxes M d .non ∧ PartsIn K H0 wh.c wh.st wh.sr P ∧
  ∀ H', MIn K H0 H' wh P.boxes (M.fault P n) → Q .non H'
theorem p_Machine_fault {K : PySem.W.Frag} (vs : List V) (H : Hp) (Q : VK) (E : XK) (h : sp_Machine_fault K vs H Q E) : t_Machine_fault K (sp_goal_of K) { nx := fun _ H' => Q .non H', rt := Q } (L2.start n_Machine_fault vs) H := by
  obtain ⟨H0, wh, P, M, d, n, rfl, w, pt, k⟩ := h
  have he : M.ended = none := by
    have q := w.endd
    cases e : M.ended with
    | none => rfl
    | some z =>
      rw [e] at q
      obtain ⟨t, h1, _⟩ := q
      cases h1
  unfold t_Machine_fault
  refine w_seq ⟨fun m σ H1 => ∃ fs d1 x2 x3, m = fs.length ∧ σ = [some (.ref wh.m), some (.int n), x2, x3] ∧ faultF P.str n fs = faultF P.str n M.frames ∧ MAt K H0 H1 wh P.boxes { M with frames := fs } d1 .non,
    ⟨_, M.frames, d, _, _, rfl, rfl, rfl, w⟩, ?_⟩
  rintro m σ H1 ⟨fs, d1, x2, x3, rfl, rfl, hf, w1⟩
  have hm := w1.own.ix 0 rfl
  have hl := w1.own.ix 1 rfl
  have hlen : d1.fas.length = fs.length := w1.len
  walk_at "w"
  refine w_lenL (SqL.of hl) ?_
  walk_at "w"
  refine w_D (fun c => ?_) (fun c => ?_)
  · rw [refs_len, hlen] at c
    match fs, d1, hlen, w1, hf, hm, hl with
    | [], _, _, _, _, _, _ => exact absurd c (by simp)
    | f :: r, ⟨dx, l, s, []⟩, hlen, _, _, _, _ => exact absurd hlen (by simp)
    | f :: r, ⟨dx, l, s, x :: xs⟩, hlen, w1, hf, hm, hl =>
    refine ⟨_, fun _ _ z => z, ?_⟩
    have ha := w1.own.ix 3 rfl
    walk_at "w"
    refine w_lenL (SqL.of hl) ?_
    walk_at "w"
    refine w_ixL (SqL.of hl) refs_last ?_
    walk_at "w"
    obtain ⟨ss, s1, s2⟩ := pt.str
    refine ⟨wh.st, ss, P.str, f.place, rfl, w1.own.same.seq s1, s2.mono fun _ _ q => q.mono w1.own.same, ?_⟩
    walk_at "w"
    cases hg : goalOf P.str f.place with
    | some g =>
      refine w_T rfl ?_
      walk_at "w"
      refine fun q hq => ?_
      have w2 := w1.own.take (o := .lst [.int n]) hq
      have ha2 := w2.ix 4 rfl
      walk_at "w"
      have w3 := w2.set 4 (.ins (He.ga K "Frame") x.dx (frF f.place x.b q)) rfl
      have ha3 := w3.ix 4 rfl
      walk_at "w"
      have w4 := w3.set 4 (.ins (He.ga K "Frame") x.dx (frF g x.b q)) rfl
      refine k _ ⟨⟨dx, l, s, ⟨x.a, x.dx, x.b, q⟩ :: xs⟩, .non, ?_⟩
      have ef : M.fault P n = { M with frames := ⟨g, f.boxes, [n]⟩ :: r } := by
        unfold Mc.fault
        rw [← hf]
        simp only [faultF, hg]
      rw [ef]
      refine ⟨?_, hlen, ?_⟩
      · exact w4.repl 5 (by simp [mcCells, frsCells])
      · show EndAt _ V.non M.ended
        rw [he]
        exact rfl
    | none =>
      refine w_F rfl ?_
      walk_at "w"
      refine w_popB hl ?_
      have w2 : Own H0 _ (mcCells K wh P.boxes ⟨dx, l, s, xs⟩ .non { M with frames := r }) := ((((w1.own.set 1 (.lst (refsV xs)) rfl).del 3).del 3).del 3)
      refine ⟨r.length, by simp, r, ⟨dx, l, s, xs⟩, _, _, rfl, rfl, ?_, w2, by simpa using hlen, ?_⟩
      · rw [← hf]
        simp only [faultF, hg]
      · show EndAt _ V.non M.ended
        rw [he]
        exact rfl
  · rw [refs_len, hlen] at c
    match fs, d1, hlen, w1, hf, hm, hl with
    | f :: r, _, _, _, _, _, _ => exact absurd (by simp) c
    | [], d1, hlen, w1, hf, hm, hl =>
    walk_at "w"
    refine fun t ht => ?_
    have w2 := w1.own.lay (o := .tup [.str "fault", .int n]) ht
    have hm2 := w2.ix 0 rfl
    walk_at "w"
    have ef : M.fault P n = { M with frames := [], ended := some (.fault, n) } := by
      unfold Mc.fault
      rw [← hf]
      simp only [faultF]
    refine k _ ⟨d1, .ref t, ?_⟩
    rw [ef]
    refine ⟨w2.set 0 _ rfl, hlen, t, rfl, ?_⟩
    rw [upd_ne (ne_of_none hm ht).symm, upd_same]
    rfl

/-! ### Machine.move -/
theorem MAt.noend {K : PySem.W.Frag} {H0 H : Hp} {wh : Wh} {nb : Int} {M : Mc} {d : Ad} (w : MAt K H0 H wh nb M d .non) : M.ended = none := by
  have q := w.endd
  cases e : M.ended with
  | none => rfl
  | some z =>
    rw [e] at q
    obtain ⟨t, h1, _⟩ := q
    cases h1
theorem nth_at {xs : List Int} {k v : Int} (h : nth xs k = some v) : atI (xs.map V.int) k = some (.int v) := by
  unfold nth at h
  by_cases h0 : 0 ≤ k
  · rw [if_pos h0] at h
    refine atI_ok h0 ?_
    rw [List.getElem?_map, h]
    rfl
  · rw [if_neg h0] at h
    cases h
def sp_Machine_move (K : PySem.W.Frag) : Sp := fun vs H Q _ => ∃ H0 wh nb f r said t dx l s x xs rw row M', vs = [.ref wh.m, .ref x.a, .ref rw] ∧
  MAt K H0 H wh nb ⟨f :: r, said, t, none⟩ ⟨dx, l, s, x :: xs⟩ .non ∧ SqT K H0 rw (words row) ∧ moveRw row f r ⟨f :: r, said, t, none⟩ = some M' ∧ f.pile.length < LIM ∧ said.length < LIM ∧
  ∀ H', MIn K H0 H' wh nb M' → Q .non H'
theorem MAt.lay {K : PySem.W.Frag} {H0 H : Hp} {wh : Wh} {nb n : Int} {f : Fr} {r : List Fr} {said : List Int} {t : Nat} {dx l s : Addr} {x : FA} {xs : List FA} (w : MAt K H0 H wh nb ⟨f :: r, said, t, none⟩ ⟨dx, l, s, x :: xs⟩ .non) :
    MIn K H0 (upd (upd H x.q (.lst (pileV f.pile ++ [.int n]))) x.a (.ins (He.ga K "Frame") x.dx (frF (f.place + 1) x.b x.q))) wh nb ⟨f.lay n :: r, said, t, none⟩ := by
  have w2 := w.own.set 5 (.lst (pileV f.pile ++ [.int n])) rfl
  exact ⟨⟨dx, l, s, x :: xs⟩, .non, ⟨w2.set 3 (.ins (He.ga K "Frame") x.dx (frF (f.place + 1) x.b x.q)) rfl, w.len, rfl⟩⟩
theorem p_Machine_move {K : PySem.W.Frag} (vs : List V) (H : Hp) (Q : VK) (E : XK) (h : sp_Machine_move K vs H Q E) : t_Machine_move K (sp_Frame_lay K) { nx := fun _ H' => Q .non H', rt := Q } (L2.start n_Machine_move vs) H := by
  obtain ⟨H0, wh, nb, f, r, said, t, dx, l, s, x, xs, rw, row, M', rfl, w, hrow, hM, hp, hs, k⟩ := h
  have hr := same_tup w.own.same hrow
  have hm := w.own.ix 0 rfl
  have ha := w.own.ix 3 rfl
  have hb := w.own.ix 4 rfl
  have hq := w.own.ix 5 rfl
  unfold t_Machine_move
  cases row with
  | put n =>
    cases hM
    walk_at "w"
    refine w_ixT hr rfl ?_
    walk_at "w"
    refine w_ixT hr rfl ?_
    walk_at "w"
    refine ⟨x.a, n, x.dx, f.place, x.b, x.q, _, rfl, ha, hq, by rw [pileV_len]; exact hp, ?_⟩
    exact k _ w.lay
  | get j =>
    cases hv : nth f.boxes j with
    | none => rw [moveRw, hv] at hM; cases hM
    | some v =>
      rw [moveRw, hv] at hM
      cases hM
      walk_at "w"
      refine w_ixT hr rfl ?_
      walk_at "w"
      refine w_ixT hr rfl ?_
      walk_at "w"
      refine w_ixT hr rfl ?_
      refine w_ixL (SqL.of hb) (nth_at hv) ?_
      walk_at "w"
      refine ⟨x.a, v, x.dx, f.place, x.b, x.q, _, rfl, ha, hq, by rw [pileV_len]; exact hp, ?_⟩
      exact k _ w.lay
  | set j =>
    obtain ⟨place, boxes, pile⟩ := f
    cases pile with
    | nil => cases hM
    | cons v p =>
      by_cases hj : 0 ≤ j ∧ j < boxes.length
      · simp only [moveRw, if_pos hj] at hM
        cases hM
        walk_at "w"
        refine w_ixT hr rfl ?_
        walk_at "w"
        refine w_ixT hr rfl ?_
        walk_at "w"
        refine w_popB hq ?_
        have w1 := w.own.set 5 (.lst (pileV p)) rfl
        have hr1 := same_tup w1.same hrow
        have ha1 := w1.ix 3 rfl
        have hb1 := w1.ix 4 rfl
        walk_at "w"
        refine w_ixT hr1 rfl ?_
        walk_at "w"
        refine w_ixT hr1 rfl ?_
        refine w_setL hb1 hj.1 (by rw [List.length_map]; exact hj.2) ?_
        have w2 := w1.set 4 (.lst ((boxes.map V.int).set j.toNat (.int v))) rfl
        have ha2 := w2.ix 3 rfl
        walk_at "w"
        refine k _ ⟨⟨dx, l, s, x :: xs⟩, .non, ⟨?_, w.len, rfl⟩⟩
        have w3 := w2.set 3 (.ins (He.ga K "Frame") x.dx (frF (place + 1) x.b x.q)) rfl
        have e : (boxes.set j.toNat v).map V.int = (boxes.map V.int).set j.toNat (.int v) := List.map_set ..
        unfold mcCells
        dsimp only [frsCells]
        rw [e]
        exact w3
      · simp only [moveRw, if_neg hj] at hM
        cases hM
  | say =>
    obtain ⟨place, boxes, pile⟩ := f
    cases pile with
    | nil => cases hM
    | cons v p =>
      cases hM
      walk_at "w"
      refine w_ixT hr rfl ?_
      walk_at "w"
      refine w_ixT hr rfl ?_
      walk_at "w"
      refine w_popB hq ?_
      have w1 := w.own.set 5 (.lst (pileV p)) rfl
      have hr1 := same_tup w1.same hrow
      have hm1 := w1.ix 0 rfl
      have hs1 := w1.ix 2 rfl
      walk_at "w"
      refine w_ixT hr1 rfl ?_
      walk_at "w"
      refine w_app hs1 (by rw [List.length_map]; exact lim_lt hs) ?_
      have w2 := w1.set 2 (.lst (said.map V.int ++ [.int v])) rfl
      have ha2 := w2.ix 3 rfl
      walk_at "w"
      refine k _ ⟨⟨dx, l, s, x :: xs⟩, .non, ⟨?_, w.len, rfl⟩⟩
      have w3 := w2.set 3 (.ins (He.ga K "Frame") x.dx (frF (place + 1) x.b x.q)) rfl
      have e : (said ++ [v]).map V.int = said.map V.int ++ [.int v] := by simp
      unfold mcCells
      dsimp only [frsCells]
      rw [e]
      exact w3
  | _ => cases hM
end U

set_option maxHeartbeats 4000000
namespace U
open PySem PySem.Spec PyProof.Rows L2 Un
local macro_rules | `(tactic| walk_at "w1") => `(tactic| first
  | with_reducible refine w_seq ?_
  | with_reducible refine w_asg ?_
  | with_reducible refine w_op ?_
  | ((with_reducible refine' w_var ?h1 ?_); (case h1 => rfl))
  | with_reducible refine w_c ?_
  | with_reducible refine w_name ?_
  | with_reducible refine w_tFd ?_
  | ((with_reducible refine' w_fld ?h1 ?h2 ?_); (case h1 => assumption); (case h2 => rfl))
  | with_reducible refine w_if ?_
  | with_reducible refine w_test ?_
  | with_reducible refine w_eqS ?_
  | with_reducible refine w_eqI ?_
  | with_reducible refine w_neS ?_
  | with_reducible refine w_neI ?_
  | with_reducible refine w_isN ?_
  | with_reducible refine w_isnN ?_
  | with_reducible refine w_bl ?_
  | with_reducible refine w_ret ?_
  | with_reducible refine w_drop ?_
  | with_reducible refine w_next ?_
  | with_reducible refine w_cons ?_
  | with_reducible refine w_nil ?_
  | with_reducible refine w_call ?_
  | with_reducible refine w_cb ?_
  | with_reducible refine w_meth ?_
  | ((with_reducible refine' w_recv ?h1 ?h2 ?_); (case h1 => assumption); (case h2 => rfl))
  | with_reducible refine w_sFd ?_
  | ((with_reducible refine' w_put ?h1 ?h2 ?_); (case h1 => assumption); (case h2 => exact Nat.le_of_ble_eq_true rfl))
  | with_reducible refine w_add ?_
  | with_reducible refine w_sub ?_
  | with_reducible refine w_lt ?_
  | with_reducible refine w_le ?_
  | with_reducible refine w_gt ?_
  | with_reducible refine w_ge ?_
  | with_reducible refine w_bm ?_
  | with_reducible refine w_bm0 ?_
  | ((with_reducible refine' w_ty ?h1 ?_); (case h1 => assumption))
  | with_reducible refine w_tup ?_
  | with_reducible refine w_lst ?_
  | ((with_reducible refine' w_new ?h1 ?_); (case h1 => exact Nat.le_of_ble_eq_true rfl))
  | with_reducible refine w_gsub ?_
  | with_reducible refine w_make ?_
  | with_reducible refine w_lc ?_
  | with_reducible refine w_iList ?_
  | with_reducible refine w_for ?_
  | with_reducible refine w_yes ?_
  | with_reducible refine w_tSl ?_
  | with_reducible refine w_part ?_
  | with_reducible refine w_nopart ?_
  | with_reducible refine w_i ?_
  | with_reducible refine w_rng1 ?_
  | with_reducible refine w_rng2 ?_
  | with_reducible refine w_isiII ?_
  | with_reducible refine w_isiIB ?_
  | with_reducible refine w_isiSS ?_
  | ((with_reducible refine w_mod ?h1 ?_); (case h1 => decide))
  | ((with_reducible refine w_fdC' ?h1 ?h2 ?_); (case h1 => decide); (case h2 => decide))
  | ((with_reducible refine w_mulR ?h1 ?h2 ?_); (case h1 => decide); (case h2 => decide))
  | ((with_reducible refine w_mulL ?h1 ?h2 ?_); (case h1 => decide); (case h2 => decide))
  | ((with_reducible refine w_pow' ?h1 ?h2 ?h3 ?_); (case h1 => decide); (case h2 => decide); (case h3 => decide))
  | with_reducible refine w_andV ?_
  | with_reducible refine w_orV ?_
  | with_reducible refine w_notV ?_
  | with_reducible refine w_B ?_
  | with_reducible refine w_not ?_
  | with_reducible refine w_and ?_
  | with_reducible refine w_or ?_
  | with_reducible refine w_ifx ?_
  | with_reducible refine w_un ?_
  | ((with_reducible refine w_T ?h1 ?_); (case h1 => with_reducible rfl))
  | ((with_reducible refine w_F ?h1 ?_); (case h1 => with_reducible rfl))
  | ((with_reducible refine w_T ?h1 ?_); (case h1 => decide +kernel))
  | ((with_reducible refine w_F ?h1 ?_); (case h1 => decide +kernel)))
local macro_rules | `(tactic| walk_at "w") => `(tactic| repeat walk_at "w1")

/-! ### Machine.meet -/
def meetW : Rw → Bool
  | .add | .sub | .less | .share => true
  | _ => false
def wordOf : Rw → Str
  | .put _ => "put"
  | .get _ => "get"
  | .set _ => "set"
  | .say => "say"
  | .add => "add"
  | .sub => "sub"
  | .less => "less"
  | .share => "share"
  | .go _ => "go"
  | .nought _ => "nought"
  | .on _ => "on"
  | .turn => "turn"
  | .call _ => "call"
  | .back => "back"
  | .raise => "raise"
def sp_Machine_meet (K : PySem.W.Frag) : Sp := fun vs H Q _ => ∃ H0 wh P f r said t dx l s x xs row M', vs = [.ref wh.m, .ref x.a, .str (wordOf row)] ∧
  MAt K H0 H wh P.boxes ⟨f :: r, said, t, none⟩ ⟨dx, l, s, x :: xs⟩ .non ∧ PartsIn K H0 wh.c wh.st wh.sr P ∧ meetW row = true ∧ meetRw P row f r ⟨f :: r, said, t, none⟩ = some M' ∧ f.pile.length < LIM ∧
  ∀ H', MIn K H0 H' wh P.boxes M' → Q .non H'
theorem p_Machine_meet {K : PySem.W.Frag} (vs : List V) (H : Hp) (Q : VK) (E : XK) (h : sp_Machine_meet K vs H Q E) : t_Machine_meet K (sp_Frame_lay K) (sp_Machine_fault K) { nx := fun _ H' => Q .non H', rt := Q } (L2.start n_Machine_meet vs) H := by
  obtain ⟨H0, wh, P, f, r, said, t, dx, l, s, x, xs, row, M', rfl, w, pt, hw, hM, hp, k⟩ := h
  obtain ⟨place, boxes, pile⟩ := f
  match pile, hM, w, hp with
  | [], hM, _, _ => cases hM
  | [_], hM, _, _ => cases hM
  | b :: a :: p, hM, w, hp =>
  have hq := w.own.ix 5 rfl
  have ha := w.own.ix 3 rfl
  unfold t_Machine_meet
  walk_at "w"
  refine w_popB hq ?_
  have w1 := w.own.set 5 (.lst (pileV (a :: p))) rfl
  have hq1 := w1.ix 5 rfl
  have ha1 := w1.ix 3 rfl
  walk_at "w"
  refine w_popB hq1 ?_
  have w2 : MAt K H0 _ wh P.boxes ⟨⟨place, boxes, p⟩ :: r, said, t, none⟩ ⟨dx, l, s, x :: xs⟩ .non := ⟨w1.set 5 (.lst (pileV p)) rfl, w.len, rfl⟩
  have hm2 := w2.own.ix 0 rfl
  have ha2 := w2.own.ix 3 rfl
  have hq2 := w2.own.ix 5 rfl
  have lp : (pileV p).length < LIM := by
    rw [pileV_len]
    exact Nat.lt_of_le_of_lt (by simp; omega) hp
  have lay : ∀ n : Int, some (⟨(⟨place, boxes, p⟩ : Un.Fr).lay n :: r, said, t, none⟩ : Mc) = some M' → sp_Frame_lay K [.ref x.a, .int n] _ (fun _ H' => Q .non H') E0 := fun n e => by
    cases e
    exact ⟨x.a, n, x.dx, place, x.b, x.q, _, rfl, ha2, hq2, lp, k _ w2.lay⟩
  walk_at "w"
  cases row with
  | add =>
    walk_at "w"
    exact lay _ hM
  | sub =>
    walk_at "w"
    exact lay _ hM
  | less =>
    walk_at "w"
    refine w_D (fun c => ?_) (fun c => ?_)
    · walk_at "w"
      simp only [meetRw, if_pos c] at hM
      exact lay _ hM
    · walk_at "w"
      simp only [meetRw, if_neg c] at hM
      exact lay _ hM
  | share =>
    walk_at "w"
    refine w_D (fun c => ?_) (fun c => ?_)
    · simp only [meetRw, if_pos c] at hM
      cases hM
      walk_at "w"
      exact ⟨H0, wh, P, _, _, 101, rfl, w2, pt, k⟩
    · simp only [meetRw, if_neg c] at hM
      walk_at "w"
      refine w_fd c ?_
      exact lay _ hM
  | _ => cases hw

/-! ### Machine.jump -/
def sp_Machine_jump (K : PySem.W.Frag) : Sp := fun vs H Q _ => ∃ H0 wh nb f r said t dx l s x xs rw row M', vs = [.ref wh.m, .ref x.a, .ref rw] ∧
  MAt K H0 H wh nb ⟨f :: r, said, t, none⟩ ⟨dx, l, s, x :: xs⟩ .non ∧ SqT K H0 rw (words row) ∧ jumpRw row f r ⟨f :: r, said, t, none⟩ = some M' ∧
  ∀ H', MIn K H0 H' wh nb M' → Q .non H'
theorem p_Machine_jump {K : PySem.W.Frag} (vs : List V) (H : Hp) (Q : VK) (E : XK) (h : sp_Machine_jump K vs H Q E) : t_Machine_jump K { nx := fun _ H' => Q .non H', rt := Q } (L2.start n_Machine_jump vs) H := by
  obtain ⟨H0, wh, nb, f, r, said, t, dx, l, s, x, xs, rw, row, M', rfl, w, hrow, hM, k⟩ := h
  have hr := same_tup w.own.same hrow
  have ha := w.own.ix 3 rfl
  have hb := w.own.ix 4 rfl
  have hq := w.own.ix 5 rfl
  unfold t_Machine_jump
  cases row with
  | go p =>
    cases hM
    walk_at "w"
    refine w_ixT hr rfl ?_
    walk_at "w"
    refine w_ixT hr rfl ?_
    walk_at "w"
    refine w_ixT hr rfl ?_
    walk_at "w"
    exact k _ ⟨⟨dx, l, s, x :: xs⟩, .non, ⟨w.own.set 3 (.ins (He.ga K "Frame") x.dx (frF p x.b x.q)) rfl, w.len, rfl⟩⟩
  | nought p =>
    obtain ⟨place, boxes, pile⟩ := f
    cases pile with
    | nil => cases hM
    | cons v q =>
      cases hM
      walk_at "w"
      refine w_ixT hr rfl ?_
      walk_at "w"
      refine w_ixT hr rfl ?_
      walk_at "w"
      refine w_popB hq ?_
      have w1 := w.own.set 5 (.lst (pileV q)) rfl
      have ha1 := w1.ix 3 rfl
      have hr1 := same_tup w1.same hrow
      walk_at "w"
      refine w_D (fun c => ?_) (fun c => ?_)
      · walk_at "w"
        refine w_ixT hr1 rfl ?_
        walk_at "w"
        refine k _ ⟨⟨dx, l, s, x :: xs⟩, .non, ⟨?_, w.len, rfl⟩⟩
        have w2 := w1.set 3 (.ins (He.ga K "Frame") x.dx (frF p x.b x.q)) rfl
        unfold mcCells
        dsimp only [frsCells]
        rw [if_pos c]
        exact w2
      · walk_at "w"
        refine k _ ⟨⟨dx, l, s, x :: xs⟩, .non, ⟨?_, w.len, rfl⟩⟩
        have w2 := w1.set 3 (.ins (He.ga K "Frame") x.dx (frF (place + 1) x.b x.q)) rfl
        unfold mcCells
        dsimp only [frsCells]
        rw [if_neg c]
        exact w2
  | on j =>
    cases hv : nth f.boxes j with
    | none => rw [jumpRw, hv] at hM; cases hM
    | some v =>
      rw [jumpRw, hv] at hM
      cases hM
      walk_at "w"
      refine w_ixT hr rfl ?_
      walk_at "w"
      refine w_ixT hr rfl ?_
      refine w_ixL (SqL.of hb) (nth_at hv) ?_
      walk_at "w"
      exact k _ ⟨⟨dx, l, s, x :: xs⟩, .non, ⟨w.own.set 3 (.ins (He.ga K "Frame") x.dx (frF v x.b x.q)) rfl, w.len, rfl⟩⟩
  | _ => cases hM

/-! ### Machine.back -/
def sp_Machine_back (K : PySem.W.Frag) : Sp := fun vs H Q _ => ∃ H0 wh nb M d v, vs = [.ref wh.m, .int v] ∧ MAt K H0 H wh nb M d .non ∧ M.frames ≠ [] ∧ (∀ f ∈ M.frames, f.pile.length < LIM) ∧
  ∀ H', MIn K H0 H' wh nb (M.back v) → Q .non H'
theorem p_Machine_back {K : PySem.W.Frag} (vs : List V) (H : Hp) (Q : VK) (E : XK) (h : sp_Machine_back K vs H Q E) : t_Machine_back K (sp_Frame_lay K) { nx := fun _ H' => Q .non H', rt := Q } (L2.start n_Machine_back vs) H := by
  obtain ⟨H0, wh, nb, M, d, v, rfl, w, hne, hp, k⟩ := h
  have he := w.noend
  obtain ⟨fs, said, t, en⟩ := M
  obtain ⟨dx, l, s, fas⟩ := d
  subst he
  unfold t_Machine_back
  match fs, fas, w, hne, hp with
  | [], _, _, hne, _ => exact absurd rfl hne
  | _ :: _, [], w, _, _ => exact absurd w.len (by simp)
  | [f], x :: y :: ys, w, _, _ => exact absurd w.len (by simp)
  | f :: g :: r, [x], w, _, _ => exact absurd w.len (by simp)
  | [f], [x], w, _, _ =>
    have hm := w.own.ix 0 rfl
    have hl := w.own.ix 1 rfl
    walk_at "w"
    refine w_popB hl ?_
    have w1 : Own H0 _ (mcCells K wh nb ⟨dx, l, s, []⟩ .non ⟨[], said, t, none⟩) := ((((w.own.set 1 (.lst (refsV [])) rfl).del 3).del 3).del 3)
    have hm1 := w1.ix 0 rfl
    have hl1 := w1.ix 1 rfl
    walk_at "w"
    refine w_lenL (SqL.of hl1) ?_
    walk_at "w"
    refine w_T (decide_eq_true rfl) ?_
    walk_at "w"
    refine fun u hu => ?_
    have w2 := w1.lay (o := .tup [.str "answer", .int v]) hu
    have hm2 := w2.ix 0 rfl
    walk_at "w"
    refine k _ ⟨⟨dx, l, s, []⟩, .ref u, ⟨w2.set 0 _ rfl, rfl, u, rfl, ?_⟩⟩
    rw [upd_ne (ne_of_none hm1 hu).symm, upd_same]
    rfl
  | f :: g :: r, x :: y :: ys, w, _, hp =>
    have hm := w.own.ix 0 rfl
    have hl := w.own.ix 1 rfl
    walk_at "w"
    refine w_popB hl ?_
    have w1 : MAt K H0 _ wh nb ⟨g :: r, said, t, none⟩ ⟨dx, l, s, y :: ys⟩ .non := ⟨((((w.own.set 1 (.lst (refsV (y :: ys))) rfl).del 3).del 3).del 3), by simpa using w.len, rfl⟩
    have hm1 := w1.own.ix 0 rfl
    have hl1 := w1.own.ix 1 rfl
    have ha1 := w1.own.ix 3 rfl
    have hq1 := w1.own.ix 5 rfl
    walk_at "w"
    refine w_lenL (SqL.of hl1) ?_
    walk_at "w"
    refine w_F (decide_eq_false (by rw [refs_len]; simp; omega)) ?_
    walk_at "w"
    refine w_lenL (SqL.of hl1) ?_
    walk_at "w"
    refine w_ixL (SqL.of hl1) refs_last ?_
    walk_at "w"
    refine ⟨y.a, v, y.dx, g.place, y.b, y.q, _, rfl, ha1, hq1, by rw [pileV_len]; exact hp g (by simp), ?_⟩
    exact k _ w1.lay
end U

set_option maxHeartbeats 4000000
namespace U
open PySem PySem.Spec PyProof.Rows L2 Un
local macro_rules | `(tactic| walk_at "w1") => `(tactic| first
  | with_reducible refine w_seq ?_
  | with_reducible refine w_asg ?_
  | with_reducible refine w_op ?_
  | ((with_reducible refine' w_var ?h1 ?_); (case h1 => rfl))
  | with_reducible refine w_c ?_
  | with_reducible refine w_name ?_
  | with_reducible refine w_tFd ?_
  | ((with_reducible refine' w_fld ?h1 ?h2 ?_); (case h1 => assumption); (case h2 => rfl))
  | with_reducible refine w_if ?_
  | with_reducible refine w_test ?_
  | with_reducible refine w_eqS ?_
  | with_reducible refine w_eqI ?_
  | with_reducible refine w_neS ?_
  | with_reducible refine w_neI ?_
  | with_reducible refine w_isN ?_
  | with_reducible refine w_isnN ?_
  | with_reducible refine w_bl ?_
  | with_reducible refine w_ret ?_
  | with_reducible refine w_drop ?_
  | with_reducible refine w_next ?_
  | with_reducible refine w_cons ?_
  | with_reducible refine w_nil ?_
  | with_reducible refine w_call ?_
  | with_reducible refine w_cb ?_
  | with_reducible refine w_meth ?_
  | ((with_reducible refine' w_recv ?h1 ?h2 ?_); (case h1 => assumption); (case h2 => rfl))
  | with_reducible refine w_sFd ?_
  | ((with_reducible refine' w_put ?h1 ?h2 ?_); (case h1 => assumption); (case h2 => exact Nat.le_of_ble_eq_true rfl))
  | with_reducible refine w_add ?_
  | with_reducible refine w_sub ?_
  | with_reducible refine w_lt ?_
  | with_reducible refine w_le ?_
  | with_reducible refine w_gt ?_
  | with_reducible refine w_ge ?_
  | with_reducible refine w_bm ?_
  | with_reducible refine w_bm0 ?_
  | ((with_reducible refine' w_ty ?h1 ?_); (case h1 => assumption))
  | with_reducible refine w_tup ?_
  | with_reducible refine w_lst ?_
  | ((with_reducible refine' w_new ?h1 ?_); (case h1 => exact Nat.le_of_ble_eq_true rfl))
  | with_reducible refine w_gsub ?_
  | with_reducible refine w_make ?_
  | with_reducible refine w_lc ?_
  | with_reducible refine w_iList ?_
  | with_reducible refine w_for ?_
  | with_reducible refine w_yes ?_
  | with_reducible refine w_tSl ?_
  | with_reducible refine w_part ?_
  | with_reducible refine w_nopart ?_
  | with_reducible refine w_i ?_
  | with_reducible refine w_rng1 ?_
  | with_reducible refine w_rng2 ?_
  | with_reducible refine w_isiII ?_
  | with_reducible refine w_isiIB ?_
  | with_reducible refine w_isiSS ?_
  | ((with_reducible refine w_mod ?h1 ?_); (case h1 => decide))
  | ((with_reducible refine w_fdC' ?h1 ?h2 ?_); (case h1 => decide); (case h2 => decide))
  | ((with_reducible refine w_mulR ?h1 ?h2 ?_); (case h1 => decide); (case h2 => decide))
  | ((with_reducible refine w_mulL ?h1 ?h2 ?_); (case h1 => decide); (case h2 => decide))
  | ((with_reducible refine w_pow' ?h1 ?h2 ?h3 ?_); (case h1 => decide); (case h2 => decide); (case h3 => decide))
  | with_reducible refine w_andV ?_
  | with_reducible refine w_orV ?_
  | with_reducible refine w_notV ?_
  | with_reducible refine w_B ?_
  | with_reducible refine w_not ?_
  | with_reducible refine w_and ?_
  | with_reducible refine w_or ?_
  | with_reducible refine w_ifx ?_
  | with_reducible refine w_un ?_
  | ((with_reducible refine w_T ?h1 ?_); (case h1 => with_reducible rfl))
  | ((with_reducible refine w_F ?h1 ?_); (case h1 => with_reducible rfl))
  | ((with_reducible refine w_T ?h1 ?_); (case h1 => decide +kernel))
  | ((with_reducible refine w_F ?h1 ?_); (case h1 => decide +kernel)))
local macro_rules | `(tactic| walk_at "w") => `(tactic| repeat walk_at "w1")

/-! ### Machine.enter -/
def sp_Machine_enter (K : PySem.W.Frag) : Sp := fun vs H Q _ => ∃ H0 wh P M d g v M', vs = [.ref wh.m, .int g, .int v] ∧ MAt K H0 H wh P.boxes M d .non ∧ PartsIn K H0 wh.c wh.st wh.sr P ∧ 0 ≤ P.boxes ∧ P.boxes < 16000000 ∧
  M.frames.length ≤ 8 ∧ M.enter P g v = some M' ∧ ∀ H', MIn K H0 H' wh P.boxes M' → Q .non H'
theorem p_Machine_enter {K : PySem.W.Frag} (vs : List V) (H : Hp) (Q : VK) (E : XK) (h : sp_Machine_enter K vs H Q E) : t_Machine_enter K (sp_Machine_taken K) (sp_Machine_fault K) (sp_Frame___init__ K) { nx := fun _ H' => Q .non H', rt := Q } (L2.start n_Machine_enter vs) H := by
  obtain ⟨H0, wh, P, M, d, g, v, M', rfl, w, pt, hb0, hb, hfl, hM, k⟩ := h
  have he := w.noend
  obtain ⟨fs, said, t, en⟩ := M
  obtain ⟨dx, l, s, fas⟩ := d
  subst he
  have hm := w.own.ix 0 rfl
  unfold t_Machine_enter
  walk_at "w"
  refine ⟨H0, wh, P.boxes, _, _, rfl, w.own, fun c H1 u w1 hu => ?_, fun c H1 w1 => ?_⟩
  · have c' : t = 0 := c
    walk_at "w"
    unfold Mc.enter at hM
    rw [if_pos c'] at hM
    cases hM
    exact k _ ⟨⟨dx, l, s, fas⟩, .ref u, ⟨w1, w.len, u, rfl, hu⟩⟩
  · have c' : ¬ t = 0 := c
    unfold Mc.enter at hM
    rw [if_neg c'] at hM
    dsimp only at hM hfl
    have hm1 := w1.ix 0 rfl
    have hl1 := w1.ix 1 rfl
    have hlen : (refsV fas).length = fs.length := (refs_len fas).trans w.len
    walk_at "w"
    refine w_lenL (SqL.of hl1) ?_
    walk_at "w"
    have w2 : MAt K H0 H1 wh P.boxes ⟨fs, said, t - 1, none⟩ ⟨dx, l, s, fas⟩ .non := ⟨w1, w.len, rfl⟩
    refine w_D (fun c2 => ?_) (fun c2 => ?_) <;> dsimp only at c2
    · have c3 : fs.length = 8 := by omega
      rw [if_pos c3] at hM
      cases hM
      walk_at "w"
      exact ⟨H0, wh, P, _, _, 102, rfl, w2, pt, k⟩
    · have c3 : ¬ fs.length = 8 := by omega
      rw [if_neg c3] at hM
      cases hs : nth P.starts g with
      | none => rw [hs] at hM; cases hM
      | some st =>
        rw [hs] at hM
        cases hM
        walk_at "w"
        refine w_ixL (w1.same.seq pt.starts) (nth_at hs) ?_
        walk_at "w"
        refine fun a dx2 na ndx hne => ?_
        have w3 := (w1.lay (o := .own a) ndx).take (a := a) (o := .ins (He.ga K "Frame") dx2 []) (by rw [upd_ne (Ne.symm hne)]; exact na)
        refine ⟨less _ [(a, .ins (He.ga K "Frame") dx2 [])], a, st, P.boxes, v, dx2, rfl, w3.lend1, hb0, hb, fun b q H2 w4 => ?_⟩
        have w5 := Own.back (L := [_]) w3 w4
        have hl5 := w5.ix 4 rfl
        refine ⟨rfl, ?_⟩
        walk_at "w"
        refine w_app hl5 (by rw [hlen]; exact lim_lt (by have : fs.length ≤ 8 := hfl; unfold LIM; omega)) ?_
        have w6 := w5.set 4 (.lst (refsV fas ++ [.ref a])) rfl
        refine k _ ⟨⟨dx, l, s, ⟨a, dx2, b, q⟩ :: fas⟩, .non, ⟨?_, by simpa using w.len, rfl⟩⟩
        exact w6.rot3
end U

/-! bounds along a run -/
namespace Un
open PySem
def Bnd (k : Nat) (M : Mc) : Prop := M.frames.length ≤ 8 ∧ (∀ f ∈ M.frames, f.pile.length ≤ k) ∧ M.said.length ≤ k
theorem faultF_sub (S : List Stretch) (n : Int) : ∀ fs : List Fr, (faultF S n fs).length ≤ fs.length ∧ ∀ k, 1 ≤ k → (∀ f ∈ fs, f.pile.length ≤ k) → ∀ f ∈ faultF S n fs, f.pile.length ≤ k
  | [] => ⟨Nat.le_refl _, fun k _ h => h⟩
  | f :: r => by
    have ih := faultF_sub S n r
    unfold faultF
    cases goalOf S f.place with
    | some g =>
      refine ⟨by simp, fun k hk h x hx => ?_⟩
      rcases List.mem_cons.mp hx with e | e
      · subst e
        simpa using hk
      · exact h x (List.mem_cons_of_mem _ e)
    | none => exact ⟨Nat.le_trans ih.1 (by simp), fun k hk h => ih.2 k hk fun x hx => h x (List.mem_cons_of_mem _ hx)⟩
theorem Bnd.fault {P : Parts} {k : Nat} {M : Mc} {n : Int} (hk : 1 ≤ k) (h : Bnd k M) : Bnd k (M.fault P n) := by
  have q := faultF_sub P.str n M.frames
  unfold Mc.fault
  cases e : faultF P.str n M.frames with
  | nil => exact ⟨by simp, fun f hf => by simp at hf, h.2.2⟩
  | cons f r =>
    rw [e] at q
    exact ⟨Nat.le_trans q.1 h.1, q.2 k hk h.2.1, h.2.2⟩
theorem Bnd.up {k j : Nat} {M : Mc} (h : Bnd k M) (hj : k ≤ j) : Bnd j M := ⟨h.1, fun f hf => Nat.le_trans (h.2.1 f hf) hj, Nat.le_trans h.2.2 hj⟩
theorem Bnd.head {k j : Nat} {f g : Fr} {r : List Fr} {said said' : List Int} {t t' : Nat} {e e' : Option (Ed × Int)} (h : Bnd k ⟨f :: r, said, t, e⟩) (hk : k ≤ j) (hg : g.pile.length ≤ j) (hs : said'.length ≤ j) : Bnd j ⟨g :: r, said', t', e'⟩ := by
  refine ⟨by simpa using h.1, fun x hx => ?_, hs⟩
  rcases List.mem_cons.mp hx with q | q
  · subst q
    exact hg
  · exact Nat.le_trans (h.2.1 x (List.mem_cons_of_mem _ q)) hk
theorem bnd_step {P : Parts} {k : Nat} {M M' : Mc} (h : Bnd k M) (e : rowStep P M = some M') : Bnd (k + 1) M' := by
  obtain ⟨fs, said, t, en⟩ := M
  unfold rowStep at e
  cases fs with
  | nil => cases e
  | cons f r =>
  dsimp only at e
  cases hr : nth P.code f.place with
  | none => rw [hr] at e; cases e
  | some row =>
  rw [hr] at e
  dsimp only at e
  have hp : f.pile.length ≤ k := h.2.1 f (by simp)
  have hs : said.length ≤ k := h.2.2
  obtain ⟨place, boxes, pile⟩ := f
  dsimp only at hp
  have pop : ∀ (v : Int) (q : List Int), pile = v :: q → q.length + 1 ≤ k := fun v q e => by
    rw [e] at hp
    simpa using hp
  cases row with
  | put n => cases e; exact h.head (by first | omega | (dsimp only; omega)) (by simp only [Fr.lay, List.length_cons]; first | omega | (dsimp only; omega)) (by first | omega | (dsimp only; omega))
  | get j =>
    simp only [stepRw, moveRw] at e
    cases hv : nth boxes j with
    | none => rw [hv] at e; cases e
    | some v => rw [hv] at e; cases e; exact h.head (by first | omega | (dsimp only; omega)) (by simp only [Fr.lay, List.length_cons]; first | omega | (dsimp only; omega)) (by first | omega | (dsimp only; omega))
  | set j =>
    cases pile with
    | nil => cases e
    | cons v p =>
      simp only [stepRw, moveRw] at e
      split at e
      · cases e
        have := pop _ _ rfl
        exact h.head (by first | omega | (dsimp only; omega)) (by first | omega | (dsimp only; omega)) (by first | omega | (dsimp only; omega))
      · cases e
  | say =>
    cases pile with
    | nil => cases e
    | cons v p =>
      cases e
      have := pop _ _ rfl
      exact h.head (by first | omega | (dsimp only; omega)) (by first | omega | (dsimp only; omega)) (by simp; omega)
  | add =>
    match pile, e, pop with
    | b :: a :: p, e, pop =>
      cases e
      have := pop _ _ rfl
      simp at this
      exact h.head (by first | omega | (dsimp only; omega)) (by simp only [Fr.lay, List.length_cons]; first | omega | (dsimp only; omega)) (by first | omega | (dsimp only; omega))
  | sub =>
    match pile, e, pop with
    | b :: a :: p, e, pop =>
      cases e
      have := pop _ _ rfl
      simp at this
      exact h.head (by first | omega | (dsimp only; omega)) (by simp only [Fr.lay, List.length_cons]; first | omega | (dsimp only; omega)) (by first | omega | (dsimp only; omega))
  | less =>
    match pile, e, pop with
    | b :: a :: p, e, pop =>
      cases e
      have := pop _ _ rfl
      simp at this
      exact h.head (by first | omega | (dsimp only; omega)) (by simp only [Fr.lay, List.length_cons]; first | omega | (dsimp only; omega)) (by first | omega | (dsimp only; omega))
  | share =>
    match pile, e, pop with
    | b :: a :: p, e, pop =>
      have := pop _ _ rfl
      simp at this
      simp only [stepRw, meetRw] at e
      split at e
      · cases e
        exact Bnd.fault (by first | omega | (dsimp only; omega)) (h.head (by first | omega | (dsimp only; omega)) (by first | omega | (dsimp only; omega)) (by first | omega | (dsimp only; omega)))
      · cases e
        exact h.head (by first | omega | (dsimp only; omega)) (by simp only [Fr.lay, List.length_cons]; first | omega | (dsimp only; omega)) (by first | omega | (dsimp only; omega))
  | go p => cases e; exact h.head (by first | omega | (dsimp only; omega)) (by first | omega | (dsimp only; omega)) (by first | omega | (dsimp only; omega))
  | nought p =>
    cases pile with
    | nil => cases e
    | cons v q =>
      cases e
      have := pop _ _ rfl
      exact h.head (by first | omega | (dsimp only; omega)) (by first | omega | (dsimp only; omega)) (by first | omega | (dsimp only; omega))
  | on j =>
    simp only [stepRw, jumpRw] at e
    cases hv : nth boxes j with
    | none => rw [hv] at e; cases e
    | some v => rw [hv] at e; cases e; exact h.head (by first | omega | (dsimp only; omega)) (by first | omega | (dsimp only; omega)) (by first | omega | (dsimp only; omega))
  | turn =>
    simp only [stepRw] at e
    split at e
    · cases e
      exact h.up (by first | omega | (dsimp only; omega))
    · cases e
      exact h.head (by first | omega | (dsimp only; omega)) (by first | omega | (dsimp only; omega)) (by first | omega | (dsimp only; omega))
  | call g =>
    cases pile with
    | nil => cases e
    | cons v q =>
      have := pop _ _ rfl
      have h1 : ∀ t en, Bnd (k + 1) ⟨⟨place, boxes, q⟩ :: r, said, t, en⟩ := fun t en => h.head (by first | omega | (dsimp only; omega)) (by first | omega | (dsimp only; omega)) (by first | omega | (dsimp only; omega))
      simp only [stepRw, Mc.enter] at e
      split at e
      · cases e
        exact h1 _ _
      · split at e
        · cases e
          exact Bnd.fault (by first | omega | (dsimp only; omega)) (h1 _ _)
        · rename_i c8
          cases hv : nth P.starts g with
          | none => rw [hv] at e; cases e
          | some s =>
            rw [hv] at e
            cases e
            have z := h1 (t - 1) en
            refine ⟨?_, fun x hx => ?_, z.2.2⟩
            · have := z.1
              simp at this c8 ⊢
              omega
            · rcases List.mem_cons.mp hx with q | q
              · subst q
                simp
              · exact z.2.1 x q
  | back =>
    cases pile with
    | nil => cases e
    | cons v q =>
      simp only [stepRw, Mc.back] at e
      match r, e, h with
      | [], e, h =>
        cases e
        exact ⟨by simp, fun f hf => by simp at hf, by dsimp only; omega⟩
      | g :: r', e, h =>
        cases e
        refine ⟨by have := h.1; simp at this ⊢; omega, fun x hx => ?_, by dsimp only; omega⟩
        rcases List.mem_cons.mp hx with z | z
        · subst z
          have := h.2.1 g (by simp)
          simp [Fr.lay]
          omega
        · exact Nat.le_trans (h.2.1 x (List.mem_cons_of_mem _ (List.mem_cons_of_mem _ z))) (by first | omega | (dsimp only; omega))
  | raise =>
    cases pile with
    | nil => cases e
    | cons v q =>
      cases e
      have := pop _ _ rfl
      exact Bnd.fault (by first | omega | (dsimp only; omega)) (h.head (by first | omega | (dsimp only; omega)) (by first | omega | (dsimp only; omega)) (by first | omega | (dsimp only; omega)))
theorem bnd_steps {P : Parts} : ∀ {j k : Nat} {M M' : Mc}, Bnd k M → rowSteps P j M = some M' → Bnd (k + j) M'
  | 0, k, M, M', h, e => by cases e; exact h
  | j + 1, k, M, M', h, e => by
    unfold rowSteps at e
    split at e
    · cases e
    · cases hs : rowStep P M with
      | none => rw [hs] at e; cases e
      | some M1 =>
        rw [hs] at e
        have := bnd_steps (bnd_step h hs) e
        exact this.up (by first | omega | (dsimp only; omega))
theorem bnd_begun {P : Parts} {number : Int} {turns : Nat} {M : Mc} (e : begun P number turns = some M) : Bnd 0 M := by
  unfold begun at e
  cases h : nth P.starts 0 with
  | none => rw [h] at e; cases e
  | some s =>
    rw [h] at e
    cases e
    exact ⟨by simp, fun f hf => by simp at hf; subst hf; simp, by simp⟩
theorem rowSteps_add (P : Parts) : ∀ (a b : Nat) (m : Mc), rowSteps P (a + b) m = (rowSteps P a m).bind (rowSteps P b)
  | 0, b, m => by rw [Nat.zero_add]; rfl
  | a + 1, b, m => by
    rw [show a + 1 + b = (a + b) + 1 by omega]
    unfold rowSteps
    split
    · rfl
    · cases rowStep P m with
      | none => rfl
      | some m1 => exact rowSteps_add P a b m1
theorem rowSteps_one {P : Parts} {m m' : Mc} (h : m.ended = none) (e : rowStep P m = some m') : rowSteps P 1 m = some m' := by
  unfold rowSteps
  rw [h, e]
  rfl
theorem rowSteps_then {P : Parts} {a b : Nat} {m m1 m2 : Mc} (h1 : rowSteps P a m = some m1) (h2 : rowSteps P b m1 = some m2) : rowSteps P (a + b) m = some m2 := by
  rw [rowSteps_add, h1]
  exact h2
end Un

set_option maxHeartbeats 4000000
namespace U
open PySem PySem.Spec PyProof.Rows L2 Un
local macro_rules | `(tactic| walk_at "w1") => `(tactic| first
  | with_reducible refine w_seq ?_
  | with_reducible refine w_asg ?_
  | with_reducible refine w_op ?_
  | ((with_reducible refine' w_var ?h1 ?_); (case h1 => rfl))
  | with_reducible refine w_c ?_
  | with_reducible refine w_name ?_
  | with_reducible refine w_tFd ?_
  | ((with_reducible refine' w_fld ?h1 ?h2 ?_); (case h1 => assumption); (case h2 => rfl))
  | with_reducible refine w_if ?_
  | with_reducible refine w_test ?_
  | with_reducible refine w_eqS ?_
  | with_reducible refine w_eqI ?_
  | with_reducible refine w_neS ?_
  | with_reducible refine w_neI ?_
  | with_reducible refine w_isN ?_
  | with_reducible refine w_isnN ?_
  | with_reducible refine w_bl ?_
  | with_reducible refine w_ret ?_
  | with_reducible refine w_drop ?_
  | with_reducible refine w_next ?_
  | with_reducible refine w_cons ?_
  | with_reducible refine w_nil ?_
  | with_reducible refine w_call ?_
  | with_reducible refine w_cb ?_
  | with_reducible refine w_meth ?_
  | ((with_reducible refine' w_recv ?h1 ?h2 ?_); (case h1 => assumption); (case h2 => rfl))
  | with_reducible refine w_sFd ?_
  | ((with_reducible refine' w_put ?h1 ?h2 ?_); (case h1 => assumption); (case h2 => exact Nat.le_of_ble_eq_true rfl))
  | with_reducible refine w_add ?_
  | with_reducible refine w_sub ?_
  | with_reducible refine w_lt ?_
  | with_reducible refine w_le ?_
  | with_reducible refine w_gt ?_
  | with_reducible refine w_ge ?_
  | with_reducible refine w_bm ?_
  | with_reducible refine w_bm0 ?_
  | ((with_reducible refine' w_ty ?h1 ?_); (case h1 => assumption))
  | with_reducible refine w_tup ?_
  | with_reducible refine w_lst ?_
  | ((with_reducible refine' w_new ?h1 ?_); (case h1 => exact Nat.le_of_ble_eq_true rfl))
  | with_reducible refine w_gsub ?_
  | with_reducible refine w_make ?_
  | with_reducible refine w_lc ?_
  | with_reducible refine w_iList ?_
  | with_reducible refine w_for ?_
  | with_reducible refine w_yes ?_
  | with_reducible refine w_tSl ?_
  | with_reducible refine w_part ?_
  | with_reducible refine w_nopart ?_
  | with_reducible refine w_i ?_
  | with_reducible refine w_rng1 ?_
  | with_reducible refine w_rng2 ?_
  | with_reducible refine w_isiII ?_
  | with_reducible refine w_isiIB ?_
  | with_reducible refine w_isiSS ?_
  | ((with_reducible refine w_mod ?h1 ?_); (case h1 => decide))
  | ((with_reducible refine w_fdC' ?h1 ?h2 ?_); (case h1 => decide); (case h2 => decide))
  | ((with_reducible refine w_mulR ?h1 ?h2 ?_); (case h1 => decide); (case h2 => decide))
  | ((with_reducible refine w_mulL ?h1 ?h2 ?_); (case h1 => decide); (case h2 => decide))
  | ((with_reducible refine w_pow' ?h1 ?h2 ?h3 ?_); (case h1 => decide); (case h2 => decide); (case h3 => decide))
  | with_reducible refine w_andV ?_
  | with_reducible refine w_orV ?_
  | with_reducible refine w_notV ?_
  | with_reducible refine w_B ?_
  | with_reducible refine w_not ?_
  | with_reducible refine w_and ?_
  | with_reducible refine w_or ?_
  | with_reducible refine w_ifx ?_
  | with_reducible refine w_un ?_
  | ((with_reducible refine w_T ?h1 ?_); (case h1 => with_reducible rfl))
  | ((with_reducible refine w_F ?h1 ?_); (case h1 => with_reducible rfl))
  | ((with_reducible refine w_T ?h1 ?_); (case h1 => decide +kernel))
  | ((with_reducible refine w_F ?h1 ?_); (case h1 => decide +kernel)))
local macro_rules | `(tactic| walk_at "w") => `(tactic| repeat walk_at "w1")

theorem nth_all {α β : Type} {R : α → β → Prop} {as : List α} {bs : List β} (h : All2 R as bs) {i : Int} {b : β} (e : nth bs i = some b) : ∃ a, atI as i = some a ∧ R a b := by
  unfold nth at e
  by_cases h0 : 0 ≤ i
  · rw [if_pos h0] at e
    obtain ⟨a, h1, h2⟩ := h.get e
    exact ⟨a, atI_ok h0 h1, h2⟩
  · rw [if_neg h0] at e
    cases e
theorem MAt.laid {K : PySem.W.Frag} {H0 H : Hp} {wh : Wh} {nb : Int} {M : Mc} {d : Ad} {p : Addr} {o : HO} (w : MAt K H0 H wh nb M d .non) (h : H p = none) : MAt K H0 (upd H p o) wh nb M d .non := by
  refine ⟨w.own.lay h, w.len, ?_⟩
  rw [w.noend]
  exact rfl
def moveW : Rw → Bool
  | .put _ | .get _ | .set _ | .say => true
  | _ => false
def jumpW : Rw → Bool
  | .go _ | .nought _ | .on _ => true
  | _ => false
theorem words_0 (row : Rw) : atI (words row) 0 = some (.str (wordOf row)) := by cases row <;> rfl
theorem same_one {H : Hp} {p : Addr} {o : HO} {a : Addr} {u : HO} (h : H p = none) (e : H a = some u) : upd H p o a = some u := same_lay h a u e
structure Bd (P : Parts) (M : Mc) : Prop where
  b0 : 0 ≤ P.boxes
  b1 : P.boxes < 16000000
  fr : M.frames.length ≤ 8
  pl : ∀ f ∈ M.frames, f.pile.length < LIM
  sd : M.said.length < LIM
def sp_Machine_step (K : PySem.W.Frag) : Sp := fun vs H Q _ => ∃ H0 wh P M d M', vs = [.ref wh.m] ∧ MAt K H0 H wh P.boxes M d .non ∧ PartsIn K H0 wh.c wh.st wh.sr P ∧ Bd P M ∧ rowStep P M = some M' ∧
  ∀ H', MIn K H0 H' wh P.boxes M' → Q .non H'
theorem p_Machine_step {K : PySem.W.Frag} (vs : List V) (H : Hp) (Q : VK) (E : XK) (h : sp_Machine_step K vs H Q E) :
    t_Machine_step K (sp_Machine_meet K) (sp_Machine_move K) (sp_Machine_jump K) (sp_Machine_taken K) (sp_Machine_enter K) (sp_Machine_back K) (sp_Machine_fault K) { nx := fun _ H' => Q .non H', rt := Q } (L2.start n_Machine_step vs) H := by
  obtain ⟨H0, wh, P, M, d, M', rfl, w, pt, bd, hM, k⟩ := h
  have he := w.noend
  obtain ⟨fs, said, t, en⟩ := M
  obtain ⟨dx, l, s, fas⟩ := d
  subst he
  match fs, fas, w, bd, hM with
  | [], _, _, _, hM => cases hM
  | _ :: _, [], w, _, _ => exact absurd w.len (by simp)
  | f :: r, x :: xs, w, bd, hM =>
  have hm := w.own.ix 0 rfl
  have hl := w.own.ix 1 rfl
  have ha := w.own.ix 3 rfl
  obtain ⟨cs, c1, c2⟩ := pt.code
  unfold rowStep at hM
  dsimp only at hM
  cases hrow : nth P.code f.place with
  | none => rw [hrow] at hM; cases hM
  | some row =>
  rw [hrow] at hM
  dsimp only at hM
  obtain ⟨v, hv, rw, rfl, hr0⟩ := nth_all c2 hrow
  have hr := same_tup w.own.same hr0
  have pb : f.pile.length < LIM := bd.pl f (by simp)
  unfold t_Machine_step
  walk_at "w"
  refine w_lenL (SqL.of hl) ?_
  walk_at "w"
  refine w_ixL (SqL.of hl) refs_last ?_
  walk_at "w"
  refine w_ixL (w.own.same.seq c1) hv ?_
  walk_at "w"
  refine w_ixT hr (words_0 row) ?_
  walk_at "w"
  refine fun p1 h1 => ?_
  refine w_inT (SqT.of upd_same) rfl rfl ?_
  walk_at "w"
  have w1 : MAt K H0 _ wh P.boxes ⟨f :: r, said, t, none⟩ ⟨dx, l, s, x :: xs⟩ .non := w.laid (o := .tup [.str "add", .str "sub", .str "less", .str "share"]) h1
  have meet : meetW row = true → meetRw P row f r ⟨f :: r, said, t, none⟩ = some M' → sp_Machine_meet K [.ref wh.m, .ref x.a, .str (wordOf row)] _ (fun _ H' => Q .non H') E0 :=
    fun hw hM => ⟨H0, wh, P, f, r, said, t, dx, l, s, x, xs, row, M', rfl, w1, pt, hw, hM, pb, k⟩
  have hm1 := w1.own.ix 0 rfl
  by_cases hmeet : meetW row = true
  · refine w_T (by cases row <;> first | (cases hmeet; done) | (dsimp only [wordOf]; decide +kernel)) ?_
    walk_at "w"
    exact meet hmeet (by cases row <;> first | exact hM | (cases hmeet; done))
  refine w_F (by cases row <;> first | (exact absurd rfl hmeet) | (dsimp only [wordOf]; decide +kernel)) ?_
  walk_at "w"
  refine fun p2 h2 => ?_
  refine w_inT (SqT.of upd_same) rfl rfl ?_
  walk_at "w"
  have w2 := w1.laid (o := .tup [.str "put", .str "get", .str "set", .str "say"]) h2
  have hm2 := w2.own.ix 0 rfl
  by_cases hmove : moveW row = true
  · refine w_T (by cases row <;> first | (cases hmove; done) | (dsimp only [wordOf]; decide +kernel)) ?_
    walk_at "w"
    exact ⟨H0, wh, P.boxes, f, r, said, t, dx, l, s, x, xs, rw, row, M', rfl, w2, hr0, (by cases row <;> first | exact hM | (cases hmove; done)), pb, bd.sd, k⟩
  refine w_F (by cases row <;> first | (exact absurd rfl hmove) | (exact absurd rfl hmeet) | (dsimp only [wordOf]; decide +kernel)) ?_
  walk_at "w"
  refine fun p3 h3 => ?_
  refine w_inT (SqT.of upd_same) rfl rfl ?_
  walk_at "w"
  have w3 := w2.laid (o := .tup [.str "go", .str "nought", .str "on"]) h3
  have hm3 := w3.own.ix 0 rfl
  by_cases hjump : jumpW row = true
  · refine w_T (by cases row <;> first | (cases hjump; done) | (dsimp only [wordOf]; decide +kernel)) ?_
    walk_at "w"
    exact ⟨H0, wh, P.boxes, f, r, said, t, dx, l, s, x, xs, rw, row, M', rfl, w3, hr0, (by cases row <;> first | exact hM | (cases hjump; done)), k⟩
  refine w_F (by cases row <;> first | (exact absurd rfl hjump) | (exact absurd rfl hmove) | (exact absurd rfl hmeet) | (dsimp only [wordOf]; decide +kernel)) ?_
  have ha3 := w3.own.ix 3 rfl
  have hq3 := w3.own.ix 5 rfl
  have hr3 := same_tup w3.own.same hr0
  cases row with
  | turn =>
    walk_at "w"
    refine ⟨H0, wh, P.boxes, _, _, rfl, w3.own, fun c H1 u w4 hu => ?_, fun c H1 w4 => ?_⟩
    · have c' : t = 0 := c
      walk_at "w"
      simp only [stepRw, if_pos c'] at hM
      cases hM
      exact k _ ⟨⟨dx, l, s, x :: xs⟩, .ref u, ⟨w4, w.len, u, rfl, hu⟩⟩
    · have c' : ¬ t = 0 := c
      simp only [stepRw, if_neg c'] at hM
      cases hM
      have ha4 := w4.ix 3 rfl
      walk_at "w"
      exact k _ ⟨⟨dx, l, s, x :: xs⟩, .non, ⟨w4.set 3 (.ins (He.ga K "Frame") x.dx (frF (f.place + 1) x.b x.q)) rfl, w.len, rfl⟩⟩
  | call g =>
    obtain ⟨place, boxes, pile⟩ := f
    cases pile with
    | nil => cases hM
    | cons v q =>
      dsimp only [wordOf]
      walk_at "w"
      refine w_ixT hr3 rfl ?_
      walk_at "w"
      refine w_popB hq3 ?_
      have w4 : MAt K H0 _ wh P.boxes ⟨⟨place, boxes, q⟩ :: r, said, t, none⟩ ⟨dx, l, s, x :: xs⟩ .non := ⟨w3.own.set 5 (.lst (pileV q)) rfl, w.len, rfl⟩
      walk_at "w"
      exact ⟨H0, wh, P, _, _, g, v, M', rfl, w4, pt, bd.b0, bd.b1, bd.fr, hM, k⟩
  | back =>
    obtain ⟨place, boxes, pile⟩ := f
    cases pile with
    | nil => cases hM
    | cons v q =>
      cases hM
      walk_at "w"
      refine w_popB hq3 ?_
      have w4 : MAt K H0 _ wh P.boxes ⟨⟨place, boxes, q⟩ :: r, said, t, none⟩ ⟨dx, l, s, x :: xs⟩ .non := ⟨w3.own.set 5 (.lst (pileV q)) rfl, w.len, rfl⟩
      walk_at "w"
      refine ⟨H0, wh, P.boxes, _, _, v, rfl, w4, by simp, fun g hg => ?_, k⟩
      rcases List.mem_cons.mp hg with e | e
      · subst e
        exact Nat.lt_of_le_of_lt (by simp) pb
      · exact bd.pl g (List.mem_cons_of_mem _ e)
  | raise =>
    obtain ⟨place, boxes, pile⟩ := f
    cases pile with
    | nil => cases hM
    | cons v q =>
      cases hM
      walk_at "w"
      refine w_popB hq3 ?_
      have w4 : MAt K H0 _ wh P.boxes ⟨⟨place, boxes, q⟩ :: r, said, t, none⟩ ⟨dx, l, s, x :: xs⟩ .non := ⟨w3.own.set 5 (.lst (pileV q)) rfl, w.len, rfl⟩
      walk_at "w"
      exact ⟨H0, wh, P, _, _, v, rfl, w4, pt, k⟩
  | add | sub | less | share => exact absurd rfl hmeet
  | put _ | get _ | set _ | say => exact absurd rfl hmove
  | go _ | nought _ | on _ => exact absurd rfl hjump

/-! ### run -/
theorem perm6 (l a b q s m : Cell) : List.Perm [l, a, b, q, s, m] [m, l, s, a, b, q] :=
  (List.perm_append_comm (l₁ := [l, a, b, q, s]) (l₂ := [m])).trans (.cons _ (.cons _ (List.perm_append_comm (l₁ := [a, b, q]) (l₂ := [s]))))
def sp_Machine___init__ (K : PySem.W.Frag) : Sp := fun vs H Q _ => ∃ H0 m dx a ps c st sr P number turns M, vs = [.ref m, .ref a, .int number, .int (turns : Nat)] ∧ Own H0 H [(m, .ins (He.ga K "Machine") dx [])] ∧
  SqT K H0 a ps ∧ ps = [.ref c, .ref st, .ref sr, .int P.boxes] ∧ PartsIn K H0 c st sr P ∧ 0 ≤ P.boxes ∧ P.boxes < 16000000 ∧ begun P number turns = some M ∧
  ∀ H' d, MAt K H0 H' ⟨m, c, st, sr⟩ P.boxes M d .non → Q .non H'
theorem p_Machine___init__ {K : PySem.W.Frag} (vs : List V) (H : Hp) (Q : VK) (E : XK) (h : sp_Machine___init__ K vs H Q E) :
    t_Machine___init__ K (sp_Frame___init__ K) { nx := fun _ H' => Q .non H', rt := Q } (L2.start n_Machine___init__ vs) H := by
  obtain ⟨H0, m, dx, a, ps, c, st, sr, P, number, turns, M, rfl, w, hps, rfl, pt, hb0, hb, hM, k⟩ := h
  unfold begun at hM
  cases hs : nth P.starts 0 with
  | none => rw [hs] at hM; cases hM
  | some p0 =>
  rw [hs] at hM
  cases hM
  unfold t_Machine___init__
  have t0 := same_tup w.same hps
  have h0 := w.ix 0 rfl
  walk_at "w"
  refine w_ixT t0 rfl ?_
  walk_at "w"
  have w1 := w.set 0 (.ins (He.ga K "Machine") dx [("code", .ref c)]) rfl
  have t1 := same_tup w1.same hps
  have h1 := w1.ix 0 rfl
  refine w_ixT t1 rfl ?_
  walk_at "w"
  have w2 := w1.set 0 (.ins (He.ga K "Machine") dx [("code", .ref c), ("stretches", .ref st)]) rfl
  have t2 := same_tup w2.same hps
  have h2 := w2.ix 0 rfl
  refine w_ixT t2 rfl ?_
  walk_at "w"
  have w3 := w2.set 0 (.ins (He.ga K "Machine") dx [("code", .ref c), ("stretches", .ref st), ("starts", .ref sr)]) rfl
  have t3 := same_tup w3.same hps
  have h3 := w3.ix 0 rfl
  refine w_ixT t3 rfl ?_
  walk_at "w"
  have w4 := w3.set 0 (.ins (He.ga K "Machine") dx [("code", .ref c), ("stretches", .ref st), ("starts", .ref sr), ("boxes", .int P.boxes)]) rfl
  have h4 := w4.ix 0 rfl
  walk_at "w"
  have w5 := w4.set 0 (.ins (He.ga K "Machine") dx [("code", .ref c), ("stretches", .ref st), ("starts", .ref sr), ("boxes", .int P.boxes), ("turns", .int turns)]) rfl
  refine fun s hsn => ?_
  have w6 := w5.take (o := .lst []) hsn
  have h6 := w6.ix 1 rfl
  walk_at "w"
  have w7 := w6.set 1 (.ins (He.ga K "Machine") dx [("code", .ref c), ("stretches", .ref st), ("starts", .ref sr), ("boxes", .int P.boxes), ("turns", .int turns), ("said", .ref s)]) rfl
  have h7 := w7.ix 1 rfl
  walk_at "w"
  have w8 := w7.set 1 (.ins (He.ga K "Machine") dx [("code", .ref c), ("stretches", .ref st), ("starts", .ref sr), ("boxes", .int P.boxes), ("turns", .int turns), ("said", .ref s), ("ended", .non)]) rfl
  have h8 := w8.ix 1 rfl
  walk_at "w"
  refine w_ixL (w8.same.seq pt.starts) (nth_at hs) ?_
  walk_at "w"
  refine fun fa fdx na ndx hne => ?_
  have w9 := (w8.lay (o := .own fa) ndx).take (a := fa) (o := .ins (He.ga K "Frame") fdx []) (by rw [upd_ne (Ne.symm hne)]; exact na)
  refine ⟨less _ [(fa, .ins (He.ga K "Frame") fdx [])], fa, p0, P.boxes, number, fdx, rfl, w9.lend1, hb0, hb, fun b q H2 w10 => ?_⟩
  have w11 := Own.back (L := [_]) w9 w10
  have h11 := w11.ix 4 rfl
  refine ⟨rfl, ?_⟩
  walk_at "w"
  refine fun l hl => ?_
  have w12 := w11.take (o := .lst [.ref fa]) hl
  have h12 := w12.ix 5 rfl
  walk_at "w"
  have w13 := w12.set 5 (.ins (He.ga K "Machine") dx (mcF c st sr P.boxes turns s .non l)) rfl
  refine k _ ⟨dx, l, s, [⟨fa, fdx, b, q⟩]⟩ ⟨?_, rfl, rfl⟩
  refine w13.perm ?_
  exact perm6 _ _ _ _ _ _

def sp_run0 (K : PySem.W.Frag) : Sp := fun vs H Q _ => ∃ a c st sr P number turns M0 n M x z, vs = [.ref a, .int number, .int (turns : Nat)] ∧ SqT K H a [.ref c, .ref st, .ref sr, .int P.boxes] ∧ PartsIn K H c st sr P ∧
  0 ≤ P.boxes ∧ P.boxes < 16000000 ∧ begun P number turns = some M0 ∧ rowSteps P n M0 = some M ∧ M.ended = some (x, z) ∧ (∀ j Mj, j < n → rowSteps P j M0 = some Mj → Bd P Mj) ∧
  ∀ H' p s, Same H H' → H p = none → H s = none → H' s = some (.lst (M.said.map V.int)) → H' p = some (.tup [.ref s, .str x.str, .int z]) → Q (.ref p) H'
theorem p_run0 {K : PySem.W.Frag} (vs : List V) (H : Hp) (Q : VK) (E : XK) (h : sp_run0 K vs H Q E) :
    t_run K (sp_Machine___init__ K) (sp_Machine_step K) { nx := fun _ H' => Q .non H', rt := Q } (L2.start n_run vs) H := by
  obtain ⟨a, c, st, sr, P, number, turns, M0, n, M, x, z, rfl, ha, pt, hb0, hb, hM0, hn, hend, hbd, k⟩ := h
  unfold t_run
  walk_at "w"
  refine fun m dx nm ndx hne => ?_
  have w0 := ((Own.nil (Same.refl H)).lay (o := .own m) ndx).take (a := m) (o := .ins (He.ga K "Machine") dx []) (by rw [upd_ne (Ne.symm hne)]; exact nm)
  refine ⟨H, m, dx, a, _, c, st, sr, P, number, turns, M0, rfl, w0, ha, rfl, pt, hb0, hb, hM0, fun H1 d w1 => ⟨rfl, ?_⟩⟩
  walk_at "w"
  refine ⟨fun j σ H2 => ∃ Mj, rowSteps P j Mj = some M ∧ (∀ i Mi, i < j → rowSteps P i Mj = some Mi → Bd P Mi) ∧ MIn K H H2 ⟨m, c, st, sr⟩ P.boxes Mj ∧ σ = [some (.ref a), some (.int number), some (.int turns), some (.ref m)],
    ⟨n, M0, hn, hbd, ⟨d, .non, w1⟩, rfl⟩, ?_⟩
  rintro j σ H2 ⟨Mj, hj, hbj, ⟨d2, e, w2⟩, rfl⟩
  have hm2 := w2.own.ix 0 rfl
  have hs2 := w2.own.ix 2 rfl
  walk_at "w"
  cases he : Mj.ended with
  | none =>
    have ee : e = .non := by
      have q := w2.endd
      rw [he] at q
      exact q
    subst ee
    refine w_T (decide_eq_true rfl) ?_
    cases j with
    | zero =>
      cases hj
      rw [he] at hend
      cases hend
    | succ i =>
      refine ⟨_, fun _ _ q => q, ?_⟩
      walk_at "w"
      unfold rowSteps at hj
      rw [he] at hj
      simp only [Option.isSome_none, Bool.false_eq_true, if_false] at hj
      cases hs : rowStep P Mj with
      | none => rw [hs] at hj; cases hj
      | some M1 =>
      rw [hs] at hj
      refine ⟨H, ⟨m, c, st, sr⟩, P, Mj, d2, M1, rfl, w2, pt, hbj 0 Mj (by omega) rfl, hs, fun H3 w3 => ?_⟩
      refine ⟨i, Nat.lt_succ_self i, M1, hj, fun q Mq hq e2 => hbj (q + 1) Mq (by omega) ?_, w3, rfl⟩
      unfold rowSteps
      rw [he, hs]
      exact e2
  | some y =>
    cases j with
    | succ i =>
      unfold rowSteps at hj
      rw [he] at hj
      cases hj
    | zero =>
      cases hj
      rw [he] at hend
      cases hend
      have q := w2.endd
      rw [he] at q
      obtain ⟨t, rfl, ht⟩ := q
      refine w_F (decide_eq_false (by intro z; cases z)) ?_
      walk_at "w"
      refine w_ixT (SqT.of ht) rfl ?_
      walk_at "w"
      refine w_ixT (SqT.of ht) rfl ?_
      walk_at "w"
      refine fun p hp => ?_
      have sm := w2.own.same
      refine k _ p d2.s (sm.trans (same_lay hp)) (Same.free sm hp) ?_ ?_ upd_same
      · exact w2.own.new _ (by simp [ads, mcCells])
      · exact same_one hp hs2

def sp_run (K : PySem.W.Frag) : Sp := fun vs H Q _ => ∃ a c st sr P number turns M0 n M x z, vs = [.ref a, .int number, .int (turns : Nat)] ∧ SqT K H a [.ref c, .ref st, .ref sr, .int P.boxes] ∧ PartsIn K H c st sr P ∧
  0 ≤ P.boxes ∧ P.boxes < 16000000 ∧ begun P number turns = some M0 ∧ rowSteps P n M0 = some M ∧ M.ended = some (x, z) ∧ n ≤ 15000000 ∧
  ∀ H' p s, Same H H' → H p = none → H s = none → H' s = some (.lst (M.said.map V.int)) → H' p = some (.tup [.ref s, .str x.str, .int z]) → Q (.ref p) H'
theorem p_run {K : PySem.W.Frag} (vs : List V) (H : Hp) (Q : VK) (E : XK) (h : sp_run K vs H Q E) :
    t_run K (sp_Machine___init__ K) (sp_Machine_step K) { nx := fun _ H' => Q .non H', rt := Q } (L2.start n_run vs) H := by
  obtain ⟨a, c, st, sr, P, number, turns, M0, n, M, x, z, rfl, ha, pt, hb0, hb, hM0, hn, hend, hle, k⟩ := h
  refine p_run0 _ H Q E ⟨a, c, st, sr, P, number, turns, M0, n, M, x, z, rfl, ha, pt, hb0, hb, hM0, hn, hend, fun j Mj hj e => ?_, k⟩
  have b := bnd_steps (bnd_begun hM0) e
  exact ⟨hb0, hb, b.1, fun f hf => Nat.lt_of_le_of_lt (b.2.1 f hf) (by unfold LIM; omega), Nat.lt_of_le_of_lt b.2.2 (by unfold LIM; omega)⟩
end U

namespace U
open PySem PySem.Spec PyProof.Rows L2
/-! readings of the defs -/
def t_l_whole (K : PySem.W.Frag) : TS :=
  (tRet (tAndV (tCB (rIsi K) (tCons (tVar 0) (tCons (tC (.ty "int")) tNil))) (tNotV (tCB (rIsi K) (tCons (tVar 0) (tCons (tC (.ty "bool")) tNil))))))
def n_l_whole : List Str := ["_law_found"]
def t_l_cell_at (K : PySem.W.Frag) : TS :=
  (tSeq (tIfS (tTest (tOp rLtI (tVar 1) (tCB (rLenQ K) (tCons (tVar 0) tNil)))) (tRet (tOp (rIxL K) (tVar 0) (tVar 1))) tNext)
    (tRet (tC (.int 0))))
def n_l_cell_at : List Str := ["_law_script", "_law_k"]
def t_l_number (K : PySem.W.Frag) : TS :=
  (tSeq (tIfS (tTest (tOp rEq (tOp rModP (tVar 0) (tC (.int 5))) (tC (.int 4)))) (tRet (tOp rSubI (tOp rModP (tOp rFdC (tVar 0) (tC (.int 5))) (tOp rPowI (tC (.int 10)) (tC (.int 30)))) (tOp rMulI (tC (.int 5)) (tOp rPowI (tC (.int 10)) (tC (.int 29)))))) tNext)
    (tRet (tOp rSubI (tOp rModP (tOp rFdC (tVar 0) (tC (.int 5))) (tC (.int 8))) (tC (.int 2)))))
def n_l_number : List Str := ["_law_cell"]
end U

set_option maxHeartbeats 4000000
namespace U
open PySem PySem.Spec PyProof.Rows L2
local macro_rules | `(tactic| walk_at "w1") => `(tactic| first
  | with_reducible refine w_seq ?_
  | with_reducible refine w_asg ?_
  | with_reducible refine w_op ?_
  | ((with_reducible refine' w_var ?h1 ?_); (case h1 => rfl))
  | with_reducible refine w_c ?_
  | with_reducible refine w_name ?_
  | with_reducible refine w_tFd ?_
  | ((with_reducible refine' w_fld ?h1 ?h2 ?_); (case h1 => assumption); (case h2 => rfl))
  | with_reducible refine w_if ?_
  | with_reducible refine w_test ?_
  | with_reducible refine w_eqS ?_
  | with_reducible refine w_eqI ?_
  | with_reducible refine w_neS ?_
  | with_reducible refine w_neI ?_
  | with_reducible refine w_isN ?_
  | with_reducible refine w_isnN ?_
  | with_reducible refine w_bl ?_
  | with_reducible refine w_ret ?_
  | with_reducible refine w_drop ?_
  | with_reducible refine w_next ?_
  | with_reducible refine w_cons ?_
  | with_reducible refine w_nil ?_
  | with_reducible refine w_call ?_
  | with_reducible refine w_cb ?_
  | with_reducible refine w_meth ?_
  | ((with_reducible refine' w_recv ?h1 ?h2 ?_); (case h1 => assumption); (case h2 => rfl))
  | with_reducible refine w_sFd ?_
  | ((with_reducible refine' w_put ?h1 ?h2 ?_); (case h1 => assumption); (case h2 => exact Nat.le_of_ble_eq_true rfl))
  | with_reducible refine w_add ?_
  | with_reducible refine w_sub ?_
  | with_reducible refine w_lt ?_
  | with_reducible refine w_le ?_
  | with_reducible refine w_gt ?_
  | with_reducible refine w_ge ?_
  | with_reducible refine w_bm ?_
  | with_reducible refine w_bm0 ?_
  | ((with_reducible refine' w_ty ?h1 ?_); (case h1 => assumption))
  | with_reducible refine w_tup ?_
  | with_reducible refine w_lst ?_
  | ((with_reducible refine' w_new ?h1 ?_); (case h1 => exact Nat.le_of_ble_eq_true rfl))
  | with_reducible refine w_gsub ?_
  | with_reducible refine w_make ?_
  | with_reducible refine w_lc ?_
  | with_reducible refine w_iList ?_
  | with_reducible refine w_for ?_
  | with_reducible refine w_yes ?_
  | with_reducible refine w_tSl ?_
  | with_reducible refine w_part ?_
  | with_reducible refine w_nopart ?_
  | with_reducible refine w_i ?_
  | with_reducible refine w_rng1 ?_
  | with_reducible refine w_rng2 ?_
  | with_reducible refine w_isiII ?_
  | with_reducible refine w_isiIB ?_
  | with_reducible refine w_isiSS ?_
  | ((with_reducible refine w_mod ?h1 ?_); (case h1 => decide))
  | ((with_reducible refine w_fdC' ?h1 ?h2 ?_); (case h1 => decide); (case h2 => decide))
  | ((with_reducible refine w_mulR ?h1 ?h2 ?_); (case h1 => decide); (case h2 => decide))
  | ((with_reducible refine w_mulL ?h1 ?h2 ?_); (case h1 => decide); (case h2 => decide))
  | ((with_reducible refine w_pow' ?h1 ?h2 ?h3 ?_); (case h1 => decide); (case h2 => decide); (case h3 => decide))
  | with_reducible refine w_andV ?_
  | with_reducible refine w_orV ?_
  | with_reducible refine w_notV ?_
  | with_reducible refine w_B ?_
  | with_reducible refine w_not ?_
  | with_reducible refine w_and ?_
  | with_reducible refine w_or ?_
  | with_reducible refine w_ifx ?_
  | with_reducible refine w_un ?_
  | ((with_reducible refine w_T ?h1 ?_); (case h1 => with_reducible rfl))
  | ((with_reducible refine w_F ?h1 ?_); (case h1 => with_reducible rfl))
  | ((with_reducible refine w_T ?h1 ?_); (case h1 => decide +kernel))
  | ((with_reducible refine w_F ?h1 ?_); (case h1 => decide +kernel)))
local macro_rules | `(tactic| walk_at "w") => `(tactic| repeat walk_at "w1")

/-! ### the cell of a script, a whole number, a drawn number -/
def cellAt (ns : List Int) (k : Int) : Int := ns.getD k.toNat 0
def sp_l_cell_at (K : PySem.W.Frag) : Sp := fun vs H Q _ => ∃ a ns k, vs = [.ref a, .int k] ∧ SqL K H a (ns.map V.int) ∧ 0 ≤ k ∧ Q (.int (cellAt ns k)) H
theorem p_l_cell_at {K : PySem.W.Frag} (vs : List V) (H : Hp) (Q : VK) (E : XK) (h : sp_l_cell_at K vs H Q E) : t_l_cell_at K { nx := fun _ H' => Q .non H', rt := Q } (L2.start n_l_cell_at vs) H := by
  obtain ⟨a, ns, k, rfl, hS, h0, q⟩ := h
  unfold t_l_cell_at
  walk_at "w"
  refine w_lenL hS ?_
  walk_at "w"
  refine w_D (fun c => ?_) (fun c => ?_) <;> rw [List.length_map] at c
  · walk_at "w"
    refine w_ixL (v := .int (cellAt ns k)) hS (atI_ok h0 ?_) ?_
    · rw [List.getElem?_map, cellAt, List.getD_eq_getElem?_getD, List.getElem?_eq_getElem (by omega)]
      rfl
    · exact q
  · walk_at "w"
    have e : cellAt ns k = 0 := by
      rw [cellAt, List.getD_eq_getElem?_getD, List.getElem?_eq_none (by omega)]
      rfl
    rw [e] at q
    exact q
def sp_l_whole (K : PySem.W.Frag) : Sp := fun vs H Q _ => ∃ i, vs = [.int i] ∧ Q (.bl true) H
theorem p_l_whole {K : PySem.W.Frag} (vs : List V) (H : Hp) (Q : VK) (E : XK) (h : sp_l_whole K vs H Q E) : t_l_whole K { nx := fun _ H' => Q .non H', rt := Q } (L2.start n_l_whole vs) H := by
  obtain ⟨i, rfl, q⟩ := h
  unfold t_l_whole
  walk_at "w"
  exact q
def numberOf (c : Int) : Int := if c % 5 = 4 then c / 5 % 1000000000000000000000000000000 - 500000000000000000000000000000 else c / 5 % 8 - 2
def sp_l_number (K : PySem.W.Frag) : Sp := fun vs H Q _ => ∃ c, vs = [.int c] ∧ Q (.int (numberOf c)) H
theorem p_l_number {K : PySem.W.Frag} (vs : List V) (H : Hp) (Q : VK) (E : XK) (h : sp_l_number K vs H Q E) : t_l_number K { nx := fun _ H' => Q .non H', rt := Q } (L2.start n_l_number vs) H := by
  obtain ⟨c, rfl, q⟩ := h
  unfold t_l_number
  walk_at "w"
  refine w_D (fun h => ?_) (fun h => ?_)
  · walk_at "w"
    rw [numberOf, if_pos h] at q
    exact q
  · walk_at "w"
    rw [numberOf, if_neg h] at q
    exact q
/-- [x for x in found if not whole(x)] is empty -/
theorem w_nowhole {K : PySem.W.Frag} {σ : L2.St} {H : Hp} {s : Addr} {ns : List Int} {k : Nat} {Q : Addr → Hp → Prop} (hS : SqL K H s (ns.map V.int)) (hk : k < σ.length) (q : ∀ D, H D = none → Q D (upd H D (.lst []))) :
    ∀ D, H D = none → ∃ W : Nat → Nat → Hp → Prop, (∃ m, W 0 m (upd H D (.lst []))) ∧ ∀ i m H, W i m H →
      ((Itl K s).stop i H ∧ Q D H) ∨ ((Itl K s).go i H ∧ ∃ Nx : Hp → Prop, (∀ H', Nx H' → ∃ m', m' < m ∧ W (i + 1) m' H') ∧ ∀ x H', (Itl K s).yld i H x H' → gName k x (wipe σ [k]) H' fun σ2 H2 => wipe σ2 [k] = wipe σ [k] ∧
        tNot (tB (tCall (sp_l_whole K) [] E0 (tCons (tVar k) tNil))) σ2 H2 fun b H3 => if b = true then tVar k σ2 H3 fun y H4 => ∃ acc, H4 D = some (.lst acc) ∧ acc.length < sizeLine ∧ Nx (upd H4 D (.lst (acc ++ [y]))) else Nx H3) := by
  intro D hD
  refine lc_list (xs := ns.map V.int) (fun i H' => H' = upd H D (.lst [])) rfl (fun i H' _ e => e ▸ (same_lay hD).seq hS) ?_ (fun H' e => e ▸ q D hD)
  rintro i x H' hx rfl
  rw [List.getElem?_map] at hx
  cases hz : ns[i]? with
  | none => rw [hz] at hx; cases hx
  | some z =>
  rw [hz] at hx
  cases hx
  refine ⟨?_, ?_⟩
  · simp only [wipe, List.set_set]
  · walk_at "w"
    refine w_var (v := .int z) ?_ ?_
    · simp [wipe, hk]
    walk_at "w"
    refine ⟨z, rfl, ?_⟩
    walk_at "w"
    rfl
theorem dp_ints {K : PySem.W.Frag} {H : Hp} : ∀ ns : List Int, DpAll K H (ns.map V.int) (ns.map PyData.int)
  | [] => .nil
  | n :: ns => .cons (.int n) (dp_ints ns)
theorem lay_ints : ∀ ns : List Int, PyData.canLayAll0 (ns.map PyData.int) = true ∧ PyData.depthAll (ns.map PyData.int) = 0
  | [] => ⟨rfl, rfl⟩
  | n :: ns => by
    have ih := lay_ints ns
    exact ⟨by simp [PyData.canLayAll0, PyData.canLay0, ih.1], by simp [PyData.depthAll, PyData.depth, ih.2]⟩
theorem shaped_of {d : PyData} (h : d.canLay0 = true) (hd : d.depth ≤ 64) : SeqAt.shaped d = true := by
  unfold SeqAt.shaped
  rw [Bool.and_eq_true]
  exact ⟨h, decide_eq_true hd⟩
theorem shaped_ints (ns : List Int) : SeqAt.shaped (.list (ns.map PyData.int)) = true := by
  have h := lay_ints ns
  exact shaped_of (by simp [PyData.canLay0, h.1]) (by simp [PyData.depth, h.2])
theorem eqv_self {d : PyData} (h : SeqAt.shaped d = true) : PyData.eqv d d = true := SeqAt.eqv_refl _ (SeqAt.canLay_of_shaped h)
/-- the same data twice -/
theorem w_neSame {K : PySem.W.Frag} {H : Hp} {Q : VK} {x y : V} {d : PyData} (h1 : Dp K H x d) (h2 : Dp K H y d) (s : SeqAt.shaped d = true) (q : Q (.bl false) H) : rNeD K x y H Q := by
  refine w_neD h1 h2 s s ?_
  rw [eqv_self s]
  exact q
theorem w_eqSame {K : PySem.W.Frag} {H : Hp} {Q : VK} {x y : V} {d : PyData} (h1 : Dp K H x d) (h2 : Dp K H y d) (s : SeqAt.shaped d = true) (q : Q (.bl true) H) : rEqD K x y H Q := by
  refine w_eqD h1 h2 s s ?_
  rw [eqv_self s]
  exact q
end U

set_option maxHeartbeats 4000000
namespace U
open PySem PySem.Spec PyProof.Rows L2 Un
/-! ### rows and stretches as data; tuples beside cells that are written -/
theorem IsTup.put {K : PySem.W.Frag} {H : Hp} {D : Addr} {ys xs : List V} {o : HO} {v : V} (hD : H D = some (.lst ys)) (h : IsTup K H v xs) : IsTup K (upd H D o) v xs := by
  obtain ⟨a, e, h⟩ := h
  exact ⟨a, e, tup_put hD h⟩
def Lists (L : List Cell) : Prop := ∀ p ∈ L, ∃ ys, p.2 = .lst ys
theorem tup_less {K : PySem.W.Frag} {H0 H : Hp} {L : List Cell} {a : Addr} {xs : List V} (w : Own H0 H L) (hl : Lists L) (h : SqT K H a xs) : SqT K (less H L) a xs := by
  have off : ∀ o, H a = some o → (∀ ys, o ≠ .lst ys) → less H L a = some o := fun o e n => by
    rw [less_off]
    · exact e
    · intro hm
      obtain ⟨p, hp, e2⟩ := List.mem_map.mp hm
      obtain ⟨ys, e3⟩ := hl p hp
      have q := w.at_ p hp
      rw [e2, e, e3] at q
      exact n ys (Option.some.inj q)
  rcases h with (h | ⟨o, h⟩) | h
  · exact .inl (.inl (off _ h (by intro ys z; cases z)))
  · exact .inl (.inr ⟨o, off _ h (by intro ys z; cases z)⟩)
  · exact .inr h
/-- a tuple stands behind a callee that had only lists -/
theorem tup_over {K : PySem.W.Frag} {H0 H H' : Hp} {L L' : List Cell} {a : Addr} {xs : List V} (w : Own H0 H L) (hl : Lists L) (w' : Own (less H L) H' L') (h : SqT K H a xs) : SqT K H' a xs := same_tup w'.same (tup_less w hl h)
theorem IsTup.over {K : PySem.W.Frag} {H0 H H' : Hp} {L L' : List Cell} {v : V} {xs : List V} (w : Own H0 H L) (hl : Lists L) (w' : Own (less H L) H' L') (h : IsTup K H v xs) : IsTup K H' v xs := by
  obtain ⟨a, e, h⟩ := h
  exact ⟨a, e, tup_over w hl w' h⟩
def wordsD : Rw → List PyData
  | .put n => [.str "put", .int n]
  | .get k => [.str "get", .int k]
  | .set k => [.str "set", .int k]
  | .say => [.str "say"]
  | .add => [.str "add"]
  | .sub => [.str "sub"]
  | .less => [.str "less"]
  | .share => [.str "share"]
  | .go p => [.str "go", .int p]
  | .nought p => [.str "nought", .int p]
  | .on k => [.str "on", .int k]
  | .turn => [.str "turn"]
  | .call f => [.str "call", .int f]
  | .back => [.str "back"]
  | .raise => [.str "raise"]
theorem dp_words {K : PySem.W.Frag} {H : Hp} (r : Rw) : DpAll K H (words r) (wordsD r) := by
  cases r <;> first | exact .cons (.str _) .nil | exact .cons (.str _) (.cons (.int _) .nil)
theorem lay_words (r : Rw) : PyData.canLayAll0 (wordsD r) = true ∧ PyData.depthAll (wordsD r) = 0 := by
  cases r <;> exact ⟨by simp only [wordsD, PyData.canLayAll0, PyData.canLay0]; decide +kernel, rfl⟩
theorem dp_rows {K : PySem.W.Frag} {H : Hp} {vs : List V} {rs : List Rw} (h : All2 (IsRow K H) vs rs) : DpAll K H vs (rs.map fun r => .tuple (wordsD r)) := by
  induction h with
  | nil => exact .nil
  | cons r _ ih =>
    obtain ⟨a, rfl, h⟩ := r
    exact .cons (.tup h (dp_words _)) ih
theorem shaped_rows (rs : List Rw) : SeqAt.shaped (.list (rs.map fun r => .tuple (wordsD r))) = true := by
  have h : PyData.canLayAll0 (rs.map fun r => .tuple (wordsD r)) = true ∧ PyData.depthAll (rs.map fun r => .tuple (wordsD r)) ≤ 1 := by
    induction rs with
    | nil => exact ⟨rfl, by decide⟩
    | cons r rs ih =>
      have w := lay_words r
      refine ⟨by simp [PyData.canLayAll0, PyData.canLay0, ih.1, w.1], ?_⟩
      simp only [List.map_cons, PyData.depthAll, PyData.depth, w.2]
      have := ih.2
      omega
  refine shaped_of (by simp [PyData.canLay0, h.1]) ?_
  simp only [PyData.depth]
  have := h.2
  omega
theorem dp_strs {K : PySem.W.Frag} {H : Hp} {vs : List V} {S : List Stretch} (h : All2 (IsStr K H) vs S) : DpAll K H vs (S.map fun s => .tuple [.int s.1, .int s.2.1, .int s.2.2]) := by
  induction h with
  | nil => exact .nil
  | cons r _ ih =>
    obtain ⟨a, rfl, h⟩ := r
    exact .cons (.tup h (.cons (.int _) (.cons (.int _) (.cons (.int _) .nil)))) ih
theorem shaped_strs (S : List Stretch) : SeqAt.shaped (.list (S.map fun s => .tuple [.int s.1, .int s.2.1, .int s.2.2])) = true := by
  have h : PyData.canLayAll0 (S.map fun s => .tuple [.int s.1, .int s.2.1, .int s.2.2]) = true ∧ PyData.depthAll (S.map fun s => .tuple [.int s.1, .int s.2.1, .int s.2.2]) ≤ 1 := by
    induction S with
    | nil => exact ⟨rfl, by decide⟩
    | cons s S ih =>
      refine ⟨by simp [PyData.canLayAll0, PyData.canLay0, ih.1], ?_⟩
      have := ih.2
      simp only [List.map_cons, PyData.depthAll, PyData.depth]
      omega
  refine shaped_of (by simp [PyData.canLay0, h.1]) ?_
  simp only [PyData.depth]
  have := h.2
  omega
theorem rows_mono {K : PySem.W.Frag} {H H' : Hp} {vs : List V} {rs : List Rw} (s : Same H H') (h : All2 (IsRow K H) vs rs) : All2 (IsRow K H') vs rs := h.mono fun _ _ q => IsTup.mono s q
theorem strs_mono {K : PySem.W.Frag} {H H' : Hp} {vs : List V} {rs : List Stretch} (s : Same H H') (h : All2 (IsStr K H) vs rs) : All2 (IsStr K H') vs rs := h.mono fun _ _ q => IsTup.mono s q
theorem rows_put {K : PySem.W.Frag} {H : Hp} {D : Addr} {ys : List V} {o : HO} {vs : List V} {rs : List Rw} (hD : H D = some (.lst ys)) (h : All2 (IsRow K H) vs rs) : All2 (IsRow K (upd H D o)) vs rs := h.mono fun _ _ q => IsTup.put hD q
theorem strs_put {K : PySem.W.Frag} {H : Hp} {D : Addr} {ys : List V} {o : HO} {vs : List V} {rs : List Stretch} (hD : H D = some (.lst ys)) (h : All2 (IsStr K H) vs rs) : All2 (IsStr K (upd H D o)) vs rs := h.mono fun _ _ q => IsTup.put hD q
theorem rows_over {K : PySem.W.Frag} {H0 H H' : Hp} {L L' : List Cell} {vs : List V} {rs : List Rw} (w : Own H0 H L) (hl : Lists L) (w' : Own (less H L) H' L') (h : All2 (IsRow K H) vs rs) : All2 (IsRow K H') vs rs :=
  h.mono fun _ _ q => IsTup.over w hl w' q
theorem new_tup {K : PySem.W.Frag} {H : Hp} {p : Addr} {xs : List V} : IsTup K (upd H p (.tup xs)) (.ref p) xs := ⟨p, rfl, SqT.of upd_same⟩
theorem shaped_end (x : Ed) (z : Int) : SeqAt.shaped (.tuple [.str x.str, .int z]) = true := by
  refine shaped_of ?_ (by simp [PyData.depth, PyData.depthAll])
  cases x <;> (simp only [PyData.canLay0, PyData.canLayAll0]; decide +kernel)
end U

set_option maxHeartbeats 4000000
namespace U
open PySem PySem.Spec PyProof.Rows L2 Un
local macro_rules | `(tactic| walk_at "w1") => `(tactic| first
  | with_reducible refine w_seq ?_
  | with_reducible refine w_asg ?_
  | with_reducible refine w_op ?_
  | ((with_reducible refine' w_var ?h1 ?_); (case h1 => rfl))
  | with_reducible refine w_c ?_
  | with_reducible refine w_name ?_
  | with_reducible refine w_tFd ?_
  | ((with_reducible refine' w_fld ?h1 ?h2 ?_); (case h1 => assumption); (case h2 => rfl))
  | with_reducible refine w_if ?_
  | with_reducible refine w_test ?_
  | with_reducible refine w_eqS ?_
  | with_reducible refine w_eqI ?_
  | with_reducible refine w_neS ?_
  | with_reducible refine w_neI ?_
  | with_reducible refine w_isN ?_
  | with_reducible refine w_isnN ?_
  | with_reducible refine w_bl ?_
  | with_reducible refine w_ret ?_
  | with_reducible refine w_drop ?_
  | with_reducible refine w_next ?_
  | with_reducible refine w_cons ?_
  | with_reducible refine w_nil ?_
  | with_reducible refine w_call ?_
  | with_reducible refine w_cb ?_
  | with_reducible refine w_meth ?_
  | ((with_reducible refine' w_recv ?h1 ?h2 ?_); (case h1 => assumption); (case h2 => rfl))
  | with_reducible refine w_sFd ?_
  | ((with_reducible refine' w_put ?h1 ?h2 ?_); (case h1 => assumption); (case h2 => exact Nat.le_of_ble_eq_true rfl))
  | with_reducible refine w_add ?_
  | with_reducible refine w_sub ?_
  | with_reducible refine w_lt ?_
  | with_reducible refine w_le ?_
  | with_reducible refine w_gt ?_
  | with_reducible refine w_ge ?_
  | with_reducible refine w_bm ?_
  | with_reducible refine w_bm0 ?_
  | ((with_reducible refine' w_ty ?h1 ?_); (case h1 => assumption))
  | with_reducible refine w_tup ?_
  | with_reducible refine w_lst ?_
  | ((with_reducible refine' w_new ?h1 ?_); (case h1 => exact Nat.le_of_ble_eq_true rfl))
  | with_reducible refine w_gsub ?_
  | with_reducible refine w_make ?_
  | with_reducible refine w_lc ?_
  | with_reducible refine w_iList ?_
  | with_reducible refine w_for ?_
  | with_reducible refine w_yes ?_
  | with_reducible refine w_tSl ?_
  | with_reducible refine w_part ?_
  | with_reducible refine w_nopart ?_
  | with_reducible refine w_i ?_
  | with_reducible refine w_rng1 ?_
  | with_reducible refine w_rng2 ?_
  | with_reducible refine w_isiII ?_
  | with_reducible refine w_isiIB ?_
  | with_reducible refine w_isiSS ?_
  | ((with_reducible refine w_mod ?h1 ?_); (case h1 => decide))
  | ((with_reducible refine w_fdC' ?h1 ?h2 ?_); (case h1 => decide); (case h2 => decide))
  | ((with_reducible refine w_mulR ?h1 ?h2 ?_); (case h1 => decide); (case h2 => decide))
  | ((with_reducible refine w_mulL ?h1 ?h2 ?_); (case h1 => decide); (case h2 => decide))
  | ((with_reducible refine w_pow' ?h1 ?h2 ?h3 ?_); (case h1 => decide); (case h2 => decide); (case h3 => decide))
  | with_reducible refine w_andV ?_
  | with_reducible refine w_orV ?_
  | with_reducible refine w_notV ?_
  | with_reducible refine w_B ?_
  | with_reducible refine w_not ?_
  | with_reducible refine w_and ?_
  | with_reducible refine w_or ?_
  | with_reducible refine w_ifx ?_
  | with_reducible refine w_un ?_
  | ((with_reducible refine w_T ?h1 ?_); (case h1 => with_reducible rfl))
  | ((with_reducible refine w_F ?h1 ?_); (case h1 => with_reducible rfl))
  | ((with_reducible refine w_T ?h1 ?_); (case h1 => decide +kernel))
  | ((with_reducible refine w_F ?h1 ?_); (case h1 => decide +kernel)))
local macro_rules | `(tactic| walk_at "w") => `(tactic| repeat walk_at "w1")

/-! ### programs on the heap -/
def TreeAt (K : PySem.W.Frag) (H : Hp) : Un.Tree → V → Prop
  | .num n, v => IsTup K H v [.str "num", .int n]
  | .box k, v => IsTup K H v [.str "box", .int k]
  | .call f t, v => ∃ x, IsTup K H v [.str "call", .int f, x] ∧ TreeAt K H t x
  | .bin o a b, v => ∃ x y, IsTup K H v [.str o.str, x, y] ∧ TreeAt K H a x ∧ TreeAt K H b y
mutual
def SmAt (K : PySem.W.Frag) (H : Hp) : Sm → V → Prop
  | .set k e, v => ∃ x, IsTup K H v [.str "set", .int k, x] ∧ TreeAt K H e x
  | .say e, v => ∃ x, IsTup K H v [.str "say", x] ∧ TreeAt K H e x
  | .ife e a b, v => ∃ x p q ps qs, IsTup K H v [.str "if", x, .ref p, .ref q] ∧ TreeAt K H e x ∧ SqL K H p ps ∧ SmsAt K H a ps ∧ SqL K H q qs ∧ SmsAt K H b qs
  | .loop e b, v => ∃ x p ps, IsTup K H v [.str "loop", x, .ref p] ∧ TreeAt K H e x ∧ SqL K H p ps ∧ SmsAt K H b ps
  | .leave, v => IsTup K H v [.str "leave"]
  | .next, v => IsTup K H v [.str "next"]
  | .give e, v => ∃ x, IsTup K H v [.str "give", x] ∧ TreeAt K H e x
  | .raise e, v => ∃ x, IsTup K H v [.str "raise", x] ∧ TreeAt K H e x
  | .ctch b n k h, v => ∃ p q ps qs, IsTup K H v [.str "catch", .ref p, goalV n, .int k, .ref q] ∧ SqL K H p ps ∧ SmsAt K H b ps ∧ SqL K H q qs ∧ SmsAt K H h qs
  | .endd b l, v => ∃ p q ps qs, IsTup K H v [.str "end", .ref p, .ref q] ∧ SqL K H p ps ∧ SmsAt K H b ps ∧ SqL K H q qs ∧ SmsAt K H l qs
def SmsAt (K : PySem.W.Frag) (H : Hp) : List Sm → List V → Prop
  | [], vs => vs = []
  | s :: b, vs => ∃ v vr, vs = v :: vr ∧ SmAt K H s v ∧ SmsAt K H b vr
end
def BlAt (K : PySem.W.Frag) (H : Hp) (b : List Sm) (v : V) : Prop := ∃ p ps, v = .ref p ∧ SqL K H p ps ∧ SmsAt K H b ps
def ProgAt (K : PySem.W.Frag) (H : Hp) (P : List (List Sm)) (p : Addr) : Prop := ∃ vs, SqL K H p vs ∧ All2 (fun v b => BlAt K H b v) vs P
section
variable {K : PySem.W.Frag} {H H' : Hp}
theorem TreeAt.mono (s : Same H H') : ∀ {t : Un.Tree} {v : V}, TreeAt K H t v → TreeAt K H' t v
  | .num _, _, h => IsTup.mono s h
  | .box _, _, h => IsTup.mono s h
  | .call _ _, _, h => by
    obtain ⟨x, h1, h2⟩ := h
    exact ⟨x, h1.mono s, TreeAt.mono s h2⟩
  | .bin _ _ _, _, h => by
    obtain ⟨x, y, h1, h2, h3⟩ := h
    exact ⟨x, y, h1.mono s, TreeAt.mono s h2, TreeAt.mono s h3⟩
mutual
theorem SmAt.mono (s : Same H H') : ∀ (t : Sm) {v : V}, SmAt K H t v → SmAt K H' t v
  | .set _ _, _, h => by
    obtain ⟨x, h1, h2⟩ := h
    exact ⟨x, h1.mono s, h2.mono s⟩
  | .say _, _, h => by
    obtain ⟨x, h1, h2⟩ := h
    exact ⟨x, h1.mono s, h2.mono s⟩
  | .ife _ a b, _, h => by
    obtain ⟨x, p, q, ps, qs, h1, h2, h3, h4, h5, h6⟩ := h
    exact ⟨x, p, q, ps, qs, h1.mono s, h2.mono s, s.seq h3, SmsAt.mono s a h4, s.seq h5, SmsAt.mono s b h6⟩
  | .loop _ b, _, h => by
    obtain ⟨x, p, ps, h1, h2, h3, h4⟩ := h
    exact ⟨x, p, ps, h1.mono s, h2.mono s, s.seq h3, SmsAt.mono s b h4⟩
  | .leave, _, h => IsTup.mono s h
  | .next, _, h => IsTup.mono s h
  | .give _, _, h => by
    obtain ⟨x, h1, h2⟩ := h
    exact ⟨x, h1.mono s, h2.mono s⟩
  | .raise _, _, h => by
    obtain ⟨x, h1, h2⟩ := h
    exact ⟨x, h1.mono s, h2.mono s⟩
  | .ctch a _ _ b, _, h => by
    obtain ⟨p, q, ps, qs, h1, h3, h4, h5, h6⟩ := h
    exact ⟨p, q, ps, qs, h1.mono s, s.seq h3, SmsAt.mono s a h4, s.seq h5, SmsAt.mono s b h6⟩
  | .endd a b, _, h => by
    obtain ⟨p, q, ps, qs, h1, h3, h4, h5, h6⟩ := h
    exact ⟨p, q, ps, qs, h1.mono s, s.seq h3, SmsAt.mono s a h4, s.seq h5, SmsAt.mono s b h6⟩
theorem SmsAt.mono (s : Same H H') : ∀ (b : List Sm) {vs : List V}, SmsAt K H b vs → SmsAt K H' b vs
  | [], _, h => h
  | t :: b, _, h => by
    obtain ⟨v, vr, e, h1, h2⟩ := h
    exact ⟨v, vr, e, SmAt.mono s t h1, SmsAt.mono s b h2⟩
end
theorem BlAt.mono (s : Same H H') {b : List Sm} {v : V} (h : BlAt K H b v) : BlAt K H' b v := by
  obtain ⟨p, ps, e, h1, h2⟩ := h
  exact ⟨p, ps, e, s.seq h1, h2.mono s⟩
theorem ProgAt.mono (s : Same H H') {P : List (List Sm)} {p : Addr} (h : ProgAt K H P p) : ProgAt K H' P p := by
  obtain ⟨vs, h1, h2⟩ := h
  exact ⟨vs, s.seq h1, h2.mono fun _ _ q => q.mono s⟩
end

/-! ### the world -/
structure WA where
  a : Addr
  dx : Addr
  s : Addr
  pa : Addr
def wdF (pa s : Addr) (t d : Int) : List (Str × V) := [("program", .ref pa), ("said", .ref s), ("turns", .int t), ("deep", .int d)]
abbrev wdC (K : PySem.W.Frag) (d : WA) (w : Wd) : Cell := (d.a, .ins (He.ga K "World") d.dx (wdF d.pa d.s w.turns w.deep))
abbrev sdC (d : WA) (w : Wd) : Cell := (d.s, .lst (w.said.map V.int))
abbrev bxC (b : Addr) (bx : List Int) : Cell := (b, .lst (bx.map V.int))
def resV (r : Res) : List V := [.str r.1.str, .int r.2]
/-- cells that are written -/
def Muts (L : List Cell) : Prop := ∀ p ∈ L, (∃ ys, p.2 = .lst ys) ∨ ∃ C dx fs, p.2 = .ins C dx fs
theorem tup_lessM {K : PySem.W.Frag} {H0 H : Hp} {L : List Cell} {a : Addr} {xs : List V} (w : Own H0 H L) (hl : Muts L) (h : SqT K H a xs) : SqT K (less H L) a xs := by
  have off : ∀ o, H a = some o → (∀ ys, o ≠ .lst ys) → (∀ C dx fs, o ≠ .ins C dx fs) → less H L a = some o := fun o e n n' => by
    rw [less_off]
    · exact e
    · intro hm
      obtain ⟨p, hp, e2⟩ := List.mem_map.mp hm
      rcases hl p hp with ⟨ys, e3⟩ | ⟨C, dx, fs, e3⟩
      · have q := w.at_ p hp
        rw [e2, e, e3] at q
        exact n ys (Option.some.inj q)
      · have q := w.at_ p hp
        rw [e2, e, e3] at q
        exact n' C dx fs (Option.some.inj q)
  rcases h with (h | ⟨o, h⟩) | h
  · exact .inl (.inl (off _ h (by intro ys z; cases z) (by intro _ _ _ z; cases z)))
  · exact .inl (.inr ⟨o, off _ h (by intro ys z; cases z) (by intro _ _ _ z; cases z)⟩)
  · exact .inr h
theorem IsTup.overM {K : PySem.W.Frag} {H0 H H' : Hp} {L L' : List Cell} {v : V} {xs : List V} (w : Own H0 H L) (hl : Muts L) (w' : Own (less H L) H' L') (h : IsTup K H v xs) : IsTup K H' v xs := by
  obtain ⟨a, e, h⟩ := h
  exact ⟨a, e, same_tup w'.same (tup_lessM w hl h)⟩
theorem IsTup.putI {K : PySem.W.Frag} {H : Hp} {D C dx : Addr} {fs : List (Str × V)} {xs : List V} {o : HO} {v : V} (hD : H D = some (.ins C dx fs)) (h : IsTup K H v xs) : IsTup K (upd H D o) v xs := by
  obtain ⟨a, e, h⟩ := h
  refine ⟨a, e, ?_⟩
  rcases h with (h | ⟨ob, h⟩) | h
  · exact .inl (.inl (by rw [upd_ne (ne_of h hD (by intro z; cases z))]; exact h))
  · exact .inl (.inr ⟨ob, by rw [upd_ne (ne_of h hD (by intro z; cases z))]; exact h⟩)
  · exact .inr h
theorem muts2 {K : PySem.W.Frag} {d : WA} {w : Wd} : Muts [wdC K d w, sdC d w] := by
  intro p hp
  rcases List.mem_cons.mp hp with rfl | hp
  · exact .inr ⟨_, _, _, rfl⟩
  · rcases List.mem_cons.mp hp with rfl | hp
    · exact .inl ⟨_, rfl⟩
    · cases hp
theorem muts3 {K : PySem.W.Frag} {d : WA} {w : Wd} {b : Addr} {bx : List Int} : Muts [wdC K d w, sdC d w, bxC b bx] := by
  intro p hp
  rcases List.mem_cons.mp hp with rfl | hp
  · exact .inr ⟨_, _, _, rfl⟩
  · rcases List.mem_cons.mp hp with rfl | hp
    · exact .inl ⟨_, rfl⟩
    · rcases List.mem_cons.mp hp with rfl | hp
      · exact .inl ⟨_, rfl⟩
      · cases hp
theorem Own.same1 {H0 H H' : Hp} {L L' : List Cell} (w : Own H0 H L) (w' : Own (less H L) H' L') : Own H0 H' L' := by
  have := Own.back (L := L) (R := []) (by rw [List.append_nil]; exact w) w'
  rwa [List.append_nil] at this

/-! ### the promises -/
def sp_World_taken (K : PySem.W.Frag) : Sp := fun vs H Q _ => ∃ H0 d w R, vs = [.ref d.a] ∧ Own H0 H (wdC K d w :: R) ∧ (w.turns = 0 → Q (.bl false) H) ∧
  (w.turns ≠ 0 → ∀ H', Own H0 H' (wdC K d { w with turns := w.turns - 1 } :: R) → Q (.bl true) H')
theorem p_World_taken {K : PySem.W.Frag} (vs : List V) (H : Hp) (Q : VK) (E : XK) (h : sp_World_taken K vs H Q E) : t_World_taken K { nx := fun _ H' => Q .non H', rt := Q } (L2.start n_World_taken vs) H := by
  obtain ⟨H0, d, w, R, rfl, o, q0, q1⟩ := h
  have h := o.ix 0 rfl
  unfold t_World_taken
  walk_at "w"
  refine w_D (fun c => ?_) (fun c => ?_)
  · walk_at "w"
    exact q0 (by omega)
  · walk_at "w"
    have c' : w.turns ≠ 0 := by omega
    refine q1 c' _ ?_
    have e : ((w.turns - 1 : Nat) : Int) = (w.turns : Int) - 1 := by omega
    have := o.set 0 (.ins (He.ga K "World") d.dx (wdF d.pa d.s ((w.turns : Int) - 1) w.deep)) rfl
    rw [← e] at this
    rw [← e]
    exact this
def sp_joined (K : PySem.W.Frag) : Sp := fun vs H Q _ => ∃ (o : Op) (x y : Int), vs = [.str o.str, .int x, .int y] ∧ ∀ r, H r = none → Q (.ref r) (upd H r (.tup (resV (joinT o x y))))
theorem p_joined {K : PySem.W.Frag} (vs : List V) (H : Hp) (Q : VK) (E : XK) (h : sp_joined K vs H Q E) : t_joined K { nx := fun _ H' => Q .non H', rt := Q } (L2.start n_joined vs) H := by
  obtain ⟨o, x, y, rfl, q⟩ := h
  unfold t_joined
  cases o with
  | add =>
    dsimp only [Op.str]
    walk_at "w"
    exact q
  | sub =>
    dsimp only [Op.str]
    walk_at "w"
    exact q
  | less =>
    dsimp only [Op.str]
    walk_at "w"
    refine w_D (fun c => ?_) (fun c => ?_)
    · walk_at "w"
      simp only [joinT, if_pos c] at q
      exact q
    · walk_at "w"
      simp only [joinT, if_neg c] at q
      exact q
  | share =>
    dsimp only [Op.str]
    walk_at "w"
    refine w_D (fun c => ?_) (fun c => ?_)
    · walk_at "w"
      simp only [joinT, if_pos c] at q
      exact q
    · walk_at "w"
      simp only [joinT, if_neg c] at q
      exact w_fd c (by walk_at "w"; exact q)
def sp_tree (K : PySem.W.Frag) (n : Nat) : Sp := fun vs H Q _ => ∃ (P : List (List Sm)) (H0 : Hp), ∃ d t v b bx w r w', vs = [v, .ref b, .ref d.a] ∧ TreeAt K H0 t v ∧ ProgAt K H0 P d.pa ∧ Own H0 H [wdC K d w, sdC d w, bxC b bx] ∧
  (ev P n).tree t bx w = some (r, w') ∧ w'.said.length < LIM ∧ ∀ H' u, Own H0 H' [wdC K d w', sdC d w', bxC b bx] → IsTup K H' u (resV r) → Q u H'
def sp_call (K : PySem.W.Frag) (n : Nat) : Sp := fun vs H Q _ => ∃ (P : List (List Sm)) (H0 : Hp), ∃ d f v w r w', vs = [.int f, .int v, .ref d.a] ∧ ProgAt K H0 P d.pa ∧ Own H0 H [wdC K d w, sdC d w] ∧
  (ev P n).call f v w = some (r, w') ∧ w'.said.length < LIM ∧ ∀ H' u, Own H0 H' [wdC K d w', sdC d w'] → IsTup K H' u (resV r) → Q u H'
def sp_enter (K : PySem.W.Frag) (n : Nat) : Sp := fun vs H Q _ => ∃ (P : List (List Sm)) (H0 : Hp), ∃ d f v w r w', vs = [.int f, .int v, .ref d.a] ∧ ProgAt K H0 P d.pa ∧ Own H0 H [wdC K d w, sdC d w] ∧
  (ev P n).enter f v w = some (r, w') ∧ w'.said.length < LIM ∧ ∀ H' u, Own H0 H' [wdC K d w', sdC d w'] → IsTup K H' u (resV r) → Q u H'
def sp_block (K : PySem.W.Frag) (n : Nat) : Sp := fun vs H Q _ => ∃ (P : List (List Sm)) (H0 : Hp), ∃ d l v b bx w r bx' w', vs = [v, .ref b, .ref d.a] ∧ BlAt K H0 l v ∧ ProgAt K H0 P d.pa ∧ Own H0 H [wdC K d w, sdC d w, bxC b bx] ∧
  (ev P n).block l bx w = some (r, bx', w') ∧ w'.said.length < LIM ∧ ∀ H' u, Own H0 H' [wdC K d w', sdC d w', bxC b bx'] → IsTup K H' u (resV r) → Q u H'
def sp_row (K : PySem.W.Frag) (n : Nat) : Sp := fun vs H Q _ => ∃ (P : List (List Sm)) (H0 : Hp), ∃ d s v b bx w r bx' w', vs = [v, .ref b, .ref d.a] ∧ SmAt K H0 s v ∧ ProgAt K H0 P d.pa ∧ Own H0 H [wdC K d w, sdC d w, bxC b bx] ∧
  (ev P n).row s bx w = some (r, bx', w') ∧ w'.said.length < LIM ∧ ∀ H' u, Own H0 H' [wdC K d w', sdC d w', bxC b bx'] → IsTup K H' u (resV r) → Q u H'
def sp_loop (K : PySem.W.Frag) (n : Nat) : Sp := fun vs H Q _ => ∃ (P : List (List Sm)) (H0 : Hp), ∃ d e l v b bx w r bx' w', vs = [v, .ref b, .ref d.a] ∧ SmAt K H0 (.loop e l) v ∧ ProgAt K H0 P d.pa ∧ Own H0 H [wdC K d w, sdC d w, bxC b bx] ∧
  (ev P n).loop e l bx w = some (r, bx', w') ∧ w'.said.length < LIM ∧ ∀ H' u, Own H0 H' [wdC K d w', sdC d w', bxC b bx'] → IsTup K H' u (resV r) → Q u H'
def sp_ctch (K : PySem.W.Frag) (n : Nat) : Sp := fun vs H Q _ => ∃ (P : List (List Sm)) (H0 : Hp), ∃ d l m k h v b bx w r bx' w', vs = [v, .ref b, .ref d.a] ∧ SmAt K H0 (.ctch l m k h) v ∧ ProgAt K H0 P d.pa ∧ Own H0 H [wdC K d w, sdC d w, bxC b bx] ∧
  (ev P n).ctch l m k h bx w = some (r, bx', w') ∧ w'.said.length < LIM ∧ ∀ H' u, Own H0 H' [wdC K d w', sdC d w', bxC b bx'] → IsTup K H' u (resV r) → Q u H'
def sp_endd (K : PySem.W.Frag) (n : Nat) : Sp := fun vs H Q _ => ∃ (P : List (List Sm)) (H0 : Hp), ∃ d l m v b bx w r bx' w', vs = [v, .ref b, .ref d.a] ∧ SmAt K H0 (.endd l m) v ∧ ProgAt K H0 P d.pa ∧ Own H0 H [wdC K d w, sdC d w, bxC b bx] ∧
  (ev P n).endd l m bx w = some (r, bx', w') ∧ w'.said.length < LIM ∧ ∀ H' u, Own H0 H' [wdC K d w', sdC d w', bxC b bx'] → IsTup K H' u (resV r) → Q u H'
end U

set_option maxHeartbeats 4000000
namespace U
open PySem PySem.Spec PyProof.Rows L2 Un
local macro_rules | `(tactic| walk_at "w1") => `(tactic| first
  | with_reducible refine w_seq ?_
  | with_reducible refine w_asg ?_
  | with_reducible refine w_op ?_
  | ((with_reducible refine' w_var ?h1 ?_); (case h1 => rfl))
  | with_reducible refine w_c ?_
  | with_reducible refine w_name ?_
  | with_reducible refine w_tFd ?_
  | ((with_reducible refine' w_fld ?h1 ?h2 ?_); (case h1 => assumption); (case h2 => rfl))
  | with_reducible refine w_if ?_
  | with_reducible refine w_test ?_
  | with_reducible refine w_eqS ?_
  | with_reducible refine w_eqI ?_
  | with_reducible refine w_neS ?_
  | with_reducible refine w_neI ?_
  | with_reducible refine w_isN ?_
  | with_reducible refine w_isnN ?_
  | with_reducible refine w_bl ?_
  | with_reducible refine w_ret ?_
  | with_reducible refine w_drop ?_
  | with_reducible refine w_next ?_
  | with_reducible refine w_cons ?_
  | with_reducible refine w_nil ?_
  | with_reducible refine w_call ?_
  | with_reducible refine w_cb ?_
  | with_reducible refine w_meth ?_
  | ((with_reducible refine' w_recv ?h1 ?h2 ?_); (case h1 => assumption); (case h2 => rfl))
  | with_reducible refine w_sFd ?_
  | ((with_reducible refine' w_put ?h1 ?h2 ?_); (case h1 => assumption); (case h2 => exact Nat.le_of_ble_eq_true rfl))
  | with_reducible refine w_add ?_
  | with_reducible refine w_sub ?_
  | with_reducible refine w_lt ?_
  | with_reducible refine w_le ?_
  | with_reducible refine w_gt ?_
  | with_reducible refine w_ge ?_
  | with_reducible refine w_bm ?_
  | with_reducible refine w_bm0 ?_
  | ((with_reducible refine' w_ty ?h1 ?_); (case h1 => assumption))
  | with_reducible refine w_tup ?_
  | with_reducible refine w_lst ?_
  | ((with_reducible refine' w_new ?h1 ?_); (case h1 => exact Nat.le_of_ble_eq_true rfl))
  | with_reducible refine w_gsub ?_
  | with_reducible refine w_make ?_
  | with_reducible refine w_lc ?_
  | with_reducible refine w_iList ?_
  | with_reducible refine w_for ?_
  | with_reducible refine w_yes ?_
  | with_reducible refine w_tSl ?_
  | with_reducible refine w_part ?_
  | with_reducible refine w_nopart ?_
  | with_reducible refine w_i ?_
  | with_reducible refine w_rng1 ?_
  | with_reducible refine w_rng2 ?_
  | with_reducible refine w_isiII ?_
  | with_reducible refine w_isiIB ?_
  | with_reducible refine w_isiSS ?_
  | ((with_reducible refine w_mod ?h1 ?_); (case h1 => decide))
  | ((with_reducible refine w_fdC' ?h1 ?h2 ?_); (case h1 => decide); (case h2 => decide))
  | ((with_reducible refine w_mulR ?h1 ?h2 ?_); (case h1 => decide); (case h2 => decide))
  | ((with_reducible refine w_mulL ?h1 ?h2 ?_); (case h1 => decide); (case h2 => decide))
  | ((with_reducible refine w_pow' ?h1 ?h2 ?h3 ?_); (case h1 => decide); (case h2 => decide); (case h3 => decide))
  | with_reducible refine w_andV ?_
  | with_reducible refine w_orV ?_
  | with_reducible refine w_notV ?_
  | with_reducible refine w_B ?_
  | with_reducible refine w_not ?_
  | with_reducible refine w_and ?_
  | with_reducible refine w_or ?_
  | with_reducible refine w_ifx ?_
  | with_reducible refine w_un ?_
  | ((with_reducible refine w_T ?h1 ?_); (case h1 => with_reducible rfl))
  | ((with_reducible refine w_F ?h1 ?_); (case h1 => with_reducible rfl))
  | ((with_reducible refine w_T ?h1 ?_); (case h1 => decide +kernel))
  | ((with_reducible refine w_F ?h1 ?_); (case h1 => decide +kernel)))
local macro_rules | `(tactic| walk_at "w") => `(tactic| repeat walk_at "w1")

theorem wy_value (y : Wy) : (y.str = "value") ↔ y = .value := by cases y <;> decide
theorem wy_on (y : Wy) : (y.str = "on") ↔ y = .on := by cases y <;> decide
theorem wy_give (y : Wy) : (y.str = "give") ↔ y = .give := by cases y <;> decide
theorem wy_leave (y : Wy) : (y.str = "leave") ↔ y = .leave := by cases y <;> decide
theorem wy_next (y : Wy) : (y.str = "next") ↔ y = .next := by cases y <;> decide
theorem wy_fault (y : Wy) : (y.str = "fault") ↔ y = .fault := by cases y <;> decide
theorem wy_tired (y : Wy) : (y.str = "tired") ↔ y = .tired := by cases y <;> decide
theorem at?_at {xs : List Int} {k v : Int} (h : at? xs k = some v) : atI (xs.map V.int) k = some (.int v) := by
  unfold at? at h
  by_cases h0 : 0 ≤ k
  · rw [if_pos h0] at h
    refine atI_ok h0 ?_
    rw [List.getElem?_map, h]
    rfl
  · rw [if_neg h0] at h
    cases h
theorem tup_at {K : PySem.W.Frag} {H : Hp} {u : V} {xs : List V} (h : IsTup K H u xs) : ∃ a, u = .ref a ∧ SqT K H a xs := h
section
variable {K : PySem.W.Frag} {P : List (List Sm)}
theorem p_reckoned (n : Nat) (vs : List V) (H : Hp) (Q : VK) (E : XK) (h : sp_tree K (n + 1) vs H Q E) :
    t_reckoned K (sp_tree K n) (sp_call K n) (sp_joined K) { nx := fun _ H' => Q .non H', rt := Q } (L2.start n_reckoned vs) H := by
  obtain ⟨P, H0, d, t, v, b, bx, w, r, w', rfl, ht, hp, o, he, hs, k⟩ := h
  have he : treeS (ev P n) t bx w = some (r, w') := he
  unfold treeS at he
  unfold t_reckoned
  have G := good_ev P n
  cases t with
  | num m =>
    obtain ⟨a, rfl, hv0⟩ := ht
    have hv := same_tup o.same hv0
    cases he
    walk_at "w"
    refine w_ixT hv rfl ?_
    walk_at "w"
    refine w_ixT hv rfl ?_
    walk_at "w"
    exact fun p h1 => k _ _ (o.lay h1) new_tup
  | box m =>
    obtain ⟨a, rfl, hv0⟩ := ht
    have hv := same_tup o.same hv0
    dsimp only at he
    cases hm : at? bx m with
    | none => rw [hm] at he; cases he
    | some x =>
    rw [hm] at he
    cases he
    walk_at "w"
    refine w_ixT hv rfl ?_
    walk_at "w"
    refine w_ixT hv rfl ?_
    refine w_ixL (SqL.of (o.ix 2 rfl)) (at?_at hm) ?_
    walk_at "w"
    exact fun p h1 => k _ _ (o.lay h1) new_tup
  | call f t =>
    obtain ⟨x, ⟨a, rfl, hv0⟩, hx⟩ := ht
    have hv := same_tup o.same hv0
    dsimp only at he
    cases h1 : (ev P n).tree t bx w with
    | none => rw [h1] at he; cases he
    | some q =>
    obtain ⟨⟨wy, z⟩, w1⟩ := q
    rw [h1] at he
    have hs1 : w1.said.length < LIM := by
      cases wy with
      | value => exact Nat.lt_of_le_of_lt (G.call he).len hs
      | _ => cases he; exact hs
    walk_at "w"
    refine w_ixT hv rfl ?_
    walk_at "w"
    refine w_ixT hv rfl ?_
    walk_at "w"
    refine ⟨P, _, d, t, x, b, bx, w, _, _, rfl, hx.mono o.base, hp.mono o.base, o.lend, h1, hs1, fun H1 u o1 hu => ?_⟩
    replace o1 := o.same1 o1
    obtain ⟨c, rfl, hu'⟩ := tup_at hu
    walk_at "w"
    refine w_ixT hu' rfl ?_
    walk_at "w"
    refine w_ND (fun c1 => ?_) (fun c1 => ?_) <;> rw [wy_value] at c1
    · dsimp only at c1
      subst c1
      walk_at "w"
      have hv1 := same_tup o1.same hv0
      refine w_ixT hv1 rfl ?_
      walk_at "w"
      refine w_ixT hu' rfl ?_
      walk_at "w"
      have o2 : Own H0 H1 ([wdC K d w1, sdC d w1] ++ [bxC b bx]) := o1
      refine ⟨P, _, d, f, z, w1, _, _, rfl, hp.mono o2.sub.base, o2.sub.lend, he, hs, fun H2 u2 o3 hu2 => ?_⟩
      exact k _ _ (o2.back o3) hu2
    · walk_at "w"
      cases wy with
      | value => exact absurd rfl c1
      | _ => cases he; exact k _ _ o1 hu
  | bin op s t =>
    obtain ⟨x, y, ⟨a, rfl, hv0⟩, hx, hy⟩ := ht
    have hv := same_tup o.same hv0
    dsimp only at he
    cases h1 : (ev P n).tree s bx w with
    | none => rw [h1] at he; cases he
    | some q =>
    obtain ⟨⟨wy, z⟩, w1⟩ := q
    rw [h1] at he
    have hs1 : w1.said.length < LIM := by
      cases wy with
      | value =>
        dsimp only at he
        cases h2 : (ev P n).tree t bx w1 with
        | none => rw [h2] at he; cases he
        | some q =>
          obtain ⟨⟨wy2, z2⟩, w2⟩ := q
          rw [h2] at he
          have l := (G.tree h2).len
          cases wy2 <;> (cases he; exact Nat.lt_of_le_of_lt l hs)
      | _ => cases he; exact hs
    walk_at "w"
    refine w_ixT hv rfl ?_
    walk_at "w"
    refine w_F (by cases op <;> decide) ?_
    walk_at "w"
    refine w_F (by cases op <;> decide) ?_
    walk_at "w"
    refine w_F (by cases op <;> decide) ?_
    walk_at "w"
    refine w_ixT hv rfl ?_
    walk_at "w"
    refine ⟨P, _, d, s, x, b, bx, w, _, _, rfl, hx.mono o.base, hp.mono o.base, o.lend, h1, hs1, fun H1 u o1 hu => ?_⟩
    replace o1 := o.same1 o1
    obtain ⟨c, rfl, hu'⟩ := tup_at hu
    walk_at "w"
    refine w_ixT hu' rfl ?_
    walk_at "w"
    refine w_ND (fun c1 => ?_) (fun c1 => ?_) <;> rw [wy_value] at c1
    · dsimp only at c1
      subst c1
      dsimp only at he
      cases h2 : (ev P n).tree t bx w1 with
      | none => rw [h2] at he; cases he
      | some q =>
      obtain ⟨⟨wy2, z2⟩, w2⟩ := q
      rw [h2] at he
      have hs2 : w2.said.length < LIM := by cases wy2 <;> (cases he; exact hs)
      walk_at "w"
      have hv1 := same_tup o1.same hv0
      refine w_ixT hv1 rfl ?_
      walk_at "w"
      refine ⟨P, _, d, t, y, b, bx, w1, _, _, rfl, hy.mono o1.base, hp.mono o1.base, o1.lend, h2, hs2, fun H2 u2 o2 hu2 => ?_⟩
      have hu3 := hu.overM o1 muts3 o2
      replace o2 := o1.same1 o2
      obtain ⟨c2, rfl, hu2'⟩ := tup_at hu2
      walk_at "w"
      refine w_ixT hu2' rfl ?_
      walk_at "w"
      refine w_ND (fun c3 => ?_) (fun c3 => ?_) <;> rw [wy_value] at c3
      · dsimp only at c3
        subst c3
        cases he
        walk_at "w"
        obtain ⟨c4, e4, hu3⟩ := hu3
        cases e4
        refine w_ixT hu3 rfl ?_
        walk_at "w"
        refine w_ixT hu2' rfl ?_
        walk_at "w"
        exact ⟨op, z, z2, rfl, fun p hp => k _ _ (o2.lay hp) new_tup⟩
      · walk_at "w"
        cases wy2 with
        | value => exact absurd rfl c3
        | _ => cases he; exact k _ _ o2 hu2
    · walk_at "w"
      cases wy with
      | value => exact absurd rfl c1
      | _ => cases he; exact k _ _ o1 hu
theorem p_called (n : Nat) (vs : List V) (H : Hp) (Q : VK) (E : XK) (h : sp_call K (n + 1) vs H Q E) :
    t_called K (sp_World_taken K) (sp_enter K n) { nx := fun _ H' => Q .non H', rt := Q } (L2.start n_called vs) H := by
  obtain ⟨P, H0, d, f, v, w, r, w', rfl, hp, o, he, hs, k⟩ := h
  have he : callS (ev P n) f v w = some (r, w') := he
  unfold callS at he
  unfold t_called
  have h := o.ix 0 rfl
  walk_at "w"
  refine ⟨H0, d, w, _, rfl, o, fun c => ?_, fun c H1 o1 => ?_⟩
  · rw [if_pos c] at he
    cases he
    walk_at "w"
    exact fun p h1 => k _ _ (o.lay h1) new_tup
  · rw [if_neg c] at he
    walk_at "w"
    have h := o1.ix 0 rfl
    walk_at "w"
    refine w_D (fun c1 => ?_) (fun c1 => ?_)
    · have c2 : w.deep = 8 := by
        have : (w.deep : Int) = 8 := c1
        omega
      rw [if_pos c2] at he
      cases he
      walk_at "w"
      exact fun p h1 => k _ _ (o1.lay h1) new_tup
    · have c2 : ¬ w.deep = 8 := fun z => c1 (by rw [z]; rfl)
      rw [if_neg c2] at he
      walk_at "w"
      exact ⟨P, H0, d, f, v, _, _, _, rfl, hp, o1, he, hs, k⟩
end
end U

set_option maxHeartbeats 4000000
namespace U
open PySem PySem.Spec PyProof.Rows L2 Un
local macro_rules | `(tactic| walk_at "w1") => `(tactic| first
  | with_reducible refine w_seq ?_
  | with_reducible refine w_asg ?_
  | with_reducible refine w_op ?_
  | ((with_reducible refine' w_var ?h1 ?_); (case h1 => rfl))
  | with_reducible refine w_c ?_
  | with_reducible refine w_name ?_
  | with_reducible refine w_tFd ?_
  | ((with_reducible refine' w_fld ?h1 ?h2 ?_); (case h1 => assumption); (case h2 => rfl))
  | with_reducible refine w_if ?_
  | with_reducible refine w_test ?_
  | with_reducible refine w_eqS ?_
  | with_reducible refine w_eqI ?_
  | with_reducible refine w_neS ?_
  | with_reducible refine w_neI ?_
  | with_reducible refine w_isN ?_
  | with_reducible refine w_isnN ?_
  | with_reducible refine w_bl ?_
  | with_reducible refine w_ret ?_
  | with_reducible refine w_drop ?_
  | with_reducible refine w_next ?_
  | with_reducible refine w_cons ?_
  | with_reducible refine w_nil ?_
  | with_reducible refine w_call ?_
  | with_reducible refine w_cb ?_
  | with_reducible refine w_meth ?_
  | ((with_reducible refine' w_recv ?h1 ?h2 ?_); (case h1 => assumption); (case h2 => rfl))
  | with_reducible refine w_sFd ?_
  | ((with_reducible refine' w_put ?h1 ?h2 ?_); (case h1 => assumption); (case h2 => exact Nat.le_of_ble_eq_true rfl))
  | with_reducible refine w_add ?_
  | with_reducible refine w_sub ?_
  | with_reducible refine w_lt ?_
  | with_reducible refine w_le ?_
  | with_reducible refine w_gt ?_
  | with_reducible refine w_ge ?_
  | with_reducible refine w_bm ?_
  | with_reducible refine w_bm0 ?_
  | ((with_reducible refine' w_ty ?h1 ?_); (case h1 => assumption))
  | with_reducible refine w_tup ?_
  | with_reducible refine w_lst ?_
  | ((with_reducible refine' w_new ?h1 ?_); (case h1 => exact Nat.le_of_ble_eq_true rfl))
  | with_reducible refine w_gsub ?_
  | with_reducible refine w_make ?_
  | with_reducible refine w_lc ?_
  | with_reducible refine w_iList ?_
  | with_reducible refine w_for ?_
  | with_reducible refine w_yes ?_
  | with_reducible refine w_tSl ?_
  | with_reducible refine w_part ?_
  | with_reducible refine w_nopart ?_
  | with_reducible refine w_i ?_
  | with_reducible refine w_rng1 ?_
  | with_reducible refine w_rng2 ?_
  | with_reducible refine w_isiII ?_
  | with_reducible refine w_isiIB ?_
  | with_reducible refine w_isiSS ?_
  | ((with_reducible refine w_mod ?h1 ?_); (case h1 => decide))
  | ((with_reducible refine w_fdC' ?h1 ?h2 ?_); (case h1 => decide); (case h2 => decide))
  | ((with_reducible refine w_mulR ?h1 ?h2 ?_); (case h1 => decide); (case h2 => decide))
  | ((with_reducible refine w_mulL ?h1 ?h2 ?_); (case h1 => decide); (case h2 => decide))
  | ((with_reducible refine w_pow' ?h1 ?h2 ?h3 ?_); (case h1 => decide); (case h2 => decide); (case h3 => decide))
  | with_reducible refine w_andV ?_
  | with_reducible refine w_orV ?_
  | with_reducible refine w_notV ?_
  | with_reducible refine w_B ?_
  | with_reducible refine w_not ?_
  | with_reducible refine w_and ?_
  | with_reducible refine w_or ?_
  | with_reducible refine w_ifx ?_
  | with_reducible refine w_un ?_
  | ((with_reducible refine w_T ?h1 ?_); (case h1 => with_reducible rfl))
  | ((with_reducible refine w_F ?h1 ?_); (case h1 => with_reducible rfl))
  | ((with_reducible refine w_T ?h1 ?_); (case h1 => decide +kernel))
  | ((with_reducible refine w_F ?h1 ?_); (case h1 => decide +kernel)))
local macro_rules | `(tactic| walk_at "w") => `(tactic| repeat walk_at "w1")

theorem at?_all {α β : Type} {R : α → β → Prop} {as : List α} {bs : List β} (h : All2 R as bs) {i : Int} {b : β} (e : at? bs i = some b) : ∃ a, atI as i = some a ∧ R a b := by
  unfold at? at e
  by_cases h0 : 0 ≤ i
  · rw [if_pos h0] at e
    obtain ⟨a, h1, h2⟩ := h.get e
    exact ⟨a, atI_ok h0 h1, h2⟩
  · rw [if_neg h0] at e
    cases e
section
variable {K : PySem.W.Frag} {P : List (List Sm)}
theorem p_entered (n : Nat) (vs : List V) (H : Hp) (Q : VK) (E : XK) (h : sp_enter K (n + 1) vs H Q E) :
    t_entered K (sp_block K n) { nx := fun _ H' => Q .non H', rt := Q } (L2.start n_entered vs) H := by
  obtain ⟨P, H0, d, f, v, w, r, w', rfl, hp, o, he, hs, k⟩ := h
  have he : enterS P (ev P n) f v w = some (r, w') := he
  unfold enterS at he
  unfold t_entered
  have h := o.ix 0 rfl
  cases hb : at? P f with
  | none => rw [hb] at he; cases he
  | some b =>
  rw [hb] at he
  dsimp only at he
  cases h1 : (ev P n).block b [v, 0, 0, 0] { w with deep := w.deep + 1 } with
  | none => rw [h1] at he; cases he
  | some q =>
  obtain ⟨⟨wy, z⟩, bx1, w1⟩ := q
  rw [h1] at he
  cases he
  have hd1 : w1.deep = w.deep + 1 := ((good_ev P n).block h1).1.deep
  obtain ⟨ps, hps, hall⟩ := hp
  obtain ⟨bv, hbv, hbl⟩ := at?_all hall hb
  walk_at "w"
  have o1 := o.set 0 (.ins (He.ga K "World") d.dx (wdF d.pa d.s w.turns (w.deep + 1))) rfl
  have h := o1.ix 0 rfl
  have e1 : putF "deep" (V.int ((w.deep : Int) + 1)) (wdF d.pa d.s w.turns w.deep) = wdF d.pa d.s w.turns (w.deep + 1) := rfl
  rw [e1]
  generalize upd H d.a (.ins (He.ga K "World") d.dx (wdF d.pa d.s w.turns (w.deep + 1))) = H1 at o1 h ⊢
  have o1 : Own H0 H1 [wdC K d { w with deep := w.deep + 1 }, sdC d w] := o1
  walk_at "w"
  refine w_ixL (o1.same.seq hps) hbv ?_
  walk_at "w"
  refine fun p1 n1 => ?_
  walk_at "w"
  refine fun p2 n2 => ?_
  walk_at "w"
  refine w_rep1 upd_same (by decide) (by decide) fun p3 n3 => ?_
  refine w_cat (xs := [V.int v]) (ys := List.replicate (4 - 1 : Int).toNat (V.int 0)) ?_ upd_same ?_ fun p4 n4 => ?_
  · exact same_lay n3 _ _ (same_lay n2 _ _ upd_same)
  · rw [sizeLine_eq]
    exact Nat.le_of_ble_eq_true rfl
  walk_at "w"
  have o2 := (((o1.lay n1).lay n2).lay n3).take (o := .lst ([v, 0, 0, 0].map V.int)) n4
  have o3 : Own H0 _ ([wdC K d { w with deep := w.deep + 1 }, sdC d w] ++ [bxC p4 [v, 0, 0, 0]]) := o2.perm (List.perm_append_comm (l₁ := [_]) (l₂ := [_, _]))
  refine ⟨P, _, d, b, bv, p4, [v, 0, 0, 0], { w with deep := w.deep + 1 }, _, _, _, rfl, hbl.mono (Own.base o3), ⟨ps, (Own.base o3).seq hps, hall.mono fun _ _ q => q.mono (Own.base o3)⟩, Own.lend o3, h1, hs, fun H2 u o4 hu => ?_⟩
  replace o4 := Own.same1 o3 o4
  have h := o4.ix 0 rfl
  obtain ⟨c, rfl, hu'⟩ := tup_at hu
  walk_at "w"
  have hu2 : IsTup K _ (V.ref c) (resV (wy, z)) := IsTup.putI (o := .ins (He.ga K "World") d.dx (wdF d.pa d.s w1.turns (w1.deep - 1))) h hu
  have o5 := o4.set 0 (.ins (He.ga K "World") d.dx (wdF d.pa d.s w1.turns (w1.deep - 1))) rfl
  have e2 : putF "deep" (V.int ((w1.deep : Int) - 1)) (wdF d.pa d.s w1.turns w1.deep) = wdF d.pa d.s w1.turns (w1.deep - 1) := rfl
  rw [e2]
  generalize upd H2 d.a (.ins (He.ga K "World") d.dx (wdF d.pa d.s w1.turns (w1.deep - 1))) = H3 at o5 hu2 ⊢
  have e3 : ((w1.deep - 1 : Nat) : Int) = (w1.deep : Int) - 1 := by omega
  have o6 : Own H0 H3 [wdC K d { w1 with deep := w1.deep - 1 }, sdC d w1] := by
    show Own H0 H3 [(d.a, .ins (He.ga K "World") d.dx (wdF d.pa d.s w1.turns ((w1.deep - 1 : Nat) : Int))), sdC d w1]
    rw [e3]
    exact Own.sub (R := [bxC p4 bx1]) o5
  obtain ⟨c', ec, hu3⟩ := hu2
  cases ec
  walk_at "w"
  refine w_ixT hu3 rfl ?_
  walk_at "w"
  refine w_D (fun c1 => ?_) (fun c1 => ?_) <;> rw [wy_on] at c1
  · dsimp only at c1
    subst c1
    walk_at "w"
    exact fun p h1 => k _ _ (o6.lay h1) new_tup
  · walk_at "w"
    refine w_ixT hu3 rfl ?_
    walk_at "w"
    refine w_D (fun c2 => ?_) (fun c2 => ?_) <;> rw [wy_give] at c2
    · dsimp only at c2
      subst c2
      walk_at "w"
      refine w_ixT hu3 rfl ?_
      walk_at "w"
      exact fun p h1 => k _ _ (o6.lay h1) new_tup
    · walk_at "w"
      refine k _ _ o6 ⟨_, rfl, ?_⟩
      cases wy with
      | on => exact absurd rfl c1
      | give => exact absurd rfl c2
      | _ => exact hu3
theorem blockS_len {n : Nat} {b : List Sm} {bx : List Int} {w : Wd} {x : Res × List Int × Wd} (h : blockS (ev P n) b bx w = some x) : Le w x.2.2 := by
  obtain ⟨r, bx', w'⟩ := x
  exact (blockS_good (good_ev P n) b h).1
theorem p_block_done (n : Nat) (vs : List V) (H : Hp) (Q : VK) (E : XK) (h : sp_block K (n + 1) vs H Q E) :
    t_block_done K (sp_row K n) { nx := fun _ H' => Q .non H', rt := Q } (L2.start n_block_done vs) H := by
  obtain ⟨P, H0, d, l, v, b, bx, w, r, bx', w', rfl, ⟨p, ps, rfl, hp1, hp2⟩, hp, o, he, hs, k⟩ := h
  have he : blockS (ev P n) l bx w = some (r, bx', w') := he
  unfold t_block_done
  have len : ∀ {l : List Sm} {ps : List V}, SmsAt K H0 l ps → ps.length = l.length := by
    intro l
    induction l with
    | nil => intro ps h; rw [show ps = [] from h]; rfl
    | cons s l ih =>
      intro ps h
      obtain ⟨v, vr, rfl, _, h2⟩ := h
      simp [ih h2]
  refine w_seq ⟨_, rfl, p, rfl, ⟨_, o.same.seq hp1⟩, for_list (xs := ps) (fun i σ H' => ∃ bx1 w1 x y, Own H0 H' [wdC K d w1, sdC d w1, bxC b bx1] ∧ blockS (ev P n) (l.drop i) bx1 w1 = some (r, bx', w') ∧ SmsAt K H0 (l.drop i) (ps.drop i) ∧ σ = [some (.ref p), some (.ref b), some (.ref d.a), x, y])
    ⟨bx, w, _, _, o, he, hp2, rfl⟩ (fun i σ H' _ h => ?_) ?_ ?_⟩
  · obtain ⟨bx1, w1, x, y, o1, _⟩ := h
    exact o1.same.seq hp1
  · rintro i xv σ H' hx ⟨bx1, w1, x, y, o1, he1, hat, rfl⟩
    have hi : i < ps.length := (List.getElem?_eq_some_iff.mp hx).1
    have hil : i < l.length := by rw [← len hp2]; exact hi
    rw [← List.getElem_cons_drop hil, ← List.getElem_cons_drop hi] at hat
    obtain ⟨v1, vr, e, hat1, hat2⟩ := hat
    cases e
    have ex : ps[i] = xv := by
      rw [List.getElem?_eq_getElem hi] at hx
      exact Option.some.inj hx
    rw [ex] at hat1
    rw [← List.getElem_cons_drop hil] at he1
    unfold blockS at he1
    cases h1 : (ev P n).row l[i] bx1 w1 with
    | none => rw [h1] at he1; cases he1
    | some q =>
    obtain ⟨⟨wy, z⟩, bx2, w2⟩ := q
    rw [h1] at he1
    have hs1 : w2.said.length < LIM := by
      cases wy with
      | on => exact Nat.lt_of_le_of_lt (blockS_len he1).len hs
      | _ => cases he1; exact hs
    walk_at "w"
    refine ⟨P, _, d, l[i], xv, b, bx1, w1, _, _, _, rfl, hat1.mono o1.base, hp.mono o1.base, o1.lend, h1, hs1, fun H1 u o2 hu => ?_⟩
    replace o2 := o1.same1 o2
    obtain ⟨c, rfl, hu'⟩ := tup_at hu
    walk_at "w"
    refine w_ixT hu' rfl ?_
    walk_at "w"
    refine w_ND (fun c1 => ?_) (fun c1 => ?_) <;> rw [wy_on] at c1
    · dsimp only at c1
      subst c1
      walk_at "w"
      exact ⟨bx2, w2, _, _, o2, he1, hat2, rfl⟩
    · walk_at "w"
      cases wy with
      | on => exact absurd rfl c1
      | _ => cases he1; exact k _ _ o2 hu
  · rintro σ H' ⟨bx1, w1, x, y, o1, he1, hat, rfl⟩
    rw [len hp2, List.drop_length] at he1
    cases he1
    walk_at "w"
    exact fun p h1 => k _ _ (o1.lay h1) new_tup
end
end U

set_option maxHeartbeats 4000000
namespace U
open PySem PySem.Spec PyProof.Rows L2 Un
local macro_rules | `(tactic| walk_at "w1") => `(tactic| first
  | with_reducible refine w_seq ?_
  | with_reducible refine w_asg ?_
  | with_reducible refine w_op ?_
  | ((with_reducible refine' w_var ?h1 ?_); (case h1 => rfl))
  | with_reducible refine w_c ?_
  | with_reducible refine w_name ?_
  | with_reducible refine w_tFd ?_
  | ((with_reducible refine' w_fld ?h1 ?h2 ?_); (case h1 => assumption); (case h2 => rfl))
  | with_reducible refine w_if ?_
  | with_reducible refine w_test ?_
  | with_reducible refine w_eqS ?_
  | with_reducible refine w_eqI ?_
  | with_reducible refine w_neS ?_
  | with_reducible refine w_neI ?_
  | with_reducible refine w_isN ?_
  | with_reducible refine w_isnN ?_
  | with_reducible refine w_bl ?_
  | with_reducible refine w_ret ?_
  | with_reducible refine w_drop ?_
  | with_reducible refine w_next ?_
  | with_reducible refine w_cons ?_
  | with_reducible refine w_nil ?_
  | with_reducible refine w_call ?_
  | with_reducible refine w_cb ?_
  | with_reducible refine w_meth ?_
  | ((with_reducible refine' w_recv ?h1 ?h2 ?_); (case h1 => assumption); (case h2 => rfl))
  | with_reducible refine w_sFd ?_
  | ((with_reducible refine' w_put ?h1 ?h2 ?_); (case h1 => assumption); (case h2 => exact Nat.le_of_ble_eq_true rfl))
  | with_reducible refine w_add ?_
  | with_reducible refine w_sub ?_
  | with_reducible refine w_lt ?_
  | with_reducible refine w_le ?_
  | with_reducible refine w_gt ?_
  | with_reducible refine w_ge ?_
  | with_reducible refine w_bm ?_
  | with_reducible refine w_bm0 ?_
  | ((with_reducible refine' w_ty ?h1 ?_); (case h1 => assumption))
  | with_reducible refine w_tup ?_
  | with_reducible refine w_lst ?_
  | ((with_reducible refine' w_new ?h1 ?_); (case h1 => exact Nat.le_of_ble_eq_true rfl))
  | with_reducible refine w_gsub ?_
  | with_reducible refine w_make ?_
  | with_reducible refine w_lc ?_
  | with_reducible refine w_iList ?_
  | with_reducible refine w_for ?_
  | with_reducible refine w_yes ?_
  | with_reducible refine w_tSl ?_
  | with_reducible refine w_part ?_
  | with_reducible refine w_nopart ?_
  | with_reducible refine w_i ?_
  | with_reducible refine w_rng1 ?_
  | with_reducible refine w_rng2 ?_
  | with_reducible refine w_isiII ?_
  | with_reducible refine w_isiIB ?_
  | with_reducible refine w_isiSS ?_
  | ((with_reducible refine w_mod ?h1 ?_); (case h1 => decide))
  | ((with_reducible refine w_fdC' ?h1 ?h2 ?_); (case h1 => decide); (case h2 => decide))
  | ((with_reducible refine w_mulR ?h1 ?h2 ?_); (case h1 => decide); (case h2 => decide))
  | ((with_reducible refine w_mulL ?h1 ?h2 ?_); (case h1 => decide); (case h2 => decide))
  | ((with_reducible refine w_pow' ?h1 ?h2 ?h3 ?_); (case h1 => decide); (case h2 => decide); (case h3 => decide))
  | with_reducible refine w_andV ?_
  | with_reducible refine w_orV ?_
  | with_reducible refine w_notV ?_
  | with_reducible refine w_B ?_
  | with_reducible refine w_not ?_
  | with_reducible refine w_and ?_
  | with_reducible refine w_or ?_
  | with_reducible refine w_ifx ?_
  | with_reducible refine w_un ?_
  | ((with_reducible refine w_T ?h1 ?_); (case h1 => with_reducible rfl))
  | ((with_reducible refine w_F ?h1 ?_); (case h1 => with_reducible rfl))
  | ((with_reducible refine w_T ?h1 ?_); (case h1 => decide +kernel))
  | ((with_reducible refine w_F ?h1 ?_); (case h1 => decide +kernel)))
local macro_rules | `(tactic| walk_at "w") => `(tactic| repeat walk_at "w1")

section
variable {K : PySem.W.Frag} {P : List (List Sm)}
theorem goalV_non (n : Option Int) : (goalV n = .non) ↔ n = none := by
  cases n with
  | none => exact ⟨fun _ => rfl, fun _ => rfl⟩
  | some g => exact ⟨fun h => (by cases h), fun h => (by cases h)⟩
theorem p_catch_done (n : Nat) (vs : List V) (H : Hp) (Q : VK) (E : XK) (h : sp_ctch K (n + 1) vs H Q E) :
    t_catch_done K (sp_block K n) { nx := fun _ H' => Q .non H', rt := Q } (L2.start n_catch_done vs) H := by
  obtain ⟨P, H0, d, l, m, kk, hh, v, b, bx, w, r, bx', w', rfl, ⟨p, q, ps, qs, ⟨a, rfl, hv0⟩, hp1, hp2, hq1, hq2⟩, hp, o, he, hs, k⟩ := h
  have he : ctchS (ev P n) l m kk hh bx w = some (r, bx', w') := he
  unfold ctchS at he
  unfold t_catch_done
  have hv := same_tup o.same hv0
  cases h1 : (ev P n).block l bx w with
  | none => rw [h1] at he; cases he
  | some x =>
  obtain ⟨⟨wy, z⟩, bx1, w1⟩ := x
  rw [h1] at he
  have hs1 : w1.said.length < LIM := by
    cases wy with
    | fault =>
      dsimp only at he
      split at he
      · cases he; exact hs
      · split at he
        · exact Nat.lt_of_le_of_lt ((good_ev P n).block he).1.len hs
        · cases he
    | _ => cases he; exact hs
  walk_at "w"
  refine w_ixT hv rfl ?_
  walk_at "w"
  refine ⟨P, _, d, l, _, b, bx, w, _, _, _, rfl, ⟨p, ps, rfl, o.base.seq hp1, hp2.mono o.base⟩, hp.mono o.base, o.lend, h1, hs1, fun H1 u o1 hu => ?_⟩
  replace o1 := o.same1 o1
  have hv1 := same_tup o1.same hv0
  obtain ⟨c, rfl, hu'⟩ := tup_at hu
  walk_at "w"
  refine w_ixT hu' rfl ?_
  walk_at "w"
  refine w_ND (fun c1 => ?_) (fun c1 => ?_) <;> rw [wy_fault] at c1
  · dsimp only at c1
    subst c1
    dsimp only at he
    walk_at "w"
    refine w_ixT hv1 rfl ?_
    walk_at "w"
    have go : ¬ (m ≠ none ∧ some z ≠ m) → sp_block K n [V.ref q, .ref b, .ref d.a] (upd H1 b (.lst ((bx1.map V.int).set kk.toNat (.int z)))) Q E ∧ 0 ≤ kk ∧ kk < bx1.length := fun cn => by
      rw [if_neg cn] at he
      split at he
      · rename_i hk
        have o2 := o1.set 2 (.lst ((bx1.map V.int).set kk.toNat (.int z))) rfl
        rw [← List.map_set] at o2 ⊢
        exact ⟨⟨P, H0, d, hh, _, b, bx1.set kk.toNat z, w1, r, bx', w', rfl, ⟨q, qs, rfl, hq1, hq2⟩, hp, o2, he, hs, k⟩, hk⟩
      · cases he
    have hb := o1.ix 2 rfl
    refine w_ND (fun c2 => ?_) (fun c2 => ?_) <;> rw [goalV_non] at c2
    · obtain ⟨g1, g2, g3⟩ := go fun hz => hz.1 c2
      walk_at "w"
      refine w_ixT hu' rfl ?_
      walk_at "w"
      refine w_ixT hv1 rfl ?_
      refine w_setL hb g2 (by rw [List.length_map]; exact g3) ?_
      walk_at "w"
      refine w_ixT (tup_put hb hv1) rfl ?_
      walk_at "w"
      exact g1
    · cases m with
      | none => exact absurd rfl c2
      | some g =>
      walk_at "w"
      refine w_ixT hu' rfl ?_
      walk_at "w"
      refine w_ixT hv1 rfl ?_
      dsimp only [goalV]
      walk_at "w"
      refine w_ND (fun c3 => ?_) (fun c3 => ?_)
      · obtain ⟨g1, g2, g3⟩ := go fun hz => hz.2 (by rw [c3])
        walk_at "w"
        refine w_ixT hu' rfl ?_
        walk_at "w"
        refine w_ixT hv1 rfl ?_
        refine w_setL hb g2 (by rw [List.length_map]; exact g3) ?_
        walk_at "w"
        refine w_ixT (tup_put hb hv1) rfl ?_
        walk_at "w"
        exact g1
      · have c4 : ¬ (some z = some g) := fun e => c3 (Option.some.inj e)
        rw [if_pos ⟨c2, c4⟩] at he
        cases he
        walk_at "w"
        exact k _ _ o1 hu
  · walk_at "w"
    cases wy with
    | fault => exact absurd rfl c1
    | _ => cases he; exact k _ _ o1 hu
theorem p_end_done (n : Nat) (vs : List V) (H : Hp) (Q : VK) (E : XK) (h : sp_endd K (n + 1) vs H Q E) :
    t_end_done K (sp_block K n) { nx := fun _ H' => Q .non H', rt := Q } (L2.start n_end_done vs) H := by
  obtain ⟨P, H0, d, l, m, v, b, bx, w, r, bx', w', rfl, ⟨p, q, ps, qs, ⟨a, rfl, hv0⟩, hp1, hp2, hq1, hq2⟩, hp, o, he, hs, k⟩ := h
  have he : endS (ev P n) l m bx w = some (r, bx', w') := he
  unfold endS at he
  unfold t_end_done
  have hv := same_tup o.same hv0
  cases h1 : (ev P n).block l bx w with
  | none => rw [h1] at he; cases he
  | some x =>
  obtain ⟨⟨wy, z⟩, bx1, w1⟩ := x
  rw [h1] at he
  by_cases hw : wy = .tired
  · subst hw
    cases he
    walk_at "w"
    refine w_ixT hv rfl ?_
    walk_at "w"
    refine ⟨P, _, d, l, _, b, bx, w, _, _, _, rfl, ⟨p, ps, rfl, o.base.seq hp1, hp2.mono o.base⟩, hp.mono o.base, o.lend, h1, hs, fun H1 u o1 hu => ?_⟩
    replace o1 := o.same1 o1
    obtain ⟨c, rfl, hu'⟩ := tup_at hu
    walk_at "w"
    refine w_ixT hu' rfl ?_
    walk_at "w"
    refine w_D (fun _ => ?_) (fun cn => absurd rfl cn)
    walk_at "w"
    exact k _ _ o1 hu
  · have he2 : (match (ev P n).block m bx1 w1 with
        | some ((.on, _), bx2, w2) => some ((wy, z), bx2, w2)
        | r2 => r2) = some (r, bx', w') := by
      cases wy with
      | tired => exact absurd rfl hw
      | _ => exact he
    cases h2 : (ev P n).block m bx1 w1 with
    | none => rw [h2] at he2; cases he2
    | some x =>
    obtain ⟨⟨wy2, z2⟩, bx2, w2⟩ := x
    rw [h2] at he2
    have e2 : w2 = w' := by cases wy2 <;> (cases he2; rfl)
    subst e2
    have hs1 : w1.said.length < LIM := Nat.lt_of_le_of_lt ((good_ev P n).block h2).1.len hs
    walk_at "w"
    refine w_ixT hv rfl ?_
    walk_at "w"
    refine ⟨P, _, d, l, _, b, bx, w, _, _, _, rfl, ⟨p, ps, rfl, o.base.seq hp1, hp2.mono o.base⟩, hp.mono o.base, o.lend, h1, hs1, fun H1 u o1 hu => ?_⟩
    replace o1 := o.same1 o1
    have hv1 := same_tup o1.same hv0
    obtain ⟨c, rfl, hu'⟩ := tup_at hu
    walk_at "w"
    refine w_ixT hu' rfl ?_
    walk_at "w"
    refine w_D (fun c1 => absurd ((wy_tired wy).mp c1) hw) fun c1 => ?_
    walk_at "w"
    refine w_ixT hv1 rfl ?_
    walk_at "w"
    refine ⟨P, _, d, m, _, b, bx1, w1, _, _, _, rfl, ⟨q, qs, rfl, o1.base.seq hq1, hq2.mono o1.base⟩, hp.mono o1.base, o1.lend, h2, hs, fun H2 u2 o2 hu2 => ?_⟩
    have hu3 := hu.overM o1 muts3 o2
    replace o2 := o1.same1 o2
    obtain ⟨c2, rfl, hu2'⟩ := tup_at hu2
    walk_at "w"
    refine w_ixT hu2' rfl ?_
    walk_at "w"
    refine w_ND (fun c3 => ?_) (fun c3 => ?_) <;> rw [wy_on] at c3
    · dsimp only at c3
      subst c3
      cases he2
      walk_at "w"
      exact k _ _ o2 hu3
    · walk_at "w"
      cases wy2 with
      | on => exact absurd rfl c3
      | _ => cases he2; exact k _ _ o2 hu2
theorem p_loop_done (n : Nat) (vs : List V) (H : Hp) (Q : VK) (E : XK) (h : sp_loop K (n + 1) vs H Q E) :
    t_loop_done K (sp_World_taken K) (sp_tree K n) (sp_block K n) { nx := fun _ H' => Q .non H', rt := Q } (L2.start n_loop_done vs) H := by
  obtain ⟨P, H0, d, e, l, v, b, bx, w, r, bx', w', rfl, ⟨x, p, ps, ⟨a, rfl, hv0⟩, hx, hp1, hp2⟩, hp, o, he, hs, k⟩ := h
  have he : loopGo (ev P n) e l (w.turns + 1) bx w = some (r, bx', w') := he
  have G := good_ev P n
  unfold t_loop_done
  walk_at "w"
  refine ⟨fun m σ H' => ∃ c bx1 w1 y, m = c ∧ Own H0 H' [wdC K d w1, sdC d w1, bxC b bx1] ∧ loopGo (ev P n) e l c bx1 w1 = some (r, bx', w') ∧ σ = [some (.ref a), some (.ref b), some (.ref d.a), y], ⟨_, _, bx, w, _, rfl, o, he, rfl⟩, ?_⟩
  rintro m σ H' ⟨c, bx1, w1, y, rfl, o1, he1, rfl⟩
  cases m with
  | zero => cases he1
  | succ c =>
  unfold loopGo at he1
  have hw := o1.ix 0 rfl
  walk_at "w"
  refine ⟨H0, d, w1, _, rfl, o1, fun c0 => ?_, fun c0 H2 o2 => ?_⟩
  · rw [if_pos c0] at he1
    cases he1
    walk_at "w"
    exact fun p h1 => k _ _ (o1.lay h1) new_tup
  · rw [if_neg c0] at he1
    walk_at "w"
    unfold thenT at he1
    cases h1 : (ev P n).tree e bx1 { w1 with turns := w1.turns - 1 } with
    | none => rw [h1] at he1; cases he1
    | some q =>
    obtain ⟨⟨wy, z⟩, w2⟩ := q
    rw [h1] at he1
    have hs1 : w2.said.length < LIM := by
      cases wy with
      | value =>
        dsimp only at he1
        by_cases hz : z = 0
        · rw [if_pos hz] at he1
          cases he1; exact hs
        · rw [if_neg hz] at he1
          cases h2 : (ev P n).block l bx1 w2 with
          | none => rw [h2] at he1; cases he1
          | some x =>
          obtain ⟨⟨wy2, z2⟩, bx2, w3⟩ := x
          rw [h2] at he1
          have l1 := (G.block h2).1.len
          cases wy2 with
          | on => exact Nat.lt_of_le_of_lt (Nat.le_trans l1 (loopGo_good G e l c he1).1.len) hs
          | next => exact Nat.lt_of_le_of_lt (Nat.le_trans l1 (loopGo_good G e l c he1).1.len) hs
          | _ => cases he1; exact Nat.lt_of_le_of_lt l1 hs
      | _ => cases he1; exact hs
    refine ⟨fun σ' H' => ∃ bx1 w1 y, Own H0 H' [wdC K d w1, sdC d w1, bxC b bx1] ∧ loopGo (ev P n) e l c bx1 w1 = some (r, bx', w') ∧ σ' = [some (.ref a), some (.ref b), some (.ref d.a), y], ?_, ?_⟩
    · rintro σ' H' ⟨bx1, w1, y, h1, h2, h3⟩
      exact ⟨c, Nat.lt_succ_self _, c, bx1, w1, y, rfl, h1, h2, h3⟩
    walk_at "w"
    refine w_ixT (same_tup o2.same hv0) rfl ?_
    walk_at "w"
    refine ⟨P, _, d, e, x, b, bx1, _, _, _, rfl, hx.mono o2.base, hp.mono o2.base, o2.lend, h1, hs1, fun H3 u o3 hu => ?_⟩
    replace o3 := o2.same1 o3
    obtain ⟨c1, rfl, hu'⟩ := tup_at hu
    walk_at "w"
    refine w_ixT hu' rfl ?_
    walk_at "w"
    refine w_ND (fun c2 => ?_) (fun c2 => ?_) <;> rw [wy_value] at c2
    · dsimp only at c2
      subst c2
      dsimp only at he1
      walk_at "w"
      refine w_ixT hu' rfl ?_
      walk_at "w"
      refine w_D (fun c3 => ?_) (fun c3 => ?_) <;> dsimp only at c3
      · rw [if_pos c3] at he1
        cases he1
        walk_at "w"
        exact fun p h1 => k _ _ (o3.lay h1) new_tup
      · rw [if_neg c3] at he1
        cases h2 : (ev P n).block l bx1 w2 with
        | none => rw [h2] at he1; cases he1
        | some q =>
        obtain ⟨⟨wy2, z2⟩, bx2, w3⟩ := q
        rw [h2] at he1
        have hs2 : w3.said.length < LIM := by
          cases wy2 with
          | on => exact Nat.lt_of_le_of_lt (loopGo_good G e l c he1).1.len hs
          | next => exact Nat.lt_of_le_of_lt (loopGo_good G e l c he1).1.len hs
          | _ => cases he1; exact hs
        walk_at "w"
        refine w_ixT (same_tup o3.same hv0) rfl ?_
        walk_at "w"
        refine ⟨P, _, d, l, _, b, bx1, w2, _, _, _, rfl, ⟨p, ps, rfl, o3.base.seq hp1, hp2.mono o3.base⟩, hp.mono o3.base, o3.lend, h2, hs2, fun H4 u2 o4 hu2 => ?_⟩
        replace o4 := o3.same1 o4
        obtain ⟨c4, rfl, hu2'⟩ := tup_at hu2
        walk_at "w"
        refine w_ixT hu2' rfl ?_
        walk_at "w"
        refine w_D (fun c5 => ?_) (fun c5 => ?_) <;> rw [wy_leave] at c5
        · dsimp only at c5
          subst c5
          cases he1
          walk_at "w"
          exact fun p h1 => k _ _ (o4.lay h1) new_tup
        · walk_at "w"
          refine w_ixT hu2' rfl ?_
          walk_at "w"
          refine w_ND (fun c6 => ?_) (fun c6 => ?_) <;> rw [wy_on] at c6
          · dsimp only at c6
            subst c6
            walk_at "w"
            exact ⟨bx2, w3, _, o4, he1, rfl⟩
          · walk_at "w"
            refine w_ixT hu2' rfl ?_
            walk_at "w"
            refine w_ND (fun c7 => ?_) (fun c7 => ?_) <;> rw [wy_next] at c7
            · dsimp only at c7
              subst c7
              walk_at "w"
              exact ⟨bx2, w3, _, o4, he1, rfl⟩
            · walk_at "w"
              cases wy2 with
              | leave => exact absurd rfl c5
              | on => exact absurd rfl c6
              | next => exact absurd rfl c7
              | _ => cases he1; exact k _ _ o4 hu2
    · walk_at "w"
      cases wy with
      | value => exact absurd rfl c2
      | _ => cases he1; exact k _ _ o3 hu
end
end U

set_option maxHeartbeats 4000000
namespace U
open PySem PySem.Spec PyProof.Rows L2 Un
local macro_rules | `(tactic| walk_at "w1") => `(tactic| first
  | with_reducible refine w_seq ?_
  | with_reducible refine w_asg ?_
  | with_reducible refine w_op ?_
  | ((with_reducible refine' w_var ?h1 ?_); (case h1 => rfl))
  | with_reducible refine w_c ?_
  | with_reducible refine w_name ?_
  | with_reducible refine w_tFd ?_
  | ((with_reducible refine' w_fld ?h1 ?h2 ?_); (case h1 => assumption); (case h2 => rfl))
  | with_reducible refine w_if ?_
  | with_reducible refine w_test ?_
  | with_reducible refine w_eqS ?_
  | with_reducible refine w_eqI ?_
  | with_reducible refine w_neS ?_
  | with_reducible refine w_neI ?_
  | with_reducible refine w_isN ?_
  | with_reducible refine w_isnN ?_
  | with_reducible refine w_bl ?_
  | with_reducible refine w_ret ?_
  | with_reducible refine w_drop ?_
  | with_reducible refine w_next ?_
  | with_reducible refine w_cons ?_
  | with_reducible refine w_nil ?_
  | with_reducible refine w_call ?_
  | with_reducible refine w_cb ?_
  | with_reducible refine w_meth ?_
  | ((with_reducible refine' w_recv ?h1 ?h2 ?_); (case h1 => assumption); (case h2 => rfl))
  | with_reducible refine w_sFd ?_
  | ((with_reducible refine' w_put ?h1 ?h2 ?_); (case h1 => assumption); (case h2 => exact Nat.le_of_ble_eq_true rfl))
  | with_reducible refine w_add ?_
  | with_reducible refine w_sub ?_
  | with_reducible refine w_lt ?_
  | with_reducible refine w_le ?_
  | with_reducible refine w_gt ?_
  | with_reducible refine w_ge ?_
  | with_reducible refine w_bm ?_
  | with_reducible refine w_bm0 ?_
  | ((with_reducible refine' w_ty ?h1 ?_); (case h1 => assumption))
  | with_reducible refine w_tup ?_
  | with_reducible refine w_lst ?_
  | ((with_reducible refine' w_new ?h1 ?_); (case h1 => exact Nat.le_of_ble_eq_true rfl))
  | with_reducible refine w_gsub ?_
  | with_reducible refine w_make ?_
  | with_reducible refine w_lc ?_
  | with_reducible refine w_iList ?_
  | with_reducible refine w_for ?_
  | with_reducible refine w_yes ?_
  | with_reducible refine w_tSl ?_
  | with_reducible refine w_part ?_
  | with_reducible refine w_nopart ?_
  | with_reducible refine w_i ?_
  | with_reducible refine w_rng1 ?_
  | with_reducible refine w_rng2 ?_
  | with_reducible refine w_isiII ?_
  | with_reducible refine w_isiIB ?_
  | with_reducible refine w_isiSS ?_
  | ((with_reducible refine w_mod ?h1 ?_); (case h1 => decide))
  | ((with_reducible refine w_fdC' ?h1 ?h2 ?_); (case h1 => decide); (case h2 => decide))
  | ((with_reducible refine w_mulR ?h1 ?h2 ?_); (case h1 => decide); (case h2 => decide))
  | ((with_reducible refine w_mulL ?h1 ?h2 ?_); (case h1 => decide); (case h2 => decide))
  | ((with_reducible refine w_pow' ?h1 ?h2 ?h3 ?_); (case h1 => decide); (case h2 => decide); (case h3 => decide))
  | with_reducible refine w_andV ?_
  | with_reducible refine w_orV ?_
  | with_reducible refine w_notV ?_
  | with_reducible refine w_B ?_
  | with_reducible refine w_not ?_
  | with_reducible refine w_and ?_
  | with_reducible refine w_or ?_
  | with_reducible refine w_ifx ?_
  | with_reducible refine w_un ?_
  | ((with_reducible refine w_T ?h1 ?_); (case h1 => with_reducible rfl))
  | ((with_reducible refine w_F ?h1 ?_); (case h1 => with_reducible rfl))
  | ((with_reducible refine w_T ?h1 ?_); (case h1 => decide +kernel))
  | ((with_reducible refine w_F ?h1 ?_); (case h1 => decide +kernel)))
local macro_rules | `(tactic| walk_at "w") => `(tactic| repeat walk_at "w1")

section
variable {K : PySem.W.Frag} {P : List (List Sm)}
theorem thenT_len {n : Nat} {e : Un.Tree} {bx : List Int} {w : Wd} {kf : Int → Wd → Option (Res × List Int × Wd)} {r : Res} {bx' : List Int} {w' : Wd} (h : thenT (ev P n) e bx w kf = some (r, bx', w'))
    (hk : ∀ v w1, kf v w1 = some (r, bx', w') → Le w1 w') : ∃ q w1, (ev P n).tree e bx w = some (q, w1) ∧ w1.said.length ≤ w'.said.length ∧ (q.1 = .value → kf q.2 w1 = some (r, bx', w')) ∧ (q.1 ≠ .value → q = r ∧ bx' = bx ∧ w' = w1) := by
  unfold thenT at h
  cases h1 : (ev P n).tree e bx w with
  | none => rw [h1] at h; cases h
  | some x =>
  obtain ⟨⟨wy, z⟩, w1⟩ := x
  rw [h1] at h
  refine ⟨_, _, rfl, ?_⟩
  cases wy with
  | value => exact ⟨(hk _ _ h).len, fun _ => h, fun c => absurd rfl c⟩
  | _ =>
    cases h
    exact ⟨Nat.le_refl _, fun c => Wy.noConfusion c, fun _ => ⟨rfl, rfl, rfl⟩⟩
/-- the tail of a statement that begins with a tree -/
theorem p_row_done (n : Nat) (vs : List V) (H : Hp) (Q : VK) (E : XK) (h : sp_row K (n + 1) vs H Q E) :
    t_row_done K (sp_loop K n) (sp_ctch K n) (sp_endd K n) (sp_tree K n) (sp_block K n) { nx := fun _ H' => Q .non H', rt := Q } (L2.start n_row_done vs) H := by
  obtain ⟨P, H0, d, s, v, b, bx, w, r, bx', w', rfl, hat, hp, o, he, hs, k⟩ := h
  have he : rowS (ev P n) s bx w = some (r, bx', w') := he
  have G := good_ev P n
  unfold rowS at he
  unfold t_row_done
  cases s with
  | leave =>
    obtain ⟨a, rfl, hv0⟩ := hat
    have hv := same_tup o.same hv0
    cases he
    walk_at "w"
    refine w_ixT hv rfl ?_
    walk_at "w"
    exact fun p h1 => k _ _ (o.lay h1) new_tup
  | next =>
    obtain ⟨a, rfl, hv0⟩ := hat
    have hv := same_tup o.same hv0
    cases he
    walk_at "w"
    refine w_ixT hv rfl ?_
    walk_at "w"
    exact fun p h1 => k _ _ (o.lay h1) new_tup
  | loop e l =>
    have hat' := hat
    obtain ⟨x, p, ps, ⟨a, rfl, hv0⟩, _⟩ := hat
    have hv := same_tup o.same hv0
    walk_at "w"
    refine w_ixT hv rfl ?_
    walk_at "w"
    exact ⟨P, H0, d, e, l, _, b, bx, w, r, bx', w', rfl, hat', hp, o, he, hs, k⟩
  | ctch l m kk hh =>
    have hat' := hat
    obtain ⟨p, q, ps, qs, ⟨a, rfl, hv0⟩, _⟩ := hat
    have hv := same_tup o.same hv0
    walk_at "w"
    refine w_ixT hv rfl ?_
    walk_at "w"
    exact ⟨P, H0, d, l, m, kk, hh, _, b, bx, w, r, bx', w', rfl, hat', hp, o, he, hs, k⟩
  | endd l m =>
    have hat' := hat
    obtain ⟨p, q, ps, qs, ⟨a, rfl, hv0⟩, _⟩ := hat
    have hv := same_tup o.same hv0
    walk_at "w"
    refine w_ixT hv rfl ?_
    walk_at "w"
    exact ⟨P, H0, d, l, m, _, b, bx, w, r, bx', w', rfl, hat', hp, o, he, hs, k⟩
  | ife e l m =>
    obtain ⟨x, p, q, ps, qs, ⟨a, rfl, hv0⟩, hx, hp1, hp2, hq1, hq2⟩ := hat
    have hv := same_tup o.same hv0
    obtain ⟨⟨wy, z⟩, w1, h1, hl, hy, hn⟩ := thenT_len he fun v w1 hk => (G.block hk).1
    walk_at "w"
    refine w_ixT hv rfl ?_
    walk_at "w"
    refine w_ixT hv rfl ?_
    walk_at "w"
    refine ⟨P, _, d, e, x, b, bx, w, _, _, rfl, hx.mono o.base, hp.mono o.base, o.lend, h1, Nat.lt_of_le_of_lt hl hs, fun H1 u o1 hu => ?_⟩
    replace o1 := o.same1 o1
    obtain ⟨c, rfl, hu'⟩ := tup_at hu
    walk_at "w"
    refine w_ixT hu' rfl ?_
    walk_at "w"
    refine w_ND (fun c1 => ?_) (fun c1 => ?_) <;> rw [wy_value] at c1
    · replace hy := hy c1
      dsimp only at c1 hy
      subst c1
      have hv1 := same_tup o1.same hv0
      walk_at "w"
      refine w_ixT hu' rfl ?_
      walk_at "w"
      refine w_D (fun c2 => ?_) (fun c2 => ?_) <;> dsimp only at c2
      · rw [if_pos c2] at hy
        walk_at "w"
        refine w_ixT hv1 rfl ?_
        walk_at "w"
        exact ⟨P, H0, d, m, _, b, bx, w1, r, bx', w', rfl, ⟨q, qs, rfl, hq1, hq2⟩, hp, o1, hy, hs, k⟩
      · rw [if_neg c2] at hy
        walk_at "w"
        refine w_ixT hv1 rfl ?_
        walk_at "w"
        exact ⟨P, H0, d, l, _, b, bx, w1, r, bx', w', rfl, ⟨p, ps, rfl, hp1, hp2⟩, hp, o1, hy, hs, k⟩
    · obtain ⟨rfl, rfl, rfl⟩ := hn c1
      walk_at "w"
      exact k _ _ o1 hu
  | give e =>
    obtain ⟨x, ⟨a, rfl, hv0⟩, hx⟩ := hat
    have hv := same_tup o.same hv0
    obtain ⟨⟨wy, z⟩, w1, h1, hl, hy, hn⟩ := thenT_len he fun v w1 hk => by cases hk; exact Le.refl _
    walk_at "w"
    refine w_ixT hv rfl ?_
    walk_at "w"
    refine w_ixT hv rfl ?_
    walk_at "w"
    refine ⟨P, _, d, e, x, b, bx, w, _, _, rfl, hx.mono o.base, hp.mono o.base, o.lend, h1, Nat.lt_of_le_of_lt hl hs, fun H1 u o1 hu => ?_⟩
    replace o1 := o.same1 o1
    obtain ⟨c, rfl, hu'⟩ := tup_at hu
    walk_at "w"
    refine w_ixT hu' rfl ?_
    walk_at "w"
    refine w_ND (fun c1 => ?_) (fun c1 => ?_) <;> rw [wy_value] at c1
    · replace hy := hy c1
      cases hy
      walk_at "w"
      refine w_ixT hu' rfl ?_
      walk_at "w"
      exact fun p h1 => k _ _ (o1.lay h1) new_tup
    · obtain ⟨rfl, rfl, rfl⟩ := hn c1
      walk_at "w"
      exact k _ _ o1 hu
  | raise e =>
    obtain ⟨x, ⟨a, rfl, hv0⟩, hx⟩ := hat
    have hv := same_tup o.same hv0
    obtain ⟨⟨wy, z⟩, w1, h1, hl, hy, hn⟩ := thenT_len he fun v w1 hk => by cases hk; exact Le.refl _
    walk_at "w"
    refine w_ixT hv rfl ?_
    walk_at "w"
    refine w_ixT hv rfl ?_
    walk_at "w"
    refine ⟨P, _, d, e, x, b, bx, w, _, _, rfl, hx.mono o.base, hp.mono o.base, o.lend, h1, Nat.lt_of_le_of_lt hl hs, fun H1 u o1 hu => ?_⟩
    replace o1 := o.same1 o1
    obtain ⟨c, rfl, hu'⟩ := tup_at hu
    walk_at "w"
    refine w_ixT hu' rfl ?_
    walk_at "w"
    refine w_ND (fun c1 => ?_) (fun c1 => ?_) <;> rw [wy_value] at c1
    · replace hy := hy c1
      cases hy
      walk_at "w"
      refine w_ixT hu' rfl ?_
      walk_at "w"
      exact fun p h1 => k _ _ (o1.lay h1) new_tup
    · obtain ⟨rfl, rfl, rfl⟩ := hn c1
      walk_at "w"
      exact k _ _ o1 hu
  | set kk e =>
    obtain ⟨x, ⟨a, rfl, hv0⟩, hx⟩ := hat
    have hv := same_tup o.same hv0
    obtain ⟨⟨wy, z⟩, w1, h1, hl, hy, hn⟩ := thenT_len he fun v w1 hk => by
      split at hk
      · cases hk; exact Le.refl _
      · cases hk
    walk_at "w"
    refine w_ixT hv rfl ?_
    walk_at "w"
    refine w_ixT hv rfl ?_
    walk_at "w"
    refine ⟨P, _, d, e, x, b, bx, w, _, _, rfl, hx.mono o.base, hp.mono o.base, o.lend, h1, Nat.lt_of_le_of_lt hl hs, fun H1 u o1 hu => ?_⟩
    replace o1 := o.same1 o1
    obtain ⟨c, rfl, hu'⟩ := tup_at hu
    walk_at "w"
    refine w_ixT hu' rfl ?_
    walk_at "w"
    refine w_ND (fun c1 => ?_) (fun c1 => ?_) <;> rw [wy_value] at c1
    · replace hy := hy c1
      have hv1 := same_tup o1.same hv0
      split at hy
      · rename_i hk
        cases hy
        have hb := o1.ix 2 rfl
        have o2 := o1.set 2 (.lst ((bx.map V.int).set kk.toNat (.int z))) rfl
        walk_at "w"
        refine w_ixT hu' rfl ?_
        walk_at "w"
        refine w_ixT hv1 rfl ?_
        refine w_setL hb hk.1 (by rw [List.length_map]; exact hk.2) ?_
        walk_at "w"
        rw [← List.map_set] at o2 ⊢
        exact fun p h1 => k _ _ (o2.lay h1) new_tup
      · cases hy
    · obtain ⟨rfl, rfl, rfl⟩ := hn c1
      walk_at "w"
      exact k _ _ o1 hu
  | say e =>
    obtain ⟨x, ⟨a, rfl, hv0⟩, hx⟩ := hat
    have hv := same_tup o.same hv0
    obtain ⟨⟨wy, z⟩, w1, h1, hl, hy, hn⟩ := thenT_len he fun v w1 hk => by
      cases hk
      exact ⟨List.prefix_append _ _, Nat.le_refl _, rfl⟩
    walk_at "w"
    refine w_ixT hv rfl ?_
    walk_at "w"
    refine w_ixT hv rfl ?_
    walk_at "w"
    refine ⟨P, _, d, e, x, b, bx, w, _, _, rfl, hx.mono o.base, hp.mono o.base, o.lend, h1, Nat.lt_of_le_of_lt hl hs, fun H1 u o1 hu => ?_⟩
    replace o1 := o.same1 o1
    obtain ⟨c, rfl, hu'⟩ := tup_at hu
    walk_at "w"
    refine w_ixT hu' rfl ?_
    walk_at "w"
    refine w_ND (fun c1 => ?_) (fun c1 => ?_) <;> rw [wy_value] at c1
    · replace hy := hy c1
      cases hy
      have hw := o1.ix 0 rfl
      have hsd := o1.ix 1 rfl
      have o2 := o1.set 1 (.lst (w1.said.map V.int ++ [.int z])) rfl
      walk_at "w"
      refine w_ixT hu' rfl ?_
      walk_at "w"
      refine w_app hsd (by rw [List.length_map]; exact Nat.lt_of_le_of_lt hl (lim_lt hs)) ?_
      walk_at "w"
      have e1 : w1.said.map V.int ++ [V.int z] = (w1.said ++ [z]).map V.int := by simp
      rw [e1] at o2 ⊢
      exact fun p h1 => k _ _ (o2.lay h1) new_tup
    · obtain ⟨rfl, rfl, rfl⟩ := hn c1
      walk_at "w"
      exact k _ _ o1 hu
end
end U

set_option maxHeartbeats 4000000
namespace U
open PySem PySem.Spec PyProof.Rows L2 Un
local macro_rules | `(tactic| walk_at "w1") => `(tactic| first
  | with_reducible refine w_seq ?_
  | with_reducible refine w_asg ?_
  | with_reducible refine w_op ?_
  | ((with_reducible refine' w_var ?h1 ?_); (case h1 => rfl))
  | with_reducible refine w_c ?_
  | with_reducible refine w_name ?_
  | with_reducible refine w_tFd ?_
  | ((with_reducible refine' w_fld ?h1 ?h2 ?_); (case h1 => assumption); (case h2 => rfl))
  | with_reducible refine w_if ?_
  | with_reducible refine w_test ?_
  | with_reducible refine w_eqS ?_
  | with_reducible refine w_eqI ?_
  | with_reducible refine w_neS ?_
  | with_reducible refine w_neI ?_
  | with_reducible refine w_isN ?_
  | with_reducible refine w_isnN ?_
  | with_reducible refine w_bl ?_
  | with_reducible refine w_ret ?_
  | with_reducible refine w_drop ?_
  | with_reducible refine w_next ?_
  | with_reducible refine w_cons ?_
  | with_reducible refine w_nil ?_
  | with_reducible refine w_call ?_
  | with_reducible refine w_cb ?_
  | with_reducible refine w_meth ?_
  | ((with_reducible refine' w_recv ?h1 ?h2 ?_); (case h1 => assumption); (case h2 => rfl))
  | with_reducible refine w_sFd ?_
  | ((with_reducible refine' w_put ?h1 ?h2 ?_); (case h1 => assumption); (case h2 => exact Nat.le_of_ble_eq_true rfl))
  | with_reducible refine w_add ?_
  | with_reducible refine w_sub ?_
  | with_reducible refine w_lt ?_
  | with_reducible refine w_le ?_
  | with_reducible refine w_gt ?_
  | with_reducible refine w_ge ?_
  | with_reducible refine w_bm ?_
  | with_reducible refine w_bm0 ?_
  | ((with_reducible refine' w_ty ?h1 ?_); (case h1 => assumption))
  | with_reducible refine w_tup ?_
  | with_reducible refine w_lst ?_
  | ((with_reducible refine' w_new ?h1 ?_); (case h1 => exact Nat.le_of_ble_eq_true rfl))
  | with_reducible refine w_gsub ?_
  | with_reducible refine w_make ?_
  | with_reducible refine w_lc ?_
  | with_reducible refine w_iList ?_
  | with_reducible refine w_for ?_
  | with_reducible refine w_yes ?_
  | with_reducible refine w_tSl ?_
  | with_reducible refine w_part ?_
  | with_reducible refine w_nopart ?_
  | with_reducible refine w_i ?_
  | with_reducible refine w_rng1 ?_
  | with_reducible refine w_rng2 ?_
  | with_reducible refine w_isiII ?_
  | with_reducible refine w_isiIB ?_
  | with_reducible refine w_isiSS ?_
  | ((with_reducible refine w_mod ?h1 ?_); (case h1 => decide))
  | ((with_reducible refine w_fdC' ?h1 ?h2 ?_); (case h1 => decide); (case h2 => decide))
  | ((with_reducible refine w_mulR ?h1 ?h2 ?_); (case h1 => decide); (case h2 => decide))
  | ((with_reducible refine w_mulL ?h1 ?h2 ?_); (case h1 => decide); (case h2 => decide))
  | ((with_reducible refine w_pow' ?h1 ?h2 ?h3 ?_); (case h1 => decide); (case h2 => decide); (case h3 => decide))
  | with_reducible refine w_andV ?_
  | with_reducible refine w_orV ?_
  | with_reducible refine w_notV ?_
  | with_reducible refine w_B ?_
  | with_reducible refine w_not ?_
  | with_reducible refine w_and ?_
  | with_reducible refine w_or ?_
  | with_reducible refine w_ifx ?_
  | with_reducible refine w_un ?_
  | ((with_reducible refine w_T ?h1 ?_); (case h1 => with_reducible rfl))
  | ((with_reducible refine w_F ?h1 ?_); (case h1 => with_reducible rfl))
  | ((with_reducible refine w_T ?h1 ?_); (case h1 => decide +kernel))
  | ((with_reducible refine w_F ?h1 ?_); (case h1 => decide +kernel)))
local macro_rules | `(tactic| walk_at "w") => `(tactic| repeat walk_at "w1")

/-! ### programs that are not refused -/
section
variable {K : PySem.W.Frag}
def sp_check_box (K : PySem.W.Frag) : Sp := fun vs H Q _ => ∃ k, vs = [.int k] ∧ 0 ≤ k ∧ k < 4 ∧ Q .non H
theorem p_check_box (vs : List V) (H : Hp) (Q : VK) (E : XK) (h : sp_check_box K vs H Q E) : t_check_box K { nx := fun _ H' => Q .non H', rt := Q } (L2.start n_check_box vs) H := by
  obtain ⟨k, rfl, h0, h1, q⟩ := h
  unfold t_check_box
  walk_at "w"
  refine w_D (fun c => absurd c (by omega)) fun _ => ?_
  walk_at "w"
  refine w_D (fun c => absurd c (by omega)) fun _ => ?_
  walk_at "w"
  exact q
def sp_check_tree (K : PySem.W.Frag) : Nat → Sp
  | 0 => fun _ _ _ _ => False
  | n + 1 => fun vs H Q _ => ∃ t v c d, vs = [v, .int (c : Nat), .int d] ∧ TreeAt K H t v ∧ t.ok c n = true ∧ d + n = 7 ∧ Q .non H
theorem p_check_tree (n : Nat) (vs : List V) (H : Hp) (Q : VK) (E : XK) (h : sp_check_tree K (n + 1) vs H Q E) :
    t_check_tree K (sp_check_box K) (sp_check_tree K n) { nx := fun _ H' => Q .non H', rt := Q } (L2.start n_check_tree vs) H := by
  obtain ⟨t, v, c, d, rfl, ht, hk, hd, q⟩ := h
  cases n with
  | zero => cases t <;> cases hk
  | succ n =>
  unfold t_check_tree
  walk_at "w"
  refine w_D (fun c => absurd c (by omega)) fun _ => ?_
  cases t with
  | num m =>
    obtain ⟨a, rfl, hv⟩ := ht
    walk_at "w"
    refine w_ixT hv rfl ?_
    walk_at "w"
    refine w_ixT hv rfl ?_
    walk_at "w"
    refine w_ixT hv rfl ?_
    walk_at "w"
    exact q
  | box m =>
    obtain ⟨a, rfl, hv⟩ := ht
    have hk := of_decide_eq_true hk
    walk_at "w"
    refine w_ixT hv rfl ?_
    walk_at "w"
    refine w_ixT hv rfl ?_
    walk_at "w"
    exact ⟨m, rfl, hk.1, hk.2, q⟩
  | call f t =>
    obtain ⟨x, ⟨a, rfl, hv⟩, hx⟩ := ht
    have hk : (decide (0 ≤ f ∧ f < c) && t.ok c n) = true := hk
    rw [Bool.and_eq_true] at hk
    obtain ⟨hk1, hk2⟩ := hk
    have hk1 := of_decide_eq_true hk1
    walk_at "w"
    refine w_ixT hv rfl ?_
    walk_at "w"
    refine w_ixT hv rfl ?_
    walk_at "w"
    refine w_ixT hv rfl ?_
    walk_at "w"
    refine w_D (fun c => absurd c (by omega)) fun _ => ?_
    refine w_op ?_
    walk_at "w"
    refine w_ixT hv rfl ?_
    walk_at "w"
    refine w_D (fun c => absurd c (by omega)) fun _ => ?_
    walk_at "w"
    refine w_ixT hv rfl ?_
    walk_at "w"
    exact ⟨t, x, c, d + 1, rfl, hx, hk2, by omega, q⟩
  | bin op s t =>
    obtain ⟨x, y, ⟨a, rfl, hv⟩, hx, hy⟩ := ht
    have hk : (s.ok c n && t.ok c n) = true := hk
    rw [Bool.and_eq_true] at hk
    walk_at "w"
    refine w_ixT hv rfl ?_
    walk_at "w"
    refine w_F (by cases op <;> decide) ?_
    walk_at "w"
    refine w_ixT hv rfl ?_
    walk_at "w"
    refine w_F (by cases op <;> decide) ?_
    walk_at "w"
    refine w_ixT hv rfl ?_
    walk_at "w"
    refine w_T (by cases op <;> decide) ?_
    walk_at "w"
    refine w_ixT hv rfl ?_
    walk_at "w"
    refine ⟨s, x, c, d + 1, rfl, hx, hk.1, by omega, ?_⟩
    walk_at "w"
    refine w_ixT hv rfl ?_
    walk_at "w"
    exact ⟨t, y, c, d + 1, rfl, hy, hk.2, by omega, q⟩
def sp_check_block (K : PySem.W.Frag) : Nat → Sp
  | 0 => fun _ _ _ _ => False
  | n + 1 => fun vs H Q _ => ∃ b v c l d, vs = [v, .int (c : Nat), .int l, .int d] ∧ BlAt K H b v ∧ oks c (decide (0 < l)) n b = true ∧ d + n = 8 ∧ 0 ≤ l ∧ Q .non H
def sp_check_row (K : PySem.W.Frag) (n : Nat) : Sp := fun vs H Q _ => ∃ s v c l d, vs = [v, .int (c : Nat), .int l, .int d] ∧ SmAt K H s v ∧ s.ok c (decide (0 < l)) n = true ∧ d + n = 8 ∧ 0 ≤ l ∧ Q .non H
theorem oks_cons {c : Nat} {l : Bool} {n : Nat} {s : Sm} {b : List Sm} : oks c l n (s :: b) = (s.ok c l n && oks c l n b) := by rw [oks]
theorem smsAt_len {H : Hp} : ∀ {l : List Sm} {ps : List V}, SmsAt K H l ps → ps.length = l.length := by
  intro l
  induction l with
  | nil => intro ps h; rw [show ps = [] from h]; rfl
  | cons s l ih =>
    intro ps h
    obtain ⟨v, vr, rfl, _, h2⟩ := h
    simp [ih h2]
theorem smsAt_get {H : Hp} : ∀ {l : List Sm} {ps : List V}, SmsAt K H l ps → ∀ {i : Nat} {v : V}, ps[i]? = some v → ∃ s, l[i]? = some s ∧ SmAt K H s v := by
  intro l
  induction l with
  | nil => intro ps h; rw [show ps = [] from h]; intro i v e; simp at e
  | cons s l ih =>
    intro ps h i v e
    obtain ⟨v', vr, rfl, h1, h2⟩ := h
    cases i with
    | zero =>
      simp at e
      exact ⟨s, rfl, e ▸ h1⟩
    | succ i =>
      obtain ⟨s', g1, g2⟩ := ih h2 (i := i) (v := v) (by simpa using e)
      exact ⟨s', by simpa using g1, g2⟩
theorem oks_get {c : Nat} {l : Bool} {n : Nat} : ∀ {b : List Sm}, oks c l n b = true → ∀ {i : Nat} {s : Sm}, b[i]? = some s → s.ok c l n = true := by
  intro b
  induction b with
  | nil => intro _ i s e; simp at e
  | cons t b ih =>
    intro h i s e
    rw [oks_cons, Bool.and_eq_true] at h
    cases i with
    | zero =>
      simp at e
      exact e ▸ h.1
    | succ i => exact ih h.2 (i := i) (by simpa using e)
theorem p_check_block (n : Nat) (vs : List V) (H : Hp) (Q : VK) (E : XK) (h : sp_check_block K (n + 1) vs H Q E) :
    t_check_block K (sp_check_row K n) { nx := fun _ H' => Q .non H', rt := Q } (L2.start n_check_block vs) H := by
  obtain ⟨b, v, c, l, d, rfl, ⟨p, ps, rfl, hp1, hp2⟩, hk, hd, hl, q⟩ := h
  unfold t_check_block
  walk_at "w"
  refine w_D (fun c => absurd c (by omega)) fun _ => ?_
  walk_at "w"
  refine w_refL hp1 ?_
  refine for_list (xs := ps) (fun i σ H' => H' = H ∧ ∃ x, σ = [some (.ref p), some (.int c), some (.int l), some (.int d), x]) ⟨rfl, _, rfl⟩ (fun i σ H' _ h => h.1 ▸ hp1) ?_ ?_
  · rintro i x σ H' hx ⟨rfl, y, rfl⟩
    obtain ⟨s, h1, h2⟩ := smsAt_get hp2 hx
    walk_at "w"
    exact ⟨s, x, c, l, d, rfl, h2, oks_get hk h1, hd, hl, rfl, _, rfl⟩
  · rintro σ H' ⟨rfl, y, rfl⟩
    exact q
theorem p_check_row (n : Nat) (vs : List V) (H : Hp) (Q : VK) (E : XK) (h : sp_check_row K n vs H Q E) :
    t_check_row K (sp_check_box K) (sp_check_tree K 7) (sp_check_block K n) { nx := fun _ H' => Q .non H', rt := Q } (L2.start n_check_row vs) H := by
  obtain ⟨s, v, c, l, d, rfl, hat, hk, hd, hl, q⟩ := h
  unfold t_check_row
  cases s with
  | leave =>
    obtain ⟨a, rfl, hv⟩ := hat
    have hk : decide (0 < l) = true := by cases n <;> exact hk
    have hk := of_decide_eq_true hk
    walk_at "w"
    refine w_ixT hv rfl ?_
    walk_at "w"
    refine w_D (fun c => absurd c (by omega)) fun _ => ?_
    walk_at "w"
    exact q
  | next =>
    obtain ⟨a, rfl, hv⟩ := hat
    have hk : decide (0 < l) = true := by cases n <;> exact hk
    have hk := of_decide_eq_true hk
    walk_at "w"
    refine w_ixT hv rfl ?_
    walk_at "w"
    refine w_D (fun c => absurd c (by omega)) fun _ => ?_
    walk_at "w"
    exact q
  | set k e =>
    obtain ⟨x, ⟨a, rfl, hv⟩, hx⟩ := hat
    have hk : (decide (0 ≤ k ∧ k < 4) && e.ok c 6) = true := by cases n <;> exact hk
    rw [Bool.and_eq_true] at hk
    have hk1 := of_decide_eq_true hk.1
    walk_at "w"
    refine w_ixT hv rfl ?_
    walk_at "w"
    refine w_ixT hv rfl ?_
    walk_at "w"
    refine ⟨k, rfl, hk1.1, hk1.2, ?_⟩
    walk_at "w"
    refine w_ixT hv rfl ?_
    walk_at "w"
    exact ⟨e, x, c, 1, rfl, hx, hk.2, rfl, q⟩
  | say e =>
    obtain ⟨x, ⟨a, rfl, hv⟩, hx⟩ := hat
    have hk : e.ok c 6 = true := by cases n <;> exact hk
    walk_at "w"
    refine w_ixT hv rfl ?_
    walk_at "w"
    refine w_ixT hv rfl ?_
    walk_at "w"
    exact ⟨e, x, c, 1, rfl, hx, hk, rfl, q⟩
  | give e =>
    obtain ⟨x, ⟨a, rfl, hv⟩, hx⟩ := hat
    have hk : e.ok c 6 = true := by cases n <;> exact hk
    walk_at "w"
    refine w_ixT hv rfl ?_
    walk_at "w"
    refine w_ixT hv rfl ?_
    walk_at "w"
    exact ⟨e, x, c, 1, rfl, hx, hk, rfl, q⟩
  | raise e =>
    obtain ⟨x, ⟨a, rfl, hv⟩, hx⟩ := hat
    have hk : e.ok c 6 = true := by cases n <;> exact hk
    walk_at "w"
    refine w_ixT hv rfl ?_
    walk_at "w"
    refine w_ixT hv rfl ?_
    walk_at "w"
    exact ⟨e, x, c, 1, rfl, hx, hk, rfl, q⟩
  | ife e l1 l2 =>
    obtain ⟨x, p, r, ps, rs, ⟨a, rfl, hv⟩, hx, hp1, hp2, hq1, hq2⟩ := hat
    cases n with
    | zero => cases hk
    | succ n =>
    have hk : (e.ok c 6 && (oks c (decide (0 < l)) n l1 && oks c (decide (0 < l)) n l2)) = true := hk
    rw [Bool.and_eq_true, Bool.and_eq_true] at hk
    walk_at "w"
    refine w_ixT hv rfl ?_
    walk_at "w"
    refine w_ixT hv rfl ?_
    walk_at "w"
    refine ⟨e, x, c, 1, rfl, hx, hk.1, rfl, ?_⟩
    walk_at "w"
    refine w_ixT hv rfl ?_
    walk_at "w"
    refine ⟨l1, _, c, l, d + 1, rfl, ⟨p, ps, rfl, hp1, hp2⟩, hk.2.1, by omega, hl, ?_⟩
    walk_at "w"
    refine w_ixT hv rfl ?_
    walk_at "w"
    exact ⟨l2, _, c, l, d + 1, rfl, ⟨r, rs, rfl, hq1, hq2⟩, hk.2.2, by omega, hl, q⟩
  | loop e l1 =>
    obtain ⟨x, p, ps, ⟨a, rfl, hv⟩, hx, hp1, hp2⟩ := hat
    cases n with
    | zero => cases hk
    | succ n =>
    have hk : (e.ok c 6 && oks c true n l1) = true := hk
    rw [Bool.and_eq_true] at hk
    walk_at "w"
    refine w_ixT hv rfl ?_
    walk_at "w"
    refine w_ixT hv rfl ?_
    walk_at "w"
    refine ⟨e, x, c, 1, rfl, hx, hk.1, rfl, ?_⟩
    walk_at "w"
    refine w_ixT hv rfl ?_
    walk_at "w"
    refine ⟨l1, _, c, l + 1, d + 1, rfl, ⟨p, ps, rfl, hp1, hp2⟩, ?_, by omega, by omega, q⟩
    rw [decide_eq_true (by omega : 0 < l + 1)]
    exact hk.2
  | ctch l1 m k l2 =>
    obtain ⟨p, r, ps, rs, ⟨a, rfl, hv⟩, hp1, hp2, hq1, hq2⟩ := hat
    cases n with
    | zero => cases hk
    | succ n =>
    have hk : (oks c (decide (0 < l)) n l1 && (decide (0 ≤ k ∧ k < 4) && oks c (decide (0 < l)) n l2)) = true := hk
    rw [Bool.and_eq_true, Bool.and_eq_true] at hk
    have hk1 := of_decide_eq_true hk.2.1
    walk_at "w"
    refine w_ixT hv rfl ?_
    walk_at "w"
    refine w_ixT hv rfl ?_
    walk_at "w"
    refine ⟨l1, _, c, l, d + 1, rfl, ⟨p, ps, rfl, hp1, hp2⟩, hk.1, by omega, hl, ?_⟩
    walk_at "w"
    refine w_ixT hv rfl ?_
    walk_at "w"
    refine ⟨k, rfl, hk1.1, hk1.2, ?_⟩
    walk_at "w"
    refine w_ixT hv rfl ?_
    walk_at "w"
    exact ⟨l2, _, c, l, d + 1, rfl, ⟨r, rs, rfl, hq1, hq2⟩, hk.2.2, by omega, hl, q⟩
  | endd l1 l2 =>
    obtain ⟨p, r, ps, rs, ⟨a, rfl, hv⟩, hp1, hp2, hq1, hq2⟩ := hat
    cases n with
    | zero => cases hk
    | succ n =>
    have hk : (oks c (decide (0 < l)) n l1 && oks c (decide (0 < l)) n l2) = true := hk
    rw [Bool.and_eq_true] at hk
    walk_at "w"
    refine w_ixT hv rfl ?_
    walk_at "w"
    refine w_ixT hv rfl ?_
    walk_at "w"
    refine ⟨l1, _, c, l, d + 1, rfl, ⟨p, ps, rfl, hp1, hp2⟩, hk.1, by omega, hl, ?_⟩
    walk_at "w"
    refine w_ixT hv rfl ?_
    walk_at "w"
    exact ⟨l2, _, c, l, d + 1, rfl, ⟨r, rs, rfl, hq1, hq2⟩, hk.2, by omega, hl, q⟩
def sp_checked (K : PySem.W.Frag) : Sp := fun vs H Q _ => ∃ P p, vs = [.ref p] ∧ ProgAt K H P p ∧ okProg P = true ∧ Q .non H
theorem p_checked (vs : List V) (H : Hp) (Q : VK) (E : XK) (h : sp_checked K vs H Q E) :
    t_checked K (sp_check_block K 8) { nx := fun _ H' => Q .non H', rt := Q } (L2.start n_checked vs) H := by
  obtain ⟨P, p, rfl, ⟨ps, hp1, hp2⟩, hk, q⟩ := h
  unfold okProg at hk
  rw [Bool.and_eq_true] at hk
  have hk1 := of_decide_eq_true hk.1
  have hk2 := List.all_eq_true.mp hk.2
  have hl := hp2.len
  unfold t_checked
  walk_at "w"
  refine w_lenL hp1 ?_
  walk_at "w"
  refine w_D (fun c => absurd c (by omega)) fun _ => ?_
  walk_at "w"
  refine w_refL hp1 ?_
  refine for_list (xs := ps) (fun i σ H' => H' = H ∧ ∃ x, σ = [some (.ref p), x]) ⟨rfl, _, rfl⟩ (fun i σ H' _ h => h.1 ▸ hp1) ?_ ?_
  · rintro i x σ H' hx ⟨rfl, y, rfl⟩
    obtain ⟨b, hb, hd⟩ := hp2.drop i hx
    have hm : b ∈ P := List.mem_of_mem_drop (hd ▸ List.mem_cons_self : b ∈ P.drop i)
    walk_at "w"
    refine w_lenL hp1 ?_
    walk_at "w"
    refine ⟨b, x, P.length, 0, 1, by rw [hl]; rfl, hb, ?_, rfl, Int.le_refl _, rfl, _, rfl⟩
    exact hk2 b hm
  · rintro σ H' ⟨rfl, y, rfl⟩
    exact q
end
end U

set_option maxHeartbeats 4000000
namespace U
open PySem PySem.Spec PyProof.Rows L2 Un
local macro_rules | `(tactic| walk_at "w1") => `(tactic| first
  | with_reducible refine w_seq ?_
  | with_reducible refine w_asg ?_
  | with_reducible refine w_op ?_
  | ((with_reducible refine' w_var ?h1 ?_); (case h1 => rfl))
  | with_reducible refine w_c ?_
  | with_reducible refine w_name ?_
  | with_reducible refine w_tFd ?_
  | ((with_reducible refine' w_fld ?h1 ?h2 ?_); (case h1 => assumption); (case h2 => rfl))
  | with_reducible refine w_if ?_
  | with_reducible refine w_test ?_
  | with_reducible refine w_eqS ?_
  | with_reducible refine w_eqI ?_
  | with_reducible refine w_neS ?_
  | with_reducible refine w_neI ?_
  | with_reducible refine w_isN ?_
  | with_reducible refine w_isnN ?_
  | with_reducible refine w_bl ?_
  | with_reducible refine w_ret ?_
  | with_reducible refine w_drop ?_
  | with_reducible refine w_next ?_
  | with_reducible refine w_cons ?_
  | with_reducible refine w_nil ?_
  | with_reducible refine w_call ?_
  | with_reducible refine w_cb ?_
  | with_reducible refine w_meth ?_
  | ((with_reducible refine' w_recv ?h1 ?h2 ?_); (case h1 => assumption); (case h2 => rfl))
  | with_reducible refine w_sFd ?_
  | ((with_reducible refine' w_put ?h1 ?h2 ?_); (case h1 => assumption); (case h2 => exact Nat.le_of_ble_eq_true rfl))
  | with_reducible refine w_add ?_
  | with_reducible refine w_sub ?_
  | with_reducible refine w_lt ?_
  | with_reducible refine w_le ?_
  | with_reducible refine w_gt ?_
  | with_reducible refine w_ge ?_
  | with_reducible refine w_bm ?_
  | with_reducible refine w_bm0 ?_
  | ((with_reducible refine' w_ty ?h1 ?_); (case h1 => assumption))
  | with_reducible refine w_tup ?_
  | with_reducible refine w_lst ?_
  | ((with_reducible refine' w_new ?h1 ?_); (case h1 => exact Nat.le_of_ble_eq_true rfl))
  | with_reducible refine w_gsub ?_
  | with_reducible refine w_make ?_
  | with_reducible refine w_lc ?_
  | with_reducible refine w_iList ?_
  | with_reducible refine w_for ?_
  | with_reducible refine w_yes ?_
  | with_reducible refine w_tSl ?_
  | with_reducible refine w_part ?_
  | with_reducible refine w_nopart ?_
  | with_reducible refine w_i ?_
  | with_reducible refine w_rng1 ?_
  | with_reducible refine w_rng2 ?_
  | with_reducible refine w_isiII ?_
  | with_reducible refine w_isiIB ?_
  | with_reducible refine w_isiSS ?_
  | ((with_reducible refine w_mod ?h1 ?_); (case h1 => decide))
  | ((with_reducible refine w_fdC' ?h1 ?h2 ?_); (case h1 => decide); (case h2 => decide))
  | ((with_reducible refine w_mulR ?h1 ?h2 ?_); (case h1 => decide); (case h2 => decide))
  | ((with_reducible refine w_mulL ?h1 ?h2 ?_); (case h1 => decide); (case h2 => decide))
  | ((with_reducible refine w_pow' ?h1 ?h2 ?h3 ?_); (case h1 => decide); (case h2 => decide); (case h3 => decide))
  | with_reducible refine w_andV ?_
  | with_reducible refine w_orV ?_
  | with_reducible refine w_notV ?_
  | with_reducible refine w_B ?_
  | with_reducible refine w_not ?_
  | with_reducible refine w_and ?_
  | with_reducible refine w_or ?_
  | with_reducible refine w_ifx ?_
  | with_reducible refine w_un ?_
  | ((with_reducible refine w_T ?h1 ?_); (case h1 => with_reducible rfl))
  | ((with_reducible refine w_F ?h1 ?_); (case h1 => with_reducible rfl))
  | ((with_reducible refine w_T ?h1 ?_); (case h1 => decide +kernel))
  | ((with_reducible refine w_F ?h1 ?_); (case h1 => decide +kernel)))
local macro_rules | `(tactic| walk_at "w") => `(tactic| repeat walk_at "w1")

section
variable {K : PySem.W.Frag}
def sp_World___init__ (K : PySem.W.Frag) : Sp := fun vs H Q _ => ∃ H0 a dx pa t, vs = [.ref a, .ref pa, .int t] ∧ Own H0 H [(a, .ins (He.ga K "World") dx [])] ∧
  ∀ s H', Own H0 H' [(a, .ins (He.ga K "World") dx (wdF pa s t 0)), (s, .lst [])] → Q .non H'
theorem p_World___init__ (vs : List V) (H : Hp) (Q : VK) (E : XK) (h : sp_World___init__ K vs H Q E) : t_World___init__ K { nx := fun _ H' => Q .non H', rt := Q } (L2.start n_World___init__ vs) H := by
  obtain ⟨H0, a, dx, pa, t, rfl, w, k⟩ := h
  have ha := w.ix 0 rfl
  unfold t_World___init__
  walk_at "w"
  have w1 := w.set 0 (.ins (He.ga K "World") dx [("program", .ref pa)]) rfl
  refine fun s hs => ?_
  have w2 := w1.take (o := .lst []) hs
  have ha2 := w2.ix 1 rfl
  walk_at "w"
  have w3 := w2.set 1 (.ins (He.ga K "World") dx [("program", .ref pa), ("said", .ref s)]) rfl
  have ha3 := w3.ix 1 rfl
  walk_at "w"
  have w4 := w3.set 1 (.ins (He.ga K "World") dx [("program", .ref pa), ("said", .ref s), ("turns", .int t)]) rfl
  have ha4 := w4.ix 1 rfl
  walk_at "w"
  have w5 := w4.set 1 (.ins (He.ga K "World") dx (wdF pa s t 0)) rfl
  exact k s _ (w5.perm (List.Perm.swap _ _ _))
def wordT (y : Wy) : Str := if y = .value then "answer" else y.str
def sp_told (K : PySem.W.Frag) (n : Nat) : Sp := fun vs H Q _ => ∃ P p v t r w', vs = [.ref p, .int v, .int (t : Nat)] ∧ ProgAt K H P p ∧ okProg P = true ∧ (ev P n).enter 0 v ⟨[], t, 0⟩ = some (r, w') ∧ w'.said.length < LIM ∧
  ∀ H' s c, Own H H' [(s, .lst (w'.said.map V.int))] → H' c = some (.tup [.ref s, .str (wordT r.1), .int r.2]) → Q (.ref c) H'
theorem p_told (n : Nat) (vs : List V) (H : Hp) (Q : VK) (E : XK) (h : sp_told K n vs H Q E) : t_told K (sp_checked K) (sp_World___init__ K) (sp_enter K n) { nx := fun _ H' => Q .non H', rt := Q } (L2.start n_told vs) H := by
  obtain ⟨P, p, v, t, ⟨wy, z⟩, w', rfl, hp, hok, he, hs, k⟩ := h
  unfold t_told
  walk_at "w"
  refine ⟨P, p, rfl, hp, hok, ?_⟩
  walk_at "w"
  refine fun a dx na ndx hne => ?_
  have w1 := ((Own.nil (Same.refl H)).lay (o := .own a) ndx).take (a := a) (o := .ins (He.ga K "World") dx []) (by rw [upd_ne (Ne.symm hne)]; exact na)
  refine ⟨H, a, dx, p, t, rfl, w1, fun s H1 w2 => ?_⟩
  refine ⟨rfl, ?_⟩
  walk_at "w"
  refine ⟨P, H, ⟨a, dx, s, p⟩, 0, v, ⟨[], t, 0⟩, _, _, rfl, hp, w2, he, hs, fun H2 u w3 hu => ?_⟩
  obtain ⟨c, rfl, hu'⟩ := tup_at hu
  walk_at "w"
  refine w_ixT hu' rfl ?_
  walk_at "w"
  have h3 := w3.ix 0 rfl
  have w4 : Own H H2 [sdC ⟨a, dx, s, p⟩ w'] := w3.slist (List.sublist_cons_self ..)
  refine w_D (fun c1 => ?_) (fun c1 => ?_) <;> rw [wy_value] at c1
  · dsimp only at c1
    subst c1
    walk_at "w"
    refine w_ixT hu' rfl ?_
    walk_at "w"
    exact fun q hq => k _ s _ (w4.lay hq) upd_same
  · walk_at "w"
    refine w_ixT hu' rfl ?_
    walk_at "w"
    refine w_ixT hu' rfl ?_
    walk_at "w"
    refine fun q hq => k _ s _ (w4.lay hq) ?_
    have e : wordT wy = wy.str := if_neg c1
    rw [show wordT ((wy, z) : Res).1 = wy.str from e]
    exact upd_same
end
end U

/-! nothing is told at level 0; a promise that never holds -/
namespace U
open PySem PySem.Spec PyProof.Rows L2 Un
section
variable {K : PySem.W.Frag}
theorem no_tree : ∀ vs H Q E, ¬ sp_tree K 0 vs H Q E := fun _ _ _ _ ⟨_, _, _, _, _, _, _, _, _, _, _, _, _, _, he, _⟩ => by cases he
theorem no_call : ∀ vs H Q E, ¬ sp_call K 0 vs H Q E := fun _ _ _ _ ⟨_, _, _, _, _, _, _, _, _, _, _, he, _⟩ => by cases he
theorem no_enter : ∀ vs H Q E, ¬ sp_enter K 0 vs H Q E := fun _ _ _ _ ⟨_, _, _, _, _, _, _, _, _, _, _, he, _⟩ => by cases he
theorem no_block : ∀ vs H Q E, ¬ sp_block K 0 vs H Q E := fun _ _ _ _ ⟨_, _, _, _, _, _, _, _, _, _, _, _, _, _, _, he, _⟩ => by cases he
theorem no_row : ∀ vs H Q E, ¬ sp_row K 0 vs H Q E := fun _ _ _ _ ⟨_, _, _, _, _, _, _, _, _, _, _, _, _, _, _, he, _⟩ => by cases he
theorem no_loop : ∀ vs H Q E, ¬ sp_loop K 0 vs H Q E := fun _ _ _ _ ⟨_, _, _, _, _, _, _, _, _, _, _, _, _, _, _, _, he, _⟩ => by cases he
theorem no_ctch : ∀ vs H Q E, ¬ sp_ctch K 0 vs H Q E := fun _ _ _ _ ⟨_, _, _, _, _, _, _, _, _, _, _, _, _, _, _, _, _, _, he, _⟩ => by cases he
theorem no_endd : ∀ vs H Q E, ¬ sp_endd K 0 vs H Q E := fun _ _ _ _ ⟨_, _, _, _, _, _, _, _, _, _, _, _, _, _, _, _, he, _⟩ => by cases he
end
theorem FnR.vac {Z : Zt} {CX : CXT} {n : Nat} {f : Addr} {fd : FuncData} {ps : List Str} {sp : Sp} (no : ∀ vs H Q E, ¬ sp vs H Q E) : FnR Z CX n f fd ps sp :=
  ⟨fun vs H Q E h => absurd h (no vs H Q E), fun _ _ _ _ _ _ _ _ _ _ _ _ _ h => absurd h (no _ _ _ _)⟩
end U

set_option maxHeartbeats 4000000
namespace U
open PySem PySem.Spec PyProof.Rows L2 Un
/-! ### data that is built: it stands in the heap without the owned cells -/
section
variable {K : PySem.W.Frag} {H0 H : Hp} {L : List Cell} {a p : Addr} {o o' : HO} {c : Cell}
theorem same_less : Same (less H L) H := fun b u e => by
  by_cases h : b ∈ ads L
  · rw [less_on h] at e; cases e
  · rw [less_off h] at e; exact e
theorem less_put (i : Nat) (h : L[i]? = some (a, o)) : less (upd H a o') (L.set i (a, o')) = less H L := by
  have e : ads (L.set i (a, o')) = ads L := by
    unfold ads
    rw [List.map_set]
    refine List.ext_getElem? fun j => ?_
    rw [List.getElem?_set]
    split
    · rename_i hij
      subst hij
      split
      · rw [List.getElem?_map, h]; rfl
      · rename_i hl
        have := (List.getElem?_eq_some_iff.mp h).1
        exact absurd (by rw [List.length_map]; exact this) hl
    · rfl
  have hm : a ∈ ads L := mem_ads (List.mem_of_getElem? h)
  funext b
  unfold less
  rw [e]
  by_cases hb : b ∈ ads L
  · rw [if_pos hb, if_pos hb]
  · rw [if_neg hb, if_neg hb, upd_ne]
    rintro rfl
    exact hb hm
theorem less_take (h : H a = none) : less (upd H a o) ((a, o) :: L) = less H L := by
  funext b
  unfold less
  have e0 : ads ((a, o) :: L) = a :: ads L := rfl
  rw [e0]
  by_cases hb : b ∈ ads L
  · rw [if_pos hb, if_pos (List.mem_cons_of_mem _ hb)]
  · rw [if_neg hb]
    by_cases e : b = a
    · subst e
      rw [if_pos (List.mem_cons_self ..), h]
    · rw [if_neg (fun hm => (List.mem_cons.mp hm).elim e hb), upd_ne e]
theorem Own.off (w : Own H0 H L) (h : H p = none) : p ∉ ads L := fun hm => by
  obtain ⟨q, hq, e⟩ := List.mem_map.mp hm
  have := w.at_ q hq
  rw [e, h] at this
  cases this
theorem less_lay (h : H p = none) : Same (less H L) (less (upd H p o) L) := fun b u e => by
  by_cases hb : b ∈ ads L
  · rw [less_on hb] at e; cases e
  · rw [less_off hb] at e ⊢
    exact same_lay h b u e
theorem less_new (w : Own H0 H L) (h : H p = none) : less (upd H p o) L p = some o := by
  rw [less_off (w.off h)]
  exact upd_same
theorem less_give : Same (less H (c :: L)) (less H L) := fun b u e => by
  by_cases hb : b ∈ ads (c :: L)
  · rw [less_on hb] at e; cases e
  · rw [less_off hb] at e
    rw [less_off fun hm => hb (List.mem_cons_of_mem _ hm)]
    exact e
theorem less_given (w : Own H0 H (c :: L)) : less H L c.1 = some c.2 := by
  have nd := w.nd
  have q := (List.nodup_cons.mp nd).1
  rw [less_off q]
  exact w.at_ c (List.mem_cons_self ..)
theorem lessTup (w : Own H0 H L) (h : H p = none) {xs : List V} : IsTup K (less (upd H p (.tup xs)) L) (.ref p) xs := ⟨p, rfl, SqT.of (less_new w h)⟩
theorem less_perm {L' : List Cell} (h : L.Perm L') : less H L = less H L' := by
  funext b
  unfold less
  have e : (b ∈ ads L) ↔ (b ∈ ads L') := (h.map _).mem_iff
  by_cases hb : b ∈ ads L
  · rw [if_pos hb, if_pos (e.mp hb)]
  · rw [if_neg hb, if_neg fun z => hb (e.mpr z)]
theorem smsAt_app {H : Hp} : ∀ {b b' : List Sm} {vs vs' : List V}, SmsAt K H b vs → SmsAt K H b' vs' → SmsAt K H (b ++ b') (vs ++ vs')
  | [], _, _, _, h, h' => by
    rw [show _ = [] from h]
    exact h'
  | s :: b, _, _, _, h, h' => by
    obtain ⟨v, vr, e, h1, h2⟩ := h
    rw [e]
    exact ⟨v, _, rfl, h1, smsAt_app h2 h'⟩
theorem smsAt_snoc {H : Hp} {b : List Sm} {vs : List V} {s : Sm} {v : V} (h : SmsAt K H b vs) (h' : SmAt K H s v) : SmsAt K H (b ++ [s]) (vs ++ [v]) := smsAt_app h ⟨v, [], rfl, h', rfl⟩
end
end U

set_option maxHeartbeats 4000000
namespace U
open PySem PySem.Spec PyProof.Rows L2 Un
/-! ### a list below the first cell is given up; lists as data -/
section
variable {K : PySem.W.Frag} {H0 H H' : Hp} {L : List Cell} {c d : Cell}
theorem Own.swp (w : Own H0 H (c :: d :: L)) : Own H0 H (d :: c :: L) := w.perm (List.Perm.swap _ _ _)
theorem less_swp : less H (c :: d :: L) = less H (d :: c :: L) := less_perm (List.Perm.swap _ _ _)
theorem Own.give1 (w : Own H0 H (c :: d :: L)) : Own H0 H (c :: L) := w.del 1
theorem less_give1 : Same (less H (c :: d :: L)) (less H (c :: L)) := by
  rw [less_swp]
  exact less_give
theorem less_given1 (w : Own H0 H (c :: d :: L)) : less H (c :: L) d.1 = some d.2 := less_given w.swp
def LsAt (K : PySem.W.Frag) (H : Hp) (a : Addr) (xs : List V) : Prop := SqL K H a xs
theorem LsAt.mono {a : Addr} {xs : List V} (h : LsAt K H a xs) (s : Same H H') : LsAt K H' a xs := s.seq h
theorem LsAt.of {a : Addr} {xs : List V} (h : H a = some (.lst xs)) : LsAt K H a xs := SqL.of h
theorem LsAt.seq {a : Addr} {xs : List V} (h : LsAt K H a xs) : SqL K H a xs := h
def RawAt (H : Hp) (a : Addr) (o : HO) : Prop := H a = some o
theorem RawAt.mono {a : Addr} {o : HO} (h : RawAt H a o) (s : Same H H') : RawAt H' a o := s a o h
theorem RawAt.up {a : Addr} {o : HO} (h : RawAt (less H L) a o) : H a = some o := same_less a o h
theorem IsTup.go {v : V} {xs : List V} (h : IsTup K H v xs) (s : Same H H') : IsTup K H' v xs := h.mono s
end
end U

set_option maxHeartbeats 4000000
namespace U
open PySem PySem.Spec PyProof.Rows L2
/-! ### dicts whose keys are texts -/
theorem Rm.du {n : Nat} {A : Around} (r : Rm n A) : A.units + 1 < cLine := by
  have := r.hu
  omega
section
variable {H : Hp} {Q : VK} {a : Addr} {kvs : List (Key × V)} {x : Str} {v : V} {σ : L2.St} {td ty : TE}
theorem w_tDGet (h : td σ H fun x H1 => ty σ H1 fun y H2 => ∃ a v, x = .ref a ∧ DGet H2 a y (some v) ∧ Q v H2) : tDGet td ty σ H Q := h
theorem w_dget {P : V → Prop} (h : H a = some (.dK kvs)) (l : valV kvs (.inr x) = some v) (q : P v) : ∃ a' v', V.ref a = .ref a' ∧ DGet H a' (.str x) (some v') ∧ P v' :=
  ⟨a, v, rfl, by rw [← l]; exact DGet.k (k := .inr x) h, q⟩
theorem w_dset {Q : Hp → Prop} (h : H a = some (.dK kvs)) (n : kvs.length < 1000) (q : Q (upd H a (.dK (putK kvs (.inr x) v)))) : rSetD (.ref a) (.str x) v H Q :=
  ⟨a, _, rfl, DPut.k (k := .inr x) h (Nat.lt_of_lt_of_le n (by rw [sizeLine_eq]; decide)), q⟩
end
end U

namespace U
open PySem PySem.Spec PyProof.Rows L2
/-! readings of the defs -/
def t_l_is (K : PySem.W.Frag) (sp_l_whole : Sp) : TS :=
  (tSeq (tIfS (tOr (tNot (tB (tCB (rIsi K) (tCons (tVar 0) (tCons (tC (.ty "tuple")) tNil))))) (tOr (tTest (tOp rNe (tCB (rLenQ K) (tCons (tVar 0) tNil)) (tC (.int 3)))) (tNot (tB (tCB (rIsi K) (tCons (tOp (rIxT K) (tVar 0) (tC (.int 0))) (tCons (tC (.ty "list")) tNil))))))) (tRet (tC (.bl false))) tNext)
    (tSeq (tIfS (tOr (tTest (tOp rGtI (tCB (rLenQ K) (tCons (tLc (iList K (tOp (rIxT K) (tVar 0) (tC (.int 0)))) (gName 1) (tNot (tB (tCall sp_l_whole [] E0 (tCons (tVar 1) tNil)))) (tVar 1) [1]) tNil)) (tC (.int 0)))) (tNot (tB (tCall sp_l_whole [] E0 (tCons (tOp (rIxT K) (tVar 0) (tC (.int 2))) tNil))))) (tRet (tC (.bl false))) tNext)
    (tRet (tAndV (tCB (rIsi K) (tCons (tOp (rIxT K) (tVar 0) (tC (.int 1))) (tCons (tC (.ty "str")) tNil))) (tOrV (tOp (rIn K false) (tOp (rIxT K) (tVar 0) (tC (.int 1))) (tTup (tCons (tC (.str "answer")) (tCons (tC (.str "fault")) tNil)))) (tAndV (tOp rEq (tOp (rIxT K) (tVar 0) (tC (.int 1))) (tC (.str "tired"))) (tOp rEq (tOp (rIxT K) (tVar 0) (tC (.int 2))) (tC (.int 0)))))))))
def n_l_is : List Str := ["_law_found", "_law_x"]
def t_l_value (K : PySem.W.Frag) (sp_l_value sp_l_call : Sp) : TS :=
  (tSeq (tIfS (tTest (tOp rEq (tOp (rIxT K) (tVar 0) (tC (.int 0))) (tC (.str "num")))) (tRet (tTup (tCons (tC (.str "value")) (tCons (tOp (rIxT K) (tVar 0) (tC (.int 1))) tNil)))) tNext)
    (tSeq (tIfS (tTest (tOp rEq (tOp (rIxT K) (tVar 0) (tC (.int 0))) (tC (.str "box")))) (tRet (tTup (tCons (tC (.str "value")) (tCons (tOp (rIxL K) (tVar 1) (tOp (rIxT K) (tVar 0) (tC (.int 1)))) tNil)))) tNext)
    (tSeq (tAsg (tLst tNil) (gName 3))
    (tSeq (tFor (iTup K (tSl (rSlT K) (tVar 0) (tPart (tC (.int 1))) tNoPart)) (gName 4) (tIfS (tB (tCB (rIsi K) (tCons (tVar 4) (tCons (tC (.ty "tuple")) tNil)))) (tSeq (tAsg (tCall sp_l_value [] E0 (tCons (tVar 4) (tCons (tVar 1) (tCons (tVar 2) tNil)))) (gName 5))
    (tSeq (tIfS (tTest (tOp rNe (tOp (rIxT K) (tVar 5) (tC (.int 0))) (tC (.str "value")))) (tRet (tVar 5)) tNext)
    (tDrop (tBM K "list" rAppend (tVar 3) (tCons (tOp (rIxT K) (tVar 5) (tC (.int 1))) tNil))))) tNext))
    (tSeq (tIfS (tTest (tOp rEq (tOp (rIxT K) (tVar 0) (tC (.int 0))) (tC (.str "call")))) (tRet (tCall sp_l_call [] E0 (tCons (tOp (rIxT K) (tVar 0) (tC (.int 1))) (tCons (tOp (rIxL K) (tVar 3) (tC (.int 0))) (tCons (tVar 2) tNil))))) tNext)
    (tSeq (tIfS (tAnd (tTest (tOp rEq (tOp (rIxT K) (tVar 0) (tC (.int 0))) (tC (.str "share")))) (tTest (tOp rEq (tOp (rIxL K) (tVar 3) (tC (.int 1))) (tC (.int 0))))) (tRet (tTup (tCons (tC (.str "fault")) (tCons (tC (.int 101)) tNil)))) tNext)
    (tSeq (tIfS (tTest (tOp rEq (tOp (rIxT K) (tVar 0) (tC (.int 0))) (tC (.str "share")))) (tRet (tTup (tCons (tC (.str "value")) (tCons (tOp rFd (tOp (rIxL K) (tVar 3) (tC (.int 0))) (tOp (rIxL K) (tVar 3) (tC (.int 1)))) tNil)))) tNext)
    (tSeq (tIfS (tTest (tOp rEq (tOp (rIxT K) (tVar 0) (tC (.int 0))) (tC (.str "less")))) (tRet (tTup (tCons (tC (.str "value")) (tCons (tCB rIntB (tCons (tOp rLtI (tOp (rIxL K) (tVar 3) (tC (.int 0))) (tOp (rIxL K) (tVar 3) (tC (.int 1)))) tNil)) tNil)))) tNext)
    (tRet (tTup (tCons (tC (.str "value")) (tCons (tOp rAddI (tOp (rIxL K) (tVar 3) (tC (.int 0))) (tOp rMulI (tOp (rIxL K) (tVar 3) (tC (.int 1))) (tOp rSubI (tC (.int 1)) (tOp rMulI (tC (.int 2)) (tCB rIntB (tCons (tOp rEq (tOp (rIxT K) (tVar 0) (tC (.int 0))) (tC (.str "sub"))) tNil)))))) tNil))))))))))))
def n_l_value : List Str := ["_law_tree_here", "_law_boxes", "_law_world", "_law_parts", "_law_part", "_law_found"]
def t_l_call (K : PySem.W.Frag) (sp_l_function : Sp) : TS :=
  (tSeq (tIfS (tTest (tOp rEq (tDGet (tVar 2) (tC (.str "turns"))) (tC (.int 0)))) (tRet (tTup (tCons (tC (.str "tired")) (tCons (tC (.int 0)) tNil)))) tNext)
    (tSeq (tAsg (tOp rSubI (tDGet (tVar 2) (tC (.str "turns"))) (tC (.int 1))) (gSub (tVar 2) (tC (.str "turns")) rSetD))
    (tSeq (tIfS (tTest (tOp rEq (tDGet (tVar 2) (tC (.str "deep"))) (tC (.int 8)))) (tRet (tTup (tCons (tC (.str "fault")) (tCons (tC (.int 102)) tNil)))) tNext)
    (tRet (tCall sp_l_function [] E0 (tCons (tVar 0) (tCons (tVar 1) (tCons (tVar 2) tNil))))))))
def n_l_call : List Str := ["_law_number_here", "_law_given", "_law_world"]
def t_l_function (K : PySem.W.Frag) (sp_l_done : Sp) : TS :=
  (tSeq (tAsg (tOp rAddI (tDGet (tVar 2) (tC (.str "deep"))) (tC (.int 1))) (gSub (tVar 2) (tC (.str "deep")) rSetD))
    (tSeq (tAsg (tCall sp_l_done [] E0 (tCons (tOp (rIxL K) (tDGet (tVar 2) (tC (.str "program"))) (tVar 0)) (tCons (tLst (tCons (tVar 1) (tCons (tC (.int 0)) (tCons (tC (.int 0)) (tCons (tC (.int 0)) tNil))))) (tCons (tVar 2) tNil)))) (gName 3))
    (tSeq (tAsg (tOp rSubI (tDGet (tVar 2) (tC (.str "deep"))) (tC (.int 1))) (gSub (tVar 2) (tC (.str "deep")) rSetD))
    (tSeq (tIfS (tTest (tOp rIsNo (tVar 3) (tC .non))) (tRet (tTup (tCons (tC (.str "value")) (tCons (tC (.int 0)) tNil)))) tNext)
    (tRet (tIf (tTest (tOp rEq (tOp (rIxT K) (tVar 3) (tC (.int 0))) (tC (.str "give")))) (tTup (tCons (tC (.str "value")) (tCons (tOp (rIxT K) (tVar 3) (tC (.int 1))) tNil))) (tVar 3)))))))
def n_l_function : List Str := ["_law_number_here", "_law_given", "_law_world", "_law_found"]
def t_l_done (K : PySem.W.Frag) (sp_l_row_done : Sp) : TS :=
  (tSeq (tFor (iList K (tVar 0)) (gName 3) (tSeq (tAsg (tCall sp_l_row_done [] E0 (tCons (tVar 3) (tCons (tVar 1) (tCons (tVar 2) tNil)))) (gName 4))
    (tIfS (tTest (tOp rIsNotNo (tVar 4) (tC .non))) (tRet (tVar 4)) tNext)))
    (tRet (tC .non)))
def n_l_done : List Str := ["_law_block_here", "_law_boxes", "_law_world", "_law_row_here", "_law_found"]
def t_l_row_done (K : PySem.W.Frag) (sp_l_done sp_l_looped sp_l_value : Sp) : TS :=
  (tSeq (tIfS (tOr (tTest (tOp rEq (tOp (rIxT K) (tVar 0) (tC (.int 0))) (tC (.str "leave")))) (tTest (tOp rEq (tOp (rIxT K) (tVar 0) (tC (.int 0))) (tC (.str "next"))))) (tRet (tVar 0)) tNext)
    (tSeq (tIfS (tTest (tOp rEq (tOp (rIxT K) (tVar 0) (tC (.int 0))) (tC (.str "end")))) (tSeq (tAsg (tCall sp_l_done [] E0 (tCons (tOp (rIxT K) (tVar 0) (tC (.int 1))) (tCons (tVar 1) (tCons (tVar 2) tNil)))) (gName 3))
    (tSeq (tAsg (tC .non) (gName 4))
    (tSeq (tIfS (tOr (tTest (tOp rIsNo (tVar 3) (tC .non))) (tTest (tOp rNe (tOp (rIxT K) (tVar 3) (tC (.int 0))) (tC (.str "tired"))))) (tAsg (tCall sp_l_done [] E0 (tCons (tOp (rIxT K) (tVar 0) (tC (.int 2))) (tCons (tVar 1) (tCons (tVar 2) tNil)))) (gName 4)) tNext)
    (tRet (tIf (tTest (tOp rIsNo (tVar 4) (tC .non))) (tVar 3) (tVar 4)))))) tNext)
    (tSeq (tIfS (tTest (tOp rEq (tOp (rIxT K) (tVar 0) (tC (.int 0))) (tC (.str "catch")))) (tSeq (tAsg (tCall sp_l_done [] E0 (tCons (tOp (rIxT K) (tVar 0) (tC (.int 1))) (tCons (tVar 1) (tCons (tVar 2) tNil)))) (gName 3))
    (tSeq (tIfS (tOr (tTest (tOp rIsNo (tVar 3) (tC .non))) (tOr (tTest (tOp rNe (tOp (rIxT K) (tVar 3) (tC (.int 0))) (tC (.str "fault")))) (tAnd (tTest (tOp rIsNotNo (tOp (rIxT K) (tVar 0) (tC (.int 2))) (tC .non))) (tTest (tOp rNe (tOp (rIxT K) (tVar 0) (tC (.int 2))) (tOp (rIxT K) (tVar 3) (tC (.int 1)))))))) (tRet (tVar 3)) tNext)
    (tSeq (tAsg (tOp (rIxT K) (tVar 3) (tC (.int 1))) (gSub (tVar 1) (tOp (rIxT K) (tVar 0) (tC (.int 3))) rSetL))
    (tRet (tCall sp_l_done [] E0 (tCons (tOp (rIxT K) (tVar 0) (tC (.int 4))) (tCons (tVar 1) (tCons (tVar 2) tNil)))))))) tNext)
    (tSeq (tIfS (tTest (tOp rEq (tOp (rIxT K) (tVar 0) (tC (.int 0))) (tC (.str "loop")))) (tRet (tCall sp_l_looped [] E0 (tCons (tVar 0) (tCons (tVar 1) (tCons (tVar 2) tNil))))) tNext)
    (tSeq (tAsg (tCall sp_l_value [] E0 (tCons (tOp (rIxT K) (tVar 0) (tOp rAddI (tC (.int 1)) (tCB rIntB (tCons (tOp rEq (tOp (rIxT K) (tVar 0) (tC (.int 0))) (tC (.str "set"))) tNil)))) (tCons (tVar 1) (tCons (tVar 2) tNil)))) (gName 3))
    (tSeq (tIfS (tTest (tOp rNe (tOp (rIxT K) (tVar 3) (tC (.int 0))) (tC (.str "value")))) (tRet (tVar 3)) tNext)
    (tSeq (tIfS (tTest (tOp rEq (tOp (rIxT K) (tVar 0) (tC (.int 0))) (tC (.str "if")))) (tRet (tCall sp_l_done [] E0 (tCons (tOp (rIxT K) (tVar 0) (tOp rAddI (tC (.int 2)) (tCB rIntB (tCons (tOp rEq (tOp (rIxT K) (tVar 3) (tC (.int 1))) (tC (.int 0))) tNil)))) (tCons (tVar 1) (tCons (tVar 2) tNil))))) tNext)
    (tSeq (tIfS (tTest (tOp rEq (tOp (rIxT K) (tVar 0) (tC (.int 0))) (tC (.str "give")))) (tRet (tTup (tCons (tC (.str "give")) (tCons (tOp (rIxT K) (tVar 3) (tC (.int 1))) tNil)))) tNext)
    (tSeq (tIfS (tTest (tOp rEq (tOp (rIxT K) (tVar 0) (tC (.int 0))) (tC (.str "raise")))) (tRet (tTup (tCons (tC (.str "fault")) (tCons (tOp (rIxT K) (tVar 3) (tC (.int 1))) tNil)))) tNext)
    (tSeq (tIfS (tTest (tOp rEq (tOp (rIxT K) (tVar 0) (tC (.int 0))) (tC (.str "set")))) (tAsg (tOp (rIxT K) (tVar 3) (tC (.int 1))) (gSub (tVar 1) (tOp (rIxT K) (tVar 0) (tC (.int 1))) rSetL)) (tDrop (tBM K "list" rAppend (tDGet (tVar 2) (tC (.str "said"))) (tCons (tOp (rIxT K) (tVar 3) (tC (.int 1))) tNil))))
    (tRet (tC .non))))))))))))
def n_l_row_done : List Str := ["_law_row_here", "_law_boxes", "_law_world", "_law_found", "_law_last"]
def t_l_looped (K : PySem.W.Frag) (sp_l_value sp_l_done : Sp) : TS :=
  (tSeq (tWhile (tTest (tOp rGtI (tDGet (tVar 2) (tC (.str "turns"))) (tC (.int 0)))) (tSeq (tAsg (tOp rSubI (tDGet (tVar 2) (tC (.str "turns"))) (tC (.int 1))) (gSub (tVar 2) (tC (.str "turns")) rSetD))
    (tSeq (tAsg (tCall sp_l_value [] E0 (tCons (tOp (rIxT K) (tVar 0) (tC (.int 1))) (tCons (tVar 1) (tCons (tVar 2) tNil)))) (gName 3))
    (tSeq (tIfS (tTest (tOp rNe (tOp (rIxT K) (tVar 3) (tC (.int 0))) (tC (.str "value")))) (tRet (tVar 3)) tNext)
    (tSeq (tIfS (tTest (tOp rEq (tOp (rIxT K) (tVar 3) (tC (.int 1))) (tC (.int 0)))) (tRet (tC .non)) tNext)
    (tSeq (tAsg (tCall sp_l_done [] E0 (tCons (tOp (rIxT K) (tVar 0) (tC (.int 2))) (tCons (tVar 1) (tCons (tVar 2) tNil)))) (gName 3))
    (tSeq (tIfS (tAnd (tTest (tOp rIsNotNo (tVar 3) (tC .non))) (tTest (tOp rEq (tOp (rIxT K) (tVar 3) (tC (.int 0))) (tC (.str "leave"))))) (tRet (tC .non)) tNext)
    (tIfS (tAnd (tTest (tOp rIsNotNo (tVar 3) (tC .non))) (tTest (tOp rNe (tOp (rIxT K) (tVar 3) (tC (.int 0))) (tC (.str "next"))))) (tRet (tVar 3)) tNext))))))))
    (tRet (tTup (tCons (tC (.str "tired")) (tCons (tC (.int 0)) tNil)))))
def n_l_looped : List Str := ["_law_row_here", "_law_boxes", "_law_world", "_law_found"]
def t_law (K : PySem.W.Frag) (sp_l_next sp_l_number sp_l_drawn sp_l_function sp_told sp_l_is : Sp) : TS :=
  (tSeq (tAsg (tLst (tCons (tC (.int 0)) tNil)) (gName 1))
    (tSeq (tAsg (tOp rModP (tCall sp_l_next [] E0 (tCons (tVar 0) (tCons (tVar 1) tNil))) (tC (.int 60))) (gName 2))
    (tSeq (tAsg (tCall sp_l_number [] E0 (tCons (tCall sp_l_next [] E0 (tCons (tVar 0) (tCons (tVar 1) tNil))) tNil)) (gName 3))
    (tSeq (tAsg (tOp rModP (tOp rMulI (tCall sp_l_next [] E0 (tCons (tVar 0) (tCons (tVar 1) tNil))) (tC (.int 48271))) (tC (.int 1000003))) (gName 4))
    (tSeq (tAsg (tCall sp_l_drawn [] E0 (tCons (tVar 0) (tCons (tVar 1) (tCons (tVar 4) tNil)))) (gName 5))
    (tSeq (tAsg (tCall sp_l_drawn [] E0 (tCons (tVar 0) (tCons (tLst (tCons (tC (.int 3)) tNil)) (tCons (tVar 4) tNil)))) (gName 6))
    (tSeq (tAsg (tDisp [((tC (.str "said")), (tLst tNil)), ((tC (.str "turns")), (tVar 2)), ((tC (.str "deep")), (tC (.int 0))), ((tC (.str "program")), (tVar 5))]) (gName 7))
    (tSeq (tAsg (tCall sp_l_function [] E0 (tCons (tC (.int 0)) (tCons (tVar 3) (tCons (tVar 7) tNil)))) (gName 8))
    (tSeq (tAsg (tCall sp_told [] E0 (tCons (tVar 5) (tCons (tVar 3) (tCons (tVar 2) tNil)))) (gName 9))
    (tSeq (tIfS (tOr (tNot (tB (tCall sp_l_is [] E0 (tCons (tVar 9) tNil)))) (tTest (tOp (rNeD K) (tVar 5) (tVar 6)))) (tRet (tC (.bl false))) tNext)
    (tRet (tOp (rEqD K) (tVar 9) (tTup (tCons (tDGet (tVar 7) (tC (.str "said"))) (tCons (tIf (tTest (tOp rEq (tOp (rIxT K) (tVar 8) (tC (.int 0))) (tC (.str "value")))) (tC (.str "answer")) (tOp (rIxT K) (tVar 8) (tC (.int 0)))) (tCons (tOp (rIxT K) (tVar 8) (tC (.int 1))) tNil))))))))))))))))
def n_law : List Str := ["_law_script", "_law_at", "_law_turns", "_law_given", "_law_more", "_law_program_here", "_law_again", "_law_world", "_law_due", "_law_found"]
end U

namespace U
open PySem PySem.Spec PyProof.Rows L2
/-! readings of the defs -/
def t_l_next (K : PySem.W.Frag) : TS :=
  (tSeq (tAsg (tOp rAddI (tOp (rIxL K) (tVar 1) (tC (.int 0))) (tC (.int 1))) (gSub (tVar 1) (tC (.int 0)) rSetL))
    (tSeq (tAsg (tOp rSubI (tOp (rIxL K) (tVar 1) (tC (.int 0))) (tC (.int 1))) (gName 2))
    (tSeq (tIfS (tTest (tOp rLtI (tVar 2) (tCB (rLenQ K) (tCons (tVar 0) tNil)))) (tRet (tOp (rIxL K) (tVar 0) (tVar 2))) tNext)
    (tSeq (tIfS (tAnd (tTest (tOp rGtI (tCB (rLenQ K) (tCons (tVar 0) tNil)) (tC (.int 4)))) (tTest (tOp rLtI (tVar 2) (tC (.int 44))))) (tRet (tOp rModP (tOp rMulI (tOp rAddI (tOp (rIxL K) (tVar 0) (tOp rModP (tVar 2) (tCB (rLenQ K) (tCons (tVar 0) tNil)))) (tOp rMulI (tC (.int 7919)) (tVar 2))) (tC (.int 48271))) (tC (.int 1000003)))) tNext)
    (tRet (tC (.int 0)))))))
def n_l_next : List Str := ["_law_script", "_law_at", "_law_k"]
def t_l_tree (K : PySem.W.Frag) (sp_l_next sp_l_number sp_l_tree : Sp) : TS :=
  (tSeq (tAsg (tCall sp_l_next [] E0 (tCons (tVar 0) (tCons (tVar 1) tNil))) (gName 4))
    (tSeq (tAsg (tOp rModP (tVar 4) (tC (.int 9))) (gName 5))
    (tSeq (tIfS (tOr (tTest (tOp rGtI (tVar 2) (tC (.int 5)))) (tAnd (tTest (tOp rGtI (tVar 2) (tC (.int 3)))) (tTest (tOp rGtI (tOp rModP (tVar 4) (tC (.int 4))) (tC (.int 0)))))) (tAsg (tOp rModP (tVar 5) (tC (.int 3))) (gName 5)) tNext)
    (tSeq (tIfS (tTest (tOp rEq (tVar 5) (tC (.int 0)))) (tRet (tTup (tCons (tC (.str "num")) (tCons (tCall sp_l_number [] E0 (tCons (tOp rFdC (tVar 4) (tC (.int 9))) tNil)) tNil)))) tNext)
    (tSeq (tIfS (tTest (tOp rLtI (tVar 5) (tC (.int 3)))) (tRet (tTup (tCons (tC (.str "box")) (tCons (tOp rModP (tOp rFdC (tVar 4) (tC (.int 9))) (tC (.int 4))) tNil)))) tNext)
    (tSeq (tIfS (tTest (tOp rEq (tVar 5) (tC (.int 3)))) (tRet (tTup (tCons (tC (.str "call")) (tCons (tOp rModP (tOp rFdC (tVar 4) (tC (.int 9))) (tVar 3)) (tCons (tCall sp_l_tree [] E0 (tCons (tVar 0) (tCons (tVar 1) (tCons (tOp rAddI (tVar 2) (tC (.int 1))) (tCons (tVar 3) tNil))))) tNil))))) tNext)
    (tSeq (tAsg (tOp (rIxL K) (tLst (tCons (tC (.str "add")) (tCons (tC (.str "sub")) (tCons (tC (.str "less")) (tCons (tC (.str "share")) (tCons (tC (.str "add")) tNil)))))) (tOp rSubI (tVar 5) (tC (.int 4)))) (gName 6))
    (tSeq (tAsg (tCall sp_l_tree [] E0 (tCons (tVar 0) (tCons (tVar 1) (tCons (tOp rAddI (tVar 2) (tC (.int 1))) (tCons (tVar 3) tNil))))) (gName 7))
    (tRet (tTup (tCons (tVar 6) (tCons (tVar 7) (tCons (tCall sp_l_tree [] E0 (tCons (tVar 0) (tCons (tVar 1) (tCons (tOp rAddI (tVar 2) (tC (.int 1))) (tCons (tVar 3) tNil))))) tNil)))))))))))))
def n_l_tree : List Str := ["_law_script", "_law_at", "_law_deep", "_law_count", "_law_cell", "_law_kind", "_law_word", "_law_one"]
def t_l_out (K : PySem.W.Frag) (sp_l_tree : Sp) : TS :=
  (tSeq (tIfS (tAnd (tTest (tOp rGtI (tVar 3) (tC (.int 0)))) (tTest (tOp rGtI (tOp rModP (tVar 2) (tC (.int 4))) (tC (.int 0))))) (tRet (tTup (tCons (tOp (rIxL K) (tLst (tCons (tC (.str "leave")) (tCons (tC (.str "next")) tNil))) (tOp rModP (tVar 2) (tC (.int 2)))) tNil))) tNext)
    (tRet (tTup (tCons (tC (.str "give")) (tCons (tCall sp_l_tree [] E0 (tCons (tVar 0) (tCons (tVar 1) (tCons (tC (.int 1)) (tCons (tVar 4) tNil))))) tNil)))))
def n_l_out : List Str := ["_law_script", "_law_at", "_law_more", "_law_loops", "_law_count"]
def t_l_loop (K : PySem.W.Frag) (sp_l_tree sp_l_block sp_l_next : Sp) : TS :=
  (tSeq (tIfS (tTest (tOp rEq (tOp rModP (tVar 2) (tC (.int 4))) (tC (.int 0)))) (tSeq (tAsg (tCall sp_l_tree [] E0 (tCons (tVar 0) (tCons (tVar 1) (tCons (tC (.int 1)) (tCons (tVar 5) tNil))))) (gName 6))
    (tRet (tTup (tCons (tC (.str "loop")) (tCons (tVar 6) (tCons (tCall sp_l_block [] E0 (tCons (tVar 0) (tCons (tVar 1) (tCons (tOp rAddI (tVar 3) (tC (.int 1))) (tCons (tOp rAddI (tVar 4) (tC (.int 1))) (tCons (tVar 5) tNil)))))) tNil)))))) tNext)
    (tSeq (tAsg (tOp rModP (tOp rFdC (tVar 2) (tC (.int 4))) (tC (.int 4))) (gName 7))
    (tSeq (tAsg (tTup (tCons (tC (.str "less")) (tCons (tTup (tCons (tC (.str "box")) (tCons (tVar 7) tNil))) (tCons (tTup (tCons (tC (.str "num")) (tCons (tOp rAddI (tC (.int 1)) (tOp rModP (tOp rFdC (tVar 2) (tC (.int 16))) (tC (.int 4)))) tNil))) tNil)))) (gName 6))
    (tSeq (tAsg (tOp rCat (tLst (tCons (tTup (tCons (tC (.str "set")) (tCons (tVar 7) (tCons (tTup (tCons (tC (.str "add")) (tCons (tTup (tCons (tC (.str "box")) (tCons (tVar 7) tNil))) (tCons (tTup (tCons (tC (.str "num")) (tCons (tC (.int 1)) tNil))) tNil)))) tNil)))) tNil)) (tCall sp_l_block [] E0 (tCons (tVar 0) (tCons (tVar 1) (tCons (tOp rAddI (tVar 3) (tC (.int 1))) (tCons (tOp rAddI (tVar 4) (tC (.int 1))) (tCons (tVar 5) tNil))))))) (gName 8))
    (tSeq (tAsg (tCall sp_l_next [] E0 (tCons (tVar 0) (tCons (tVar 1) tNil))) (gName 9))
    (tSeq (tIfS (tAnd (tTest (tOp rLtI (tVar 3) (tC (.int 5)))) (tTest (tOp rGtI (tOp rModP (tVar 9) (tC (.int 3))) (tC (.int 0))))) (tSeq (tAsg (tLst (tCons (tTup (tCons (tC (.str "next")) tNil)) (tCons (tTup (tCons (tC (.str "leave")) tNil)) tNil))) (gName 10))
    (tSeq (tAsg (tTup (tCons (tC (.str "if")) (tCons (tTup (tCons (tC (.str "less")) (tCons (tTup (tCons (tC (.str "box")) (tCons (tVar 7) tNil))) (tCons (tTup (tCons (tC (.str "num")) (tCons (tOp rModP (tOp rFdC (tVar 9) (tC (.int 3))) (tC (.int 4))) tNil))) tNil)))) (tCons (tLst (tCons (tOp (rIxL K) (tVar 10) (tOp rModP (tOp rFdC (tVar 9) (tC (.int 12))) (tC (.int 2)))) tNil)) (tCons (tLst (tCons (tOp (rIxL K) (tVar 10) (tOp rSubI (tC (.int 1)) (tOp rModP (tOp rFdC (tVar 9) (tC (.int 12))) (tC (.int 2))))) tNil)) tNil))))) (gName 11))
    (tDrop (tBM K "list" rAppend (tVar 8) (tCons (tTup (tCons (tC (.str "end")) (tCons (tLst (tCons (tVar 11) tNil)) (tCons (tLst (tCons (tTup (tCons (tC (.str "say")) (tCons (tTup (tCons (tC (.str "box")) (tCons (tVar 7) tNil))) tNil))) tNil)) tNil)))) tNil))))) tNext)
    (tRet (tTup (tCons (tC (.str "loop")) (tCons (tVar 6) (tCons (tVar 8) tNil)))))))))))
def n_l_loop : List Str := ["_law_script", "_law_at", "_law_more", "_law_deep", "_law_loops", "_law_count", "_law_tree_here", "_law_k", "_law_body", "_law_cell", "_law_ways", "_law_way"]
def t_l_catch (K : PySem.W.Frag) (sp_l_number sp_l_block sp_l_next : Sp) : TS :=
  (tSeq (tAsg (tOp (rIxL K) (tLst (tCons (tC .non) (tCons (tOp rAddI (tC (.int 100)) (tOp rModP (tOp rFdC (tVar 2) (tC (.int 12))) (tC (.int 4)))) (tCons (tCall sp_l_number [] E0 (tCons (tOp rFdC (tVar 2) (tC (.int 12))) tNil)) tNil)))) (tOp rModP (tVar 2) (tC (.int 3)))) (gName 6))
    (tSeq (tAsg (tOp rModP (tOp rFdC (tVar 2) (tC (.int 3))) (tC (.int 4))) (gName 7))
    (tSeq (tAsg (tCall sp_l_block [] E0 (tCons (tVar 0) (tCons (tVar 1) (tCons (tOp rAddI (tVar 3) (tC (.int 1))) (tCons (tVar 4) (tCons (tVar 5) tNil)))))) (gName 8))
    (tSeq (tAsg (tCall sp_l_next [] E0 (tCons (tVar 0) (tCons (tVar 1) tNil))) (gName 9))
    (tSeq (tIfS (tAnd (tTest (tOp rEq (tOp rModP (tVar 9) (tC (.int 3))) (tC (.int 1)))) (tTest (tOp rIsNotNo (tVar 6) (tC .non)))) (tDrop (tBM K "list" rAppend (tVar 8) (tCons (tTup (tCons (tC (.str "raise")) (tCons (tTup (tCons (tC (.str "num")) (tCons (tVar 6) tNil))) tNil))) tNil))) (tIfS (tTest (tOp rEq (tOp rModP (tVar 9) (tC (.int 3))) (tC (.int 2)))) (tDrop (tBM K "list" rAppend (tVar 8) (tCons (tTup (tCons (tC (.str "raise")) (tCons (tTup (tCons (tC (.str "num")) (tCons (tOp rAddI (tC (.int 100)) (tOp rModP (tOp rFdC (tVar 9) (tC (.int 3))) (tC (.int 4)))) tNil))) tNil))) tNil))) tNext))
    (tRet (tTup (tCons (tC (.str "catch")) (tCons (tVar 8) (tCons (tVar 6) (tCons (tVar 7) (tCons (tOp rCat (tLst (tCons (tTup (tCons (tC (.str "say")) (tCons (tTup (tCons (tC (.str "box")) (tCons (tVar 7) tNil))) tNil))) tNil)) (tCall sp_l_block [] E0 (tCons (tVar 0) (tCons (tVar 1) (tCons (tOp rAddI (tVar 3) (tC (.int 1))) (tCons (tVar 4) (tCons (tVar 5) tNil))))))) tNil))))))))))))
def n_l_catch : List Str := ["_law_script", "_law_at", "_law_more", "_law_deep", "_law_loops", "_law_count", "_law_number_here", "_law_k", "_law_body", "_law_cell"]
def t_l_ends (K : PySem.W.Frag) (sp_l_block sp_l_out : Sp) : TS :=
  (tSeq (tAsg (tCall sp_l_block [] E0 (tCons (tVar 0) (tCons (tVar 1) (tCons (tOp rAddI (tVar 3) (tC (.int 2))) (tCons (tVar 4) (tCons (tVar 5) tNil)))))) (gName 6))
    (tSeq (tIfS (tTest (tOp rGtI (tOp rModP (tVar 2) (tC (.int 3))) (tC (.int 0)))) (tDrop (tBM K "list" rAppend (tVar 6) (tCons (tCall sp_l_out [] E0 (tCons (tVar 0) (tCons (tVar 1) (tCons (tOp rFdC (tVar 2) (tC (.int 3))) (tCons (tVar 4) (tCons (tVar 5) tNil)))))) tNil))) tNext)
    (tSeq (tAsg (tTup (tCons (tC (.str "end")) (tCons (tVar 6) (tCons (tLst (tCons (tTup (tCons (tC (.str "say")) (tCons (tTup (tCons (tC (.str "num")) (tCons (tOp rModP (tOp rFdC (tVar 2) (tC (.int 12))) (tC (.int 9))) tNil))) tNil))) tNil)) tNil)))) (gName 7))
    (tSeq (tAsg (tLst (tCons (tTup (tCons (tC (.str "say")) (tCons (tTup (tCons (tC (.str "num")) (tCons (tOp rAddI (tC (.int 10)) (tOp rModP (tOp rFdC (tVar 2) (tC (.int 12))) (tC (.int 9)))) tNil))) tNil))) tNil)) (gName 8))
    (tRet (tTup (tCons (tC (.str "end")) (tCons (tLst (tCons (tVar 7) tNil)) (tCons (tOp rCat (tVar 8) (tCall sp_l_block [] E0 (tCons (tVar 0) (tCons (tVar 1) (tCons (tOp rAddI (tVar 3) (tC (.int 1))) (tCons (tVar 4) (tCons (tVar 5) tNil))))))) tNil)))))))))
def n_l_ends : List Str := ["_law_script", "_law_at", "_law_more", "_law_deep", "_law_loops", "_law_count", "_law_body", "_law_inner", "_law_last"]
def t_l_row (K : PySem.W.Frag) (sp_l_next sp_l_tree sp_l_out sp_l_loop sp_l_block sp_l_catch sp_l_ends : Sp) : TS :=
  (tSeq (tAsg (tCall sp_l_next [] E0 (tCons (tVar 0) (tCons (tVar 1) tNil))) (gName 5))
    (tSeq (tAsg (tOp rFdC (tVar 5) (tC (.int 12))) (gName 6))
    (tSeq (tAsg (tOp rModP (tVar 5) (tC (.int 12))) (gName 7))
    (tSeq (tIfS (tTest (tOp rGtI (tVar 2) (tC (.int 6)))) (tAsg (tOp rModP (tVar 7) (tC (.int 5))) (gName 7)) tNext)
    (tSeq (tIfS (tTest (tOp rEq (tVar 7) (tC (.int 0)))) (tRet (tTup (tCons (tC (.str "set")) (tCons (tOp rModP (tVar 6) (tC (.int 4))) (tCons (tCall sp_l_tree [] E0 (tCons (tVar 0) (tCons (tVar 1) (tCons (tC (.int 1)) (tCons (tVar 4) tNil))))) tNil))))) tNext)
    (tSeq (tIfS (tTest (tOp rLtI (tVar 7) (tC (.int 3)))) (tRet (tTup (tCons (tC (.str "say")) (tCons (tCall sp_l_tree [] E0 (tCons (tVar 0) (tCons (tVar 1) (tCons (tC (.int 1)) (tCons (tVar 4) tNil))))) tNil)))) tNext)
    (tSeq (tIfS (tTest (tOp rEq (tVar 7) (tC (.int 3)))) (tRet (tCall sp_l_out [] E0 (tCons (tVar 0) (tCons (tVar 1) (tCons (tVar 6) (tCons (tVar 3) (tCons (tVar 4) tNil))))))) tNext)
    (tSeq (tIfS (tTest (tOp rEq (tVar 7) (tC (.int 4)))) (tRet (tTup (tCons (tC (.str "raise")) (tCons (tOp (rIxL K) (tLst (tCons (tTup (tCons (tC (.str "num")) (tCons (tOp rAddI (tC (.int 100)) (tOp rModP (tOp rFdC (tVar 6) (tC (.int 3))) (tC (.int 4)))) tNil))) (tCons (tCall sp_l_tree [] E0 (tCons (tVar 0) (tCons (tVar 1) (tCons (tC (.int 2)) (tCons (tVar 4) tNil))))) tNil))) (tCB rIntB (tCons (tOp rEq (tOp rModP (tVar 6) (tC (.int 3))) (tC (.int 0))) tNil))) tNil)))) tNext)
    (tSeq (tIfS (tTest (tOp rLtI (tVar 7) (tC (.int 7)))) (tRet (tCall sp_l_loop [] E0 (tCons (tVar 0) (tCons (tVar 1) (tCons (tVar 6) (tCons (tVar 2) (tCons (tVar 3) (tCons (tVar 4) tNil)))))))) tNext)
    (tSeq (tIfS (tTest (tOp rEq (tVar 7) (tC (.int 7)))) (tSeq (tAsg (tCall sp_l_tree [] E0 (tCons (tVar 0) (tCons (tVar 1) (tCons (tC (.int 1)) (tCons (tVar 4) tNil))))) (gName 8))
    (tSeq (tAsg (tCall sp_l_block [] E0 (tCons (tVar 0) (tCons (tVar 1) (tCons (tOp rAddI (tVar 2) (tC (.int 1))) (tCons (tVar 3) (tCons (tVar 4) tNil)))))) (gName 9))
    (tRet (tTup (tCons (tC (.str "if")) (tCons (tVar 8) (tCons (tVar 9) (tCons (tCall sp_l_block [] E0 (tCons (tVar 0) (tCons (tVar 1) (tCons (tOp rAddI (tVar 2) (tC (.int 1))) (tCons (tVar 3) (tCons (tVar 4) tNil)))))) tNil)))))))) tNext)
    (tSeq (tIfS (tTest (tOp rLtI (tVar 7) (tC (.int 10)))) (tRet (tCall sp_l_catch [] E0 (tCons (tVar 0) (tCons (tVar 1) (tCons (tVar 6) (tCons (tVar 2) (tCons (tVar 3) (tCons (tVar 4) tNil)))))))) tNext)
    (tSeq (tIfS (tAnd (tTest (tOp rEq (tVar 7) (tC (.int 11)))) (tTest (tOp rLtI (tVar 2) (tC (.int 6))))) (tRet (tCall sp_l_ends [] E0 (tCons (tVar 0) (tCons (tVar 1) (tCons (tVar 6) (tCons (tVar 2) (tCons (tVar 3) (tCons (tVar 4) tNil)))))))) tNext)
    (tSeq (tAsg (tCall sp_l_block [] E0 (tCons (tVar 0) (tCons (tVar 1) (tCons (tOp rAddI (tVar 2) (tC (.int 1))) (tCons (tVar 3) (tCons (tVar 4) tNil)))))) (gName 10))
    (tRet (tTup (tCons (tC (.str "end")) (tCons (tVar 10) (tCons (tCall sp_l_block [] E0 (tCons (tVar 0) (tCons (tVar 1) (tCons (tOp rAddI (tVar 2) (tC (.int 1))) (tCons (tVar 3) (tCons (tVar 4) tNil)))))) tNil))))))))))))))))))
def n_l_row : List Str := ["_law_script", "_law_at", "_law_deep", "_law_loops", "_law_count", "_law_cell", "_law_more", "_law_kind", "_law_tree_here", "_law_ones", "_law_body"]
def t_l_block (K : PySem.W.Frag) (sp_l_next sp_l_row : Sp) : TS :=
  (tSeq (tAsg (tOp rModP (tCall sp_l_next [] E0 (tCons (tVar 0) (tCons (tVar 1) tNil))) (tC (.int 4))) (gName 5))
    (tSeq (tIfS (tTest (tOp rEq (tVar 2) (tC (.int 1)))) (tAsg (tOp rAddI (tVar 5) (tC (.int 2))) (gName 5)) tNext)
    (tSeq (tAsg (tLst tNil) (gName 6))
    (tSeq (tFor (iRng1 (tCons (tVar 5) tNil)) (gName 7) (tDrop (tBM K "list" rAppend (tVar 6) (tCons (tCall sp_l_row [] E0 (tCons (tVar 0) (tCons (tVar 1) (tCons (tVar 2) (tCons (tVar 3) (tCons (tVar 4) tNil)))))) tNil))))
    (tRet (tVar 6))))))
def n_l_block : List Str := ["_law_script", "_law_at", "_law_deep", "_law_loops", "_law_count", "_law_many", "_law_block_here", "_law_k"]
def t_l_program (K : PySem.W.Frag) (sp_l_next sp_l_block : Sp) : TS :=
  (tSeq (tAsg (tCall sp_l_next [] E0 (tCons (tVar 0) (tCons (tVar 1) tNil))) (gName 2))
    (tSeq (tAsg (tOp (rIxL K) (tLst (tCons (tOp rAddI (tC (.int 1)) (tOp rModP (tVar 2) (tC (.int 3)))) (tCons (tC (.int 8)) tNil))) (tCB rIntB (tCons (tOp rEq (tOp rModP (tOp rFdC (tVar 2) (tC (.int 3))) (tC (.int 8))) (tC (.int 1))) tNil))) (gName 3))
    (tSeq (tAsg (tLst tNil) (gName 4))
    (tSeq (tFor (iRng1 (tCons (tOp rSubI (tVar 3) (tC (.int 1))) tNil)) (gName 5) (tDrop (tBM K "list" rAppend (tVar 4) (tCons (tCall sp_l_block [] E0 (tCons (tVar 0) (tCons (tVar 1) (tCons (tC (.int 2)) (tCons (tC (.int 0)) (tCons (tVar 3) tNil)))))) tNil))))
    (tRet (tOp rCat (tLst (tCons (tCall sp_l_block [] E0 (tCons (tVar 0) (tCons (tVar 1) (tCons (tC (.int 1)) (tCons (tC (.int 0)) (tCons (tVar 3) tNil)))))) tNil)) (tVar 4)))))))
def n_l_program : List Str := ["_law_script", "_law_at", "_law_first", "_law_count", "_law_others", "_law_k"]
end U

/-! a program that is not refused tells: totality, and how much is said -/
namespace Un
open PySem
section
variable {P : List (List Sm)}
/-- calls at this depth end from level c on -/
def CallsEnd (P : List (List Sm)) (dp c : Nat) : Prop := ∀ n, c ≤ n → ∀ (f v : Int) (w : Wd), w.deep = dp → 0 ≤ f → f < P.length → ∃ x, (ev P n).call f v w = some x
theorem tree_ends {dp c : Nat} (hc : CallsEnd P dp c) : ∀ (d n : Nat) (t : Un.Tree) (bx : List Int) (w : Wd), t.ok P.length d = true → c + d ≤ n → w.deep = dp → bx.length = 4 → ∃ x, (ev P n).tree t bx w = some x := by
  intro d
  induction d with
  | zero => intro n t bx w h; cases t <;> cases h
  | succ d ih =>
    intro n t bx w h hn hd hb
    obtain ⟨m, rfl⟩ : ∃ m, n = m + 1 := ⟨n - 1, by omega⟩
    have G := good_ev P m
    have e : (ev P (m + 1)).tree t bx w = treeS (ev P m) t bx w := rfl
    rw [e]
    unfold treeS
    cases t with
    | num k => exact ⟨_, rfl⟩
    | box k =>
      have h : decide (0 ≤ k ∧ k < 4) = true := h
      have h := of_decide_eq_true h
      have e : at? bx k = some (bx.getD k.toNat 0) := by
        rw [at?, if_pos h.1, List.getD_eq_getElem?_getD, List.getElem?_eq_getElem (by omega)]
        rfl
      simp only [e]
      exact ⟨_, rfl⟩
    | call f t =>
      have h : (decide (0 ≤ f ∧ f < (P.length : Nat)) && t.ok P.length d) = true := h
      rw [Bool.and_eq_true] at h
      have hf := of_decide_eq_true h.1
      obtain ⟨⟨⟨wy, z⟩, w1⟩, h1⟩ := ih m t bx w h.2 (by omega) hd hb
      have hd1 := (G.tree h1).deep
      simp only [h1]
      cases wy with
      | value => exact hc m (by omega) f z w1 (hd1.trans hd) hf.1 hf.2
      | _ => exact ⟨_, rfl⟩
    | bin o a b =>
      have h : (a.ok P.length d && b.ok P.length d) = true := h
      rw [Bool.and_eq_true] at h
      obtain ⟨⟨⟨wy, z⟩, w1⟩, h1⟩ := ih m a bx w h.1 (by omega) hd hb
      have hd1 := (G.tree h1).deep
      simp only [h1]
      cases wy with
      | value =>
        obtain ⟨⟨⟨wy2, z2⟩, w2⟩, h2⟩ := ih m b bx w1 h.2 (by omega) (hd1.trans hd) hb
        simp only [h2]
        cases wy2 <;> exact ⟨_, rfl⟩
      | _ => exact ⟨_, rfl⟩
theorem thenT_ends {dp c n : Nat} (hc : CallsEnd P dp c) {e : Un.Tree} {bx : List Int} {w : Wd} {k : Int → Wd → Option (Res × List Int × Wd)} (h : e.ok P.length 6 = true) (hn : c + 6 ≤ n) (hd : w.deep = dp) (hb : bx.length = 4)
    (hk : ∀ v w1, Le w w1 → ∃ x, k v w1 = some x) : ∃ x, thenT (ev P n) e bx w k = some x := by
  obtain ⟨⟨⟨wy, z⟩, w1⟩, h1⟩ := tree_ends hc 6 n e bx w h hn hd hb
  unfold thenT
  simp only [h1]
  cases wy with
  | value => exact hk _ _ ((good_ev P n).tree h1)
  | _ => exact ⟨_, rfl⟩
/-- blocks of depth d end from level c on -/
def BlocksEnd (P : List (List Sm)) (dp d c : Nat) : Prop := ∀ n, c ≤ n → ∀ (l : Bool) (b : List Sm) (bx : List Int) (w : Wd), oks P.length l d b = true → w.deep = dp → bx.length = 4 → ∃ x, (ev P n).block b bx w = some x
theorem oks_cons {c : Nat} {l : Bool} {n : Nat} {s : Sm} {b : List Sm} : oks c l n (s :: b) = (s.ok c l n && oks c l n b) := by rw [oks]
theorem loop_ends {dp c n : Nat} (hc : CallsEnd P dp c) {e : Un.Tree} {b : List Sm} (he : e.ok P.length 6 = true) (hn : c + 6 ≤ n) (hb : ∀ (bx : List Int) (w : Wd), w.deep = dp → bx.length = 4 → ∃ x, (ev P n).block b bx w = some x) :
    ∀ (k : Nat) (bx : List Int) (w : Wd), w.turns < k → w.deep = dp → bx.length = 4 → ∃ x, loopGo (ev P n) e b k bx w = some x := by
  intro k
  induction k with
  | zero => intro bx w h; omega
  | succ k ih =>
    intro bx w h hd hl
    unfold loopGo
    split
    · exact ⟨_, rfl⟩
    · rename_i ht
      refine thenT_ends hc he hn hd hl fun v w1 l1 => ?_
      split
      · exact ⟨_, rfl⟩
      · have l1t := l1.turns
        have l1d := l1.deep
        dsimp only at l1t l1d
        obtain ⟨⟨⟨wy, z⟩, bx2, w2⟩, h2⟩ := hb bx w1 (by rw [l1d, hd]) hl
        have g2 := (good_ev P n).block h2
        have g2t := g2.1.turns
        have g2d := g2.1.deep
        simp only [h2]
        cases wy with
        | on => exact ih bx2 w2 (by omega) (by rw [g2d, l1d, hd]) (by rw [g2.2, hl])
        | next => exact ih bx2 w2 (by omega) (by rw [g2d, l1d, hd]) (by rw [g2.2, hl])
        | _ => exact ⟨_, rfl⟩
theorem row_ends {dp c d cb : Nat} (hc : CallsEnd P dp c) (hcb : c + 6 ≤ cb) (hb : ∀ d', d' < d → BlocksEnd P dp d' cb) : ∀ n, cb + 2 ≤ n → ∀ (l : Bool) (s : Sm) (bx : List Int) (w : Wd), s.ok P.length l d = true → w.deep = dp → bx.length = 4 → ∃ x, (ev P n).row s bx w = some x := by
  intro n hn l s bx w h hd hl
  obtain ⟨m, rfl⟩ : ∃ m, n = m + 1 := ⟨n - 1, by omega⟩
  obtain ⟨q, rfl⟩ : ∃ q, m = q + 1 := ⟨m - 1, by omega⟩
  have e0 : (ev P (q + 1 + 1)).row s bx w = rowS (ev P (q + 1)) s bx w := rfl
  rw [e0]
  unfold rowS
  cases s with
  | leave => exact ⟨_, rfl⟩
  | next => exact ⟨_, rfl⟩
  | set k e =>
    have h : (decide (0 ≤ k ∧ k < 4) && e.ok P.length 6) = true := by cases d <;> exact h
    rw [Bool.and_eq_true] at h
    have hk := of_decide_eq_true h.1
    refine thenT_ends hc h.2 (by omega) hd hl fun v w1 _ => ?_
    rw [if_pos ⟨hk.1, by omega⟩]
    exact ⟨_, rfl⟩
  | say e => exact thenT_ends hc (by cases d <;> exact h) (by omega) hd hl fun v w1 _ => ⟨_, rfl⟩
  | give e => exact thenT_ends hc (by cases d <;> exact h) (by omega) hd hl fun v w1 _ => ⟨_, rfl⟩
  | raise e => exact thenT_ends hc (by cases d <;> exact h) (by omega) hd hl fun v w1 _ => ⟨_, rfl⟩
  | ife e a b =>
    cases d with
    | zero => cases h
    | succ d =>
    have h : (e.ok P.length 6 && (oks P.length l d a && oks P.length l d b)) = true := h
    rw [Bool.and_eq_true, Bool.and_eq_true] at h
    refine thenT_ends hc h.1 (by omega) hd hl fun v w1 l1 => ?_
    have l1d := l1.deep
    split
    · exact hb d (by omega) (q + 1) (by omega) l b bx w1 h.2.2 (by rw [l1d, hd]) hl
    · exact hb d (by omega) (q + 1) (by omega) l a bx w1 h.2.1 (by rw [l1d, hd]) hl
  | loop e b =>
    cases d with
    | zero => cases h
    | succ d =>
    have h : (e.ok P.length 6 && oks P.length true d b) = true := h
    rw [Bool.and_eq_true] at h
    exact loop_ends hc h.1 (by omega) (fun bx w hd hl => hb d (by omega) q (by omega) true b bx w h.2 hd hl) _ bx w (by omega) hd hl
  | ctch b m k a =>
    cases d with
    | zero => cases h
    | succ d =>
    have h : (oks P.length l d b && (decide (0 ≤ k ∧ k < 4) && oks P.length l d a)) = true := h
    rw [Bool.and_eq_true, Bool.and_eq_true] at h
    have hk := of_decide_eq_true h.2.1
    obtain ⟨⟨⟨wy, z⟩, bx2, w2⟩, h2⟩ := hb d (by omega) q (by omega) l b bx w h.1 hd hl
    have g2 := (good_ev P q).block h2
    have e1 : (ev P (q + 1)).ctch b m k a bx w = ctchS (ev P q) b m k a bx w := rfl
    show ∃ x, (ev P (q + 1)).ctch b m k a bx w = some x
    rw [e1]
    unfold ctchS
    simp only [h2]
    cases wy with
    | fault =>
      dsimp only
      split
      · exact ⟨_, rfl⟩
      · rw [if_pos ⟨hk.1, by rw [g2.2, hl]; omega⟩]
        exact hb d (by omega) q (by omega) l a _ w2 h.2.2 (by rw [g2.1.deep, hd]) (by rw [List.length_set, g2.2, hl])
    | _ => exact ⟨_, rfl⟩
  | endd b a =>
    cases d with
    | zero => cases h
    | succ d =>
    have h : (oks P.length l d b && oks P.length l d a) = true := h
    rw [Bool.and_eq_true] at h
    obtain ⟨⟨⟨wy, z⟩, bx2, w2⟩, h2⟩ := hb d (by omega) q (by omega) l b bx w h.1 hd hl
    have g2 := (good_ev P q).block h2
    obtain ⟨⟨⟨wy3, z3⟩, bx3, w3⟩, h3⟩ := hb d (by omega) q (by omega) l a bx2 w2 h.2 (by rw [g2.1.deep, hd]) (by rw [g2.2, hl])
    have e1 : (ev P (q + 1)).endd b a bx w = endS (ev P q) b a bx w := rfl
    show ∃ x, (ev P (q + 1)).endd b a bx w = some x
    rw [e1]
    unfold endS
    simp only [h2]
    cases wy with
    | tired => exact ⟨_, rfl⟩
    | _ =>
      simp only [h3]
      cases wy3 <;> exact ⟨_, rfl⟩
theorem block_of_rows {dp d cr : Nat} (hr : ∀ n, cr ≤ n → ∀ (l : Bool) (s : Sm) (bx : List Int) (w : Wd), s.ok P.length l d = true → w.deep = dp → bx.length = 4 → ∃ x, (ev P n).row s bx w = some x) : BlocksEnd P dp d (cr + 1) := by
  intro n hn l b bx w h hd hl
  obtain ⟨m, rfl⟩ : ∃ m, n = m + 1 := ⟨n - 1, by omega⟩
  show ∃ x, blockS (ev P m) b bx w = some x
  induction b generalizing bx w with
  | nil => exact ⟨_, rfl⟩
  | cons s b ih =>
    rw [oks_cons, Bool.and_eq_true] at h
    obtain ⟨⟨⟨wy, z⟩, bx2, w2⟩, h2⟩ := hr m (by omega) l s bx w h.1 hd hl
    have g2 := (good_ev P m).row h2
    unfold blockS
    simp only [h2]
    cases wy with
    | on => exact ih bx2 w2 h.2 (by rw [g2.1.deep, hd]) (by rw [g2.2, hl])
    | _ => exact ⟨_, rfl⟩
theorem BlocksEnd.up {dp d c c' : Nat} (h : BlocksEnd P dp d c) (hc : c ≤ c') : BlocksEnd P dp d c' := fun n hn => h n (by omega)
theorem blocks_end {dp c : Nat} (hc : CallsEnd P dp c) : ∀ d, BlocksEnd P dp d (c + 6 + 3 * (d + 1)) := by
  intro d
  induction d using Nat.strongRecOn with
  | ind d ih =>
    cases d with
    | zero => exact (block_of_rows (row_ends hc (Nat.le_refl _) (fun d' hd' => absurd hd' (by omega)))).up (by omega)
    | succ d =>
      refine (block_of_rows (row_ends hc (cb := c + 6 + 3 * (d + 1)) (by omega) fun d' hd' => (ih d' (by omega)).up (by omega))).up (by omega)
/-- r functions may stand within this one -/
theorem calls_end (hok : okProg P = true) : ∀ r dp, dp + r = 8 → CallsEnd P dp (1 + 32 * r) := by
  unfold okProg at hok
  rw [Bool.and_eq_true] at hok
  have hk2 := List.all_eq_true.mp hok.2
  intro r
  induction r with
  | zero =>
    intro dp hdp n hn f v w hd h0 h1
    obtain ⟨m, rfl⟩ : ∃ m, n = m + 1 := ⟨n - 1, by omega⟩
    show ∃ x, callS (ev P m) f v w = some x
    unfold callS
    split
    · exact ⟨_, rfl⟩
    · rw [if_pos (by omega)]
      exact ⟨_, rfl⟩
  | succ r ih =>
    intro dp hdp n hn f v w hd h0 h1
    obtain ⟨m, rfl⟩ : ∃ m, n = m + 1 := ⟨n - 1, by omega⟩
    obtain ⟨q, rfl⟩ : ∃ q, m = q + 1 := ⟨m - 1, by omega⟩
    show ∃ x, callS (ev P (q + 1)) f v w = some x
    unfold callS
    split
    · exact ⟨_, rfl⟩
    · rw [if_neg (by omega)]
      have eb : at? P f = some P[f.toNat] := by
        rw [at?, if_pos h0, List.getElem?_eq_getElem (by omega)]
      obtain ⟨x, hx⟩ := blocks_end (ih (dp + 1) (by omega)) 7 q (by omega) false P[f.toNat] [v, 0, 0, 0] { w with turns := w.turns - 1, deep := w.deep + 1 } (hk2 _ (List.getElem_mem _)) (by dsimp only; omega) rfl
      show ∃ x, enterS P (ev P q) f v { w with turns := w.turns - 1 } = some x
      unfold enterS
      rw [eb]
      dsimp only at hx ⊢
      rw [hx]
      exact ⟨_, rfl⟩
theorem enter_ends (hok : okProg P = true) (v : Int) (t : Nat) : ∃ x, (ev P 256).enter 0 v ⟨[], t, 0⟩ = some x := by
  have hc := calls_end hok 7 1 rfl
  unfold okProg at hok
  rw [Bool.and_eq_true] at hok
  have hk1 := of_decide_eq_true hok.1
  have hk2 := List.all_eq_true.mp hok.2
  have eb : at? P 0 = some P[0] := by
    rw [at?, if_pos (by decide)]
    exact List.getElem?_eq_getElem (by omega)
  obtain ⟨x, hx⟩ := blocks_end hc 7 255 (by omega) false P[0] [v, 0, 0, 0] ⟨[], t, 0 + 1⟩ (hk2 _ (List.getElem_mem _)) rfl rfl
  show ∃ x, enterS P (ev P 255) 0 v ⟨[], t, 0⟩ = some x
  unfold enterS
  rw [eb]
  dsimp only at hx ⊢
  rw [hx]
  exact ⟨_, rfl⟩
end
end Un

/-! how much is said -/
namespace Un
open PySem
mutual
def Sm.says : Sm → Nat
  | .say _ => 1
  | .ife _ a b => saysL a + saysL b
  | .loop _ b => saysL b
  | .ctch b _ _ h => saysL b + saysL h
  | .endd b l => saysL b + saysL l
  | .set _ _ => 0
  | .leave => 0
  | .next => 0
  | .give _ => 0
  | .raise _ => 0
def saysL : List Sm → Nat
  | [] => 0
  | s :: b => s.says + saysL b
end
def phi (M : Nat) (w : Wd) : Nat := w.said.length + w.turns * M
theorem phi_turn {M : Nat} {w : Wd} (h : w.turns ≠ 0) : phi M { w with turns := w.turns - 1 } + M = phi M w := by
  unfold phi
  dsimp only
  obtain ⟨t, e⟩ : ∃ t, w.turns = t + 1 := ⟨w.turns - 1, by omega⟩
  rw [e, Nat.add_sub_cancel, Nat.succ_mul]
  omega
theorem phi_deep {M : Nat} {w : Wd} {d : Nat} : phi M { w with deep := d } = phi M w := rfl
structure Sb (E : Ev) (M : Nat) : Prop where
  tree : ∀ {t bx w r w'}, E.tree t bx w = some (r, w') → phi M w' ≤ phi M w
  call : ∀ {f v w r w'}, E.call f v w = some (r, w') → phi M w' ≤ phi M w
  enter : ∀ {f v w r w'}, E.enter f v w = some (r, w') → phi M w' ≤ phi M w + M
  block : ∀ {b bx w r bx' w'}, saysL b ≤ M → E.block b bx w = some (r, bx', w') → phi M w' ≤ phi M w + saysL b
  row : ∀ {s bx w r bx' w'}, s.says ≤ M → E.row s bx w = some (r, bx', w') → phi M w' ≤ phi M w + s.says
  loop : ∀ {e b bx w r bx' w'}, saysL b ≤ M → E.loop e b bx w = some (r, bx', w') → phi M w' ≤ phi M w
  ctch : ∀ {b n k h bx w r bx' w'}, saysL b + saysL h ≤ M → E.ctch b n k h bx w = some (r, bx', w') → phi M w' ≤ phi M w + (saysL b + saysL h)
  endd : ∀ {b l bx w r bx' w'}, saysL b + saysL l ≤ M → E.endd b l bx w = some (r, bx', w') → phi M w' ≤ phi M w + (saysL b + saysL l)
theorem sb_no (M : Nat) : Sb Ev.no M := by
  constructor
  case block => intro _ _ _ _ _ _ _ h; cases h
  case row => intro _ _ _ _ _ _ _ h; cases h
  case loop => intro _ _ _ _ _ _ _ _ h; cases h
  case ctch => intro _ _ _ _ _ _ _ _ _ _ h; cases h
  case endd => intro _ _ _ _ _ _ _ _ h; cases h
  all_goals (intros; rename_i h; cases h)
theorem thenT_sb {E : Ev} {M : Nat} (S : Sb E M) {e : Un.Tree} {bx : List Int} {w : Wd} {k : Int → Wd → Option (Res × List Int × Wd)} {r : Res} {bx' : List Int} {w' : Wd} {a : Nat} (h : thenT E e bx w k = some (r, bx', w'))
    (hk : ∀ v w1, k v w1 = some (r, bx', w') → phi M w' ≤ phi M w1 + a) : phi M w' ≤ phi M w + a := by
  unfold thenT at h
  split at h
  · rename_i v w1 he
    have q := hk _ _ h
    have q2 := S.tree he
    omega
  · rename_i r1 w1 _ he
    cases h
    have q2 := S.tree he
    omega
  · cases h
theorem loopGo_sb {E : Ev} {M : Nat} (S : Sb E M) (e : Un.Tree) (b : List Sm) (hb : saysL b ≤ M) : ∀ (c : Nat) {bx : List Int} {w : Wd} {r : Res} {bx' : List Int} {w' : Wd}, loopGo E e b c bx w = some (r, bx', w') → phi M w' ≤ phi M w
  | 0, _, _, _, _, _, h => by cases h
  | c + 1, bx, w, r, bx', w', h => by
    unfold loopGo at h
    split at h
    · cases h
      exact Nat.le_refl _
    · rename_i ht
      have pt := phi_turn (M := M) ht
      have q := thenT_sb (a := M) S h fun v w1 hk => by
        split at hk
        · cases hk
          omega
        · split at hk
          · rename_i h2
            cases hk
            have := S.block hb h2
            omega
          · rename_i h2
            have := S.block hb h2
            have := loopGo_sb S e b hb c hk
            omega
          · rename_i h2
            have := S.block hb h2
            have := loopGo_sb S e b hb c hk
            omega
          · have := S.block hb hk
            omega
      omega
theorem blockS_sb {E : Ev} {M : Nat} (S : Sb E M) : ∀ (b : List Sm) {bx : List Int} {w : Wd} {r : Res} {bx' : List Int} {w' : Wd}, saysL b ≤ M → blockS E b bx w = some (r, bx', w') → phi M w' ≤ phi M w + saysL b
  | [], _, _, _, _, _, _, h => by
    cases h
    exact Nat.le_refl _
  | s :: b, bx, w, r, bx', w', hb, h => by
    rw [saysL] at hb ⊢
    unfold blockS at h
    split at h
    · rename_i hr
      have i := S.row (by omega) hr
      have j := blockS_sb S b (by omega) h
      omega
    · have i := S.row (by omega) h
      omega
theorem sb_ev {P : List (List Sm)} {M : Nat} (hP : ∀ b ∈ P, saysL b ≤ M) : ∀ n, Sb (ev P n) M
  | 0 => sb_no M
  | n + 1 => by
    have S := sb_ev hP n
    refine ⟨?_, ?_, ?_, fun hb h => blockS_sb S _ hb h, ?_, fun hb h => loopGo_sb S _ _ hb _ h, ?_, ?_⟩
    · intro t bx w r w' h
      have h : treeS (ev P n) t bx w = some (r, w') := h
      unfold treeS at h
      cases t with
      | num n => cases h; exact Nat.le_refl _
      | box k =>
        dsimp only at h
        cases hv : at? bx k with
        | none => rw [hv] at h; cases h
        | some v => rw [hv] at h; cases h; exact Nat.le_refl _
      | call f t =>
        dsimp only at h
        split at h
        · rename_i he
          exact Nat.le_trans (S.call h) (S.tree he)
        · exact S.tree h
      | bin o a b =>
        dsimp only at h
        split at h
        · rename_i ha
          split at h
          · rename_i hb
            cases h
            exact Nat.le_trans (S.tree hb) (S.tree ha)
          · exact Nat.le_trans (S.tree h) (S.tree ha)
        · exact S.tree h
    · intro f v w r w' h
      have h : callS (ev P n) f v w = some (r, w') := h
      unfold callS at h
      split at h
      · cases h; exact Nat.le_refl _
      · rename_i ht
        have pt := phi_turn (M := M) ht
        split at h
        · cases h
          omega
        · have := S.enter h
          omega
    · intro f v w r w' h
      have h : enterS P (ev P n) f v w = some (r, w') := h
      unfold enterS at h
      split at h
      · cases h
      · rename_i b hb
        cases hb2 : (ev P n).block b [v, 0, 0, 0] { w with deep := w.deep + 1 } with
        | none => rw [hb2] at h; cases h
        | some x =>
          obtain ⟨r1, bx1, w1⟩ := x
          rw [hb2] at h
          cases h
          have hm : b ∈ P := by
            unfold at? at hb
            split at hb
            · exact List.mem_of_getElem? hb
            · cases hb
          have i := S.block (hP b hm) hb2
          have hl := hP b hm
          have e1 : phi M { w with deep := w.deep + 1 } = phi M w := rfl
          have e2 : phi M { w1 with deep := w1.deep - 1 } = phi M w1 := rfl
          rw [e2]
          omega
    · intro s bx w r bx' w' hs h
      have h : rowS (ev P n) s bx w = some (r, bx', w') := h
      unfold rowS at h
      cases s with
      | leave => cases h; exact Nat.le_refl _
      | next => cases h; exact Nat.le_refl _
      | loop e b =>
        have hs : saysL b ≤ M := hs
        have := S.loop hs h
        omega
      | ctch b n k h' => exact S.ctch hs h
      | endd b l => exact S.endd hs h
      | ife e a b =>
        have hs : saysL a + saysL b ≤ M := hs
        refine thenT_sb S h fun v w1 hk => ?_
        show _ ≤ _ + (saysL a + saysL b)
        split at hk
        · have := S.block (by omega) hk
          omega
        · have := S.block (by omega) hk
          omega
      | give e => exact thenT_sb S h fun v w1 hk => by cases hk; exact Nat.le_add_right _ _
      | raise e => exact thenT_sb S h fun v w1 hk => by cases hk; exact Nat.le_add_right _ _
      | set k e =>
        refine thenT_sb S h fun v w1 hk => ?_
        split at hk
        · cases hk
          exact Nat.le_add_right _ _
        · cases hk
      | say e =>
        refine thenT_sb S h fun v w1 hk => ?_
        cases hk
        show phi M _ ≤ phi M w1 + 1
        unfold phi
        simp only [List.length_append, List.length_singleton]
        omega
    · intro b m k h' bx w r bx' w' hs h
      have h : ctchS (ev P n) b m k h' bx w = some (r, bx', w') := h
      unfold ctchS at h
      split at h
      · rename_i hb
        have i := S.block (by omega) hb
        split at h
        · cases h
          omega
        · split at h
          · have j := S.block (by omega) h
            omega
          · cases h
      · have := S.block (by omega) h
        omega
    · intro b l bx w r bx' w' hs h
      have h : endS (ev P n) b l bx w = some (r, bx', w') := h
      unfold endS at h
      split at h
      · rename_i hb
        cases h
        have := S.block (by omega) hb
        omega
      · rename_i hb
        have i := S.block (by omega) hb
        split at h
        · rename_i hl
          cases h
          have j := S.block (by omega) hl
          omega
        · have j := S.block (by omega) h
          omega
      · cases h
/-- what a program tells, and that it is short -/
theorem told_ends {P : List (List Sm)} (hok : okProg P = true) {M : Nat} (hP : ∀ b ∈ P, saysL b ≤ M) (v : Int) (t : Nat) : ∃ r w', (ev P 256).enter 0 v ⟨[], t, 0⟩ = some (r, w') ∧ w'.said.length ≤ (t + 1) * M := by
  obtain ⟨⟨r, w'⟩, h⟩ := enter_ends hok v t
  refine ⟨r, w', h, ?_⟩
  have q := (sb_ev hP 256).enter h
  unfold phi at q
  dsimp only at q
  rw [Nat.succ_mul]
  have : ([] : List Int).length = 0 := rfl
  have : 0 ≤ w'.turns * M := Nat.zero_le _
  omega
end Un

/-! drawn trees, in plain Lean -/
namespace Un
open PySem U
/-- the cell at place k, as the laws go on when the script is short -/
def cellN (ns : List Int) (k : Nat) : Int := if k < ns.length then ns.getD k 0 else if 4 < ns.length ∧ k < 44 then (ns.getD (k % ns.length) 0 + 7919 * k) * 48271 % 1000003 else 0
def opOf (k : Int) : Op := if k = 4 then .add else if k = 5 then .sub else if k = 6 then .less else .share
def drawT (ns : List Int) : Nat → Nat → Un.Tree × Nat
  | 0, k => (.num 0, k)
  | n + 1, k =>
    let c := cellN ns k
    let kind := if n = 0 then c % 8 % 2 else c % 8
    if kind = 0 then (.num (numberOf (c / 8)), k + 1)
    else if kind < 3 then (.box (c / 8 % 4), k + 1)
    else (.bin (opOf kind) (drawT ns n (k + 1)).1 (drawT ns n (drawT ns n (k + 1)).2).1, (drawT ns n (drawT ns n (k + 1)).2).2)
theorem drawT_ok (ns : List Int) (count : Nat) : ∀ n k, (drawT ns (n + 1) k).1.ok count (n + 1) = true := by
  intro n
  induction n with
  | zero =>
    intro k
    simp only [drawT, if_pos]
    split
    · rfl
    · split
      · simp only [Tree.ok, decide_eq_true_eq]; omega
      · rename_i h1 h2
        exact absurd (by omega : cellN ns k % 8 % 2 < 3) h2
  | succ n ih =>
    intro k
    rw [drawT]
    simp only [Nat.add_one_ne_zero, if_false]
    split
    · rfl
    · split
      · simp only [Tree.ok, decide_eq_true_eq]; omega
      · simp only [Tree.ok, ih, Bool.and_self]
/-- the value by the law's own reckoning: none where something is shared by 0 -/
def lawVal : Un.Tree → List Int → Option Int
  | .num n, _ => some n
  | .box k, bx => some (bx.getD k.toNat 0)
  | .call _ _, _ => none
  | .bin o a b, bx => match lawVal a bx, lawVal b bx with
    | some x, some y => if o = .share ∧ y = 0 then none else some (joinT o x y).2
    | _, _ => none
def valRes : Option Int → Res
  | some v => (.value, v)
  | none => (.fault, 101)
theorem ev_val (P : List (List Sm)) {bx : List Int} (hb : bx.length = 4) (w : Wd) : ∀ (d n : Nat) (t : Un.Tree), t.ok 0 d = true → d ≤ n → (ev P n).tree t bx w = some (valRes (lawVal t bx), w) := by
  intro d
  induction d with
  | zero => intro n t h; cases t <;> cases h
  | succ d ih =>
    intro n t h hn
    obtain ⟨m, rfl⟩ : ∃ m, n = m + 1 := ⟨n - 1, by omega⟩
    show treeS (ev P m) t bx w = _
    cases t with
    | num k => rfl
    | box k =>
      have h : decide (0 ≤ k ∧ k < 4) = true := h
      have h := of_decide_eq_true h
      unfold treeS
      have e : at? bx k = some (bx.getD k.toNat 0) := by
        rw [at?, if_pos h.1, List.getD_eq_getElem?_getD, List.getElem?_eq_getElem (by omega)]
        rfl
      simp only [e]
      rfl
    | call f t =>
      have h : (decide (0 ≤ f ∧ f < (0 : Nat)) && t.ok 0 d) = true := h
      rw [Bool.and_eq_true] at h
      have := of_decide_eq_true h.1
      omega
    | bin o a b =>
      have h : (a.ok 0 d && b.ok 0 d) = true := h
      rw [Bool.and_eq_true] at h
      unfold treeS
      have ha := ih m a h.1 (by omega)
      have hb' := ih m b h.2 (by omega)
      simp only [ha, lawVal]
      cases lawVal a bx with
      | none => rfl
      | some x =>
        simp only [valRes, hb']
        cases lawVal b bx with
        | none => rfl
        | some y =>
          simp only [valRes]
          cases o with
          | share =>
            by_cases hy : y = 0
            · simp [joinT, hy]
            · simp [joinT, hy]
          | _ => simp [joinT]
/-- told on one function that sets two boxes and gives a tree -/
theorem enter_one (t : Un.Tree) (g : Int) (k1 k2 n1 n2 : Int) (h1 : 0 ≤ k1 ∧ k1 < 4) (h2 : 0 ≤ k2 ∧ k2 < 4) (ht : t.ok 0 6 = true) :
    (ev [[.set k1 (.num n1), .set k2 (.num n2), .give t]] 10).enter 0 g ⟨[], 0, 0⟩ = some (valRes (lawVal t (([g, 0, 0, 0].set k1.toNat n1).set k2.toNat n2)), ⟨[], 0, 0⟩) := by
  generalize hP : ([[.set k1 (.num n1), .set k2 (.num n2), .give t]] : List (List Sm)) = P
  have e0 : at? P 0 = some [.set k1 (.num n1), .set k2 (.num n2), .give t] := by rw [← hP]; rfl
  have e1 : ∀ (bx : List Int) (w : Wd), bx.length = 4 → (ev P 8).row (.set k1 (.num n1)) bx w = some ((.on, 0), bx.set k1.toNat n1, w) := fun bx w hb => by
    have e : (ev P 8).row (.set k1 (.num n1)) bx w = rowS (ev P 7) (.set k1 (.num n1)) bx w := rfl
    rw [e]
    unfold rowS thenT
    show (if 0 ≤ k1 ∧ k1 < bx.length then some ((Wy.on, (0 : Int)), bx.set k1.toNat n1, w) else none) = _
    rw [if_pos ⟨h1.1, by omega⟩]
  have e2 : ∀ (bx : List Int) (w : Wd), bx.length = 4 → (ev P 8).row (.set k2 (.num n2)) bx w = some ((.on, 0), bx.set k2.toNat n2, w) := fun bx w hb => by
    have e : (ev P 8).row (.set k2 (.num n2)) bx w = rowS (ev P 7) (.set k2 (.num n2)) bx w := rfl
    rw [e]
    unfold rowS thenT
    show (if 0 ≤ k2 ∧ k2 < bx.length then some ((Wy.on, (0 : Int)), bx.set k2.toNat n2, w) else none) = _
    rw [if_pos ⟨h2.1, by omega⟩]
  show enterS P (ev P 9) 0 g ⟨[], 0, 0⟩ = _
  unfold enterS
  rw [e0]
  dsimp only
  have e3 : (ev P 9).block [.set k1 (.num n1), .set k2 (.num n2), .give t] [g, 0, 0, 0] ⟨[], 0, 0 + 1⟩ = blockS (ev P 8) [.set k1 (.num n1), .set k2 (.num n2), .give t] [g, 0, 0, 0] ⟨[], 0, 0 + 1⟩ := rfl
  rw [e3]
  unfold blockS
  rw [e1 _ _ rfl]
  dsimp only
  unfold blockS
  rw [e2 _ _ (by rw [List.length_set]; rfl)]
  dsimp only
  unfold blockS
  have e4 : (ev P 8).row (.give t) (([g, 0, 0, 0].set k1.toNat n1).set k2.toNat n2) ⟨[], 0, 0 + 1⟩ = rowS (ev P 7) (.give t) (([g, 0, 0, 0].set k1.toNat n1).set k2.toNat n2) ⟨[], 0, 0 + 1⟩ := rfl
  rw [e4]
  unfold rowS thenT
  dsimp only
  rw [ev_val P (by rw [List.length_set, List.length_set]; rfl) _ 6 7 t ht (by decide)]
  cases lawVal t (([g, 0, 0, 0].set k1.toNat n1).set k2.toNat n2) <;> rfl
end Un

/-! programs drawn out of a script, in plain Lean -/
namespace Un
open PySem U
section
variable (ns : List Int) (count : Int)
def opG (k : Int) : Op := if k = 5 then .sub else if k = 6 then .less else if k = 7 then .share else .add
/-- m + deep = 7 -/
def genT : Nat → Nat → Un.Tree × Nat
  | 0, k => (.num 0, k)
  | m + 1, k =>
    let c := cellN ns k
    let kind := if m = 0 ∨ m < 3 ∧ 0 < c % 4 then c % 9 % 3 else c % 9
    if kind = 0 then (.num (numberOf (c / 9)), k + 1)
    else if kind < 3 then (.box (c / 9 % 4), k + 1)
    else if kind = 3 then (.call (c / 9 % count) (genT m (k + 1)).1, (genT m (k + 1)).2)
    else (.bin (opG kind) (genT m (k + 1)).1 (genT m (genT m (k + 1)).2).1, (genT m (genT m (k + 1)).2).2)
def genO (more : Int) (l : Bool) (k : Nat) : Sm × Nat :=
  if l = true ∧ 0 < more % 4 then (if more % 2 = 0 then .leave else .next, k) else (.give (genT ns count 6 k).1, (genT ns count 6 k).2)
abbrev BG := Bool → Nat → List Sm × Nat
def wayG (i : Int) : Sm := if i = 0 then .next else .leave
/-- n + deep = 8; B1 draws blocks one deeper, B2 two deeper -/
def genL (n : Nat) (B1 : BG) (more : Int) (l : Bool) (k : Nat) : Sm × Nat :=
  if more % 4 = 0 then (.loop (genT ns count 6 k).1 (B1 true (genT ns count 6 k).2).1, (B1 true (genT ns count 6 k).2).2)
  else
    let kk := more / 4 % 4
    let t := Un.Tree.bin .less (.box kk) (.num (1 + more / 16 % 4))
    let b := Sm.set kk (.bin .add (.box kk) (.num 1)) :: (B1 true k).1
    let c := cellN ns (B1 true k).2
    (.loop t (if 3 < n ∧ 0 < c % 3 then b ++ [.endd [.ife (.bin .less (.box kk) (.num (c / 3 % 4))) [wayG (c / 12 % 2)] [wayG (1 - c / 12 % 2)]] [.say (.box kk)]] else b), (B1 true k).2 + 1)
def numG (more : Int) : Option Int := if more % 3 = 0 then none else if more % 3 = 1 then some (100 + more / 12 % 4) else some (numberOf (more / 12))
def addG (c : Int) (num : Option Int) : List Sm := if c % 3 = 1 then (match num with | some z => [.raise (.num z)] | none => []) else if c % 3 = 2 then [.raise (.num (100 + c / 3 % 4))] else []
def genC (B1 : BG) (more : Int) (l : Bool) (k : Nat) : Sm × Nat :=
  let k1 := (B1 l k).2
  (.ctch ((B1 l k).1 ++ addG (cellN ns k1) (numG more)) (numG more) (more / 3 % 4) (.say (.box (more / 3 % 4)) :: (B1 l (k1 + 1)).1), (B1 l (k1 + 1)).2)
def genE (B1 B2 : BG) (more : Int) (l : Bool) (k : Nat) : Sm × Nat :=
  let k1 := (B2 l k).2
  let o := genO ns count (more / 3) l k1
  let k2 := if 0 < more % 3 then o.2 else k1
  (.endd [.endd ((B2 l k).1 ++ if 0 < more % 3 then [o.1] else []) [.say (.num (more / 12 % 9))]] (.say (.num (10 + more / 12 % 9)) :: (B1 l k2).1), (B1 l k2).2)
def genR (n : Nat) (B1 B2 : BG) (l : Bool) (k : Nat) : Sm × Nat :=
  let c := cellN ns k
  let more := c / 12
  let kind := if n < 2 then c % 12 % 5 else c % 12
  if kind = 0 then (.set (more % 4) (genT ns count 6 (k + 1)).1, (genT ns count 6 (k + 1)).2)
  else if kind < 3 then (.say (genT ns count 6 (k + 1)).1, (genT ns count 6 (k + 1)).2)
  else if kind = 3 then genO ns count more l (k + 1)
  else if kind = 4 then (.raise (if more % 3 = 0 then (genT ns count 5 (k + 1)).1 else .num (100 + more / 3 % 4)), (genT ns count 5 (k + 1)).2)
  else if kind < 7 then genL ns count n B1 more l (k + 1)
  else if kind = 7 then
    let t := genT ns count 6 (k + 1)
    let a := B1 l t.2
    (.ife t.1 a.1 (B1 l a.2).1, (B1 l a.2).2)
  else if kind < 10 then genC ns B1 more l (k + 1)
  else if kind = 11 ∧ 2 < n then genE ns count B1 B2 more l (k + 1)
  else
    let a := B1 l (k + 1)
    (.endd a.1 (B1 l a.2).1, (B1 l a.2).2)
def rowsG (R : Nat → Sm × Nat) : Nat → Nat → List Sm × Nat
  | 0, k => ([], k)
  | m + 1, k => ((R k).1 :: (rowsG R m (R k).2).1, (rowsG R m (R k).2).2)
def manyG (n : Nat) (c : Int) : Nat := ((c % 4).toNat) + if n = 7 then 2 else 0
def blockG (n : Nat) (B1 B2 : BG) : BG := fun l k => rowsG (genR ns count n B1 B2 l) (manyG n (cellN ns k)) (k + 1)
def genB : Nat → BG
  | 0 => fun _ k => ([], k)
  | 1 => blockG ns count 1 (fun _ k => ([], k)) (fun _ k => ([], k))
  | n + 2 => blockG ns count (n + 2) (genB (n + 1)) (genB n)
end
/-! ### what is drawn is not refused -/
section
variable {ns : List Int} {count : Nat}
theorem genT_ok (hc : 0 < count) : ∀ m k, (genT ns count (m + 1) k).1.ok count (m + 1) = true := by
  intro m
  induction m with
  | zero =>
    intro k
    rw [genT]
    simp only [true_or, if_true]
    split
    · rfl
    · rw [if_pos (by omega)]
      simp only [Tree.ok, decide_eq_true_eq]; omega
  | succ m ih =>
    intro k
    rw [genT]
    generalize (if m + 1 = 0 ∨ m + 1 < 3 ∧ 0 < cellN ns k % 4 then cellN ns k % 9 % 3 else cellN ns k % 9) = kind
    split
    · rfl
    · split
      · simp only [Tree.ok, decide_eq_true_eq]; omega
      · split
        · have h1 : 0 ≤ cellN ns k / 9 % (count : Int) := Int.emod_nonneg _ (by omega)
          have h2 : cellN ns k / 9 % (count : Int) < count := Int.emod_lt_of_pos _ (by omega)
          simp only [Tree.ok, ih, Bool.and_true, decide_eq_true_eq]
          exact ⟨h1, h2⟩
        · simp only [Tree.ok, ih, Bool.and_self]
theorem Tree.ok_up : ∀ {d : Nat} {t : Un.Tree}, t.ok count d = true → t.ok count (d + 1) = true := by
  intro d
  induction d with
  | zero => intro t h; cases t <;> cases h
  | succ d ih =>
    intro t h
    cases t with
    | num _ => rfl
    | box k => exact h
    | call f t =>
      have h : (decide (0 ≤ f ∧ f < (count : Nat)) && t.ok count d) = true := h
      rw [Bool.and_eq_true] at h
      show (decide (0 ≤ f ∧ f < (count : Nat)) && t.ok count (d + 1)) = true
      rw [Bool.and_eq_true]
      exact ⟨h.1, ih h.2⟩
    | bin o a b =>
      have h : (a.ok count d && b.ok count d) = true := h
      rw [Bool.and_eq_true] at h
      show (a.ok count (d + 1) && b.ok count (d + 1)) = true
      rw [Bool.and_eq_true]
      exact ⟨ih h.1, ih h.2⟩
theorem oks_app {l : Bool} {n : Nat} : ∀ {b b' : List Sm}, oks count l n b = true → oks count l n b' = true → oks count l n (b ++ b') = true
  | [], _, _, h => h
  | s :: b, b', h, h' => by
    rw [oks_cons, Bool.and_eq_true] at h
    rw [List.cons_append, oks_cons, Bool.and_eq_true]
    exact ⟨h.1, oks_app h.2 h'⟩
theorem oks_one {l : Bool} {n : Nat} {s : Sm} (h : s.ok count l n = true) : oks count l n [s] = true := by
  rw [oks_cons, h]; simp [oks]
theorem genO_ok (hc : 0 < count) {more : Int} {l : Bool} {k n : Nat} : (genO ns count more l k).1.ok count l n = true := by
  unfold genO
  split
  · rename_i h
    rw [h.1]
    dsimp only
    split <;> (cases n <;> rfl)
  · have := genT_ok (ns := ns) hc 5 k
    cases n <;> exact this
/-- blocks that are drawn at a depth are good there -/
def BOk (count : Nat) (n : Nat) (B : BG) : Prop := ∀ l k, oks count l n (B l k).1 = true
theorem box_ok (k : Int) (h : 0 ≤ k ∧ k < 4) (d : Nat) : (Un.Tree.box k).ok count (d + 1) = true := decide_eq_true h
theorem mod4 (x : Int) : 0 ≤ x % 4 ∧ x % 4 < 4 := by omega
theorem wayG_ok {i : Int} {n : Nat} : (wayG i).ok count true n = true := by
  unfold wayG
  split <;> (cases n <;> rfl)
theorem genL_ok (hc : 0 < count) {n : Nat} {B1 : BG} (h1 : BOk count n B1) {more : Int} {l : Bool} {k : Nat} : (genL ns count (n + 1) B1 more l k).1.ok count l (n + 1) = true := by
  unfold genL
  split
  · show ((genT ns count 6 k).1.ok count 6 && oks count true n _) = true
    rw [genT_ok hc 5 k, h1]; rfl
  · have m4 := mod4 (more / 4)
    show ((Un.Tree.bin .less (.box (more / 4 % 4)) (.num (1 + more / 16 % 4))).ok count 6 && oks count true n _) = true
    rw [Bool.and_eq_true]
    refine ⟨?_, ?_⟩
    · simp only [Tree.ok, Bool.and_true]
      exact decide_eq_true m4
    · have hb : oks count true n (Sm.set (more / 4 % 4) (.bin .add (.box (more / 4 % 4)) (.num 1)) :: (B1 true k).1) = true := by
        rw [oks_cons, Bool.and_eq_true]
        refine ⟨?_, h1 _ _⟩
        have e : (decide (0 ≤ more / 4 % 4 ∧ more / 4 % 4 < 4) && (Un.Tree.bin .add (.box (more / 4 % 4)) (.num 1)).ok count 6) = true := by
          simp only [Tree.ok, Bool.and_true, decide_eq_true m4, Bool.and_self]
        cases n <;> exact e
      split
      · rename_i h
        refine oks_app hb (oks_one ?_)
        obtain ⟨m, rfl⟩ : ∃ m, n = m + 3 := ⟨n - 3, by omega⟩
        show (oks count true (m + 2) [_] && oks count true (m + 2) [_]) = true
        rw [Bool.and_eq_true]
        refine ⟨oks_one ?_, oks_one ?_⟩
        · show (Tree.ok count 6 _ && (oks count true (m + 1) [_] && oks count true (m + 1) [_])) = true
          rw [oks_one wayG_ok, oks_one wayG_ok]
          simp only [Tree.ok, Bool.and_true, decide_eq_true m4]
        · exact box_ok (count := count) _ m4 5
      · exact hb
theorem addG_ok {l : Bool} {n : Nat} {c : Int} {num : Option Int} : oks count l n (addG c num) = true := by
  have one : ∀ z, oks count l n [.raise (.num z)] = true := fun z => oks_one (by cases n <;> rfl)
  unfold addG
  split
  · cases num with
    | none => simp [oks]
    | some z => exact one z
  · split
    · exact one _
    · simp [oks]
theorem genC_ok {n : Nat} {B1 : BG} (h1 : BOk count n B1) {more : Int} {l : Bool} {k : Nat} : (genC ns B1 more l k).1.ok count l (n + 1) = true := by
  have m4 := mod4 (more / 3)
  show (oks count l n _ && (decide _ && oks count l n (_ :: _))) = true
  rw [oks_app (h1 _ _) addG_ok, decide_eq_true m4, oks_cons, h1]
  have e : (Sm.say (.box (more / 3 % 4))).ok count l n = true := by
    have := box_ok (count := count) _ m4 5
    cases n <;> exact this
  rw [e]; rfl
theorem genE_ok (hc : 0 < count) {n : Nat} {B1 B2 : BG} (h1 : BOk count (n + 1) B1) (h2 : BOk count n B2) {more : Int} {l : Bool} {k : Nat} : (genE ns count B1 B2 more l k).1.ok count l (n + 2) = true := by
  show (oks count l (n + 1) [_] && oks count l (n + 1) (_ :: _)) = true
  rw [Bool.and_eq_true]
  refine ⟨oks_one ?_, ?_⟩
  · show (oks count l n _ && oks count l n [_]) = true
    rw [Bool.and_eq_true]
    refine ⟨oks_app (h2 _ _) ?_, oks_one (by cases n <;> rfl)⟩
    split
    · exact oks_one (genO_ok hc)
    · simp [oks]
  · rw [oks_cons, h1]
    rfl
theorem genR_ok (hc : 0 < count) {n : Nat} {B1 B2 : BG} (h1 : ∀ m, n = m + 1 → BOk count m B1) (h2 : ∀ m, n = m + 2 → BOk count m B2) {l : Bool} {k : Nat} : (genR ns count n B1 B2 l k).1.ok count l n = true := by
  unfold genR
  dsimp only
  have t6 : ∀ k, (genT ns count 6 k).1.ok count 6 = true := fun k => genT_ok hc 5 k
  have t5 : ∀ k, (genT ns count 5 k).1.ok count 6 = true := fun k => (genT_ok hc 4 k : (genT ns count 5 k).1.ok count 5 = true) |> Tree.ok_up
  generalize hk : (if n < 2 then cellN ns k % 12 % 5 else cellN ns k % 12) = kind
  have hk5 : n < 2 → kind < 5 := fun h => by rw [if_pos h] at hk; omega
  split
  · have e : (decide (0 ≤ cellN ns k / 12 % 4 ∧ cellN ns k / 12 % 4 < 4) && (genT ns count 6 (k + 1)).1.ok count 6) = true := by
      rw [t6, decide_eq_true (mod4 _)]; rfl
    cases n <;> exact e
  · split
    · have e := t6 (k + 1)
      cases n <;> exact e
    · split
      · exact genO_ok hc
      · split
        · have e : (if cellN ns k / 12 % 3 = 0 then (genT ns count 5 (k + 1)).1 else .num (100 + cellN ns k / 12 / 3 % 4)).ok count 6 = true := by
            split
            · exact t5 _
            · rfl
          cases n <;> exact e
        · have hn : ¬ n < 2 := fun h => by have := hk5 h; omega
          obtain ⟨m, rfl⟩ : ∃ m, n = m + 2 := ⟨n - 2, by omega⟩
          have b1 := h1 (m + 1) rfl
          have b2 := h2 m rfl
          split
          · exact genL_ok hc b1
          · split
            · show (Tree.ok count 6 _ && (oks count l (m + 1) _ && oks count l (m + 1) _)) = true
              rw [t6, b1, b1]; rfl
            · split
              · exact genC_ok b1
              · split
                · exact genE_ok hc b1 b2
                · show (oks count l (m + 1) _ && oks count l (m + 1) _) = true
                  rw [b1, b1]; rfl
theorem rowsG_ok {l : Bool} {n : Nat} {R : Nat → Sm × Nat} (h : ∀ k, (R k).1.ok count l n = true) : ∀ m k, oks count l n (rowsG R m k).1 = true
  | 0, _ => by simp [rowsG, oks]
  | m + 1, k => by
    rw [rowsG]
    dsimp only
    rw [oks_cons, h, rowsG_ok h m]; rfl
theorem genB_ok (hc : 0 < count) : ∀ n, BOk count n (genB ns count n)
  | 0 => fun l k => by simp [genB, oks]
  | 1 => fun l k => rowsG_ok (fun k => genR_ok hc (fun m e l k => by simp [oks]) (fun m e => by omega)) _ _
  | n + 2 => fun l k => rowsG_ok (fun k => genR_ok hc (fun m e => by
      have e2 : m = n + 1 := by omega
      rw [e2]
      exact genB_ok hc (n + 1)) (fun m e => by
      have e2 : m = n := by omega
      rw [e2]
      exact genB_ok hc n)) _ _
end
end Un
namespace Un
open PySem U
def blocksG (B : Nat → List Sm × Nat) : Nat → Nat → List (List Sm) × Nat
  | 0, k => ([], k)
  | m + 1, k => ((B k).1 :: (blocksG B m (B k).2).1, (blocksG B m (B k).2).2)
def countG (c : Int) : Nat := if c / 3 % 8 = 1 then 8 else (1 + c % 3).toNat
def progG (ns : List Int) (k : Nat) : List (List Sm) × Nat :=
  let count := countG (cellN ns k)
  let o := blocksG (genB ns count 6 false) (count - 1) (k + 1)
  ((genB ns count 7 false o.2).1 :: o.1, (genB ns count 7 false o.2).2)
theorem countG_pos (c : Int) : 0 < countG c := by unfold countG; split <;> omega
theorem countG_le (c : Int) : countG c ≤ 8 := by unfold countG; split <;> omega
theorem blocksG_len (B : Nat → List Sm × Nat) : ∀ m k, (blocksG B m k).1.length = m
  | 0, _ => rfl
  | m + 1, k => by rw [blocksG]; simp [blocksG_len B m]
theorem progG_len (ns : List Int) (k : Nat) : (progG ns k).1.length = countG (cellN ns k) := by
  have := countG_pos (cellN ns k)
  unfold progG
  simp only [List.length_cons, blocksG_len]
  omega
mutual
theorem Sm.ok_up {count : Nat} {l : Bool} : ∀ (s : Sm) {n : Nat}, s.ok count l n = true → s.ok count l (n + 1) = true
  | .set _ _, n, h => by cases n <;> exact h
  | .say _, n, h => by cases n <;> exact h
  | .leave, n, h => by cases n <;> exact h
  | .next, n, h => by cases n <;> exact h
  | .give _, n, h => by cases n <;> exact h
  | .raise _, n, h => by cases n <;> exact h
  | .ife e a b, 0, h => by cases h
  | .ife e a b, n + 1, h => by
    have h : (e.ok count 6 && (oks count l n a && oks count l n b)) = true := h
    rw [Bool.and_eq_true, Bool.and_eq_true] at h
    show (e.ok count 6 && (oks count l (n + 1) a && oks count l (n + 1) b)) = true
    rw [h.1, oks_up a h.2.1, oks_up b h.2.2]; rfl
  | .loop e b, 0, h => by cases h
  | .loop e b, n + 1, h => by
    have h : (e.ok count 6 && oks count true n b) = true := h
    rw [Bool.and_eq_true] at h
    show (e.ok count 6 && oks count true (n + 1) b) = true
    rw [h.1, oks_up b h.2]; rfl
  | .ctch b _ k a, 0, h => by cases h
  | .ctch b _ k a, n + 1, h => by
    have h : (oks count l n b && (decide (0 ≤ k ∧ k < 4) && oks count l n a)) = true := h
    rw [Bool.and_eq_true, Bool.and_eq_true] at h
    show (oks count l (n + 1) b && (decide (0 ≤ k ∧ k < 4) && oks count l (n + 1) a)) = true
    rw [oks_up b h.1, h.2.1, oks_up a h.2.2]; rfl
  | .endd a b, 0, h => by cases h
  | .endd a b, n + 1, h => by
    have h : (oks count l n a && oks count l n b) = true := h
    rw [Bool.and_eq_true] at h
    show (oks count l (n + 1) a && oks count l (n + 1) b) = true
    rw [oks_up a h.1, oks_up b h.2]; rfl
theorem oks_up {count : Nat} {l : Bool} : ∀ (b : List Sm) {n : Nat}, oks count l n b = true → oks count l (n + 1) b = true
  | [], _, _ => by rw [oks]
  | s :: b, n, h => by
    rw [oks_cons, Bool.and_eq_true] at h
    rw [oks_cons, Sm.ok_up s h.1, oks_up b h.2]; rfl
end
theorem blocksG_mem {B : Nat → List Sm × Nat} {Q : List Sm → Prop} (h : ∀ k, Q (B k).1) : ∀ m k b, b ∈ (blocksG B m k).1 → Q b
  | 0, _, _, hb => by cases hb
  | m + 1, k, b, hb => by
    rw [blocksG] at hb
    rcases List.mem_cons.mp hb with rfl | hb
    · exact h _
    · exact blocksG_mem h m _ b hb
theorem progG_ok (ns : List Int) (k : Nat) : okProg (progG ns k).1 = true := by
  unfold okProg
  have hc := countG_pos (cellN ns k)
  rw [progG_len, decide_eq_true hc, Bool.true_and, List.all_eq_true]
  intro b hb
  rcases List.mem_cons.mp hb with rfl | hb
  · exact genB_ok hc 7 _ _
  · exact blocksG_mem (Q := fun b => oks (countG (cellN ns k)) false 7 b = true) (fun k => oks_up _ (genB_ok hc 6 _ _)) _ _ b hb
end Un

/-! how much a drawn program may say -/
namespace Un
open PySem U
theorem saysL_app : ∀ (a b : List Sm), saysL (a ++ b) = saysL a + saysL b
  | [], b => by simp [saysL]
  | s :: a, b => by rw [List.cons_append, saysL, saysL, saysL_app a b]; omega
section
variable {ns : List Int} {count : Int}
theorem cellN_far (hl : ns.length ≤ 63) {k : Nat} (h : 63 ≤ k) : cellN ns k = 0 := by
  unfold cellN
  rw [if_neg (by omega), if_neg (by omega)]
theorem genT_k : ∀ m k, k ≤ (genT ns count m k).2
  | 0, k => Nat.le_refl _
  | m + 1, k => by
    have h1 := genT_k m (k + 1)
    have h2 := genT_k m (genT ns count m (k + 1)).2
    rw [genT]
    generalize (if m = 0 ∨ m < 3 ∧ 0 < cellN ns k % 4 then cellN ns k % 9 % 3 else cellN ns k % 9) = kind
    split
    · exact Nat.le_succ _
    · split
      · exact Nat.le_succ _
      · split
        · exact Nat.le_trans (Nat.le_succ _) h1
        · exact Nat.le_trans (Nat.le_succ _) (Nat.le_trans h1 h2)
theorem genO_k {more : Int} {l : Bool} {k : Nat} : k ≤ (genO ns count more l k).2 ∧ (genO ns count more l k).1.says = 0 := by
  unfold genO
  split
  · dsimp only
    refine ⟨Nat.le_refl _, ?_⟩
    split <;> rfl
  · exact ⟨genT_k _ _, rfl⟩
/-- what is said is paid by the cells below 63 -/
def Paid (B : BG) : Prop := ∀ l k, k ≤ (B l k).2 ∧ saysL (B l k).1 + 2 * min k 63 ≤ 2 * min (B l k).2 63
theorem paid_nil : Paid fun _ k => ([], k) := fun _ k => ⟨Nat.le_refl _, by simp [saysL]⟩
theorem genL_paid {n : Nat} {B1 : BG} (h : Paid B1) {more : Int} {l : Bool} {k : Nat} : k ≤ (genL ns count n B1 more l k).2 ∧ (genL ns count n B1 more l k).1.says + 2 * min k 63 ≤ 2 * min (genL ns count n B1 more l k).2 63 + 1 := by
  unfold genL
  split
  · have t := genT_k (ns := ns) (count := count) 6 k
    have b := h true (genT ns count 6 k).2
    dsimp only
    rw [Sm.says]
    omega
  · have b := h true k
    dsimp only
    rw [Sm.says]
    generalize hx : (if 3 < n ∧ 0 < cellN ns (B1 true k).2 % 3 then _ else _ : List Sm) = x
    have e : saysL x ≤ saysL (B1 true k).1 + 1 := by
      rw [← hx]
      split
      · rw [saysL_app]
        have w : ∀ i, saysL [wayG i] = 0 := fun i => by
          unfold wayG
          split <;> simp [saysL, Sm.says]
        simp only [saysL, Sm.says, w]
        have e1 : ∀ i, (wayG i).says = 0 := fun i => by
          unfold wayG
          split <;> simp [Sm.says]
        simp only [e1]
        omega
      · simp only [saysL, Sm.says]
        omega
    omega
theorem addG_says (c : Int) (num : Option Int) : saysL (addG c num) = 0 := by
  unfold addG
  split
  · cases num <;> simp [saysL, Sm.says]
  · split <;> simp [saysL, Sm.says]
theorem genC_paid {B1 : BG} (h : Paid B1) {more : Int} {l : Bool} {k : Nat} : k ≤ (genC ns B1 more l k).2 ∧ (genC ns B1 more l k).1.says + 2 * min k 63 ≤ 2 * min (genC ns B1 more l k).2 63 + 1 := by
  have b := h l k
  have b2 := h l ((B1 l k).2 + 1)
  unfold genC
  dsimp only
  rw [Sm.says, saysL_app, addG_says, saysL, Sm.says]
  omega
theorem genE_paid {B1 B2 : BG} (h : Paid B1) (h2 : Paid B2) {more : Int} {l : Bool} {k : Nat} : k ≤ (genE ns count B1 B2 more l k).2 ∧ (genE ns count B1 B2 more l k).1.says + 2 * min k 63 ≤ 2 * min (genE ns count B1 B2 more l k).2 63 + 2 := by
  have b := h2 l k
  have o := genO_k (ns := ns) (count := count) (more := more / 3) (l := l) (k := (B2 l k).2)
  unfold genE
  dsimp only
  rw [Sm.says, saysL, Sm.says, saysL, saysL, saysL_app]
  simp only [saysL, Sm.says]
  generalize hk2 : (if 0 < more % 3 then (genO ns count (more / 3) l (B2 l k).2).2 else (B2 l k).2) = k2
  have hk3 : (B2 l k).2 ≤ k2 := by
    rw [← hk2]
    split
    · exact o.1
    · exact Nat.le_refl _
  have e : saysL (if 0 < more % 3 then [(genO ns count (more / 3) l (B2 l k).2).1] else []) = 0 := by
    split
    · simp only [saysL, o.2]
    · simp [saysL]
  rw [e]
  have b2 := h l k2
  omega
theorem genR_paid (hl : ns.length ≤ 63) {n : Nat} {B1 B2 : BG} (h1 : Paid B1) (h2 : Paid B2) {l : Bool} {k : Nat} : k + 1 ≤ (genR ns count n B1 B2 l k).2 ∧ (genR ns count n B1 B2 l k).1.says + 2 * min k 63 ≤ 2 * min (genR ns count n B1 B2 l k).2 63 := by
  unfold genR
  dsimp only
  generalize hk : (if n < 2 then cellN ns k % 12 % 5 else cellN ns k % 12) = kind
  have far : 63 ≤ k → kind = 0 := fun h => by
    rw [cellN_far hl h] at hk
    rw [← hk]
    split <;> rfl
  have t6 := genT_k (ns := ns) (count := count) 6 (k + 1)
  have t5 := genT_k (ns := ns) (count := count) 5 (k + 1)
  split
  · rw [Sm.says]
    dsimp only
    omega
  · rename_i k0
    have hk63 : k < 63 := by
      by_cases h : 63 ≤ k
      · exact absurd (far h) k0
      · omega
    split
    · rw [Sm.says]
      dsimp only
      omega
    · split
      · have o := genO_k (ns := ns) (count := count) (more := cellN ns k / 12) (l := l) (k := k + 1)
        rw [o.2]
        omega
      · split
        · rw [Sm.says]
          dsimp only
          omega
        · split
          · have o := genL_paid (ns := ns) (count := count) (n := n) h1 (more := cellN ns k / 12) (l := l) (k := k + 1)
            omega
          · split
            · have a := h1 l (genT ns count 6 (k + 1)).2
              have b := h1 l (B1 l (genT ns count 6 (k + 1)).2).2
              rw [Sm.says]
              dsimp only
              omega
            · split
              · have o := genC_paid (ns := ns) h1 (more := cellN ns k / 12) (l := l) (k := k + 1)
                omega
              · split
                · have o := genE_paid (ns := ns) (count := count) h1 h2 (more := cellN ns k / 12) (l := l) (k := k + 1)
                  omega
                · have a := h1 l (k + 1)
                  have b := h1 l (B1 l (k + 1)).2
                  rw [Sm.says]
                  dsimp only
                  omega
theorem rowsG_paid {R : Nat → Sm × Nat} (h : ∀ k, k + 1 ≤ (R k).2 ∧ (R k).1.says + 2 * min k 63 ≤ 2 * min (R k).2 63) : ∀ m k, k ≤ (rowsG R m k).2 ∧ saysL (rowsG R m k).1 + 2 * min k 63 ≤ 2 * min (rowsG R m k).2 63
  | 0, k => ⟨Nat.le_refl _, by simp [rowsG, saysL]⟩
  | m + 1, k => by
    have a := h k
    have b := rowsG_paid h m (R k).2
    rw [rowsG]
    dsimp only
    rw [saysL]
    omega
theorem genB_paid (hl : ns.length ≤ 63) : ∀ n, Paid (genB ns count n)
  | 0 => paid_nil
  | 1 => fun l k => by
    have a := rowsG_paid (fun k => genR_paid (ns := ns) (count := count) hl (n := 1) paid_nil paid_nil (l := l) (k := k)) (manyG 1 (cellN ns k)) (k + 1)
    show k ≤ (rowsG _ _ _).2 ∧ saysL (rowsG _ _ _).1 + _ ≤ 2 * min (rowsG _ _ _).2 63
    omega
  | n + 2 => fun l k => by
    have a := rowsG_paid (R := genR ns count (n + 2) (genB ns count (n + 1)) (genB ns count n) l) (fun k => genR_paid (ns := ns) (count := count) hl (n := n + 2) (genB_paid hl (n + 1)) (genB_paid hl n) (l := l) (k := k)) (manyG (n + 2) (cellN ns k)) (k + 1)
    show k ≤ (rowsG _ _ _).2 ∧ saysL (rowsG _ _ _).1 + _ ≤ 2 * min (rowsG _ _ _).2 63
    omega
theorem genB_says (hl : ns.length ≤ 63) (n : Nat) (l : Bool) (k : Nat) : saysL (genB ns count n l k).1 ≤ 126 := by
  have := (genB_paid (count := count) hl n l k).2
  omega
end
end Un

set_option maxHeartbeats 4000000
namespace U
open PySem PySem.Spec PyProof.Rows L2 Un
local macro_rules | `(tactic| walk_at "w1") => `(tactic| first
  | with_reducible refine w_seq ?_
  | with_reducible refine w_asg ?_
  | with_reducible refine w_op ?_
  | ((with_reducible refine' w_var ?h1 ?_); (case h1 => rfl))
  | with_reducible refine w_c ?_
  | with_reducible refine w_name ?_
  | with_reducible refine w_tFd ?_
  | ((with_reducible refine' w_fld ?h1 ?h2 ?_); (case h1 => assumption); (case h2 => rfl))
  | with_reducible refine w_if ?_
  | with_reducible refine w_test ?_
  | with_reducible refine w_eqS ?_
  | with_reducible refine w_eqI ?_
  | with_reducible refine w_neS ?_
  | with_reducible refine w_neI ?_
  | with_reducible refine w_isN ?_
  | with_reducible refine w_isnN ?_
  | with_reducible refine w_bl ?_
  | with_reducible refine w_ret ?_
  | with_reducible refine w_drop ?_
  | with_reducible refine w_next ?_
  | with_reducible refine w_cons ?_
  | with_reducible refine w_nil ?_
  | with_reducible refine w_call ?_
  | with_reducible refine w_cb ?_
  | with_reducible refine w_meth ?_
  | ((with_reducible refine' w_recv ?h1 ?h2 ?_); (case h1 => assumption); (case h2 => rfl))
  | with_reducible refine w_sFd ?_
  | ((with_reducible refine' w_put ?h1 ?h2 ?_); (case h1 => assumption); (case h2 => exact Nat.le_of_ble_eq_true rfl))
  | with_reducible refine w_add ?_
  | with_reducible refine w_sub ?_
  | with_reducible refine w_lt ?_
  | with_reducible refine w_le ?_
  | with_reducible refine w_gt ?_
  | with_reducible refine w_ge ?_
  | with_reducible refine w_bm ?_
  | with_reducible refine w_bm0 ?_
  | ((with_reducible refine' w_ty ?h1 ?_); (case h1 => assumption))
  | with_reducible refine w_tup ?_
  | with_reducible refine w_lst ?_
  | ((with_reducible refine' w_new ?h1 ?_); (case h1 => exact Nat.le_of_ble_eq_true rfl))
  | with_reducible refine w_gsub ?_
  | with_reducible refine w_make ?_
  | with_reducible refine w_lc ?_
  | with_reducible refine w_iList ?_
  | with_reducible refine w_for ?_
  | with_reducible refine w_yes ?_
  | with_reducible refine w_tSl ?_
  | with_reducible refine w_part ?_
  | with_reducible refine w_nopart ?_
  | with_reducible refine w_i ?_
  | with_reducible refine w_rng1 ?_
  | with_reducible refine w_rng2 ?_
  | with_reducible refine w_isiII ?_
  | with_reducible refine w_isiIB ?_
  | with_reducible refine w_isiSS ?_
  | ((with_reducible refine w_mod ?h1 ?_); (case h1 => decide))
  | ((with_reducible refine w_fdC' ?h1 ?h2 ?_); (case h1 => decide); (case h2 => decide))
  | ((with_reducible refine w_mulR ?h1 ?h2 ?_); (case h1 => decide); (case h2 => decide))
  | ((with_reducible refine w_mulL ?h1 ?h2 ?_); (case h1 => decide); (case h2 => decide))
  | ((with_reducible refine w_pow' ?h1 ?h2 ?h3 ?_); (case h1 => decide); (case h2 => decide); (case h3 => decide))
  | with_reducible refine w_andV ?_
  | with_reducible refine w_orV ?_
  | with_reducible refine w_notV ?_
  | with_reducible refine w_B ?_
  | with_reducible refine w_not ?_
  | with_reducible refine w_and ?_
  | with_reducible refine w_or ?_
  | with_reducible refine w_ifx ?_
  | with_reducible refine w_un ?_
  | ((with_reducible refine w_T ?h1 ?_); (case h1 => with_reducible rfl))
  | ((with_reducible refine w_F ?h1 ?_); (case h1 => with_reducible rfl))
  | ((with_reducible refine w_T ?h1 ?_); (case h1 => decide +kernel))
  | ((with_reducible refine w_F ?h1 ?_); (case h1 => decide +kernel)))
local macro_rules | `(tactic| walk_at "w") => `(tactic| repeat walk_at "w1")

section
variable {K : PySem.W.Frag}
abbrev atC (a : Addr) (k : Nat) : Cell := (a, .lst [.int (k : Nat)])
def sp_l_next (K : PySem.W.Frag) : Sp := fun vs H Q _ => ∃ H0 a ns p k R, vs = [.ref a, .ref p] ∧ SqL K H0 a (ns.map V.int) ∧ Own H0 H (atC p k :: R) ∧ Q (.int (cellN ns k)) (upd H p (.lst [.int ((k + 1 : Nat) : Int)]))
theorem p_l_next (vs : List V) (H : Hp) (Q : VK) (E : XK) (h : sp_l_next K vs H Q E) : t_l_next K { nx := fun _ H' => Q .non H', rt := Q } (L2.start n_l_next vs) H := by
  obtain ⟨H0, a, ns, p, k, R, rfl, hS, w, q⟩ := h
  have hp := w.ix 0 rfl
  unfold t_l_next
  walk_at "w"
  refine w_ixL (SqL.of hp) rfl ?_
  walk_at "w"
  refine w_setL hp (by decide) (by show (0 : Int) < 1; decide) ?_
  have w1 := w.set 0 (.lst [.int ((k + 1 : Nat) : Int)]) rfl
  have e1 : [V.int (k : Nat)].set (0 : Int).toNat (.int ((k : Int) + 1)) = [.int ((k + 1 : Nat) : Int)] := rfl
  rw [e1]
  generalize upd H p (.lst [.int ((k + 1 : Nat) : Int)]) = H1 at w1 q ⊢
  have hp1 := w1.ix 0 rfl
  have hS1 := w1.same.seq hS
  walk_at "w"
  refine w_ixL (SqL.of hp1) rfl ?_
  have e2 : (((k + 1 : Nat) : Int) - 1) = (k : Int) := by omega
  walk_at "w"
  rw [e2]
  refine w_lenL hS1 ?_
  walk_at "w"
  refine w_D (fun c => ?_) (fun c => ?_) <;> rw [List.length_map] at c
  · have c' : k < ns.length := by omega
    walk_at "w"
    refine w_ixL (v := .int (cellN ns k)) hS1 (atI_nat ?_) q
    rw [List.getElem?_map, cellN, if_pos c', List.getD_eq_getElem?_getD, List.getElem?_eq_getElem c']
    rfl
  · have c' : ¬ k < ns.length := by omega
    walk_at "w"
    refine w_lenL hS1 ?_
    walk_at "w"
    rw [List.length_map]
    have e3 : cellN ns k = if 4 < ns.length ∧ k < 44 then (ns.getD (k % ns.length) 0 + 7919 * k) * 48271 % 1000003 else 0 := by rw [cellN, if_neg c']
    refine w_D (fun c1 => ?_) (fun c1 => ?_)
    · walk_at "w"
      refine w_D (fun c2 => ?_) (fun c2 => ?_)
      · walk_at "w"
        refine w_lenL hS1 ?_
        rw [List.length_map]
        refine w_mod (by omega) ?_
        have hm : k % ns.length < ns.length := Nat.mod_lt _ (by omega)
        have e4 : ((k : Int) % (ns.length : Int)) = ((k % ns.length : Nat) : Int) := by omega
        rw [e4]
        refine w_ixL (v := .int (ns.getD (k % ns.length) 0)) hS1 (atI_nat ?_) ?_
        · rw [List.getElem?_map, List.getD_eq_getElem?_getD, List.getElem?_eq_getElem hm]
          rfl
        walk_at "w"
        rw [e3, if_pos ⟨by omega, by omega⟩] at q
        exact q
      · walk_at "w"
        rw [e3, if_neg (by omega)] at q
        exact q
    · walk_at "w"
      rw [e3, if_neg (by omega)] at q
      exact q
/-! ### drawn trees; a promise at level n serves every smaller one -/
def sp_l_tree (K : PySem.W.Frag) (n : Nat) : Sp := fun vs H Q _ => ∃ H0 a ns p k R d cnt m, vs = [.ref a, .ref p, .int d, .int cnt] ∧ SqL K H0 a (ns.map V.int) ∧ Own H0 H (atC p k :: R) ∧ m < n ∧ d + m = 6 ∧ 0 < cnt ∧
    ∀ H' v, Own H0 H' (atC p (genT ns cnt (m + 1) k).2 :: R) → Same (less H (atC p k :: R)) (less H' (atC p (genT ns cnt (m + 1) k).2 :: R)) → TreeAt K (less H' (atC p (genT ns cnt (m + 1) k).2 :: R)) (genT ns cnt (m + 1) k).1 v → Q v H'
theorem no_l_tree : ∀ vs H Q E, ¬ sp_l_tree K 0 vs H Q E := fun _ _ _ _ ⟨_, _, _, _, _, _, _, _, _, _, _, _, h, _⟩ => absurd h (Nat.not_lt_zero _)
theorem p_l_tree (n : Nat) (vs : List V) (H : Hp) (Q : VK) (E : XK) (h : sp_l_tree K (n + 1) vs H Q E) : t_l_tree K (sp_l_next K) (sp_l_number K) (sp_l_tree K n) { nx := fun _ H' => Q .non H', rt := Q } (L2.start n_l_tree vs) H := by
  obtain ⟨H0, a, ns, p, k, R, d, cnt, m, rfl, hS, w, hm, hd, hcnt, q⟩ := h
  generalize hB : less H (atC p k :: R) = B at q
  have s : Same B (less H (atC p k :: R)) := hB ▸ Same.refl _
  unfold t_l_tree
  walk_at "w"
  refine ⟨H0, a, ns, p, k, R, rfl, hS, w, ?_⟩
  clear hB
  replace w : Own H0 (upd H p (.lst [.int ((k + 1 : Nat) : Int)])) (atC p (k + 1) :: R) := w.set 0 (.lst [.int ((k + 1 : Nat) : Int)]) rfl
  have l0 : less (upd H p (.lst [.int ((k + 1 : Nat) : Int)])) (atC p (k + 1) :: R) = less H (atC p k :: R) := less_put (L := atC p k :: R) 0 rfl
  rw [← l0] at s 
  clear l0
  generalize upd H p _ = H at w s  ⊢
  rw [genT] at q
  generalize hc : cellN ns k = c at q ⊢
  have low : (c % 9 % 3 = 0 ∨ c % 9 % 3 = 1 ∨ c % 9 % 3 = 2) := by omega
  -- the kind
  have key : ∀ kind, (kind = if m = 0 ∨ m < 3 ∧ 0 < c % 4 then c % 9 % 3 else c % 9) → 0 ≤ kind → kind < 9 → (m = 0 → kind < 3) →
      tSeq (tIfS (tTest (tOp rEq (tVar 5) (tC (.int 0)))) (tRet (tTup (tCons (tC (.str "num")) (tCons (tCall (sp_l_number K) [] E0 (tCons (tOp rFdC (tVar 4) (tC (.int 9))) tNil)) tNil)))) tNext)
      (tSeq (tIfS (tTest (tOp rLtI (tVar 5) (tC (.int 3)))) (tRet (tTup (tCons (tC (.str "box")) (tCons (tOp rModP (tOp rFdC (tVar 4) (tC (.int 9))) (tC (.int 4))) tNil)))) tNext)
      (tSeq (tIfS (tTest (tOp rEq (tVar 5) (tC (.int 3)))) (tRet (tTup (tCons (tC (.str "call")) (tCons (tOp rModP (tOp rFdC (tVar 4) (tC (.int 9))) (tVar 3)) (tCons (tCall (sp_l_tree K n) [] E0 (tCons (tVar 0) (tCons (tVar 1) (tCons (tOp rAddI (tVar 2) (tC (.int 1))) (tCons (tVar 3) tNil))))) tNil))))) tNext)
      (tSeq (tAsg (tOp (rIxL K) (tLst (tCons (tC (.str "add")) (tCons (tC (.str "sub")) (tCons (tC (.str "less")) (tCons (tC (.str "share")) (tCons (tC (.str "add")) tNil)))))) (tOp rSubI (tVar 5) (tC (.int 4)))) (gName 6))
      (tSeq (tAsg (tCall (sp_l_tree K n) [] E0 (tCons (tVar 0) (tCons (tVar 1) (tCons (tOp rAddI (tVar 2) (tC (.int 1))) (tCons (tVar 3) tNil))))) (gName 7))
      (tRet (tTup (tCons (tVar 6) (tCons (tVar 7) (tCons (tCall (sp_l_tree K n) [] E0 (tCons (tVar 0) (tCons (tVar 1) (tCons (tOp rAddI (tVar 2) (tC (.int 1))) (tCons (tVar 3) tNil))))) tNil))))))))) { nx := fun _ H' => Q .non H', rt := Q } [some (.ref a), some (.ref p), some (.int d), some (.int cnt), some (.int c), some (.int kind), none, none] H := by
    intro kind hk h0 h9 hm0
    rw [← hk] at q
    walk_at "w"
    refine w_D (fun c1 => ?_) (fun c1 => ?_)
    · rw [if_pos c1] at q
      walk_at "w"
      refine ⟨_, rfl, ?_⟩
      walk_at "w"
      refine fun u hu => ?_
      have f1 := lessTup (K := K) w hu (xs := [.str "num", .int (numberOf (c / 9))])
      replace w := w.lay (o := .tup [.str "num", .int (numberOf (c / 9))]) hu
      replace s := s.trans (less_lay (o := .tup [.str "num", .int (numberOf (c / 9))]) hu)
      generalize upd H u _ = H at w s f1 ⊢
      exact q _ _ w s f1
    · rw [if_neg c1] at q
      walk_at "w"
      refine w_D (fun c2 => ?_) (fun c2 => ?_)
      · rw [if_pos c2] at q
        walk_at "w"
        refine fun u hu => ?_
        have f1 := lessTup (K := K) w hu (xs := [.str "box", .int (c / 9 % 4)])
        replace w := w.lay (o := .tup [.str "box", .int (c / 9 % 4)]) hu
        replace s := s.trans (less_lay (o := .tup [.str "box", .int (c / 9 % 4)]) hu)
        generalize upd H u _ = H at w s f1 ⊢
        exact q _ _ w s f1
      · rw [if_neg c2] at q
        obtain ⟨m, rfl⟩ : ∃ j, m = j + 1 := ⟨m - 1, by
          have : m ≠ 0 := fun e => absurd (hm0 e) (by omega)
          omega⟩
        walk_at "w"
        refine w_D (fun c3 => ?_) (fun c3 => ?_)
        · rw [if_pos c3] at q
          walk_at "w"
          refine w_mod hcnt ?_
          walk_at "w"
          refine ⟨H0, a, ns, p, k + 1, R, d + 1, cnt, m, rfl, hS, w, by omega, by omega, hcnt, fun H v w s2 f1 => ?_⟩
          replace s := s.trans s2
          clear s2
          walk_at "w"
          refine fun u hu => ?_
          have f2 := lessTup (K := K) w hu (xs := [.str "call", .int (c / 9 % cnt), v])
          replace w := w.lay (o := .tup [.str "call", .int (c / 9 % cnt), v]) hu
          replace s := s.trans (less_lay (o := .tup [.str "call", .int (c / 9 % cnt), v]) hu)
          replace f1 := f1.mono (less_lay (o := .tup [.str "call", .int (c / 9 % cnt), v]) hu)
          generalize upd H u _ = H at w s f1 f2 ⊢
          exact q _ _ w s ⟨v, f2, f1⟩
        · rw [if_neg c3] at q
          walk_at "w"
          refine fun u hu => ?_
          walk_at "w"
          refine w_ixL (v := .str (opG kind).str) (SqL.of upd_same) ?_ ?_
          · have h8 : kind = 4 ∨ kind = 5 ∨ kind = 6 ∨ kind = 7 ∨ kind = 8 := by omega
            rcases h8 with h | h | h | h | h <;> rw [h] <;> rfl
          have f0 := LsAt.of (K := K) (less_new w hu (o := .lst [.str "add", .str "sub", .str "less", .str "share", .str "add"]))
          replace w := w.lay (o := .lst [.str "add", .str "sub", .str "less", .str "share", .str "add"]) hu
          replace s := s.trans (less_lay (o := .lst [.str "add", .str "sub", .str "less", .str "share", .str "add"]) hu)
          generalize upd H u _ = H at w s f0 ⊢
          walk_at "w"
          refine ⟨H0, a, ns, p, k + 1, R, d + 1, cnt, m, rfl, hS, w, by omega, by omega, hcnt, fun H v w s2 f1 => ?_⟩
          replace s := s.trans s2
          clear s2
          walk_at "w"
          refine ⟨H0, a, ns, p, _, R, d + 1, cnt, m, rfl, hS, w, by omega, by omega, hcnt, fun H v2 w s2 f2 => ?_⟩
          replace s := s.trans s2
          replace f1 := f1.mono s2
          clear s2
          walk_at "w"
          refine fun u hu => ?_
          have f3 := lessTup (K := K) w hu (xs := [.str (opG kind).str, v, v2])
          replace w := w.lay (o := .tup [.str (opG kind).str, v, v2]) hu
          replace s := s.trans (less_lay (o := .tup [.str (opG kind).str, v, v2]) hu)
          replace f1 := f1.mono (less_lay (o := .tup [.str (opG kind).str, v, v2]) hu)
          replace f2 := f2.mono (less_lay (o := .tup [.str (opG kind).str, v, v2]) hu)
          generalize upd H u _ = H at w s f1 f2 f3 ⊢
          exact q _ _ w s ⟨v, v2, f3, f1, f2⟩
  walk_at "w"
  refine w_D (fun c1 => ?_) (fun c1 => ?_)
  · have hm0 : m = 0 := by omega
    iterate 6 walk_at "w1"
    exact key _ (by rw [if_pos (.inl hm0)]) (by omega) (by omega) (by omega)
  · have hm0 : m ≠ 0 := by omega
    walk_at "w"
    refine w_D (fun c2 => ?_) (fun c2 => ?_)
    · walk_at "w"
      refine w_D (fun c3 => ?_) (fun c3 => ?_)
      · iterate 6 walk_at "w1"
        exact key _ (by rw [if_pos (.inr ⟨by omega, c3⟩)]) (by omega) (by omega) (by omega)
      · walk_at "w1"
        exact key _ (by rw [if_neg (by omega)]) (by omega) (by omega) (by omega)
    · iterate 2 walk_at "w1"
      exact key _ (by rw [if_neg (by omega)]) (by omega) (by omega) (by omega)
end
end U

set_option maxHeartbeats 4000000
namespace U
open PySem PySem.Spec PyProof.Rows L2 Un
local macro_rules | `(tactic| walk_at "w1") => `(tactic| first
  | with_reducible refine w_seq ?_
  | with_reducible refine w_asg ?_
  | with_reducible refine w_op ?_
  | ((with_reducible refine' w_var ?h1 ?_); (case h1 => rfl))
  | with_reducible refine w_c ?_
  | with_reducible refine w_name ?_
  | with_reducible refine w_tFd ?_
  | ((with_reducible refine' w_fld ?h1 ?h2 ?_); (case h1 => assumption); (case h2 => rfl))
  | with_reducible refine w_if ?_
  | with_reducible refine w_test ?_
  | with_reducible refine w_eqS ?_
  | with_reducible refine w_eqI ?_
  | with_reducible refine w_neS ?_
  | with_reducible refine w_neI ?_
  | with_reducible refine w_isN ?_
  | with_reducible refine w_isnN ?_
  | with_reducible refine w_bl ?_
  | with_reducible refine w_ret ?_
  | with_reducible refine w_drop ?_
  | with_reducible refine w_next ?_
  | with_reducible refine w_cons ?_
  | with_reducible refine w_nil ?_
  | with_reducible refine w_call ?_
  | with_reducible refine w_cb ?_
  | with_reducible refine w_meth ?_
  | ((with_reducible refine' w_recv ?h1 ?h2 ?_); (case h1 => assumption); (case h2 => rfl))
  | with_reducible refine w_sFd ?_
  | ((with_reducible refine' w_put ?h1 ?h2 ?_); (case h1 => assumption); (case h2 => exact Nat.le_of_ble_eq_true rfl))
  | with_reducible refine w_add ?_
  | with_reducible refine w_sub ?_
  | with_reducible refine w_lt ?_
  | with_reducible refine w_le ?_
  | with_reducible refine w_gt ?_
  | with_reducible refine w_ge ?_
  | with_reducible refine w_bm ?_
  | with_reducible refine w_bm0 ?_
  | ((with_reducible refine' w_ty ?h1 ?_); (case h1 => assumption))
  | with_reducible refine w_tup ?_
  | with_reducible refine w_lst ?_
  | ((with_reducible refine' w_new ?h1 ?_); (case h1 => exact Nat.le_of_ble_eq_true rfl))
  | with_reducible refine w_gsub ?_
  | with_reducible refine w_make ?_
  | with_reducible refine w_lc ?_
  | with_reducible refine w_iList ?_
  | with_reducible refine w_for ?_
  | with_reducible refine w_yes ?_
  | with_reducible refine w_tSl ?_
  | with_reducible refine w_part ?_
  | with_reducible refine w_nopart ?_
  | with_reducible refine w_i ?_
  | with_reducible refine w_rng1 ?_
  | with_reducible refine w_rng2 ?_
  | with_reducible refine w_isiII ?_
  | with_reducible refine w_isiIB ?_
  | with_reducible refine w_isiSS ?_
  | ((with_reducible refine w_mod ?h1 ?_); (case h1 => decide))
  | ((with_reducible refine w_fdC' ?h1 ?h2 ?_); (case h1 => decide); (case h2 => decide))
  | ((with_reducible refine w_mulR ?h1 ?h2 ?_); (case h1 => decide); (case h2 => decide))
  | ((with_reducible refine w_mulL ?h1 ?h2 ?_); (case h1 => decide); (case h2 => decide))
  | ((with_reducible refine w_pow' ?h1 ?h2 ?h3 ?_); (case h1 => decide); (case h2 => decide); (case h3 => decide))
  | with_reducible refine w_andV ?_
  | with_reducible refine w_orV ?_
  | with_reducible refine w_notV ?_
  | with_reducible refine w_B ?_
  | with_reducible refine w_not ?_
  | with_reducible refine w_and ?_
  | with_reducible refine w_or ?_
  | with_reducible refine w_ifx ?_
  | with_reducible refine w_un ?_
  | ((with_reducible refine w_T ?h1 ?_); (case h1 => with_reducible rfl))
  | ((with_reducible refine w_F ?h1 ?_); (case h1 => with_reducible rfl))
  | ((with_reducible refine w_T ?h1 ?_); (case h1 => decide +kernel))
  | ((with_reducible refine w_F ?h1 ?_); (case h1 => decide +kernel)))
local macro_rules | `(tactic| walk_at "w") => `(tactic| repeat walk_at "w1")

section
variable {K : PySem.W.Frag}
def sp_l_out (K : PySem.W.Frag) : Sp := fun vs H Q _ => ∃ H0 a ns p k R more l cnt, vs = [.ref a, .ref p, .int more, .int l, .int cnt] ∧ SqL K H0 a (ns.map V.int) ∧ Own H0 H (atC p k :: R) ∧ 0 < cnt ∧
    ∀ H' v, Own H0 H' (atC p (genO ns cnt more (decide (0 < l)) k).2 :: R) → Same (less H (atC p k :: R)) (less H' (atC p (genO ns cnt more (decide (0 < l)) k).2 :: R)) → SmAt K (less H' (atC p (genO ns cnt more (decide (0 < l)) k).2 :: R)) (genO ns cnt more (decide (0 < l)) k).1 v → Q v H'
theorem p_l_out (vs : List V) (H : Hp) (Q : VK) (E : XK) (h : sp_l_out K vs H Q E) : t_l_out K (sp_l_tree K 6) { nx := fun _ H' => Q .non H', rt := Q } (L2.start n_l_out vs) H := by
  obtain ⟨H0, a, ns, p, k, R, more, l, cnt, rfl, hS, w, hcnt, q⟩ := h
  generalize hB : less H (atC p k :: R) = B at q
  have s : Same B (less H (atC p k :: R)) := hB ▸ Same.refl _
  clear hB
  unfold t_l_out
  unfold genO at q
  have last : ¬ (decide (0 < l) = true ∧ 0 < more % 4) → tRet (tTup (tCons (tC (.str "give")) (tCons (tCall (sp_l_tree K 6) [] E0 (tCons (tVar 0) (tCons (tVar 1) (tCons (tC (.int 1)) (tCons (tVar 4) tNil))))) tNil))) { nx := fun _ H' => Q .non H', rt := Q } (L2.start n_l_out [.ref a, .ref p, .int more, .int l, .int cnt]) H := fun hn => by
    rw [if_neg hn] at q
    walk_at "w"
    refine ⟨H0, a, ns, p, k, R, 1, cnt, 5, rfl, hS, w, by decide, rfl, hcnt, fun H v w s2 f1 => ?_⟩
    replace s := s.trans s2
    clear s2
    walk_at "w"
    refine fun u hu => ?_
    have f2 := lessTup (K := K) w hu (xs := [.str "give", v])
    replace w := w.lay (o := .tup [.str "give", v]) hu
    replace s := s.trans (less_lay (o := .tup [.str "give", v]) hu)
    replace f1 := f1.mono (less_lay (o := .tup [.str "give", v]) hu)
    generalize upd H u _ = H at w s f1 f2 ⊢
    exact q _ _ w s ⟨v, f2, f1⟩
  walk_at "w"
  refine w_D (fun c1 => ?_) (fun c1 => ?_)
  · walk_at "w"
    refine w_D (fun c2 => ?_) (fun c2 => ?_)
    · rw [if_pos ⟨decide_eq_true c1, c2⟩] at q
      walk_at "w"
      refine fun u hu => ?_
      walk_at "w"
      refine w_ixL (v := if more % 2 = 0 then .str "leave" else .str "next") (SqL.of upd_same) (pick2 ..) ?_
      have f0 := LsAt.of (K := K) (less_new w hu (o := .lst [.str "leave", .str "next"]))
      replace w := w.lay (o := .lst [.str "leave", .str "next"]) hu
      replace s := s.trans (less_lay (o := .lst [.str "leave", .str "next"]) hu)
      generalize upd H u _ = H at w s f0 ⊢
      walk_at "w"
      by_cases c3 : more % 2 = 0
      · rw [if_pos c3] at q ⊢
        refine fun u hu => ?_
        have f1 := lessTup (K := K) w hu (xs := [.str "leave"])
        replace w := w.lay (o := .tup [.str "leave"]) hu
        replace s := s.trans (less_lay (o := .tup [.str "leave"]) hu)
        generalize upd H u _ = H at w s f1 ⊢
        exact q _ _ w s f1
      · rw [if_neg c3] at q ⊢
        refine fun u hu => ?_
        have f1 := lessTup (K := K) w hu (xs := [.str "next"])
        replace w := w.lay (o := .tup [.str "next"]) hu
        replace s := s.trans (less_lay (o := .tup [.str "next"]) hu)
        generalize upd H u _ = H at w s f1 ⊢
        exact q _ _ w s f1
    · iterate 1 walk_at "w1"
      exact last fun h => c2 h.2
  · iterate 2 walk_at "w1"
    exact last fun h => c1 (of_decide_eq_true h.1)
def sp_l_block (K : PySem.W.Frag) (n : Nat) : Sp := fun vs H Q _ => ∃ H0 a ns p k R d l cnt m, vs = [.ref a, .ref p, .int d, .int l, .int cnt] ∧ SqL K H0 a (ns.map V.int) ∧ Own H0 H (atC p k :: R) ∧ m < n ∧ d + m = 7 ∧ 0 ≤ l ∧ 0 < cnt ∧
    ∀ H' q ws, Own H0 H' (atC p (genB ns cnt (m + 1) (decide (0 < l)) k).2 :: (q, .lst ws) :: R) → Same (less H (atC p k :: R)) (less H' (atC p (genB ns cnt (m + 1) (decide (0 < l)) k).2 :: (q, .lst ws) :: R)) →
      SmsAt K (less H' (atC p (genB ns cnt (m + 1) (decide (0 < l)) k).2 :: (q, .lst ws) :: R)) (genB ns cnt (m + 1) (decide (0 < l)) k).1 ws → ws.length ≤ 5 → Q (.ref q) H'
theorem no_l_block : ∀ vs H Q E, ¬ sp_l_block K 0 vs H Q E := fun _ _ _ _ ⟨_, _, _, _, _, _, _, _, _, _, _, _, _, h, _⟩ => absurd h (Nat.not_lt_zero _)
def sp_l_catch (K : PySem.W.Frag) (n : Nat) : Sp := fun vs H Q _ => ∃ H0 a ns p k R more d l cnt m, vs = [.ref a, .ref p, .int more, .int d, .int l, .int cnt] ∧ SqL K H0 a (ns.map V.int) ∧ Own H0 H (atC p k :: R) ∧ m < n ∧ d + (m + 1) = 7 ∧ 0 ≤ l ∧ 0 < cnt ∧
    ∀ H' v, Own H0 H' (atC p (genC ns (genB ns cnt (m + 1)) more (decide (0 < l)) k).2 :: R) → Same (less H (atC p k :: R)) (less H' (atC p (genC ns (genB ns cnt (m + 1)) more (decide (0 < l)) k).2 :: R)) →
      SmAt K (less H' (atC p (genC ns (genB ns cnt (m + 1)) more (decide (0 < l)) k).2 :: R)) (genC ns (genB ns cnt (m + 1)) more (decide (0 < l)) k).1 v → Q v H'
theorem goal_pick (more : Int) (x y : V) (a b : Int) (hx : x = .int a) (hy : y = .int b) : atI [.non, x, y] (more % 3) = some (goalV (if more % 3 = 0 then none else if more % 3 = 1 then some a else some b)) := by
  subst hx; subst hy
  rcases (by omega : more % 3 = 0 ∨ more % 3 = 1 ∨ more % 3 = 2) with h | h | h <;> rw [h] <;> rfl
theorem p_l_catch (n : Nat) (vs : List V) (H : Hp) (Q : VK) (E : XK) (h : sp_l_catch K n vs H Q E) : t_l_catch K (sp_l_number K) (sp_l_block K n) (sp_l_next K) { nx := fun _ H' => Q .non H', rt := Q } (L2.start n_l_catch vs) H := by
  obtain ⟨H0, a, ns, p, k, R, more, d, l, cnt, m, rfl, hS, w, hm, hd, hl, hcnt, q⟩ := h
  generalize hB : less H (atC p k :: R) = B at q
  have s : Same B (less H (atC p k :: R)) := hB ▸ Same.refl _
  clear hB
  unfold t_l_catch
  unfold genC at q
  dsimp only at q
  walk_at "w"
  refine ⟨_, rfl, ?_⟩
  walk_at "w"
  refine fun u hu => ?_
  walk_at "w"
  refine w_ixL (v := goalV (numG more)) (SqL.of upd_same) (goal_pick more _ _ _ _ rfl rfl) ?_
  have f0 := LsAt.of (K := K) (less_new w hu (o := .lst [.non, .int (100 + more / 12 % 4), .int (numberOf (more / 12))]))
  replace w := w.lay (o := .lst [.non, .int (100 + more / 12 % 4), .int (numberOf (more / 12))]) hu
  replace s := s.trans (less_lay (o := .lst [.non, .int (100 + more / 12 % 4), .int (numberOf (more / 12))]) hu)
  generalize upd H u _ = H at w s f0 ⊢
  clear f0
  generalize numG more = num at q ⊢
  walk_at "w"
  refine ⟨H0, a, ns, p, k, R, d + 1, l, cnt, m, rfl, hS, w, hm, by omega, hl, hcnt, fun H bq ws w s2 f1 hws => ?_⟩
  replace s := s.trans s2
  clear s2
  generalize (genB ns cnt (m + 1) (decide (0 < l)) k).2 = k1 at q w s f1
  generalize (genB ns cnt (m + 1) (decide (0 < l)) k).1 = b1 at q f1
  walk_at "w"
  refine ⟨H0, a, ns, p, k1, (bq, .lst ws) :: R, rfl, hS, w, ?_⟩
  replace w : Own H0 (upd H p (.lst [.int ((k1 + 1 : Nat) : Int)])) (atC p (k1 + 1) :: (bq, .lst ws) :: R) := w.set 0 (.lst [.int ((k1 + 1 : Nat) : Int)]) rfl
  have l0 : less (upd H p (.lst [.int ((k1 + 1 : Nat) : Int)])) (atC p (k1 + 1) :: (bq, .lst ws) :: R) = less H (atC p k1 :: (bq, .lst ws) :: R) := less_put (L := atC p k1 :: (bq, .lst ws) :: R) 0 rfl
  rw [← l0] at s f1
  clear l0
  generalize upd H p _ = H at w s f1 ⊢
  generalize cellN ns k1 = c at q ⊢
  with_reducible refine w_name ?_
  with_reducible refine w_cut (fun σ' H => ∃ ws, Own H0 H (atC p (k1 + 1) :: (bq, .lst ws) :: R) ∧ Same B (less H (atC p (k1 + 1) :: (bq, .lst ws) :: R)) ∧ SmsAt K (less H (atC p (k1 + 1) :: (bq, .lst ws) :: R)) (b1 ++ addG c num) ws ∧
    σ' = [some (.ref a), some (.ref p), some (.int more), some (.int d), some (.int l), some (.int cnt), some (goalV num), some (.int (more / 3 % 4)), some (.ref bq), some (.int c)]) ?_ fun N key => ?_
  · clear w s f1 hws
    rintro σ' H ⟨ws, w, s, f1, rfl⟩
    walk_at "w"
    refine fun u hu => ?_
    have g1 := lessTup (K := K) w hu (xs := [.str "box", .int (more / 3 % 4)])
    replace w := w.lay (o := .tup [.str "box", .int (more / 3 % 4)]) hu
    replace s := s.trans (less_lay (o := .tup [.str "box", .int (more / 3 % 4)]) hu)
    replace f1 := f1.mono (less_lay (o := .tup [.str "box", .int (more / 3 % 4)]) hu)
    generalize upd H u _ = H at w s f1 g1 ⊢
    walk_at "w"
    refine fun u2 hu2 => ?_
    have g2 := lessTup (K := K) w hu2 (xs := [.str "say", .ref u])
    replace w := w.lay (o := .tup [.str "say", .ref u]) hu2
    replace s := s.trans (less_lay (o := .tup [.str "say", .ref u]) hu2)
    replace f1 := f1.mono (less_lay (o := .tup [.str "say", .ref u]) hu2)
    replace g1 := g1.mono (less_lay (o := .tup [.str "say", .ref u]) hu2)
    generalize upd H u2 _ = H at w s f1 g1 g2 ⊢
    walk_at "w"
    refine fun u3 hu3 => ?_
    have g3 : RawAt (less (upd H u3 (.lst [.ref u2])) _) u3 (.lst [.ref u2]) := less_new w hu3 (o := .lst [.ref u2])
    replace w := w.lay (o := .lst [.ref u2]) hu3
    replace s := s.trans (less_lay (o := .lst [.ref u2]) hu3)
    replace f1 := f1.mono (less_lay (o := .lst [.ref u2]) hu3)
    replace g1 := g1.mono (less_lay (o := .lst [.ref u2]) hu3)
    replace g2 := g2.mono (less_lay (o := .lst [.ref u2]) hu3)
    generalize upd H u3 _ = H at w s f1 g1 g2 g3 ⊢
    walk_at "w"
    refine ⟨H0, a, ns, p, k1 + 1, (bq, .lst ws) :: R, d + 1, l, cnt, m, rfl, hS, w, hm, by omega, hl, hcnt, fun H q2 ws2 w s2 f2 hws2 => ?_⟩
    replace s := s.trans s2
    replace f1 := f1.mono s2
    replace g1 := g1.mono s2
    replace g2 := g2.mono s2
    replace g3 := g3.mono s2
    clear s2
    walk_at "w"
    refine w_cat g3.up (w.ix 1 rfl) (by rw [sizeLine_eq]; simp; omega) fun r hr => ?_
    have g4 := LsAt.of (K := K) (less_new w hr (o := .lst ([V.ref u2] ++ ws2)))
    replace w := w.lay (o := .lst ([V.ref u2] ++ ws2)) hr
    replace s := s.trans (less_lay (o := .lst ([V.ref u2] ++ ws2)) hr)
    replace f1 := f1.mono (less_lay (o := .lst ([V.ref u2] ++ ws2)) hr)
    replace f2 := f2.mono (less_lay (o := .lst ([V.ref u2] ++ ws2)) hr)
    replace g1 := g1.mono (less_lay (o := .lst ([V.ref u2] ++ ws2)) hr)
    replace g2 := g2.mono (less_lay (o := .lst ([V.ref u2] ++ ws2)) hr)
    replace g3 := g3.mono (less_lay (o := .lst ([V.ref u2] ++ ws2)) hr)
    generalize upd H r _ = H at w s f1 f2 g1 g2 g3 g4 ⊢
    have g5 := LsAt.of (K := K) (less_given1 w)
    replace w := w.give1
    replace s := s.trans less_give1
    replace f1 := f1.mono less_give1
    replace f2 := f2.mono less_give1
    replace g1 := g1.mono less_give1
    replace g2 := g2.mono less_give1
    replace g3 := g3.mono less_give1
    replace g4 := g4.mono less_give1
    have g6 := LsAt.of (K := K) (less_given1 w)
    replace w := w.give1
    replace s := s.trans less_give1
    replace f1 := f1.mono less_give1
    replace f2 := f2.mono less_give1
    replace g1 := g1.mono less_give1
    replace g2 := g2.mono less_give1
    replace g3 := g3.mono less_give1
    replace g4 := g4.mono less_give1
    walk_at "w"
    refine fun u4 hu4 => ?_
    have g7 := lessTup (K := K) w hu4 (xs := [.str "catch", .ref bq, goalV num, .int (more / 3 % 4), .ref r])
    replace w := w.lay (o := .tup [.str "catch", .ref bq, goalV num, .int (more / 3 % 4), .ref r]) hu4
    replace s := s.trans (less_lay (o := .tup [.str "catch", .ref bq, goalV num, .int (more / 3 % 4), .ref r]) hu4)
    replace f1 := f1.mono (less_lay (o := .tup [.str "catch", .ref bq, goalV num, .int (more / 3 % 4), .ref r]) hu4)
    replace f2 := f2.mono (less_lay (o := .tup [.str "catch", .ref bq, goalV num, .int (more / 3 % 4), .ref r]) hu4)
    replace g1 := g1.mono (less_lay (o := .tup [.str "catch", .ref bq, goalV num, .int (more / 3 % 4), .ref r]) hu4)
    replace g2 := g2.mono (less_lay (o := .tup [.str "catch", .ref bq, goalV num, .int (more / 3 % 4), .ref r]) hu4)
    replace g4 := g4.mono (less_lay (o := .tup [.str "catch", .ref bq, goalV num, .int (more / 3 % 4), .ref r]) hu4)
    replace g6 := g6.mono (less_lay (o := .tup [.str "catch", .ref bq, goalV num, .int (more / 3 % 4), .ref r]) hu4)
    generalize upd H u4 _ = H at w s f1 f2 g1 g2 g4 g6 g7 ⊢
    exact q _ _ w s ⟨bq, r, ws, _, g7, g6, f1, g4, ⟨.ref u2, ws2, rfl, ⟨_, g2, g1⟩, f2⟩⟩
  · have hq := w.ix 1 rfl
    walk_at "w"
    refine w_D (fun c1 => ?_) (fun c1 => ?_)
    · walk_at "w"
      refine w_ND (fun c2 => ?_) (fun c2 => ?_) <;> rw [goalV_non] at c2
      · walk_at "w"
        refine w_D (fun c3 => absurd c3 (by omega)) fun c3 => ?_
        walk_at "w"
        refine key _ _ ⟨ws, w, s, ?_, rfl⟩
        unfold addG
        rw [if_pos c1, c2]
        rw [List.append_nil]
        exact f1
      · cases num with
        | none => exact absurd rfl c2
        | some z =>
        dsimp only [goalV]
        walk_at "w"
        have hq := w.ix 1 rfl
        walk_at "w"
        refine fun u hu => ?_
        have g1 := lessTup (K := K) w hu (xs := [.str "num", .int z])
        replace w := w.lay (o := .tup [.str "num", .int z]) hu
        replace s := s.trans (less_lay (o := .tup [.str "num", .int z]) hu)
        replace f1 := f1.mono (less_lay (o := .tup [.str "num", .int z]) hu)
        generalize upd H u _ = H at w s f1 g1 ⊢
        walk_at "w"
        refine fun u2 hu2 => ?_
        have g2 := lessTup (K := K) w hu2 (xs := [.str "raise", .ref u])
        replace w := w.lay (o := .tup [.str "raise", .ref u]) hu2
        replace s := s.trans (less_lay (o := .tup [.str "raise", .ref u]) hu2)
        replace f1 := f1.mono (less_lay (o := .tup [.str "raise", .ref u]) hu2)
        replace g1 := g1.mono (less_lay (o := .tup [.str "raise", .ref u]) hu2)
        generalize upd H u2 _ = H at w s f1 g1 g2 ⊢
        have hq := w.ix 1 rfl
        walk_at "w"
        refine w_app hq (by rw [sizeLine_eq]; omega) ?_
        replace f1 := smsAt_snoc f1 (s := .raise (.num z)) ⟨_, g2, g1⟩
        replace w : Own H0 (upd H bq (.lst (ws ++ [V.ref u2]))) (atC p (k1 + 1) :: (bq, .lst (ws ++ [V.ref u2])) :: R) := w.set 1 (.lst (ws ++ [V.ref u2])) rfl
        have l0 : less (upd H bq (.lst (ws ++ [V.ref u2]))) (atC p (k1 + 1) :: (bq, .lst (ws ++ [V.ref u2])) :: R) = less H (atC p (k1 + 1) :: (bq, .lst ws) :: R) := less_put (L := atC p (k1 + 1) :: (bq, .lst ws) :: R) 1 rfl
        rw [← l0] at s f1
        clear l0
        generalize upd H bq _ = H at w s f1 ⊢
        walk_at "w"
        refine key _ _ ⟨ws ++ [.ref u2], w, s, ?_, rfl⟩
        unfold addG
        rw [if_pos c1]
        exact f1
    · walk_at "w"
      refine w_D (fun c3 => ?_) fun c3 => ?_
      · walk_at "w"
        have hq := w.ix 1 rfl
        walk_at "w"
        refine fun u hu => ?_
        have g1 := lessTup (K := K) w hu (xs := [.str "num", .int (100 + c / 3 % 4)])
        replace w := w.lay (o := .tup [.str "num", .int (100 + c / 3 % 4)]) hu
        replace s := s.trans (less_lay (o := .tup [.str "num", .int (100 + c / 3 % 4)]) hu)
        replace f1 := f1.mono (less_lay (o := .tup [.str "num", .int (100 + c / 3 % 4)]) hu)
        generalize upd H u _ = H at w s f1 g1 ⊢
        walk_at "w"
        refine fun u2 hu2 => ?_
        have g2 := lessTup (K := K) w hu2 (xs := [.str "raise", .ref u])
        replace w := w.lay (o := .tup [.str "raise", .ref u]) hu2
        replace s := s.trans (less_lay (o := .tup [.str "raise", .ref u]) hu2)
        replace f1 := f1.mono (less_lay (o := .tup [.str "raise", .ref u]) hu2)
        replace g1 := g1.mono (less_lay (o := .tup [.str "raise", .ref u]) hu2)
        generalize upd H u2 _ = H at w s f1 g1 g2 ⊢
        have hq := w.ix 1 rfl
        walk_at "w"
        refine w_app hq (by rw [sizeLine_eq]; omega) ?_
        replace f1 := smsAt_snoc f1 (s := .raise (.num (100 + c / 3 % 4))) ⟨_, g2, g1⟩
        replace w : Own H0 (upd H bq (.lst (ws ++ [V.ref u2]))) (atC p (k1 + 1) :: (bq, .lst (ws ++ [V.ref u2])) :: R) := w.set 1 (.lst (ws ++ [V.ref u2])) rfl
        have l0 : less (upd H bq (.lst (ws ++ [V.ref u2]))) (atC p (k1 + 1) :: (bq, .lst (ws ++ [V.ref u2])) :: R) = less H (atC p (k1 + 1) :: (bq, .lst ws) :: R) := less_put (L := atC p (k1 + 1) :: (bq, .lst ws) :: R) 1 rfl
        rw [← l0] at s f1
        clear l0
        generalize upd H bq _ = H at w s f1 ⊢
        walk_at "w"
        refine key _ _ ⟨ws ++ [.ref u2], w, s, ?_, rfl⟩
        unfold addG
        rw [if_neg c1, if_pos c3]
        exact f1
      · walk_at "w"
        refine key _ _ ⟨ws, w, s, ?_, rfl⟩
        unfold addG
        rw [if_neg c1, if_neg c3]
        rw [List.append_nil]
        exact f1
end
end U

set_option maxHeartbeats 4000000
namespace U
open PySem PySem.Spec PyProof.Rows L2 Un
local macro_rules | `(tactic| walk_at "w1") => `(tactic| first
  | with_reducible refine w_seq ?_
  | with_reducible refine w_asg ?_
  | with_reducible refine w_op ?_
  | ((with_reducible refine' w_var ?h1 ?_); (case h1 => rfl))
  | with_reducible refine w_c ?_
  | with_reducible refine w_name ?_
  | with_reducible refine w_tFd ?_
  | ((with_reducible refine' w_fld ?h1 ?h2 ?_); (case h1 => assumption); (case h2 => rfl))
  | with_reducible refine w_if ?_
  | with_reducible refine w_test ?_
  | with_reducible refine w_eqS ?_
  | with_reducible refine w_eqI ?_
  | with_reducible refine w_neS ?_
  | with_reducible refine w_neI ?_
  | with_reducible refine w_isN ?_
  | with_reducible refine w_isnN ?_
  | with_reducible refine w_bl ?_
  | with_reducible refine w_ret ?_
  | with_reducible refine w_drop ?_
  | with_reducible refine w_next ?_
  | with_reducible refine w_cons ?_
  | with_reducible refine w_nil ?_
  | with_reducible refine w_call ?_
  | with_reducible refine w_cb ?_
  | with_reducible refine w_meth ?_
  | ((with_reducible refine' w_recv ?h1 ?h2 ?_); (case h1 => assumption); (case h2 => rfl))
  | with_reducible refine w_sFd ?_
  | ((with_reducible refine' w_put ?h1 ?h2 ?_); (case h1 => assumption); (case h2 => exact Nat.le_of_ble_eq_true rfl))
  | with_reducible refine w_add ?_
  | with_reducible refine w_sub ?_
  | with_reducible refine w_lt ?_
  | with_reducible refine w_le ?_
  | with_reducible refine w_gt ?_
  | with_reducible refine w_ge ?_
  | with_reducible refine w_bm ?_
  | with_reducible refine w_bm0 ?_
  | ((with_reducible refine' w_ty ?h1 ?_); (case h1 => assumption))
  | with_reducible refine w_tup ?_
  | with_reducible refine w_lst ?_
  | ((with_reducible refine' w_new ?h1 ?_); (case h1 => exact Nat.le_of_ble_eq_true rfl))
  | with_reducible refine w_gsub ?_
  | with_reducible refine w_make ?_
  | with_reducible refine w_lc ?_
  | with_reducible refine w_iList ?_
  | with_reducible refine w_for ?_
  | with_reducible refine w_yes ?_
  | with_reducible refine w_tSl ?_
  | with_reducible refine w_part ?_
  | with_reducible refine w_nopart ?_
  | with_reducible refine w_i ?_
  | with_reducible refine w_rng1 ?_
  | with_reducible refine w_rng2 ?_
  | with_reducible refine w_isiII ?_
  | with_reducible refine w_isiIB ?_
  | with_reducible refine w_isiSS ?_
  | ((with_reducible refine w_mod ?h1 ?_); (case h1 => decide))
  | ((with_reducible refine w_fdC' ?h1 ?h2 ?_); (case h1 => decide); (case h2 => decide))
  | ((with_reducible refine w_mulR ?h1 ?h2 ?_); (case h1 => decide); (case h2 => decide))
  | ((with_reducible refine w_mulL ?h1 ?h2 ?_); (case h1 => decide); (case h2 => decide))
  | ((with_reducible refine w_pow' ?h1 ?h2 ?h3 ?_); (case h1 => decide); (case h2 => decide); (case h3 => decide))
  | with_reducible refine w_andV ?_
  | with_reducible refine w_orV ?_
  | with_reducible refine w_notV ?_
  | with_reducible refine w_B ?_
  | with_reducible refine w_not ?_
  | with_reducible refine w_and ?_
  | with_reducible refine w_or ?_
  | with_reducible refine w_ifx ?_
  | with_reducible refine w_un ?_
  | ((with_reducible refine w_T ?h1 ?_); (case h1 => with_reducible rfl))
  | ((with_reducible refine w_F ?h1 ?_); (case h1 => with_reducible rfl))
  | ((with_reducible refine w_T ?h1 ?_); (case h1 => decide +kernel))
  | ((with_reducible refine w_F ?h1 ?_); (case h1 => decide +kernel)))
local macro_rules | `(tactic| walk_at "w") => `(tactic| repeat walk_at "w1")

section
variable {K : PySem.W.Frag}
def sp_l_ends (K : PySem.W.Frag) (n : Nat) : Sp := fun vs H Q _ => ∃ H0 a ns p k R more d l cnt m, vs = [.ref a, .ref p, .int more, .int d, .int l, .int cnt] ∧ SqL K H0 a (ns.map V.int) ∧ Own H0 H (atC p k :: R) ∧ m + 1 < n ∧ d + (m + 2) = 7 ∧ 0 ≤ l ∧ 0 < cnt ∧
    ∀ H' v, Own H0 H' (atC p (genE ns cnt (genB ns cnt (m + 2)) (genB ns cnt (m + 1)) more (decide (0 < l)) k).2 :: R) → Same (less H (atC p k :: R)) (less H' (atC p (genE ns cnt (genB ns cnt (m + 2)) (genB ns cnt (m + 1)) more (decide (0 < l)) k).2 :: R)) →
      SmAt K (less H' (atC p (genE ns cnt (genB ns cnt (m + 2)) (genB ns cnt (m + 1)) more (decide (0 < l)) k).2 :: R)) (genE ns cnt (genB ns cnt (m + 2)) (genB ns cnt (m + 1)) more (decide (0 < l)) k).1 v → Q v H'
theorem p_l_ends (n : Nat) (vs : List V) (H : Hp) (Q : VK) (E : XK) (h : sp_l_ends K n vs H Q E) : t_l_ends K (sp_l_block K n) (sp_l_out K) { nx := fun _ H' => Q .non H', rt := Q } (L2.start n_l_ends vs) H := by
  obtain ⟨H0, a, ns, p, k, R, more, d, l, cnt, m, rfl, hS, w, hm, hd, hl, hcnt, q⟩ := h
  generalize hB : less H (atC p k :: R) = B at q
  have s : Same B (less H (atC p k :: R)) := hB ▸ Same.refl _
  clear hB
  unfold t_l_ends
  unfold genE at q
  dsimp only at q
  walk_at "w"
  refine ⟨H0, a, ns, p, k, R, d + 2, l, cnt, m, rfl, hS, w, by omega, by omega, hl, hcnt, fun H bq ws w s2 f1 hws => ?_⟩
  replace s := s.trans s2
  clear s2
  generalize (genB ns cnt (m + 1) (decide (0 < l)) k).2 = k1 at q w s f1
  generalize (genB ns cnt (m + 1) (decide (0 < l)) k).1 = b1 at q f1
  generalize hk2 : (if 0 < more % 3 then (genO ns cnt (more / 3) (decide (0 < l)) k1).2 else k1) = k2 at q
  generalize hb2 : (if 0 < more % 3 then [(genO ns cnt (more / 3) (decide (0 < l)) k1).1] else []) = b2 at q
  with_reducible refine w_name ?_
  with_reducible refine w_cut (fun σ' H => ∃ ws, Own H0 H (atC p k2 :: (bq, .lst ws) :: R) ∧ Same B (less H (atC p k2 :: (bq, .lst ws) :: R)) ∧ SmsAt K (less H (atC p k2 :: (bq, .lst ws) :: R)) (b1 ++ b2) ws ∧
    σ' = [some (.ref a), some (.ref p), some (.int more), some (.int d), some (.int l), some (.int cnt), some (.ref bq), none, none]) ?_ fun N key => ?_
  · clear w s f1 hws
    rintro σ' H ⟨ws, w, s, f1, rfl⟩
    walk_at "w"
    refine fun u hu => ?_
    have g1 := lessTup (K := K) w hu (xs := [.str "num", .int (more / 12 % 9)])
    replace w := w.lay (o := .tup [.str "num", .int (more / 12 % 9)]) hu
    replace s := s.trans (less_lay (o := .tup [.str "num", .int (more / 12 % 9)]) hu)
    replace f1 := f1.mono (less_lay (o := .tup [.str "num", .int (more / 12 % 9)]) hu)
    generalize upd H u _ = H at w s f1 g1 ⊢
    walk_at "w"
    refine fun u2 hu2 => ?_
    have g2 := lessTup (K := K) w hu2 (xs := [.str "say", .ref u])
    replace w := w.lay (o := .tup [.str "say", .ref u]) hu2
    replace s := s.trans (less_lay (o := .tup [.str "say", .ref u]) hu2)
    replace f1 := f1.mono (less_lay (o := .tup [.str "say", .ref u]) hu2)
    replace g1 := g1.mono (less_lay (o := .tup [.str "say", .ref u]) hu2)
    generalize upd H u2 _ = H at w s f1 g1 g2 ⊢
    walk_at "w"
    refine fun u3 hu3 => ?_
    have g3 := LsAt.of (K := K) (less_new w hu3 (o := .lst [.ref u2]))
    replace w := w.lay (o := .lst [.ref u2]) hu3
    replace s := s.trans (less_lay (o := .lst [.ref u2]) hu3)
    replace f1 := f1.mono (less_lay (o := .lst [.ref u2]) hu3)
    replace g1 := g1.mono (less_lay (o := .lst [.ref u2]) hu3)
    replace g2 := g2.mono (less_lay (o := .lst [.ref u2]) hu3)
    generalize upd H u3 _ = H at w s f1 g1 g2 g3 ⊢
    walk_at "w"
    refine fun u4 hu4 => ?_
    have g4 := lessTup (K := K) w hu4 (xs := [.str "end", .ref bq, .ref u3])
    replace w := w.lay (o := .tup [.str "end", .ref bq, .ref u3]) hu4
    replace s := s.trans (less_lay (o := .tup [.str "end", .ref bq, .ref u3]) hu4)
    replace f1 := f1.mono (less_lay (o := .tup [.str "end", .ref bq, .ref u3]) hu4)
    replace g1 := g1.mono (less_lay (o := .tup [.str "end", .ref bq, .ref u3]) hu4)
    replace g2 := g2.mono (less_lay (o := .tup [.str "end", .ref bq, .ref u3]) hu4)
    replace g3 := g3.mono (less_lay (o := .tup [.str "end", .ref bq, .ref u3]) hu4)
    generalize upd H u4 _ = H at w s f1 g1 g2 g3 g4 ⊢
    walk_at "w"
    refine fun v1 hv1 => ?_
    have i1 := lessTup (K := K) w hv1 (xs := [.str "num", .int (10 + more / 12 % 9)])
    replace w := w.lay (o := .tup [.str "num", .int (10 + more / 12 % 9)]) hv1
    replace s := s.trans (less_lay (o := .tup [.str "num", .int (10 + more / 12 % 9)]) hv1)
    replace f1 := f1.mono (less_lay (o := .tup [.str "num", .int (10 + more / 12 % 9)]) hv1)
    replace g1 := g1.mono (less_lay (o := .tup [.str "num", .int (10 + more / 12 % 9)]) hv1)
    replace g2 := g2.mono (less_lay (o := .tup [.str "num", .int (10 + more / 12 % 9)]) hv1)
    replace g3 := g3.mono (less_lay (o := .tup [.str "num", .int (10 + more / 12 % 9)]) hv1)
    replace g4 := g4.mono (less_lay (o := .tup [.str "num", .int (10 + more / 12 % 9)]) hv1)
    generalize upd H v1 _ = H at w s f1 g1 g2 g3 g4 i1 ⊢
    walk_at "w"
    refine fun v2 hv2 => ?_
    have i2 := lessTup (K := K) w hv2 (xs := [.str "say", .ref v1])
    replace w := w.lay (o := .tup [.str "say", .ref v1]) hv2
    replace s := s.trans (less_lay (o := .tup [.str "say", .ref v1]) hv2)
    replace f1 := f1.mono (less_lay (o := .tup [.str "say", .ref v1]) hv2)
    replace g1 := g1.mono (less_lay (o := .tup [.str "say", .ref v1]) hv2)
    replace g2 := g2.mono (less_lay (o := .tup [.str "say", .ref v1]) hv2)
    replace g3 := g3.mono (less_lay (o := .tup [.str "say", .ref v1]) hv2)
    replace g4 := g4.mono (less_lay (o := .tup [.str "say", .ref v1]) hv2)
    replace i1 := i1.mono (less_lay (o := .tup [.str "say", .ref v1]) hv2)
    generalize upd H v2 _ = H at w s f1 g1 g2 g3 g4 i1 i2 ⊢
    walk_at "w"
    refine fun v3 hv3 => ?_
    have i3 : RawAt (less (upd H v3 (.lst [.ref v2])) _) v3 (.lst [.ref v2]) := less_new w hv3 (o := .lst [.ref v2])
    replace w := w.lay (o := .lst [.ref v2]) hv3
    replace s := s.trans (less_lay (o := .lst [.ref v2]) hv3)
    replace f1 := f1.mono (less_lay (o := .lst [.ref v2]) hv3)
    replace g1 := g1.mono (less_lay (o := .lst [.ref v2]) hv3)
    replace g2 := g2.mono (less_lay (o := .lst [.ref v2]) hv3)
    replace g3 := g3.mono (less_lay (o := .lst [.ref v2]) hv3)
    replace g4 := g4.mono (less_lay (o := .lst [.ref v2]) hv3)
    replace i1 := i1.mono (less_lay (o := .lst [.ref v2]) hv3)
    replace i2 := i2.mono (less_lay (o := .lst [.ref v2]) hv3)
    generalize upd H v3 _ = H at w s f1 g1 g2 g3 g4 i1 i2 i3 ⊢
    walk_at "w"
    refine fun u5 hu5 => ?_
    have g5 := LsAt.of (K := K) (less_new w hu5 (o := .lst [.ref u4]))
    replace w := w.lay (o := .lst [.ref u4]) hu5
    replace s := s.trans (less_lay (o := .lst [.ref u4]) hu5)
    replace f1 := f1.mono (less_lay (o := .lst [.ref u4]) hu5)
    replace g1 := g1.mono (less_lay (o := .lst [.ref u4]) hu5)
    replace g2 := g2.mono (less_lay (o := .lst [.ref u4]) hu5)
    replace g3 := g3.mono (less_lay (o := .lst [.ref u4]) hu5)
    replace g4 := g4.mono (less_lay (o := .lst [.ref u4]) hu5)
    replace i1 := i1.mono (less_lay (o := .lst [.ref u4]) hu5)
    replace i2 := i2.mono (less_lay (o := .lst [.ref u4]) hu5)
    replace i3 := i3.mono (less_lay (o := .lst [.ref u4]) hu5)
    generalize upd H u5 _ = H at w s f1 g1 g2 g3 g4 i1 i2 i3 g5 ⊢
    walk_at "w"
    refine ⟨H0, a, ns, p, k2, (bq, .lst ws) :: R, d + 1, l, cnt, m + 1, rfl, hS, w, by omega, by omega, hl, hcnt, fun H q2 ws2 w s2 f2 hws2 => ?_⟩
    replace s := s.trans s2
    replace f1 := f1.mono s2
    replace g1 := g1.mono s2
    replace g2 := g2.mono s2
    replace g3 := g3.mono s2
    replace g4 := g4.mono s2
    replace g5 := g5.mono s2
    replace i1 := i1.mono s2
    replace i2 := i2.mono s2
    replace i3 := i3.mono s2
    clear s2
    walk_at "w"
    refine w_cat i3.up (w.ix 1 rfl) (by rw [sizeLine_eq]; simp; omega) fun r hr => ?_
    have i4 := LsAt.of (K := K) (less_new w hr (o := .lst ([V.ref v2] ++ ws2)))
    replace w := w.lay (o := .lst ([V.ref v2] ++ ws2)) hr
    replace s := s.trans (less_lay (o := .lst ([V.ref v2] ++ ws2)) hr)
    replace f1 := f1.mono (less_lay (o := .lst ([V.ref v2] ++ ws2)) hr)
    replace f2 := f2.mono (less_lay (o := .lst ([V.ref v2] ++ ws2)) hr)
    replace g1 := g1.mono (less_lay (o := .lst ([V.ref v2] ++ ws2)) hr)
    replace g2 := g2.mono (less_lay (o := .lst ([V.ref v2] ++ ws2)) hr)
    replace g3 := g3.mono (less_lay (o := .lst ([V.ref v2] ++ ws2)) hr)
    replace g4 := g4.mono (less_lay (o := .lst ([V.ref v2] ++ ws2)) hr)
    replace g5 := g5.mono (less_lay (o := .lst ([V.ref v2] ++ ws2)) hr)
    replace i1 := i1.mono (less_lay (o := .lst ([V.ref v2] ++ ws2)) hr)
    replace i2 := i2.mono (less_lay (o := .lst ([V.ref v2] ++ ws2)) hr)
    replace i3 := i3.mono (less_lay (o := .lst ([V.ref v2] ++ ws2)) hr)
    generalize upd H r _ = H at w s f1 f2 g1 g2 g3 g4 g5 i1 i2 i3 i4 ⊢
    have g6 := LsAt.of (K := K) (less_given1 w)
    replace w := w.give1
    replace s := s.trans less_give1
    replace f1 := f1.mono less_give1
    replace f2 := f2.mono less_give1
    replace g1 := g1.mono less_give1
    replace g2 := g2.mono less_give1
    replace g3 := g3.mono less_give1
    replace g4 := g4.mono less_give1
    replace g5 := g5.mono less_give1
    replace i1 := i1.mono less_give1
    replace i2 := i2.mono less_give1
    replace i4 := i4.mono less_give1
    have g7 := LsAt.of (K := K) (less_given1 w)
    replace w := w.give1
    replace s := s.trans less_give1
    replace f1 := f1.mono less_give1
    replace f2 := f2.mono less_give1
    replace g1 := g1.mono less_give1
    replace g2 := g2.mono less_give1
    replace g3 := g3.mono less_give1
    replace g4 := g4.mono less_give1
    replace g5 := g5.mono less_give1
    replace i1 := i1.mono less_give1
    replace i2 := i2.mono less_give1
    replace i4 := i4.mono less_give1
    walk_at "w"
    refine fun u6 hu6 => ?_
    have g8 := lessTup (K := K) w hu6 (xs := [.str "end", .ref u5, .ref r])
    replace w := w.lay (o := .tup [.str "end", .ref u5, .ref r]) hu6
    replace s := s.trans (less_lay (o := .tup [.str "end", .ref u5, .ref r]) hu6)
    replace f1 := f1.mono (less_lay (o := .tup [.str "end", .ref u5, .ref r]) hu6)
    replace f2 := f2.mono (less_lay (o := .tup [.str "end", .ref u5, .ref r]) hu6)
    replace g1 := g1.mono (less_lay (o := .tup [.str "end", .ref u5, .ref r]) hu6)
    replace g2 := g2.mono (less_lay (o := .tup [.str "end", .ref u5, .ref r]) hu6)
    replace g3 := g3.mono (less_lay (o := .tup [.str "end", .ref u5, .ref r]) hu6)
    replace g4 := g4.mono (less_lay (o := .tup [.str "end", .ref u5, .ref r]) hu6)
    replace g5 := g5.mono (less_lay (o := .tup [.str "end", .ref u5, .ref r]) hu6)
    replace g7 := g7.mono (less_lay (o := .tup [.str "end", .ref u5, .ref r]) hu6)
    replace i1 := i1.mono (less_lay (o := .tup [.str "end", .ref u5, .ref r]) hu6)
    replace i2 := i2.mono (less_lay (o := .tup [.str "end", .ref u5, .ref r]) hu6)
    replace i4 := i4.mono (less_lay (o := .tup [.str "end", .ref u5, .ref r]) hu6)
    generalize upd H u6 _ = H at w s f1 f2 g1 g2 g3 g4 g5 g7 i1 i2 i4 g8 ⊢
    refine q _ _ w s ⟨u5, r, _, _, g8, g5, ⟨.ref u4, [], rfl, ⟨bq, u3, ws, _, g4, g7, f1, g3, ⟨.ref u2, [], rfl, ⟨_, g2, g1⟩, rfl⟩⟩, rfl⟩, i4, ⟨.ref v2, ws2, rfl, ⟨_, i2, i1⟩, f2⟩⟩
  · walk_at "w"
    refine w_D (fun c1 => ?_) (fun c1 => ?_)
    · rw [if_pos c1] at hk2 hb2
      subst hk2 hb2
      have hq := w.ix 1 rfl
      walk_at "w"
      refine ⟨H0, a, ns, p, k1, (bq, .lst ws) :: R, _, l, cnt, rfl, hS, w, hcnt, fun H v w s2 f2 => ?_⟩
      replace s := s.trans s2
      replace f1 := f1.mono s2
      clear s2
      have hq := w.ix 1 rfl
      walk_at "w"
      refine w_app hq (by rw [sizeLine_eq]; omega) ?_
      replace f1 := smsAt_snoc f1 f2
      generalize (genO ns cnt (more / 3) (decide (0 < l)) k1).2 = k2 at w s f1 f2 key
      replace w : Own H0 (upd H bq (.lst (ws ++ [v]))) (atC p k2 :: (bq, .lst (ws ++ [v])) :: R) := w.set 1 (.lst (ws ++ [v])) rfl
      have l0 : less (upd H bq (.lst (ws ++ [v]))) (atC p k2 :: (bq, .lst (ws ++ [v])) :: R) = less H (atC p k2 :: (bq, .lst ws) :: R) := less_put (L := atC p k2 :: (bq, .lst ws) :: R) 1 rfl
      rw [← l0] at s f1
      clear l0
      generalize upd H bq _ = H at w s f1 ⊢
      exact key _ _ ⟨ws ++ [v], w, s, f1, rfl⟩
    · rw [if_neg c1] at hk2 hb2
      subst hk2 hb2
      walk_at "w"
      refine key _ _ ⟨ws, w, s, ?_, rfl⟩
      rw [List.append_nil]
      exact f1
def sp_l_row (K : PySem.W.Frag) (n : Nat) : Sp := fun vs H Q _ => ∃ H0 a ns p k R d l cnt m, vs = [.ref a, .ref p, .int d, .int l, .int cnt] ∧ SqL K H0 a (ns.map V.int) ∧ Own H0 H (atC p k :: R) ∧ m < n ∧ d + m = 7 ∧ 0 ≤ l ∧ 0 < cnt ∧
    ∀ H' v, Own H0 H' (atC p (genR ns cnt (m + 1) (genB ns cnt m) (genB ns cnt (m - 1)) (decide (0 < l)) k).2 :: R) → Same (less H (atC p k :: R)) (less H' (atC p (genR ns cnt (m + 1) (genB ns cnt m) (genB ns cnt (m - 1)) (decide (0 < l)) k).2 :: R)) →
      SmAt K (less H' (atC p (genR ns cnt (m + 1) (genB ns cnt m) (genB ns cnt (m - 1)) (decide (0 < l)) k).2 :: R)) (genR ns cnt (m + 1) (genB ns cnt m) (genB ns cnt (m - 1)) (decide (0 < l)) k).1 v → Q v H'
theorem genB_eq (ns : List Int) (cnt : Int) (m : Nat) : genB ns cnt (m + 1) = blockG ns cnt (m + 1) (genB ns cnt m) (genB ns cnt (m - 1)) := by
  cases m with
  | zero => rfl
  | succ m => rfl
theorem p_l_block (n : Nat) (vs : List V) (H : Hp) (Q : VK) (E : XK) (h : sp_l_block K n vs H Q E) : t_l_block K (sp_l_next K) (sp_l_row K n) { nx := fun _ H' => Q .non H', rt := Q } (L2.start n_l_block vs) H := by
  obtain ⟨H0, a, ns, p, k, R, d, l, cnt, m, rfl, hS, w, hm, hd, hl, hcnt, q⟩ := h
  generalize hB : less H (atC p k :: R) = B at q
  have s : Same B (less H (atC p k :: R)) := hB ▸ Same.refl _
  clear hB
  unfold t_l_block
  rw [genB_eq] at q
  unfold blockG at q
  walk_at "w"
  refine ⟨H0, a, ns, p, k, R, rfl, hS, w, ?_⟩
  replace w : Own H0 (upd H p (.lst [.int ((k + 1 : Nat) : Int)])) (atC p (k + 1) :: R) := w.set 0 (.lst [.int ((k + 1 : Nat) : Int)]) rfl
  have l0 : less (upd H p (.lst [.int ((k + 1 : Nat) : Int)])) (atC p (k + 1) :: R) = less H (atC p k :: R) := less_put (L := atC p k :: R) 0 rfl
  rw [← l0] at s 
  clear l0
  generalize upd H p _ = H at w s  ⊢
  generalize cellN ns k = c at q ⊢
  generalize hmany : manyG (m + 1) c = many at q
  have hmany5 : many ≤ 5 := by
    rw [← hmany]
    unfold manyG
    split <;> omega
  have rest : tSeq (tAsg (tLst tNil) (gName 6)) (tSeq (tFor (iRng1 (tCons (tVar 5) tNil)) (gName 7) (tDrop (tBM K "list" rAppend (tVar 6) (tCons (tCall (sp_l_row K n) [] E0 (tCons (tVar 0) (tCons (tVar 1) (tCons (tVar 2) (tCons (tVar 3) (tCons (tVar 4) tNil)))))) tNil)))) (tRet (tVar 6)))
      { nx := fun _ H' => Q .non H', rt := Q } [some (.ref a), some (.ref p), some (.int d), some (.int l), some (.int cnt), some (.int (many : Nat)), none, none] H := by
    walk_at "w"
    refine fun bq hbq => ?_
    have l0 := less_take (L := atC p (k + 1) :: R) (o := .lst []) hbq
    have w := (w.take (o := .lst []) hbq).swp
    rw [← l0, less_swp] at s
    clear l0
    generalize upd H bq _ = H at w s ⊢
    walk_at "w"
    refine w_r1 (by omega) (by omega) ?_
    rw [Int.toNat_natCast]
    refine for_range (fun i σ H => ∃ bs ki ws x, i ≤ many ∧ Own H0 H (atC p ki :: (bq, .lst ws) :: R) ∧ Same B (less H (atC p ki :: (bq, .lst ws) :: R)) ∧ SmsAt K (less H (atC p ki :: (bq, .lst ws) :: R)) bs ws ∧ ws.length = i ∧
      rowsG (genR ns cnt (m + 1) (genB ns cnt m) (genB ns cnt (m - 1)) (decide (0 < l))) many (k + 1) = (bs ++ (rowsG (genR ns cnt (m + 1) (genB ns cnt m) (genB ns cnt (m - 1)) (decide (0 < l))) (many - i) ki).1, (rowsG (genR ns cnt (m + 1) (genB ns cnt m) (genB ns cnt (m - 1)) (decide (0 < l))) (many - i) ki).2) ∧
      σ = [some (.ref a), some (.ref p), some (.int d), some (.int l), some (.int cnt), some (.int (many : Nat)), some (.ref bq), x])
      ⟨[], k + 1, [], _, Nat.zero_le _, w, s, rfl, rfl, rfl, rfl⟩ ?_ ?_
    · clear w s
      rintro i σ H hi ⟨bs, ki, ws, x, _, w, s, f1, hwl, hrow, rfl⟩
      have hq := w.ix 1 rfl
      walk_at "w"
      refine ⟨H0, a, ns, p, ki, (bq, .lst ws) :: R, d, l, cnt, m, rfl, hS, w, hm, hd, hl, hcnt, fun H v w s2 f2 => ?_⟩
      replace s := s.trans s2
      replace f1 := f1.mono s2
      clear s2
      have hq := w.ix 1 rfl
      walk_at "w"
      refine w_app hq (by rw [sizeLine_eq]; omega) ?_
      obtain ⟨j, hj⟩ : ∃ j, many - i = j + 1 := ⟨many - i - 1, by omega⟩
      have hj2 : many - (i + 1) = j := by omega
      rw [hj, rowsG] at hrow
      dsimp only at hrow
      generalize (genR ns cnt (m + 1) (genB ns cnt m) (genB ns cnt (m - 1)) (decide (0 < l)) ki).1 = s1 at f2 hrow
      generalize (genR ns cnt (m + 1) (genB ns cnt m) (genB ns cnt (m - 1)) (decide (0 < l)) ki).2 = k2 at w s f1 f2 hrow
      replace f1 := smsAt_snoc f1 f2
      replace w : Own H0 (upd H bq (.lst (ws ++ [v]))) (atC p k2 :: (bq, .lst (ws ++ [v])) :: R) := w.set 1 (.lst (ws ++ [v])) rfl
      have l0 : less (upd H bq (.lst (ws ++ [v]))) (atC p k2 :: (bq, .lst (ws ++ [v])) :: R) = less H (atC p k2 :: (bq, .lst ws) :: R) := less_put (L := atC p k2 :: (bq, .lst ws) :: R) 1 rfl
      rw [← l0] at s f1
      clear l0
      generalize upd H bq _ = H at w s f1 ⊢
      refine ⟨bs ++ [s1], k2, ws ++ [v], _, hi, w, s, f1, by rw [List.length_append, hwl]; rfl, ?_, rfl⟩
      rw [hrow, hj2, List.append_assoc]
      rfl
    · clear w s
      rintro σ H ⟨bs, ki, ws, x, _, w, s, f1, hwl, hrow, rfl⟩
      rw [Nat.sub_self, rowsG] at hrow
      dsimp only at hrow
      rw [List.append_nil] at hrow
      rw [hrow] at q
      walk_at "w"
      exact q _ _ _ w s f1 (by omega)
  iterate 6 walk_at "w1"
  walk_at "w"
  refine w_D (fun c1 => ?_) (fun c1 => ?_)
  · have e : many = (c % 4).toNat + 2 := by
      rw [← hmany]
      unfold manyG
      rw [if_pos (by omega)]
    have e2 : c % 4 + 2 = ((many : Nat) : Int) := by omega
    iterate 5 walk_at "w1"
    rw [e2]
    iterate 1 walk_at "w1"
    exact rest
  · have e : many = (c % 4).toNat := by
      rw [← hmany]
      unfold manyG
      rw [if_neg (by omega)]
      rfl
    have e2 : c % 4 = ((many : Nat) : Int) := by omega
    rw [e2]
    iterate 1 walk_at "w1"
    exact rest
end
end U

set_option maxHeartbeats 4000000
namespace U
open PySem PySem.Spec PyProof.Rows L2 Un
local macro_rules | `(tactic| walk_at "w1") => `(tactic| first
  | with_reducible refine w_seq ?_
  | with_reducible refine w_asg ?_
  | with_reducible refine w_op ?_
  | ((with_reducible refine' w_var ?h1 ?_); (case h1 => rfl))
  | with_reducible refine w_c ?_
  | with_reducible refine w_name ?_
  | with_reducible refine w_tFd ?_
  | ((with_reducible refine' w_fld ?h1 ?h2 ?_); (case h1 => assumption); (case h2 => rfl))
  | with_reducible refine w_if ?_
  | with_reducible refine w_test ?_
  | with_reducible refine w_eqS ?_
  | with_reducible refine w_eqI ?_
  | with_reducible refine w_neS ?_
  | with_reducible refine w_neI ?_
  | with_reducible refine w_isN ?_
  | with_reducible refine w_isnN ?_
  | with_reducible refine w_bl ?_
  | with_reducible refine w_ret ?_
  | with_reducible refine w_drop ?_
  | with_reducible refine w_next ?_
  | with_reducible refine w_cons ?_
  | with_reducible refine w_nil ?_
  | with_reducible refine w_call ?_
  | with_reducible refine w_cb ?_
  | with_reducible refine w_meth ?_
  | ((with_reducible refine' w_recv ?h1 ?h2 ?_); (case h1 => assumption); (case h2 => rfl))
  | with_reducible refine w_sFd ?_
  | ((with_reducible refine' w_put ?h1 ?h2 ?_); (case h1 => assumption); (case h2 => exact Nat.le_of_ble_eq_true rfl))
  | with_reducible refine w_add ?_
  | with_reducible refine w_sub ?_
  | with_reducible refine w_lt ?_
  | with_reducible refine w_le ?_
  | with_reducible refine w_gt ?_
  | with_reducible refine w_ge ?_
  | with_reducible refine w_bm ?_
  | with_reducible refine w_bm0 ?_
  | ((with_reducible refine' w_ty ?h1 ?_); (case h1 => assumption))
  | with_reducible refine w_tup ?_
  | with_reducible refine w_lst ?_
  | ((with_reducible refine' w_new ?h1 ?_); (case h1 => exact Nat.le_of_ble_eq_true rfl))
  | with_reducible refine w_gsub ?_
  | with_reducible refine w_make ?_
  | with_reducible refine w_lc ?_
  | with_reducible refine w_iList ?_
  | with_reducible refine w_for ?_
  | with_reducible refine w_yes ?_
  | with_reducible refine w_tSl ?_
  | with_reducible refine w_part ?_
  | with_reducible refine w_nopart ?_
  | with_reducible refine w_i ?_
  | with_reducible refine w_rng1 ?_
  | with_reducible refine w_rng2 ?_
  | with_reducible refine w_isiII ?_
  | with_reducible refine w_isiIB ?_
  | with_reducible refine w_isiSS ?_
  | ((with_reducible refine w_mod ?h1 ?_); (case h1 => decide))
  | ((with_reducible refine w_fdC' ?h1 ?h2 ?_); (case h1 => decide); (case h2 => decide))
  | ((with_reducible refine w_mulR ?h1 ?h2 ?_); (case h1 => decide); (case h2 => decide))
  | ((with_reducible refine w_mulL ?h1 ?h2 ?_); (case h1 => decide); (case h2 => decide))
  | ((with_reducible refine w_pow' ?h1 ?h2 ?h3 ?_); (case h1 => decide); (case h2 => decide); (case h3 => decide))
  | with_reducible refine w_andV ?_
  | with_reducible refine w_orV ?_
  | with_reducible refine w_notV ?_
  | with_reducible refine w_B ?_
  | with_reducible refine w_not ?_
  | with_reducible refine w_and ?_
  | with_reducible refine w_or ?_
  | with_reducible refine w_ifx ?_
  | with_reducible refine w_un ?_
  | ((with_reducible refine w_T ?h1 ?_); (case h1 => with_reducible rfl))
  | ((with_reducible refine w_F ?h1 ?_); (case h1 => with_reducible rfl))
  | ((with_reducible refine w_T ?h1 ?_); (case h1 => decide +kernel))
  | ((with_reducible refine w_F ?h1 ?_); (case h1 => decide +kernel)))
local macro_rules | `(tactic| walk_at "w") => `(tactic| repeat walk_at "w1")

section
variable {K : PySem.W.Frag}
def sp_l_loop (K : PySem.W.Frag) (n : Nat) : Sp := fun vs H Q _ => ∃ H0 a ns p k R more d l cnt m, vs = [.ref a, .ref p, .int more, .int d, .int l, .int cnt] ∧ SqL K H0 a (ns.map V.int) ∧ Own H0 H (atC p k :: R) ∧ m < n ∧ d + (m + 1) = 7 ∧ 0 ≤ l ∧ 0 < cnt ∧
    ∀ H' v, Own H0 H' (atC p (genL ns cnt (m + 2) (genB ns cnt (m + 1)) more (decide (0 < l)) k).2 :: R) → Same (less H (atC p k :: R)) (less H' (atC p (genL ns cnt (m + 2) (genB ns cnt (m + 1)) more (decide (0 < l)) k).2 :: R)) →
      SmAt K (less H' (atC p (genL ns cnt (m + 2) (genB ns cnt (m + 1)) more (decide (0 < l)) k).2 :: R)) (genL ns cnt (m + 2) (genB ns cnt (m + 1)) more (decide (0 < l)) k).1 v → Q v H'
theorem wayG_pick (i : Int) (h : i = 0 ∨ i = 1) (x y : V) : atI [x, y] i = some (if i = 0 then x else y) := by
  rcases h with h | h <;> rw [h] <;> rfl
theorem wayG_at {H : Hp} {x y : V} {i : Int} (hx : IsTup K H x [.str "next"]) (hy : IsTup K H y [.str "leave"]) : SmAt K H (wayG i) (if i = 0 then x else y) := by
  unfold wayG
  split
  · exact hx
  · exact hy
theorem p_l_loop (n : Nat) (vs : List V) (H : Hp) (Q : VK) (E : XK) (h : sp_l_loop K n vs H Q E) : t_l_loop K (sp_l_tree K 6) (sp_l_block K n) (sp_l_next K) { nx := fun _ H' => Q .non H', rt := Q } (L2.start n_l_loop vs) H := by
  obtain ⟨H0, a, ns, p, k, R, more, d, l, cnt, m, rfl, hS, w, hm, hd, hl, hcnt, q⟩ := h
  generalize hB : less H (atC p k :: R) = B at q
  have s : Same B (less H (atC p k :: R)) := hB ▸ Same.refl _
  clear hB
  have el : decide (0 < l + 1) = true := decide_eq_true (by omega)
  unfold t_l_loop
  unfold genL at q
  walk_at "w"
  refine w_D (fun c1 => ?_) (fun c1 => ?_)
  · rw [if_pos c1] at q
    dsimp only at q
    walk_at "w"
    refine ⟨H0, a, ns, p, k, R, 1, cnt, 5, rfl, hS, w, by decide, rfl, hcnt, fun H v w s2 f1 => ?_⟩
    replace s := s.trans s2
    clear s2
    generalize (genT ns cnt (5 + 1) k).2 = k1 at q w s f1
    generalize (genT ns cnt (5 + 1) k).1 = t1 at q f1
    walk_at "w"
    refine ⟨H0, a, ns, p, k1, R, d + 1, l + 1, cnt, m, rfl, hS, w, hm, by omega, by omega, hcnt, fun H bq ws w s2 f2 hws => ?_⟩
    rw [el] at w s2 f2
    replace s := s.trans s2
    replace f1 := f1.mono s2
    clear s2
    generalize (genB ns cnt (m + 1) true k1).2 = k2 at q w s f1 f2
    have g1 := LsAt.of (K := K) (less_given1 w)
    replace w := w.give1
    replace s := s.trans less_give1
    replace f1 := f1.mono less_give1
    replace f2 := f2.mono less_give1
    walk_at "w"
    refine fun u hu => ?_
    have g2 := lessTup (K := K) w hu (xs := [.str "loop", v, .ref bq])
    replace w := w.lay (o := .tup [.str "loop", v, .ref bq]) hu
    replace s := s.trans (less_lay (o := .tup [.str "loop", v, .ref bq]) hu)
    replace f1 := f1.mono (less_lay (o := .tup [.str "loop", v, .ref bq]) hu)
    replace f2 := f2.mono (less_lay (o := .tup [.str "loop", v, .ref bq]) hu)
    replace g1 := g1.mono (less_lay (o := .tup [.str "loop", v, .ref bq]) hu)
    generalize upd H u _ = H at w s f1 f2 g1 g2 ⊢
    exact q _ _ w s ⟨v, bq, ws, g2, f1, g1, f2⟩
  · rw [if_neg c1] at q
    dsimp only at q
    generalize hkk : more / 4 % 4 = kk at q
    walk_at "w"
    rw [hkk]
    refine fun u1 h1 => ?_
    have a1 := lessTup (K := K) w h1 (xs := [.str "box", .int kk])
    replace w := w.lay (o := .tup [.str "box", .int kk]) h1
    replace s := s.trans (less_lay (o := .tup [.str "box", .int kk]) h1)
    generalize upd H u1 _ = H at w s a1 ⊢
    walk_at "w"
    refine fun u2 h2 => ?_
    have a2 := lessTup (K := K) w h2 (xs := [.str "num", .int (1 + more / 16 % 4)])
    replace w := w.lay (o := .tup [.str "num", .int (1 + more / 16 % 4)]) h2
    replace s := s.trans (less_lay (o := .tup [.str "num", .int (1 + more / 16 % 4)]) h2)
    replace a1 := a1.mono (less_lay (o := .tup [.str "num", .int (1 + more / 16 % 4)]) h2)
    generalize upd H u2 _ = H at w s a1 a2 ⊢
    walk_at "w"
    refine fun u3 h3 => ?_
    have a3 := lessTup (K := K) w h3 (xs := [.str "less", .ref u1, .ref u2])
    replace w := w.lay (o := .tup [.str "less", .ref u1, .ref u2]) h3
    replace s := s.trans (less_lay (o := .tup [.str "less", .ref u1, .ref u2]) h3)
    replace a1 := a1.mono (less_lay (o := .tup [.str "less", .ref u1, .ref u2]) h3)
    replace a2 := a2.mono (less_lay (o := .tup [.str "less", .ref u1, .ref u2]) h3)
    generalize upd H u3 _ = H at w s a1 a2 a3 ⊢
    walk_at "w"
    refine fun v1 i1 => ?_
    have b1 := lessTup (K := K) w i1 (xs := [.str "box", .int kk])
    replace w := w.lay (o := .tup [.str "box", .int kk]) i1
    replace s := s.trans (less_lay (o := .tup [.str "box", .int kk]) i1)
    replace a1 := a1.mono (less_lay (o := .tup [.str "box", .int kk]) i1)
    replace a2 := a2.mono (less_lay (o := .tup [.str "box", .int kk]) i1)
    replace a3 := a3.mono (less_lay (o := .tup [.str "box", .int kk]) i1)
    generalize upd H v1 _ = H at w s a1 a2 a3 b1 ⊢
    walk_at "w"
    refine fun v2 i2 => ?_
    have b2 := lessTup (K := K) w i2 (xs := [.str "num", .int 1])
    replace w := w.lay (o := .tup [.str "num", .int 1]) i2
    replace s := s.trans (less_lay (o := .tup [.str "num", .int 1]) i2)
    replace a1 := a1.mono (less_lay (o := .tup [.str "num", .int 1]) i2)
    replace a2 := a2.mono (less_lay (o := .tup [.str "num", .int 1]) i2)
    replace a3 := a3.mono (less_lay (o := .tup [.str "num", .int 1]) i2)
    replace b1 := b1.mono (less_lay (o := .tup [.str "num", .int 1]) i2)
    generalize upd H v2 _ = H at w s a1 a2 a3 b1 b2 ⊢
    walk_at "w"
    refine fun v3 i3 => ?_
    have b3 := lessTup (K := K) w i3 (xs := [.str "add", .ref v1, .ref v2])
    replace w := w.lay (o := .tup [.str "add", .ref v1, .ref v2]) i3
    replace s := s.trans (less_lay (o := .tup [.str "add", .ref v1, .ref v2]) i3)
    replace a1 := a1.mono (less_lay (o := .tup [.str "add", .ref v1, .ref v2]) i3)
    replace a2 := a2.mono (less_lay (o := .tup [.str "add", .ref v1, .ref v2]) i3)
    replace a3 := a3.mono (less_lay (o := .tup [.str "add", .ref v1, .ref v2]) i3)
    replace b1 := b1.mono (less_lay (o := .tup [.str "add", .ref v1, .ref v2]) i3)
    replace b2 := b2.mono (less_lay (o := .tup [.str "add", .ref v1, .ref v2]) i3)
    generalize upd H v3 _ = H at w s a1 a2 a3 b1 b2 b3 ⊢
    walk_at "w"
    refine fun v4 i4 => ?_
    have b4 := lessTup (K := K) w i4 (xs := [.str "set", .int kk, .ref v3])
    replace w := w.lay (o := .tup [.str "set", .int kk, .ref v3]) i4
    replace s := s.trans (less_lay (o := .tup [.str "set", .int kk, .ref v3]) i4)
    replace a1 := a1.mono (less_lay (o := .tup [.str "set", .int kk, .ref v3]) i4)
    replace a2 := a2.mono (less_lay (o := .tup [.str "set", .int kk, .ref v3]) i4)
    replace a3 := a3.mono (less_lay (o := .tup [.str "set", .int kk, .ref v3]) i4)
    replace b1 := b1.mono (less_lay (o := .tup [.str "set", .int kk, .ref v3]) i4)
    replace b2 := b2.mono (less_lay (o := .tup [.str "set", .int kk, .ref v3]) i4)
    replace b3 := b3.mono (less_lay (o := .tup [.str "set", .int kk, .ref v3]) i4)
    generalize upd H v4 _ = H at w s a1 a2 a3 b1 b2 b3 b4 ⊢
    walk_at "w"
    refine fun v5 i5 => ?_
    have b5 : RawAt (less (upd H v5 (.lst [.ref v4])) _) v5 (.lst [.ref v4]) := less_new w i5 (o := .lst [.ref v4])
    replace w := w.lay (o := .lst [.ref v4]) i5
    replace s := s.trans (less_lay (o := .lst [.ref v4]) i5)
    replace a1 := a1.mono (less_lay (o := .lst [.ref v4]) i5)
    replace a2 := a2.mono (less_lay (o := .lst [.ref v4]) i5)
    replace a3 := a3.mono (less_lay (o := .lst [.ref v4]) i5)
    replace b1 := b1.mono (less_lay (o := .lst [.ref v4]) i5)
    replace b2 := b2.mono (less_lay (o := .lst [.ref v4]) i5)
    replace b3 := b3.mono (less_lay (o := .lst [.ref v4]) i5)
    replace b4 := b4.mono (less_lay (o := .lst [.ref v4]) i5)
    generalize upd H v5 _ = H at w s a1 a2 a3 b1 b2 b3 b4 b5 ⊢
    walk_at "w"
    refine ⟨H0, a, ns, p, k, R, d + 1, l + 1, cnt, m, rfl, hS, w, hm, by omega, by omega, hcnt, fun H bq ws w s2 f2 hws => ?_⟩
    rw [el] at w s2 f2
    replace s := s.trans s2
    replace a1 := a1.mono s2
    replace a2 := a2.mono s2
    replace a3 := a3.mono s2
    replace b1 := b1.mono s2
    replace b2 := b2.mono s2
    replace b3 := b3.mono s2
    replace b4 := b4.mono s2
    replace b5 := b5.mono s2
    clear s2
    generalize (genB ns cnt (m + 1) true k).2 = k1 at q w s f2 a1 a2 a3 b1 b2 b3 b4 b5
    generalize (genB ns cnt (m + 1) true k).1 = bb at q f2
    walk_at "w"
    refine w_cat b5.up (w.ix 1 rfl) (by rw [sizeLine_eq]; simp; omega) fun r hr => ?_
    -- the new list is owned, the drawn one given up
    have l0 := less_take (L := atC p k1 :: (bq, .lst ws) :: R) (o := .lst ([V.ref v4] ++ ws)) hr
    replace w := (w.take (o := .lst ([V.ref v4] ++ ws)) hr).swp
    rw [← l0, less_swp] at s f2 a1 a2 a3 b1 b2 b3 b4 b5
    clear l0
    generalize upd H r _ = H at w s f2 a1 a2 a3 b1 b2 b3 b4 b5 ⊢
    have l0 : Same (less H (atC p k1 :: (r, .lst ([V.ref v4] ++ ws)) :: (bq, .lst ws) :: R)) (less H (atC p k1 :: (r, .lst ([V.ref v4] ++ ws)) :: R)) := by
      have e1 : less H (atC p k1 :: (r, .lst ([V.ref v4] ++ ws)) :: (bq, .lst ws) :: R) = less H ((bq, .lst ws) :: atC p k1 :: (r, .lst ([V.ref v4] ++ ws)) :: R) := less_perm (by
        exact (List.perm_middle (l₁ := [atC p k1, (r, .lst ([V.ref v4] ++ ws))]) (l₂ := R) (a := (bq, .lst ws))))
      rw [e1]
      exact less_give
    replace w : Own H0 H (atC p k1 :: (r, .lst ([V.ref v4] ++ ws)) :: R) := w.del 2
    replace s := s.trans l0
    replace f2 := f2.mono l0
    replace a1 := a1.mono l0
    replace a2 := a2.mono l0
    replace a3 := a3.mono l0
    replace b1 := b1.mono l0
    replace b2 := b2.mono l0
    replace b3 := b3.mono l0
    replace b4 := b4.mono l0
    clear l0 b5
    have f1 : SmsAt K (less H (atC p k1 :: (r, .lst ([V.ref v4] ++ ws)) :: R)) (Sm.set kk (.bin .add (.box kk) (.num 1)) :: bb) ([V.ref v4] ++ ws) := ⟨.ref v4, ws, rfl, ⟨_, b4, _, _, b3, b1, b2⟩, f2⟩
    have t1 : TreeAt K (less H (atC p k1 :: (r, .lst ([V.ref v4] ++ ws)) :: R)) (.bin .less (.box kk) (.num (1 + more / 16 % 4))) (.ref u3) := ⟨_, _, a3, a1, a2⟩
    clear b1 b2 b3 b4 a1 a2 a3 f2
    generalize hys : [V.ref v4] ++ ws = ys at w s f1 t1 ⊢
    have hyl : ys.length ≤ 6 := by rw [← hys]; simp; omega
    clear hys
    walk_at "w"
    refine ⟨H0, a, ns, p, k1, (r, .lst ys) :: R, rfl, hS, w, ?_⟩
    replace w : Own H0 (upd H p (.lst [.int ((k1 + 1 : Nat) : Int)])) (atC p (k1 + 1) :: (r, .lst ys) :: R) := w.set 0 (.lst [.int ((k1 + 1 : Nat) : Int)]) rfl
    have l0 : less (upd H p (.lst [.int ((k1 + 1 : Nat) : Int)])) (atC p (k1 + 1) :: (r, .lst ys) :: R) = less H (atC p k1 :: (r, .lst ys) :: R) := less_put (L := atC p k1 :: (r, .lst ys) :: R) 0 rfl
    rw [← l0] at s f1 t1
    clear l0
    generalize upd H p _ = H at w s f1 t1 ⊢
    generalize cellN ns k1 = c at q ⊢
    generalize Sm.set kk (.bin .add (.box kk) (.num 1)) :: bb = b0 at q f1
    with_reducible refine w_name ?_
    have hk0 : n_l_loop = n_l_loop := rfl
    with_reducible refine w_cut (fun σ' H => ∃ ys x y, Own H0 H (atC p (k1 + 1) :: (r, .lst ys) :: R) ∧ Same B (less H (atC p (k1 + 1) :: (r, .lst ys) :: R)) ∧ TreeAt K (less H (atC p (k1 + 1) :: (r, .lst ys) :: R)) (.bin .less (.box kk) (.num (1 + more / 16 % 4))) (.ref u3) ∧
      SmsAt K (less H (atC p (k1 + 1) :: (r, .lst ys) :: R)) (if 3 < m + 2 ∧ 0 < c % 3 then b0 ++ [.endd [.ife (.bin .less (.box kk) (.num (c / 3 % 4))) [wayG (c / 12 % 2)] [wayG (1 - c / 12 % 2)]] [.say (.box kk)]] else b0) ys ∧
      σ' = [some (.ref a), some (.ref p), some (.int more), some (.int d), some (.int l), some (.int cnt), some (.ref u3), some (.int kk), some (.ref r), some (.int c), x, y]) ?_ fun N key => ?_
    · clear w s f1 t1
      rintro σ' H ⟨ys, x, y, w, s, t1, f1, rfl⟩
      have g1 := LsAt.of (K := K) (less_given1 w)
      replace w := w.give1
      replace s := s.trans less_give1
      replace f1 := f1.mono less_give1
      replace t1 := t1.mono less_give1
      walk_at "w"
      refine fun u hu => ?_
      have g2 := lessTup (K := K) w hu (xs := [.str "loop", .ref u3, .ref r])
      replace w := w.lay (o := .tup [.str "loop", .ref u3, .ref r]) hu
      replace s := s.trans (less_lay (o := .tup [.str "loop", .ref u3, .ref r]) hu)
      replace f1 := f1.mono (less_lay (o := .tup [.str "loop", .ref u3, .ref r]) hu)
      replace t1 := t1.mono (less_lay (o := .tup [.str "loop", .ref u3, .ref r]) hu)
      replace g1 := g1.mono (less_lay (o := .tup [.str "loop", .ref u3, .ref r]) hu)
      generalize upd H u _ = H at w s f1 t1 g1 g2 ⊢
      exact q _ _ w s ⟨_, r, ys, g2, t1, g1, f1⟩
    · walk_at "w"
      refine w_D (fun c2 => ?_) (fun c2 => ?_)
      · walk_at "w"
        refine w_D (fun c3 => ?_) (fun c3 => ?_)
        · walk_at "w"
          refine fun u1 h1 => ?_
          have a1 := lessTup (K := K) w h1 (xs := [.str "next"])
          replace w := w.lay (o := .tup [.str "next"]) h1
          replace s := s.trans (less_lay (o := .tup [.str "next"]) h1)
          replace f1 := f1.mono (less_lay (o := .tup [.str "next"]) h1)
          replace t1 := t1.mono (less_lay (o := .tup [.str "next"]) h1)
          generalize upd H u1 _ = H at w s f1 t1 a1 ⊢
          walk_at "w"
          refine fun u2 h2 => ?_
          have a2 := lessTup (K := K) w h2 (xs := [.str "leave"])
          replace w := w.lay (o := .tup [.str "leave"]) h2
          replace s := s.trans (less_lay (o := .tup [.str "leave"]) h2)
          replace f1 := f1.mono (less_lay (o := .tup [.str "leave"]) h2)
          replace t1 := t1.mono (less_lay (o := .tup [.str "leave"]) h2)
          replace a1 := a1.mono (less_lay (o := .tup [.str "leave"]) h2)
          generalize upd H u2 _ = H at w s f1 t1 a1 a2 ⊢
          walk_at "w"
          refine fun u5 h5 => ?_
          have a3 := LsAt.of (K := K) (less_new w h5 (o := .lst [.ref u1, .ref u2]))
          replace w := w.lay (o := .lst [.ref u1, .ref u2]) h5
          replace s := s.trans (less_lay (o := .lst [.ref u1, .ref u2]) h5)
          replace f1 := f1.mono (less_lay (o := .lst [.ref u1, .ref u2]) h5)
          replace t1 := t1.mono (less_lay (o := .lst [.ref u1, .ref u2]) h5)
          replace a1 := a1.mono (less_lay (o := .lst [.ref u1, .ref u2]) h5)
          replace a2 := a2.mono (less_lay (o := .lst [.ref u1, .ref u2]) h5)
          generalize upd H u5 _ = H at w s f1 t1 a1 a2 a3 ⊢
          walk_at "w"
          refine fun v1 i1 => ?_
          have b1 := lessTup (K := K) w i1 (xs := [.str "box", .int kk])
          replace w := w.lay (o := .tup [.str "box", .int kk]) i1
          replace s := s.trans (less_lay (o := .tup [.str "box", .int kk]) i1)
          replace f1 := f1.mono (less_lay (o := .tup [.str "box", .int kk]) i1)
          replace t1 := t1.mono (less_lay (o := .tup [.str "box", .int kk]) i1)
          replace a1 := a1.mono (less_lay (o := .tup [.str "box", .int kk]) i1)
          replace a2 := a2.mono (less_lay (o := .tup [.str "box", .int kk]) i1)
          replace a3 := a3.mono (less_lay (o := .tup [.str "box", .int kk]) i1)
          generalize upd H v1 _ = H at w s f1 t1 a1 a2 a3 b1 ⊢
          walk_at "w"
          refine fun v2 i2 => ?_
          have b2 := lessTup (K := K) w i2 (xs := [.str "num", .int (c / 3 % 4)])
          replace w := w.lay (o := .tup [.str "num", .int (c / 3 % 4)]) i2
          replace s := s.trans (less_lay (o := .tup [.str "num", .int (c / 3 % 4)]) i2)
          replace f1 := f1.mono (less_lay (o := .tup [.str "num", .int (c / 3 % 4)]) i2)
          replace t1 := t1.mono (less_lay (o := .tup [.str "num", .int (c / 3 % 4)]) i2)
          replace a1 := a1.mono (less_lay (o := .tup [.str "num", .int (c / 3 % 4)]) i2)
          replace a2 := a2.mono (less_lay (o := .tup [.str "num", .int (c / 3 % 4)]) i2)
          replace a3 := a3.mono (less_lay (o := .tup [.str "num", .int (c / 3 % 4)]) i2)
          replace b1 := b1.mono (less_lay (o := .tup [.str "num", .int (c / 3 % 4)]) i2)
          generalize upd H v2 _ = H at w s f1 t1 a1 a2 a3 b1 b2 ⊢
          walk_at "w"
          refine fun v3 i3 => ?_
          have b3 := lessTup (K := K) w i3 (xs := [.str "less", .ref v1, .ref v2])
          replace w := w.lay (o := .tup [.str "less", .ref v1, .ref v2]) i3
          replace s := s.trans (less_lay (o := .tup [.str "less", .ref v1, .ref v2]) i3)
          replace f1 := f1.mono (less_lay (o := .tup [.str "less", .ref v1, .ref v2]) i3)
          replace t1 := t1.mono (less_lay (o := .tup [.str "less", .ref v1, .ref v2]) i3)
          replace a1 := a1.mono (less_lay (o := .tup [.str "less", .ref v1, .ref v2]) i3)
          replace a2 := a2.mono (less_lay (o := .tup [.str "less", .ref v1, .ref v2]) i3)
          replace a3 := a3.mono (less_lay (o := .tup [.str "less", .ref v1, .ref v2]) i3)
          replace b1 := b1.mono (less_lay (o := .tup [.str "less", .ref v1, .ref v2]) i3)
          replace b2 := b2.mono (less_lay (o := .tup [.str "less", .ref v1, .ref v2]) i3)
          generalize upd H v3 _ = H at w s f1 t1 a1 a2 a3 b1 b2 b3 ⊢
          walk_at "w"
          refine w_ixL (same_less.seq a3) (wayG_pick (c / 12 % 2) (by omega) _ _) ?_
          walk_at "w"
          refine fun v4 i4 => ?_
          have b4 := LsAt.of (K := K) (less_new w i4 (o := .lst [if c / 12 % 2 = 0 then V.ref u1 else V.ref u2]))
          replace w := w.lay (o := .lst [if c / 12 % 2 = 0 then V.ref u1 else V.ref u2]) i4
          replace s := s.trans (less_lay (o := .lst [if c / 12 % 2 = 0 then V.ref u1 else V.ref u2]) i4)
          replace f1 := f1.mono (less_lay (o := .lst [if c / 12 % 2 = 0 then V.ref u1 else V.ref u2]) i4)
          replace t1 := t1.mono (less_lay (o := .lst [if c / 12 % 2 = 0 then V.ref u1 else V.ref u2]) i4)
          replace a1 := a1.mono (less_lay (o := .lst [if c / 12 % 2 = 0 then V.ref u1 else V.ref u2]) i4)
          replace a2 := a2.mono (less_lay (o := .lst [if c / 12 % 2 = 0 then V.ref u1 else V.ref u2]) i4)
          replace a3 := a3.mono (less_lay (o := .lst [if c / 12 % 2 = 0 then V.ref u1 else V.ref u2]) i4)
          replace b1 := b1.mono (less_lay (o := .lst [if c / 12 % 2 = 0 then V.ref u1 else V.ref u2]) i4)
          replace b2 := b2.mono (less_lay (o := .lst [if c / 12 % 2 = 0 then V.ref u1 else V.ref u2]) i4)
          replace b3 := b3.mono (less_lay (o := .lst [if c / 12 % 2 = 0 then V.ref u1 else V.ref u2]) i4)
          generalize upd H v4 _ = H at w s f1 t1 a1 a2 a3 b1 b2 b3 b4 ⊢
          walk_at "w"
          refine w_ixL (same_less.seq a3) (wayG_pick (1 - c / 12 % 2) (by omega) _ _) ?_
          walk_at "w"
          refine fun v5 i5 => ?_
          have b5 := LsAt.of (K := K) (less_new w i5 (o := .lst [if 1 - c / 12 % 2 = 0 then V.ref u1 else V.ref u2]))
          replace w := w.lay (o := .lst [if 1 - c / 12 % 2 = 0 then V.ref u1 else V.ref u2]) i5
          replace s := s.trans (less_lay (o := .lst [if 1 - c / 12 % 2 = 0 then V.ref u1 else V.ref u2]) i5)
          replace f1 := f1.mono (less_lay (o := .lst [if 1 - c / 12 % 2 = 0 then V.ref u1 else V.ref u2]) i5)
          replace t1 := t1.mono (less_lay (o := .lst [if 1 - c / 12 % 2 = 0 then V.ref u1 else V.ref u2]) i5)
          replace a1 := a1.mono (less_lay (o := .lst [if 1 - c / 12 % 2 = 0 then V.ref u1 else V.ref u2]) i5)
          replace a2 := a2.mono (less_lay (o := .lst [if 1 - c / 12 % 2 = 0 then V.ref u1 else V.ref u2]) i5)
          replace b1 := b1.mono (less_lay (o := .lst [if 1 - c / 12 % 2 = 0 then V.ref u1 else V.ref u2]) i5)
          replace b2 := b2.mono (less_lay (o := .lst [if 1 - c / 12 % 2 = 0 then V.ref u1 else V.ref u2]) i5)
          replace b3 := b3.mono (less_lay (o := .lst [if 1 - c / 12 % 2 = 0 then V.ref u1 else V.ref u2]) i5)
          replace b4 := b4.mono (less_lay (o := .lst [if 1 - c / 12 % 2 = 0 then V.ref u1 else V.ref u2]) i5)
          generalize upd H v5 _ = H at w s f1 t1 a1 a2 b1 b2 b3 b4 b5 ⊢
          walk_at "w"
          refine fun v6 i6 => ?_
          have b6 := lessTup (K := K) w i6 (xs := [.str "if", .ref v3, .ref v4, .ref v5])
          replace w := w.lay (o := .tup [.str "if", .ref v3, .ref v4, .ref v5]) i6
          replace s := s.trans (less_lay (o := .tup [.str "if", .ref v3, .ref v4, .ref v5]) i6)
          replace f1 := f1.mono (less_lay (o := .tup [.str "if", .ref v3, .ref v4, .ref v5]) i6)
          replace t1 := t1.mono (less_lay (o := .tup [.str "if", .ref v3, .ref v4, .ref v5]) i6)
          replace a1 := a1.mono (less_lay (o := .tup [.str "if", .ref v3, .ref v4, .ref v5]) i6)
          replace a2 := a2.mono (less_lay (o := .tup [.str "if", .ref v3, .ref v4, .ref v5]) i6)
          replace b1 := b1.mono (less_lay (o := .tup [.str "if", .ref v3, .ref v4, .ref v5]) i6)
          replace b2 := b2.mono (less_lay (o := .tup [.str "if", .ref v3, .ref v4, .ref v5]) i6)
          replace b3 := b3.mono (less_lay (o := .tup [.str "if", .ref v3, .ref v4, .ref v5]) i6)
          replace b4 := b4.mono (less_lay (o := .tup [.str "if", .ref v3, .ref v4, .ref v5]) i6)
          replace b5 := b5.mono (less_lay (o := .tup [.str "if", .ref v3, .ref v4, .ref v5]) i6)
          generalize upd H v6 _ = H at w s f1 t1 a1 a2 b1 b2 b3 b4 b5 b6 ⊢
          have hq := w.ix 1 rfl
          walk_at "w"
          refine fun x1 j1 => ?_
          have d1 := LsAt.of (K := K) (less_new w j1 (o := .lst [.ref v6]))
          replace w := w.lay (o := .lst [.ref v6]) j1
          replace s := s.trans (less_lay (o := .lst [.ref v6]) j1)
          replace f1 := f1.mono (less_lay (o := .lst [.ref v6]) j1)
          replace t1 := t1.mono (less_lay (o := .lst [.ref v6]) j1)
          replace a1 := a1.mono (less_lay (o := .lst [.ref v6]) j1)
          replace a2 := a2.mono (less_lay (o := .lst [.ref v6]) j1)
          replace b1 := b1.mono (less_lay (o := .lst [.ref v6]) j1)
          replace b2 := b2.mono (less_lay (o := .lst [.ref v6]) j1)
          replace b3 := b3.mono (less_lay (o := .lst [.ref v6]) j1)
          replace b4 := b4.mono (less_lay (o := .lst [.ref v6]) j1)
          replace b5 := b5.mono (less_lay (o := .lst [.ref v6]) j1)
          replace b6 := b6.mono (less_lay (o := .lst [.ref v6]) j1)
          generalize upd H x1 _ = H at w s f1 t1 a1 a2 b1 b2 b3 b4 b5 b6 d1 ⊢
          walk_at "w"
          refine fun x2 j2 => ?_
          have d2 := lessTup (K := K) w j2 (xs := [.str "box", .int kk])
          replace w := w.lay (o := .tup [.str "box", .int kk]) j2
          replace s := s.trans (less_lay (o := .tup [.str "box", .int kk]) j2)
          replace f1 := f1.mono (less_lay (o := .tup [.str "box", .int kk]) j2)
          replace t1 := t1.mono (less_lay (o := .tup [.str "box", .int kk]) j2)
          replace a1 := a1.mono (less_lay (o := .tup [.str "box", .int kk]) j2)
          replace a2 := a2.mono (less_lay (o := .tup [.str "box", .int kk]) j2)
          replace b1 := b1.mono (less_lay (o := .tup [.str "box", .int kk]) j2)
          replace b2 := b2.mono (less_lay (o := .tup [.str "box", .int kk]) j2)
          replace b3 := b3.mono (less_lay (o := .tup [.str "box", .int kk]) j2)
          replace b4 := b4.mono (less_lay (o := .tup [.str "box", .int kk]) j2)
          replace b5 := b5.mono (less_lay (o := .tup [.str "box", .int kk]) j2)
          replace b6 := b6.mono (less_lay (o := .tup [.str "box", .int kk]) j2)
          replace d1 := d1.mono (less_lay (o := .tup [.str "box", .int kk]) j2)
          generalize upd H x2 _ = H at w s f1 t1 a1 a2 b1 b2 b3 b4 b5 b6 d1 d2 ⊢
          walk_at "w"
          refine fun x3 j3 => ?_
          have d3 := lessTup (K := K) w j3 (xs := [.str "say", .ref x2])
          replace w := w.lay (o := .tup [.str "say", .ref x2]) j3
          replace s := s.trans (less_lay (o := .tup [.str "say", .ref x2]) j3)
          replace f1 := f1.mono (less_lay (o := .tup [.str "say", .ref x2]) j3)
          replace t1 := t1.mono (less_lay (o := .tup [.str "say", .ref x2]) j3)
          replace a1 := a1.mono (less_lay (o := .tup [.str "say", .ref x2]) j3)
          replace a2 := a2.mono (less_lay (o := .tup [.str "say", .ref x2]) j3)
          replace b1 := b1.mono (less_lay (o := .tup [.str "say", .ref x2]) j3)
          replace b2 := b2.mono (less_lay (o := .tup [.str "say", .ref x2]) j3)
          replace b3 := b3.mono (less_lay (o := .tup [.str "say", .ref x2]) j3)
          replace b4 := b4.mono (less_lay (o := .tup [.str "say", .ref x2]) j3)
          replace b5 := b5.mono (less_lay (o := .tup [.str "say", .ref x2]) j3)
          replace b6 := b6.mono (less_lay (o := .tup [.str "say", .ref x2]) j3)
          replace d1 := d1.mono (less_lay (o := .tup [.str "say", .ref x2]) j3)
          replace d2 := d2.mono (less_lay (o := .tup [.str "say", .ref x2]) j3)
          generalize upd H x3 _ = H at w s f1 t1 a1 a2 b1 b2 b3 b4 b5 b6 d1 d2 d3 ⊢
          walk_at "w"
          refine fun x4 j4 => ?_
          have d4 := LsAt.of (K := K) (less_new w j4 (o := .lst [.ref x3]))
          replace w := w.lay (o := .lst [.ref x3]) j4
          replace s := s.trans (less_lay (o := .lst [.ref x3]) j4)
          replace f1 := f1.mono (less_lay (o := .lst [.ref x3]) j4)
          replace t1 := t1.mono (less_lay (o := .lst [.ref x3]) j4)
          replace a1 := a1.mono (less_lay (o := .lst [.ref x3]) j4)
          replace a2 := a2.mono (less_lay (o := .lst [.ref x3]) j4)
          replace b1 := b1.mono (less_lay (o := .lst [.ref x3]) j4)
          replace b2 := b2.mono (less_lay (o := .lst [.ref x3]) j4)
          replace b3 := b3.mono (less_lay (o := .lst [.ref x3]) j4)
          replace b4 := b4.mono (less_lay (o := .lst [.ref x3]) j4)
          replace b5 := b5.mono (less_lay (o := .lst [.ref x3]) j4)
          replace b6 := b6.mono (less_lay (o := .lst [.ref x3]) j4)
          replace d1 := d1.mono (less_lay (o := .lst [.ref x3]) j4)
          replace d2 := d2.mono (less_lay (o := .lst [.ref x3]) j4)
          replace d3 := d3.mono (less_lay (o := .lst [.ref x3]) j4)
          generalize upd H x4 _ = H at w s f1 t1 a1 a2 b1 b2 b3 b4 b5 b6 d1 d2 d3 d4 ⊢
          walk_at "w"
          refine fun x5 j5 => ?_
          have d5 := lessTup (K := K) w j5 (xs := [.str "end", .ref x1, .ref x4])
          replace w := w.lay (o := .tup [.str "end", .ref x1, .ref x4]) j5
          replace s := s.trans (less_lay (o := .tup [.str "end", .ref x1, .ref x4]) j5)
          replace f1 := f1.mono (less_lay (o := .tup [.str "end", .ref x1, .ref x4]) j5)
          replace t1 := t1.mono (less_lay (o := .tup [.str "end", .ref x1, .ref x4]) j5)
          replace a1 := a1.mono (less_lay (o := .tup [.str "end", .ref x1, .ref x4]) j5)
          replace a2 := a2.mono (less_lay (o := .tup [.str "end", .ref x1, .ref x4]) j5)
          replace b1 := b1.mono (less_lay (o := .tup [.str "end", .ref x1, .ref x4]) j5)
          replace b2 := b2.mono (less_lay (o := .tup [.str "end", .ref x1, .ref x4]) j5)
          replace b3 := b3.mono (less_lay (o := .tup [.str "end", .ref x1, .ref x4]) j5)
          replace b4 := b4.mono (less_lay (o := .tup [.str "end", .ref x1, .ref x4]) j5)
          replace b5 := b5.mono (less_lay (o := .tup [.str "end", .ref x1, .ref x4]) j5)
          replace b6 := b6.mono (less_lay (o := .tup [.str "end", .ref x1, .ref x4]) j5)
          replace d1 := d1.mono (less_lay (o := .tup [.str "end", .ref x1, .ref x4]) j5)
          replace d2 := d2.mono (less_lay (o := .tup [.str "end", .ref x1, .ref x4]) j5)
          replace d3 := d3.mono (less_lay (o := .tup [.str "end", .ref x1, .ref x4]) j5)
          replace d4 := d4.mono (less_lay (o := .tup [.str "end", .ref x1, .ref x4]) j5)
          generalize upd H x5 _ = H at w s f1 t1 a1 a2 b1 b2 b3 b4 b5 b6 d1 d2 d3 d4 d5 ⊢
          have hq := w.ix 1 rfl
          walk_at "w"
          refine w_app hq (by rw [sizeLine_eq]; omega) ?_
          replace f1 := smsAt_snoc f1 (s := .endd [.ife (.bin .less (.box kk) (.num (c / 3 % 4))) [wayG (c / 12 % 2)] [wayG (1 - c / 12 % 2)]] [.say (.box kk)])
            ⟨x1, x4, _, _, d5, d1, ⟨_, [], rfl, ⟨_, v4, v5, _, _, b6, ⟨_, _, b3, b1, b2⟩, b4, ⟨_, [], rfl, wayG_at a1 a2, rfl⟩, b5, ⟨_, [], rfl, wayG_at a1 a2, rfl⟩⟩, rfl⟩, d4, ⟨_, [], rfl, ⟨_, d3, d2⟩, rfl⟩⟩
          clear a1 a2 b1 b2 b3 b4 b5 b6 d1 d2 d3 d4 d5
          replace w : Own H0 (upd H r (.lst (ys ++ [V.ref x5]))) (atC p (k1 + 1) :: (r, .lst (ys ++ [V.ref x5])) :: R) := w.set 1 (.lst (ys ++ [V.ref x5])) rfl
          have l0 : less (upd H r (.lst (ys ++ [V.ref x5]))) (atC p (k1 + 1) :: (r, .lst (ys ++ [V.ref x5])) :: R) = less H (atC p (k1 + 1) :: (r, .lst ys) :: R) := less_put (L := atC p (k1 + 1) :: (r, .lst ys) :: R) 1 rfl
          rw [← l0] at s f1 t1
          clear l0
          generalize upd H r _ = H at w s f1 t1 ⊢
          refine key _ _ ⟨ys ++ [V.ref x5], _, _, w, s, t1, ?_, rfl⟩
          rw [if_pos ⟨by omega, c3⟩]
          exact f1
        · walk_at "w"
          refine key _ _ ⟨ys, _, _, w, s, t1, ?_, rfl⟩
          rw [if_neg (fun z => c3 z.2)]
          exact f1
      · walk_at "w"
        refine key _ _ ⟨ys, _, _, w, s, t1, ?_, rfl⟩
        rw [if_neg (fun z => c2 (by omega))]
        exact f1
end
end U

set_option maxHeartbeats 4000000
namespace U
open PySem PySem.Spec PyProof.Rows L2 Un
local macro_rules | `(tactic| walk_at "w1") => `(tactic| first
  | with_reducible refine w_seq ?_
  | with_reducible refine w_asg ?_
  | with_reducible refine w_op ?_
  | ((with_reducible refine' w_var ?h1 ?_); (case h1 => rfl))
  | with_reducible refine w_c ?_
  | with_reducible refine w_name ?_
  | with_reducible refine w_tFd ?_
  | ((with_reducible refine' w_fld ?h1 ?h2 ?_); (case h1 => assumption); (case h2 => rfl))
  | with_reducible refine w_if ?_
  | with_reducible refine w_test ?_
  | with_reducible refine w_eqS ?_
  | with_reducible refine w_eqI ?_
  | with_reducible refine w_neS ?_
  | with_reducible refine w_neI ?_
  | with_reducible refine w_isN ?_
  | with_reducible refine w_isnN ?_
  | with_reducible refine w_bl ?_
  | with_reducible refine w_ret ?_
  | with_reducible refine w_drop ?_
  | with_reducible refine w_next ?_
  | with_reducible refine w_cons ?_
  | with_reducible refine w_nil ?_
  | with_reducible refine w_call ?_
  | with_reducible refine w_cb ?_
  | with_reducible refine w_meth ?_
  | ((with_reducible refine' w_recv ?h1 ?h2 ?_); (case h1 => assumption); (case h2 => rfl))
  | with_reducible refine w_sFd ?_
  | ((with_reducible refine' w_put ?h1 ?h2 ?_); (case h1 => assumption); (case h2 => exact Nat.le_of_ble_eq_true rfl))
  | with_reducible refine w_add ?_
  | with_reducible refine w_sub ?_
  | with_reducible refine w_lt ?_
  | with_reducible refine w_le ?_
  | with_reducible refine w_gt ?_
  | with_reducible refine w_ge ?_
  | with_reducible refine w_bm ?_
  | with_reducible refine w_bm0 ?_
  | ((with_reducible refine' w_ty ?h1 ?_); (case h1 => assumption))
  | with_reducible refine w_tup ?_
  | with_reducible refine w_lst ?_
  | ((with_reducible refine' w_new ?h1 ?_); (case h1 => exact Nat.le_of_ble_eq_true rfl))
  | with_reducible refine w_gsub ?_
  | with_reducible refine w_make ?_
  | with_reducible refine w_lc ?_
  | with_reducible refine w_iList ?_
  | with_reducible refine w_for ?_
  | with_reducible refine w_yes ?_
  | with_reducible refine w_tSl ?_
  | with_reducible refine w_part ?_
  | with_reducible refine w_nopart ?_
  | with_reducible refine w_i ?_
  | with_reducible refine w_rng1 ?_
  | with_reducible refine w_rng2 ?_
  | with_reducible refine w_isiII ?_
  | with_reducible refine w_isiIB ?_
  | with_reducible refine w_isiSS ?_
  | ((with_reducible refine w_mod ?h1 ?_); (case h1 => decide))
  | ((with_reducible refine w_fdC' ?h1 ?h2 ?_); (case h1 => decide); (case h2 => decide))
  | ((with_reducible refine w_mulR ?h1 ?h2 ?_); (case h1 => decide); (case h2 => decide))
  | ((with_reducible refine w_mulL ?h1 ?h2 ?_); (case h1 => decide); (case h2 => decide))
  | ((with_reducible refine w_pow' ?h1 ?h2 ?h3 ?_); (case h1 => decide); (case h2 => decide); (case h3 => decide))
  | with_reducible refine w_andV ?_
  | with_reducible refine w_orV ?_
  | with_reducible refine w_notV ?_
  | with_reducible refine w_B ?_
  | with_reducible refine w_not ?_
  | with_reducible refine w_and ?_
  | with_reducible refine w_or ?_
  | with_reducible refine w_ifx ?_
  | with_reducible refine w_un ?_
  | ((with_reducible refine w_T ?h1 ?_); (case h1 => with_reducible rfl))
  | ((with_reducible refine w_F ?h1 ?_); (case h1 => with_reducible rfl))
  | ((with_reducible refine w_T ?h1 ?_); (case h1 => decide +kernel))
  | ((with_reducible refine w_F ?h1 ?_); (case h1 => decide +kernel)))
local macro_rules | `(tactic| walk_at "w") => `(tactic| repeat walk_at "w1")

section
variable {K : PySem.W.Frag}
theorem p_l_row (n : Nat) (vs : List V) (H : Hp) (Q : VK) (E : XK) (h : sp_l_row K (n + 1) vs H Q E) :
    t_l_row K (sp_l_next K) (sp_l_tree K 6) (sp_l_out K) (sp_l_loop K n) (sp_l_block K n) (sp_l_catch K n) (sp_l_ends K n) { nx := fun _ H' => Q .non H', rt := Q } (L2.start n_l_row vs) H := by
  obtain ⟨H0, a, ns, p, k, R, d, l, cnt, m, rfl, hS, w, hm, hd, hl, hcnt, q⟩ := h
  generalize hB : less H (atC p k :: R) = B at q
  have s : Same B (less H (atC p k :: R)) := hB ▸ Same.refl _
  clear hB
  unfold t_l_row
  unfold genR at q
  dsimp only at q
  walk_at "w"
  refine ⟨H0, a, ns, p, k, R, rfl, hS, w, ?_⟩
  replace w : Own H0 (upd H p (.lst [.int ((k + 1 : Nat) : Int)])) (atC p (k + 1) :: R) := w.set 0 (.lst [.int ((k + 1 : Nat) : Int)]) rfl
  have l0 : less (upd H p (.lst [.int ((k + 1 : Nat) : Int)])) (atC p (k + 1) :: R) = less H (atC p k :: R) := less_put (L := atC p k :: R) 0 rfl
  rw [← l0] at s 
  clear l0
  generalize upd H p _ = H at w s  ⊢
  generalize cellN ns k = c at q ⊢
  with_reducible refine w_name ?_
  iterate 6 walk_at "w1"
  with_reducible refine w_name ?_
  iterate 6 walk_at "w1"
  with_reducible refine w_name ?_
  generalize hkd : (if m + 1 < 2 then c % 12 % 5 else c % 12) = kind at q
  generalize hmo : c / 12 = more at q ⊢
  have k0 : 0 ≤ kind := by rw [← hkd]; split <;> omega
  have k12 : kind < 12 := by rw [← hkd]; split <;> omega
  have k5 : m = 0 → kind < 5 := fun h => by rw [← hkd, if_pos (by omega)]; omega
  with_reducible refine w_cut (fun σ' H' => H' = H ∧ σ' = [some (.ref a), some (.ref p), some (.int d), some (.int l), some (.int cnt), some (.int c), some (.int more), some (.int kind), none, none, none]) ?_ fun N key => ?_
  · rintro σ' H' ⟨rfl, rfl⟩
    walk_at "w"
    refine w_D (fun c1 => ?_) (fun c1 => ?_)
    · rw [if_pos c1] at q
      walk_at "w"
      refine ⟨H0, a, ns, p, k + 1, R, 1, cnt, 5, rfl, hS, w, by decide, rfl, hcnt, fun H v w s2 f1 => ?_⟩
      replace s := s.trans s2
      clear s2
      walk_at "w"
      refine fun u hu => ?_
      have f2 := lessTup (K := K) w hu (xs := [.str "set", .int (more % 4), v])
      replace w := w.lay (o := .tup [.str "set", .int (more % 4), v]) hu
      replace s := s.trans (less_lay (o := .tup [.str "set", .int (more % 4), v]) hu)
      replace f1 := f1.mono (less_lay (o := .tup [.str "set", .int (more % 4), v]) hu)
      generalize upd H u _ = H at w s f1 f2 ⊢
      exact q _ _ w s ⟨v, f2, f1⟩
    rw [if_neg c1] at q
    walk_at "w"
    refine w_D (fun c2 => ?_) (fun c2 => ?_)
    · rw [if_pos c2] at q
      walk_at "w"
      refine ⟨H0, a, ns, p, k + 1, R, 1, cnt, 5, rfl, hS, w, by decide, rfl, hcnt, fun H v w s2 f1 => ?_⟩
      replace s := s.trans s2
      clear s2
      walk_at "w"
      refine fun u hu => ?_
      have f2 := lessTup (K := K) w hu (xs := [.str "say", v])
      replace w := w.lay (o := .tup [.str "say", v]) hu
      replace s := s.trans (less_lay (o := .tup [.str "say", v]) hu)
      replace f1 := f1.mono (less_lay (o := .tup [.str "say", v]) hu)
      generalize upd H u _ = H at w s f1 f2 ⊢
      exact q _ _ w s ⟨v, f2, f1⟩
    rw [if_neg c2] at q
    walk_at "w"
    refine w_D (fun c3 => ?_) (fun c3 => ?_)
    · rw [if_pos c3] at q
      walk_at "w"
      refine ⟨H0, a, ns, p, k + 1, R, more, l, cnt, rfl, hS, w, hcnt, fun H v w s2 f1 => ?_⟩
      replace s := s.trans s2
      clear s2
      exact q _ _ w s f1
    rw [if_neg c3] at q
    walk_at "w"
    refine w_D (fun c4 => ?_) (fun c4 => ?_)
    · rw [if_pos c4] at q
      walk_at "w"
      refine fun u hu => ?_
      have g1 := lessTup (K := K) w hu (xs := [.str "num", .int (100 + more / 3 % 4)])
      replace w := w.lay (o := .tup [.str "num", .int (100 + more / 3 % 4)]) hu
      replace s := s.trans (less_lay (o := .tup [.str "num", .int (100 + more / 3 % 4)]) hu)
      generalize upd H u _ = H at w s g1 ⊢
      walk_at "w"
      refine ⟨H0, a, ns, p, k + 1, R, 2, cnt, 4, rfl, hS, w, by decide, rfl, hcnt, fun H v w s2 f1 => ?_⟩
      replace s := s.trans s2
      replace g1 := g1.mono s2
      clear s2
      walk_at "w"
      refine fun u2 hu2 => ?_
      have g2 := LsAt.of (K := K) (less_new w hu2 (o := .lst [.ref u, v]))
      replace w := w.lay (o := .lst [.ref u, v]) hu2
      replace s := s.trans (less_lay (o := .lst [.ref u, v]) hu2)
      replace g1 := g1.mono (less_lay (o := .lst [.ref u, v]) hu2)
      replace f1 := f1.mono (less_lay (o := .lst [.ref u, v]) hu2)
      generalize upd H u2 _ = H at w s g1 f1 g2 ⊢
      walk_at "w"
      refine ⟨_, rfl, ?_⟩
      by_cases c5 : more % 3 = 0
      · rw [decide_eq_true c5]
        rw [if_pos c5] at q
        refine w_ixL (same_less.seq g2) rfl ?_
        walk_at "w"
        refine fun u3 hu3 => ?_
        have g3 := lessTup (K := K) w hu3 (xs := [.str "raise", v])
        replace w := w.lay (o := .tup [.str "raise", v]) hu3
        replace s := s.trans (less_lay (o := .tup [.str "raise", v]) hu3)
        replace g1 := g1.mono (less_lay (o := .tup [.str "raise", v]) hu3)
        replace f1 := f1.mono (less_lay (o := .tup [.str "raise", v]) hu3)
        replace g2 := g2.mono (less_lay (o := .tup [.str "raise", v]) hu3)
        generalize upd H u3 _ = H at w s g1 f1 g2 g3 ⊢
        exact q _ _ w s ⟨v, g3, f1⟩
      · rw [decide_eq_false c5]
        rw [if_neg c5] at q
        refine w_ixL (same_less.seq g2) rfl ?_
        walk_at "w"
        refine fun u3 hu3 => ?_
        have g3 := lessTup (K := K) w hu3 (xs := [.str "raise", .ref u])
        replace w := w.lay (o := .tup [.str "raise", .ref u]) hu3
        replace s := s.trans (less_lay (o := .tup [.str "raise", .ref u]) hu3)
        replace g1 := g1.mono (less_lay (o := .tup [.str "raise", .ref u]) hu3)
        replace f1 := f1.mono (less_lay (o := .tup [.str "raise", .ref u]) hu3)
        replace g2 := g2.mono (less_lay (o := .tup [.str "raise", .ref u]) hu3)
        generalize upd H u3 _ = H at w s g1 f1 g2 g3 ⊢
        exact q _ _ w s ⟨_, g3, g1⟩
    rw [if_neg c4] at q
    obtain ⟨j, rfl⟩ : ∃ j, m = j + 1 := ⟨m - 1, by
      have : m ≠ 0 := fun e => absurd (k5 e) (by omega)
      omega⟩
    have ej : j + 1 - 1 = j := rfl
    walk_at "w"
    refine w_D (fun c6 => ?_) (fun c6 => ?_)
    · rw [if_pos c6] at q
      walk_at "w"
      refine ⟨H0, a, ns, p, k + 1, R, more, d, l, cnt, j, rfl, hS, w, by omega, by omega, hl, hcnt, fun H v w s2 f1 => ?_⟩
      replace s := s.trans s2
      clear s2
      exact q _ _ w s f1
    rw [if_neg c6] at q
    walk_at "w"
    refine w_D (fun c7 => ?_) (fun c7 => ?_)
    · rw [if_pos c7] at q
      walk_at "w"
      refine ⟨H0, a, ns, p, k + 1, R, 1, cnt, 5, rfl, hS, w, by decide, rfl, hcnt, fun H v w s2 f1 => ?_⟩
      replace s := s.trans s2
      clear s2
      generalize (genT ns cnt (5 + 1) (k + 1)).2 = k1 at q w s f1
      generalize (genT ns cnt (5 + 1) (k + 1)).1 = t1 at q f1
      walk_at "w"
      refine ⟨H0, a, ns, p, k1, R, d + 1, l, cnt, j, rfl, hS, w, by omega, by omega, hl, hcnt, fun H b1 ws w s2 f2 hws => ?_⟩
      replace s := s.trans s2
      replace f1 := f1.mono s2
      clear s2
      generalize (genB ns cnt (j + 1) (decide (0 < l)) k1).2 = k2 at q w s f1 f2
      generalize (genB ns cnt (j + 1) (decide (0 < l)) k1).1 = bb at q f2
      have g1 := LsAt.of (K := K) (less_given1 w)
      replace w := w.give1
      replace s := s.trans less_give1
      replace f1 := f1.mono less_give1
      replace f2 := f2.mono less_give1
      walk_at "w"
      refine ⟨H0, a, ns, p, k2, R, d + 1, l, cnt, j, rfl, hS, w, by omega, by omega, hl, hcnt, fun H b2 ws2 w s2 f3 hws2 => ?_⟩
      replace s := s.trans s2
      replace f1 := f1.mono s2
      replace f2 := f2.mono s2
      replace g1 := g1.mono s2
      clear s2
      have g2 := LsAt.of (K := K) (less_given1 w)
      replace w := w.give1
      replace s := s.trans less_give1
      replace f1 := f1.mono less_give1
      replace f2 := f2.mono less_give1
      replace f3 := f3.mono less_give1
      replace g1 := g1.mono less_give1
      walk_at "w"
      refine fun u hu => ?_
      have g3 := lessTup (K := K) w hu (xs := [.str "if", v, .ref b1, .ref b2])
      replace w := w.lay (o := .tup [.str "if", v, .ref b1, .ref b2]) hu
      replace s := s.trans (less_lay (o := .tup [.str "if", v, .ref b1, .ref b2]) hu)
      replace f1 := f1.mono (less_lay (o := .tup [.str "if", v, .ref b1, .ref b2]) hu)
      replace f2 := f2.mono (less_lay (o := .tup [.str "if", v, .ref b1, .ref b2]) hu)
      replace f3 := f3.mono (less_lay (o := .tup [.str "if", v, .ref b1, .ref b2]) hu)
      replace g1 := g1.mono (less_lay (o := .tup [.str "if", v, .ref b1, .ref b2]) hu)
      replace g2 := g2.mono (less_lay (o := .tup [.str "if", v, .ref b1, .ref b2]) hu)
      generalize upd H u _ = H at w s f1 f2 f3 g1 g2 g3 ⊢
      exact q _ _ w s ⟨v, b1, b2, ws, ws2, g3, f1, g1, f2, g2, f3⟩
    rw [if_neg c7] at q
    walk_at "w"
    refine w_D (fun c8 => ?_) (fun c8 => ?_)
    · rw [if_pos c8] at q
      walk_at "w"
      refine ⟨H0, a, ns, p, k + 1, R, more, d, l, cnt, j, rfl, hS, w, by omega, by omega, hl, hcnt, fun H v w s2 f1 => ?_⟩
      replace s := s.trans s2
      clear s2
      exact q _ _ w s f1
    rw [if_neg c8] at q
    have last : ¬ (kind = 11 ∧ 2 < j + 1 + 1) → tSeq (tAsg (tCall (sp_l_block K n) [] E0 (tCons (tVar 0) (tCons (tVar 1) (tCons (tOp rAddI (tVar 2) (tC (.int 1))) (tCons (tVar 3) (tCons (tVar 4) tNil)))))) (gName 10))
        (tRet (tTup (tCons (tC (.str "end")) (tCons (tVar 10) (tCons (tCall (sp_l_block K n) [] E0 (tCons (tVar 0) (tCons (tVar 1) (tCons (tOp rAddI (tVar 2) (tC (.int 1))) (tCons (tVar 3) (tCons (tVar 4) tNil)))))) tNil)))))
        { nx := fun _ H' => Q .non H', rt := Q } [some (.ref a), some (.ref p), some (.int d), some (.int l), some (.int cnt), some (.int c), some (.int more), some (.int kind), none, none, none] H' := fun hn => by
      rw [if_neg hn] at q
      walk_at "w"
      refine ⟨H0, a, ns, p, k + 1, R, d + 1, l, cnt, j, rfl, hS, w, by omega, by omega, hl, hcnt, fun H b1 ws w s2 f2 hws => ?_⟩
      replace s := s.trans s2
      clear s2
      generalize (genB ns cnt (j + 1) (decide (0 < l)) (k + 1)).2 = k2 at q w s f2
      generalize (genB ns cnt (j + 1) (decide (0 < l)) (k + 1)).1 = bb at q f2
      have g1 := LsAt.of (K := K) (less_given1 w)
      replace w := w.give1
      replace s := s.trans less_give1
      replace f2 := f2.mono less_give1
      walk_at "w"
      refine ⟨H0, a, ns, p, k2, R, d + 1, l, cnt, j, rfl, hS, w, by omega, by omega, hl, hcnt, fun H b2 ws2 w s2 f3 hws2 => ?_⟩
      replace s := s.trans s2
      replace f2 := f2.mono s2
      replace g1 := g1.mono s2
      clear s2
      have g2 := LsAt.of (K := K) (less_given1 w)
      replace w := w.give1
      replace s := s.trans less_give1
      replace f2 := f2.mono less_give1
      replace f3 := f3.mono less_give1
      replace g1 := g1.mono less_give1
      walk_at "w"
      refine fun u hu => ?_
      have g3 := lessTup (K := K) w hu (xs := [.str "end", .ref b1, .ref b2])
      replace w := w.lay (o := .tup [.str "end", .ref b1, .ref b2]) hu
      replace s := s.trans (less_lay (o := .tup [.str "end", .ref b1, .ref b2]) hu)
      replace f2 := f2.mono (less_lay (o := .tup [.str "end", .ref b1, .ref b2]) hu)
      replace f3 := f3.mono (less_lay (o := .tup [.str "end", .ref b1, .ref b2]) hu)
      replace g1 := g1.mono (less_lay (o := .tup [.str "end", .ref b1, .ref b2]) hu)
      replace g2 := g2.mono (less_lay (o := .tup [.str "end", .ref b1, .ref b2]) hu)
      generalize upd H u _ = H at w s f2 f3 g1 g2 g3 ⊢
      exact q _ _ w s ⟨b1, b2, ws, ws2, g3, g1, f2, g2, f3⟩
    walk_at "w"
    refine w_D (fun c9 => ?_) (fun c9 => ?_)
    · walk_at "w"
      refine w_D (fun c10 => ?_) (fun c10 => ?_)
      · obtain ⟨i, rfl⟩ : ∃ i, j = i + 1 := ⟨j - 1, by omega⟩
        rw [if_pos ⟨c9, by omega⟩] at q
        walk_at "w"
        refine ⟨H0, a, ns, p, k + 1, R, more, d, l, cnt, i, rfl, hS, w, by omega, by omega, hl, hcnt, fun H v w s2 f1 => ?_⟩
        replace s := s.trans s2
        clear s2
        exact q _ _ w s f1
      · walk_at "w1"
        exact last fun h => c10 (by omega)
    · iterate 2 walk_at "w1"
      exact last fun h => c9 h.1
  · walk_at "w"
    refine w_D (fun c1 => ?_) (fun c1 => ?_)
    · walk_at "w"
      refine key _ _ ⟨rfl, ?_⟩
      rw [if_pos (by omega)] at hkd
      rw [hkd]
      rfl
    · walk_at "w"
      refine key _ _ ⟨rfl, ?_⟩
      rw [if_neg (by omega)] at hkd
      rw [hkd]
      rfl
end
end U

set_option maxHeartbeats 4000000
namespace U
open PySem PySem.Spec PyProof.Rows L2 Un
local macro_rules | `(tactic| walk_at "w1") => `(tactic| first
  | with_reducible refine w_seq ?_
  | with_reducible refine w_asg ?_
  | with_reducible refine w_op ?_
  | ((with_reducible refine' w_var ?h1 ?_); (case h1 => rfl))
  | with_reducible refine w_c ?_
  | with_reducible refine w_name ?_
  | with_reducible refine w_tFd ?_
  | ((with_reducible refine' w_fld ?h1 ?h2 ?_); (case h1 => assumption); (case h2 => rfl))
  | with_reducible refine w_if ?_
  | with_reducible refine w_test ?_
  | with_reducible refine w_eqS ?_
  | with_reducible refine w_eqI ?_
  | with_reducible refine w_neS ?_
  | with_reducible refine w_neI ?_
  | with_reducible refine w_isN ?_
  | with_reducible refine w_isnN ?_
  | with_reducible refine w_bl ?_
  | with_reducible refine w_ret ?_
  | with_reducible refine w_drop ?_
  | with_reducible refine w_next ?_
  | with_reducible refine w_cons ?_
  | with_reducible refine w_nil ?_
  | with_reducible refine w_call ?_
  | with_reducible refine w_cb ?_
  | with_reducible refine w_meth ?_
  | ((with_reducible refine' w_recv ?h1 ?h2 ?_); (case h1 => assumption); (case h2 => rfl))
  | with_reducible refine w_sFd ?_
  | ((with_reducible refine' w_put ?h1 ?h2 ?_); (case h1 => assumption); (case h2 => exact Nat.le_of_ble_eq_true rfl))
  | with_reducible refine w_add ?_
  | with_reducible refine w_sub ?_
  | with_reducible refine w_lt ?_
  | with_reducible refine w_le ?_
  | with_reducible refine w_gt ?_
  | with_reducible refine w_ge ?_
  | with_reducible refine w_bm ?_
  | with_reducible refine w_bm0 ?_
  | ((with_reducible refine' w_ty ?h1 ?_); (case h1 => assumption))
  | with_reducible refine w_tup ?_
  | with_reducible refine w_lst ?_
  | ((with_reducible refine' w_new ?h1 ?_); (case h1 => exact Nat.le_of_ble_eq_true rfl))
  | with_reducible refine w_gsub ?_
  | with_reducible refine w_make ?_
  | with_reducible refine w_lc ?_
  | with_reducible refine w_iList ?_
  | with_reducible refine w_for ?_
  | with_reducible refine w_yes ?_
  | with_reducible refine w_tSl ?_
  | with_reducible refine w_part ?_
  | with_reducible refine w_nopart ?_
  | with_reducible refine w_i ?_
  | with_reducible refine w_rng1 ?_
  | with_reducible refine w_rng2 ?_
  | with_reducible refine w_isiII ?_
  | with_reducible refine w_isiIB ?_
  | with_reducible refine w_isiSS ?_
  | ((with_reducible refine w_mod ?h1 ?_); (case h1 => decide))
  | ((with_reducible refine w_fdC' ?h1 ?h2 ?_); (case h1 => decide); (case h2 => decide))
  | ((with_reducible refine w_mulR ?h1 ?h2 ?_); (case h1 => decide); (case h2 => decide))
  | ((with_reducible refine w_mulL ?h1 ?h2 ?_); (case h1 => decide); (case h2 => decide))
  | ((with_reducible refine w_pow' ?h1 ?h2 ?h3 ?_); (case h1 => decide); (case h2 => decide); (case h3 => decide))
  | with_reducible refine w_andV ?_
  | with_reducible refine w_orV ?_
  | with_reducible refine w_notV ?_
  | with_reducible refine w_B ?_
  | with_reducible refine w_not ?_
  | with_reducible refine w_and ?_
  | with_reducible refine w_or ?_
  | with_reducible refine w_ifx ?_
  | with_reducible refine w_un ?_
  | ((with_reducible refine w_T ?h1 ?_); (case h1 => with_reducible rfl))
  | ((with_reducible refine w_F ?h1 ?_); (case h1 => with_reducible rfl))
  | ((with_reducible refine w_T ?h1 ?_); (case h1 => decide +kernel))
  | ((with_reducible refine w_F ?h1 ?_); (case h1 => decide +kernel)))
local macro_rules | `(tactic| walk_at "w") => `(tactic| repeat walk_at "w1")

section
variable {K : PySem.W.Frag}
/-- a block in a list of its own, short -/
def BlRw (K : PySem.W.Frag) (H : Hp) (n : Nat) (b : List Sm) (v : V) : Prop := ∃ p ps, v = .ref p ∧ RawAt H p (.lst ps) ∧ SmsAt K H b ps ∧ ps.length ≤ n
theorem BlRw.mono {H H' : Hp} {n : Nat} {b : List Sm} {v : V} (h : BlRw K H n b v) (s : Same H H') : BlRw K H' n b v := by
  obtain ⟨p, ps, e, h1, h2, h3⟩ := h
  exact ⟨p, ps, e, h1.mono s, h2.mono s, h3⟩
theorem BlRw.at {H : Hp} {n : Nat} {b : List Sm} {v : V} (h : BlRw K H n b v) : BlAt K H b v := by
  obtain ⟨p, ps, e, h1, h2, h3⟩ := h
  exact ⟨p, ps, e, SqL.of h1, h2⟩
theorem BlRw.up {H : Hp} {n m : Nat} {b : List Sm} {v : V} (h : BlRw K H n b v) (hm : n ≤ m) : BlRw K H m b v := by
  obtain ⟨p, ps, e, h1, h2, h3⟩ := h
  exact ⟨p, ps, e, h1, h2, by omega⟩
def BlsAt (K : PySem.W.Frag) (H : Hp) (P : List (List Sm)) (vs : List V) : Prop := All2 (fun v b => BlRw K H 5 b v) vs P
theorem BlsAt.mono {H H' : Hp} {P : List (List Sm)} {vs : List V} (h : BlsAt K H P vs) (s : Same H H') : BlsAt K H' P vs := All2.mono (fun _ _ q => q.mono s) h
theorem BlsAt.snoc {H : Hp} {P : List (List Sm)} {vs : List V} {b : List Sm} {v : V} (h : BlsAt K H P vs) (h' : BlRw K H 5 b v) : BlsAt K H (P ++ [b]) (vs ++ [v]) := All2.snoc h h'
theorem BlsAt.len {H : Hp} {P : List (List Sm)} {vs : List V} (h : BlsAt K H P vs) : vs.length = P.length := All2.len h
def sp_l_program (K : PySem.W.Frag) : Sp := fun vs H Q _ => ∃ H0 a ns p k R, vs = [.ref a, .ref p] ∧ SqL K H0 a (ns.map V.int) ∧ Own H0 H (atC p k :: R) ∧
    ∀ H' q ws, Own H0 H' (atC p (progG ns k).2 :: (q, .lst ws) :: R) → Same (less H (atC p k :: R)) (less H' (atC p (progG ns k).2 :: (q, .lst ws) :: R)) →
      BlsAt K (less H' (atC p (progG ns k).2 :: (q, .lst ws) :: R)) (progG ns k).1 ws → Q (.ref q) H'
theorem p_l_program (vs : List V) (H : Hp) (Q : VK) (E : XK) (h : sp_l_program K vs H Q E) : t_l_program K (sp_l_next K) (sp_l_block K 7) { nx := fun _ H' => Q .non H', rt := Q } (L2.start n_l_program vs) H := by
  obtain ⟨H0, a, ns, p, k, R, rfl, hS, w, q⟩ := h
  generalize hB : less H (atC p k :: R) = B at q
  have s : Same B (less H (atC p k :: R)) := hB ▸ Same.refl _
  clear hB
  unfold t_l_program
  unfold progG at q
  dsimp only at q
  walk_at "w"
  refine ⟨H0, a, ns, p, k, R, rfl, hS, w, ?_⟩
  replace w : Own H0 (upd H p (.lst [.int ((k + 1 : Nat) : Int)])) (atC p (k + 1) :: R) := w.set 0 (.lst [.int ((k + 1 : Nat) : Int)]) rfl
  have l0 : less (upd H p (.lst [.int ((k + 1 : Nat) : Int)])) (atC p (k + 1) :: R) = less H (atC p k :: R) := less_put (L := atC p k :: R) 0 rfl
  rw [← l0] at s 
  clear l0
  generalize upd H p _ = H at w s  ⊢
  generalize cellN ns k = c at q ⊢
  have cp := countG_pos c
  have cl := countG_le c
  walk_at "w"
  refine fun u hu => ?_
  walk_at "w"
  refine ⟨_, rfl, ?_⟩
  refine w_ixL (v := .int (countG c : Nat)) (SqL.of upd_same) ?_ ?_
  · unfold countG
    by_cases h : c / 3 % 8 = 1
    · rw [if_pos h, decide_eq_true h]
      rfl
    · rw [if_neg h, decide_eq_false h]
      show some (V.int (1 + c % 3)) = _
      congr 2
      omega
  have f0 := LsAt.of (K := K) (less_new w hu (o := .lst [.int (1 + c % 3), .int 8]))
  replace w := w.lay (o := .lst [.int (1 + c % 3), .int 8]) hu
  replace s := s.trans (less_lay (o := .lst [.int (1 + c % 3), .int 8]) hu)
  generalize upd H u _ = H at w s f0 ⊢
  clear f0
  generalize countG c = cnt at q cp cl ⊢
  walk_at "w"
  refine fun bq hbq => ?_
  have l0 := less_take (L := atC p (k + 1) :: R) (o := .lst []) hbq
  replace w := (w.take (o := .lst []) hbq).swp
  rw [← l0, less_swp] at s
  clear l0
  generalize upd H bq _ = H at w s ⊢
  walk_at "w"
  refine w_r1 (by omega) (by omega) ?_
  have e1 : ((cnt : Int) - 1).toNat = cnt - 1 := by omega
  rw [e1]
  generalize hmany : cnt - 1 = many at q
  have hm8 : many ≤ 8 := by omega
  refine for_range (fun i σ H => ∃ bs ki ws x, i ≤ many ∧ Own H0 H (atC p ki :: (bq, .lst ws) :: R) ∧ Same B (less H (atC p ki :: (bq, .lst ws) :: R)) ∧ BlsAt K (less H (atC p ki :: (bq, .lst ws) :: R)) bs ws ∧ ws.length = i ∧
    blocksG (genB ns cnt 6 false) many (k + 1) = (bs ++ (blocksG (genB ns cnt 6 false) (many - i) ki).1, (blocksG (genB ns cnt 6 false) (many - i) ki).2) ∧
    σ = [some (.ref a), some (.ref p), some (.int c), some (.int (cnt : Nat)), some (.ref bq), x])
    ⟨[], k + 1, [], _, Nat.zero_le _, w, s, .nil, rfl, rfl, rfl⟩ ?_ ?_
  · clear w s
    rintro i σ H hi ⟨bs, ki, ws, x, _, w, s, f1, hwl, hrow, rfl⟩
    have hq := w.ix 1 rfl
    walk_at "w"
    refine ⟨H0, a, ns, p, ki, (bq, .lst ws) :: R, 2, 0, cnt, 5, rfl, hS, w, by decide, rfl, Int.le_refl _, by omega, fun H v ws2 w s2 f2 hw2 => ?_⟩
    rw [show decide ((0 : Int) < 0) = false from rfl] at w s2 f2
    replace s := s.trans s2
    replace f1 := f1.mono s2
    clear s2
    obtain ⟨j, hj⟩ : ∃ j, many - i = j + 1 := ⟨many - i - 1, by omega⟩
    have hj2 : many - (i + 1) = j := by omega
    rw [hj, blocksG] at hrow
    dsimp only at hrow
    generalize (genB ns cnt (5 + 1) false ki).1 = s1 at f2 hrow
    generalize (genB ns cnt (5 + 1) false ki).2 = k2 at w s f1 f2 hrow
    have g1 : RawAt _ _ _ := less_given1 w
    replace w := w.give1
    replace s := s.trans less_give1
    replace f1 := f1.mono less_give1
    replace f2 := f2.mono less_give1
    have hq := w.ix 1 rfl
    walk_at "w"
    refine w_app hq (by rw [sizeLine_eq]; omega) ?_
    replace f1 := f1.snoc ⟨v, ws2, rfl, g1, f2, hw2⟩
    clear g1 f2
    replace w : Own H0 (upd H bq (.lst (ws ++ [V.ref v]))) (atC p k2 :: (bq, .lst (ws ++ [V.ref v])) :: R) := w.set 1 (.lst (ws ++ [V.ref v])) rfl
    have l0 : less (upd H bq (.lst (ws ++ [V.ref v]))) (atC p k2 :: (bq, .lst (ws ++ [V.ref v])) :: R) = less H (atC p k2 :: (bq, .lst ws) :: R) := less_put (L := atC p k2 :: (bq, .lst ws) :: R) 1 rfl
    rw [← l0] at s f1
    clear l0
    generalize upd H bq _ = H at w s f1 ⊢
    refine ⟨bs ++ [s1], k2, ws ++ [V.ref v], _, hi, w, s, f1, by rw [List.length_append, hwl]; rfl, ?_, rfl⟩
    rw [hrow, hj2, List.append_assoc]
    rfl
  · clear w s
    rintro σ H ⟨bs, ki, ws, x, _, w, s, f1, hwl, hrow, rfl⟩
    rw [Nat.sub_self, blocksG] at hrow
    dsimp only at hrow
    rw [List.append_nil] at hrow
    rw [hrow] at q
    dsimp only at q
    walk_at "w"
    refine ⟨H0, a, ns, p, ki, (bq, .lst ws) :: R, 1, 0, cnt, 6, rfl, hS, w, by decide, rfl, Int.le_refl _, by omega, fun H v ws2 w s2 f2 hw2 => ?_⟩
    rw [show decide ((0 : Int) < 0) = false from rfl] at w s2 f2
    replace s := s.trans s2
    replace f1 := f1.mono s2
    clear s2
    generalize (genB ns cnt (6 + 1) false ki).1 = s1 at f2 q
    generalize (genB ns cnt (6 + 1) false ki).2 = k2 at w s f1 f2 q
    have g1 : RawAt _ _ _ := less_given1 w
    replace w := w.give1
    replace s := s.trans less_give1
    replace f1 := f1.mono less_give1
    replace f2 := f2.mono less_give1
    have fm : BlRw K (less H (atC p k2 :: (bq, .lst ws) :: R)) 5 s1 (.ref v) := ⟨v, ws2, rfl, g1, f2, hw2⟩
    clear g1 f2
    walk_at "w"
    refine fun u2 hu2 => ?_
    have g2 : RawAt (less (upd H u2 (.lst [.ref v])) _) u2 (.lst [.ref v]) := less_new w hu2 (o := .lst [.ref v])
    replace w := w.lay (o := .lst [.ref v]) hu2
    replace s := s.trans (less_lay (o := .lst [.ref v]) hu2)
    replace f1 := f1.mono (less_lay (o := .lst [.ref v]) hu2)
    replace fm := fm.mono (less_lay (o := .lst [.ref v]) hu2)
    generalize upd H u2 _ = H at w s f1 fm g2 ⊢
    walk_at "w"
    refine w_cat g2.up (w.ix 1 rfl) (by rw [sizeLine_eq]; simp; omega) fun r hr => ?_
    have l0 := less_take (L := atC p k2 :: (bq, .lst ws) :: R) (o := .lst ([V.ref v] ++ ws)) hr
    replace w := (w.take (o := .lst ([V.ref v] ++ ws)) hr).swp
    rw [← l0, less_swp] at s f1 fm
    clear l0 g2
    generalize upd H r _ = H at w s f1 fm ⊢
    have l0 : Same (less H (atC p k2 :: (r, .lst ([V.ref v] ++ ws)) :: (bq, .lst ws) :: R)) (less H (atC p k2 :: (r, .lst ([V.ref v] ++ ws)) :: R)) := by
      have e1 : less H (atC p k2 :: (r, .lst ([V.ref v] ++ ws)) :: (bq, .lst ws) :: R) = less H ((bq, .lst ws) :: atC p k2 :: (r, .lst ([V.ref v] ++ ws)) :: R) := less_perm (by
        exact (List.perm_middle (l₁ := [atC p k2, (r, .lst ([V.ref v] ++ ws))]) (l₂ := R) (a := (bq, .lst ws))))
      rw [e1]
      exact less_give
    replace w : Own H0 H (atC p k2 :: (r, .lst ([V.ref v] ++ ws)) :: R) := w.del 2
    exact q _ _ _ w (s.trans l0) (All2.cons (fm.mono l0) (f1.mono l0))
end
end U

namespace U
open PySem PySem.Spec PyProof.Rows L2
/-! readings of the defs -/
def t_l_tower (K : PySem.W.Frag) : TS :=
  (tSeq (tFor (iRng1 (tCons (tC (.int 7)) tNil)) (gName 2) (tSeq (tAsg (tOp rModP (tVar 1) (tC (.int 5))) (gName 3))
    (tSeq (tAsg (tOp rFdC (tVar 1) (tC (.int 5))) (gName 1))
    (tIfS (tTest (tOp rEq (tVar 3) (tC (.int 0)))) (tAsg (tLst (tCons (tTup (tCons (tC (.str "end")) (tCons (tVar 0) (tCons (tLst (tCons (tTup (tCons (tC (.str "say")) (tCons (tTup (tCons (tC (.str "num")) (tCons (tOp rAddI (tC (.int 50)) (tVar 2)) tNil))) tNil))) tNil)) tNil)))) tNil)) (gName 0)) (tIfS (tTest (tOp rEq (tVar 3) (tC (.int 1)))) (tAsg (tLst (tCons (tTup (tCons (tC (.str "say")) (tCons (tTup (tCons (tC (.str "num")) (tCons (tVar 2) tNil))) tNil))) (tCons (tTup (tCons (tC (.str "end")) (tCons (tLst (tCons (tTup (tCons (tC (.str "set")) (tCons (tOp rModP (tVar 2) (tC (.int 4))) (tCons (tTup (tCons (tC (.str "box")) (tCons (tC (.int 0)) tNil))) tNil)))) tNil)) (tCons (tVar 0) tNil)))) tNil))) (gName 0)) (tIfS (tTest (tOp rEq (tVar 3) (tC (.int 2)))) (tAsg (tLst (tCons (tTup (tCons (tC (.str "catch")) (tCons (tVar 0) (tCons (tOp (rIxL K) (tLst (tCons (tC .non) (tCons (tC (.int 101)) tNil))) (tOp rModP (tVar 2) (tC (.int 2)))) (tCons (tOp rModP (tVar 2) (tC (.int 4))) (tCons (tLst (tCons (tTup (tCons (tC (.str "raise")) (tCons (tTup (tCons (tC (.str "box")) (tCons (tOp rModP (tVar 2) (tC (.int 4))) tNil))) tNil))) tNil)) tNil)))))) tNil)) (gName 0)) (tIfS (tTest (tOp rEq (tVar 3) (tC (.int 3)))) (tAsg (tLst (tCons (tTup (tCons (tC (.str "loop")) (tCons (tTup (tCons (tC (.str "num")) (tCons (tC (.int 1)) tNil))) (tCons (tOp rCat (tVar 0) (tLst (tCons (tTup (tCons (tC (.str "leave")) tNil)) tNil))) tNil)))) (tCons (tTup (tCons (tC (.str "say")) (tCons (tTup (tCons (tC (.str "box")) (tCons (tOp rModP (tVar 2) (tC (.int 4))) tNil))) tNil))) tNil))) (gName 0)) (tAsg (tLst (tCons (tTup (tCons (tC (.str "if")) (tCons (tTup (tCons (tC (.str "less")) (tCons (tTup (tCons (tC (.str "num")) (tCons (tVar 2) tNil))) (tCons (tTup (tCons (tC (.str "num")) (tCons (tC (.int 4)) tNil))) tNil)))) (tCons (tVar 0) (tCons (tLst tNil) tNil))))) (tCons (tTup (tCons (tC (.str "set")) (tCons (tOp rModP (tVar 2) (tC (.int 4))) (tCons (tTup (tCons (tC (.str "num")) (tCons (tVar 2) tNil))) tNil)))) tNil))) (gName 0)))))))))
    (tRet (tVar 0)))
def n_l_tower : List Str := ["_law_block_here", "_law_cell", "_law_k", "_law_way"]
def t_l_long (K : PySem.W.Frag) : TS :=
  (tSeq (tAsg (tLst tNil) (gName 1))
    (tSeq (tFor (iRng1 (tCons (tOp rAddI (tC (.int 11)) (tOp rModP (tVar 0) (tC (.int 60)))) tNil)) (gName 2) (tSeq (tDrop (tBM K "list" rAppend (tVar 1) (tCons (tTup (tCons (tC (.str "set")) (tCons (tOp rModP (tVar 2) (tC (.int 4))) (tCons (tTup (tCons (tC (.str "add")) (tCons (tTup (tCons (tC (.str "box")) (tCons (tOp rModP (tOp rAddI (tVar 2) (tC (.int 1))) (tC (.int 4))) tNil))) (tCons (tTup (tCons (tC (.str "num")) (tCons (tVar 2) tNil))) tNil)))) tNil)))) tNil)))
    (tDrop (tBM K "list" rAppend (tVar 1) (tCons (tTup (tCons (tC (.str "say")) (tCons (tTup (tCons (tC (.str "box")) (tCons (tOp rModP (tVar 2) (tC (.int 4))) tNil))) tNil))) tNil)))))
    (tSeq (tAsg (tOp rModP (tOp rFdC (tVar 0) (tC (.int 60))) (tCB (rLenQ K) (tCons (tVar 1) tNil))) (gName 3))
    (tSeq (tAsg (tOp (rIxL K) (tLst (tCons (tTup (tCons (tC (.str "raise")) (tCons (tTup (tCons (tC (.str "box")) (tCons (tC (.int 1)) tNil))) tNil))) (tCons (tTup (tCons (tC (.str "give")) (tCons (tTup (tCons (tC (.str "num")) (tCons (tVar 3) tNil))) tNil))) (tCons (tTup (tCons (tC (.str "say")) (tCons (tTup (tCons (tC (.str "num")) (tCons (tVar 3) tNil))) tNil))) tNil)))) (tOp rModP (tOp rFdC (tVar 0) (tC (.int 61))) (tC (.int 3)))) (gName 4))
    (tRet (tOp rCat (tOp rCat (tSl (rSlL K) (tVar 1) tNoPart (tPart (tVar 3))) (tLst (tCons (tVar 4) tNil))) (tSl (rSlL K) (tVar 1) (tPart (tVar 3)) tNoPart)))))))
def n_l_long : List Str := ["_law_cell", "_law_block_here", "_law_k", "_law_at", "_law_odd"]
def t_l_drawn (K : PySem.W.Frag) (sp_l_program sp_l_row sp_l_tower sp_l_long : Sp) : TS :=
  (tSeq (tAsg (tCall sp_l_program [] E0 (tCons (tVar 0) (tCons (tVar 1) tNil))) (gName 3))
    (tSeq (tIfS (tTest (tOp rEq (tOp rModP (tVar 2) (tC (.int 4))) (tC (.int 1)))) (tSeq (tAsg (tCall sp_l_row [] E0 (tCons (tVar 0) (tCons (tVar 1) (tCons (tC (.int 7)) (tCons (tC (.int 0)) (tCons (tCB (rLenQ K) (tCons (tVar 3) tNil)) tNil)))))) (gName 4))
    (tAsg (tCall sp_l_tower [] E0 (tCons (tLst (tCons (tTup (tCons (tC (.str "set")) (tCons (tC (.int 1)) (tCons (tTup (tCons (tC (.str "add")) (tCons (tTup (tCons (tC (.str "box")) (tCons (tC (.int 0)) tNil))) (tCons (tTup (tCons (tC (.str "num")) (tCons (tC (.int 1)) tNil))) tNil)))) tNil)))) (tCons (tVar 4) tNil))) (tCons (tOp rFdC (tVar 2) (tC (.int 4))) tNil))) (gSub (tVar 3) (tC (.int 0)) rSetL))) tNext)
    (tSeq (tIfS (tTest (tOp rEq (tOp rModP (tVar 2) (tC (.int 8))) (tC (.int 2)))) (tAsg (tOp rCat (tCall sp_l_long [] E0 (tCons (tOp rFdC (tVar 2) (tC (.int 8))) tNil)) (tOp (rIxL K) (tVar 3) (tC (.int 0)))) (gSub (tVar 3) (tC (.int 0)) rSetL)) tNext)
    (tRet (tVar 3)))))
def n_l_drawn : List Str := ["_law_script", "_law_at", "_law_more", "_law_program_here", "_law_row_here"]
end U

/-! towers, long blocks, what is drawn: plain -/
namespace Un
open PySem U
def towerS (c : Int) (k : Nat) (b : List Sm) : List Sm :=
  if c % 5 = 0 then [.endd b [.say (.num (50 + k))]]
  else if c % 5 = 1 then [.say (.num k), .endd [.set ((k : Int) % 4) (.box 0)] b]
  else if c % 5 = 2 then [.ctch b (if k % 2 = 0 then none else some 101) ((k : Int) % 4) [.raise (.box ((k : Int) % 4))]]
  else if c % 5 = 3 then [.loop (.num 1) (b ++ [.leave]), .say (.box ((k : Int) % 4))]
  else [.ife (.bin .less (.num k) (.num 4)) b [], .set ((k : Int) % 4) (.num k)]
/-- m rounds from round k on -/
def towerG : Nat → Nat → Int → List Sm → List Sm
  | 0, _, _, b => b
  | m + 1, k, c, b => towerG m (k + 1) (c / 5) (towerS c k b)
def longS (k : Nat) : List Sm := [.set ((k : Int) % 4) (.bin .add (.box (((k : Int) + 1) % 4)) (.num k)), .say (.box ((k : Int) % 4))]
def longB : Nat → List Sm
  | 0 => []
  | m + 1 => longB m ++ longS m
def longG (c : Int) : List Sm :=
  let b := longB (11 + c % 60).toNat
  let at_ : Int := c / 60 % b.length
  let odd : Sm := if c / 61 % 3 = 0 then .raise (.box 1) else if c / 61 % 3 = 1 then .give (.num at_) else .say (.num at_)
  b.take at_.toNat ++ [odd] ++ b.drop at_.toNat
def drawnG (ns : List Int) (more : Int) (k : Nat) : List (List Sm) × Nat :=
  let P := progG ns k
  let r := genR ns P.1.length 1 (genB ns P.1.length 0) (genB ns P.1.length 0) false P.2
  let P2 := if more % 4 = 1 then (P.1.set 0 (towerG 7 0 (more / 4) [.set 1 (.bin .add (.box 0) (.num 1)), r.1]), r.2) else P
  (if more % 8 = 2 then P2.1.set 0 (longG (more / 8) ++ P2.1.headD []) else P2.1, P2.2)
section
variable {count : Nat}
mutual
theorem Sm.ok_loops : ∀ (s : Sm) {n : Nat} {l : Bool}, s.ok count l n = true → s.ok count true n = true
  | .set _ _, n, l, h => by cases n <;> exact h
  | .say _, n, l, h => by cases n <;> exact h
  | .leave, n, l, h => by cases n <;> rfl
  | .next, n, l, h => by cases n <;> rfl
  | .give _, n, l, h => by cases n <;> exact h
  | .raise _, n, l, h => by cases n <;> exact h
  | .ife e a b, 0, l, h => by cases h
  | .ife e a b, n + 1, l, h => by
    have h : (e.ok count 6 && (oks count l n a && oks count l n b)) = true := h
    rw [Bool.and_eq_true, Bool.and_eq_true] at h
    show (e.ok count 6 && (oks count true n a && oks count true n b)) = true
    rw [h.1, oks_loops a h.2.1, oks_loops b h.2.2]; rfl
  | .loop e b, 0, l, h => by cases h
  | .loop e b, n + 1, l, h => h
  | .ctch b _ k a, 0, l, h => by cases h
  | .ctch b _ k a, n + 1, l, h => by
    have h : (oks count l n b && (decide (0 ≤ k ∧ k < 4) && oks count l n a)) = true := h
    rw [Bool.and_eq_true, Bool.and_eq_true] at h
    show (oks count true n b && (decide (0 ≤ k ∧ k < 4) && oks count true n a)) = true
    rw [oks_loops b h.1, h.2.1, oks_loops a h.2.2]; rfl
  | .endd a b, 0, l, h => by cases h
  | .endd a b, n + 1, l, h => by
    have h : (oks count l n a && oks count l n b) = true := h
    rw [Bool.and_eq_true] at h
    show (oks count true n a && oks count true n b) = true
    rw [oks_loops a h.1, oks_loops b h.2]; rfl
theorem oks_loops : ∀ (b : List Sm) {n : Nat} {l : Bool}, oks count l n b = true → oks count true n b = true
  | [], _, _, _ => by rw [oks]
  | s :: b, n, l, h => by
    rw [oks_cons, Bool.and_eq_true] at h
    rw [oks_cons, Sm.ok_loops s h.1, oks_loops b h.2]; rfl
end
theorem leaf_ok {ns : List Int} {cnt : Int} {B1 B2 : BG} {l : Bool} {k : Nat} {n : Nat} (h : (genR ns cnt 1 B1 B2 l k).1.ok count l 1 = true) : (genR ns cnt 1 B1 B2 l k).1.ok count l n = true := by
  revert h
  unfold genR
  dsimp only
  simp only [show (1 : Nat) < 2 from by decide, if_true]
  generalize hk : cellN ns k % 12 % 5 = kind
  have k5 : kind < 5 := by omega
  have k0 : 0 ≤ kind := by omega
  split
  · intro h; cases n <;> exact h
  · split
    · intro h; cases n <;> exact h
    · split
      · unfold genO
        split
        · rename_i hl
          rw [hl.1]
          dsimp only
          split <;> (intro h; cases n <;> rfl)
        · intro h; cases n <;> exact h
      · rw [if_pos (by omega)]
        intro h; cases n <;> exact h
theorem m4k (k : Nat) : 0 ≤ (k : Int) % 4 ∧ (k : Int) % 4 < 4 := by omega
theorem say_ok {e : Un.Tree} (h : e.ok count 6 = true) {l : Bool} {n : Nat} : (Sm.say e).ok count l n = true := by cases n <;> exact h
theorem raise_ok {e : Un.Tree} (h : e.ok count 6 = true) {l : Bool} {n : Nat} : (Sm.raise e).ok count l n = true := by cases n <;> exact h
theorem give_ok {e : Un.Tree} (h : e.ok count 6 = true) {l : Bool} {n : Nat} : (Sm.give e).ok count l n = true := by cases n <;> exact h
theorem set_ok {k : Int} {e : Un.Tree} (hk : 0 ≤ k ∧ k < 4) (h : e.ok count 6 = true) {l : Bool} {n : Nat} : (Sm.set k e).ok count l n = true := by
  have e1 : (decide (0 ≤ k ∧ k < 4) && e.ok count 6) = true := by rw [decide_eq_true hk, h]; rfl
  cases n <;> exact e1
theorem boxT_ok {k : Int} (hk : 0 ≤ k ∧ k < 4) : (Un.Tree.box k).ok count 6 = true := decide_eq_true hk
theorem towerS_ok {c : Int} {k n : Nat} {b : List Sm} (h : oks count false n b = true) : oks count false (n + 1) (towerS c k b) = true := by
  have one : ∀ {s : Sm}, s.ok count false n = true → oks count false n [s] = true := fun h => oks_one h
  have mk := m4k k
  unfold towerS
  split
  · refine oks_one ?_
    show (oks count false n b && oks count false n [_]) = true
    rw [h, oks_one (say_ok rfl)]; rfl
  · split
    · rw [oks_cons, say_ok rfl]
      refine oks_one ?_
      show (oks count false n [_] && oks count false n b) = true
      rw [h, oks_one (set_ok mk (boxT_ok (by decide)))]; rfl
    · split
      · refine oks_one ?_
        show (oks count false n b && (decide _ && oks count false n [_])) = true
        rw [h, decide_eq_true mk, oks_one (raise_ok (boxT_ok mk))]; rfl
      · split
        · rw [oks_cons]
          rw [oks_one (say_ok (boxT_ok mk)), Bool.and_true]
          show (Tree.ok count 6 (.num 1) && oks count true n (b ++ [.leave])) = true
          rw [oks_app (oks_loops b h) (oks_one (by cases n <;> rfl))]; rfl
        · rw [oks_cons, oks_one (set_ok mk rfl), Bool.and_true]
          have e1 : ((Un.Tree.bin .less (.num (k : Int)) (.num 4)).ok count 6 && (oks count false n b && oks count false n [])) = true := by
            rw [h]
            simp [Tree.ok, oks]
          exact e1
theorem towerG_ok : ∀ (m k : Nat) (c : Int) (n : Nat) (b : List Sm), oks count false n b = true → oks count false (n + m) (towerG m k c b) = true
  | 0, _, _, _, _, h => h
  | m + 1, k, c, n, b, h => by
    have := towerG_ok m (k + 1) (c / 5) (n + 1) _ (towerS_ok (c := c) (k := k) h)
    rw [show n + (m + 1) = n + 1 + m from by omega]
    exact this
theorem longB_ok {n : Nat} : ∀ m, oks count false n (longB m) = true
  | 0 => by simp [longB, oks]
  | m + 1 => by
    refine oks_app (longB_ok m) ?_
    unfold longS
    rw [oks_cons, oks_one (say_ok (boxT_ok (m4k m))), Bool.and_true]
    refine set_ok (m4k m) ?_
    have : (Un.Tree.box (((m : Int) + 1) % 4)).ok count 5 = true := decide_eq_true (by omega)
    show (Tree.ok count 5 _ && Tree.ok count 5 (.num m)) = true
    rw [this]; rfl
theorem oks_mem {l : Bool} {n : Nat} : ∀ {b : List Sm}, (∀ s ∈ b, s.ok count l n = true) → oks count l n b = true
  | [], _ => by simp [oks]
  | s :: b, h => by
    rw [oks_cons, h s (List.mem_cons_self ..), oks_mem fun t ht => h t (List.mem_cons_of_mem _ ht)]; rfl
theorem mem_oks {l : Bool} {n : Nat} : ∀ {b : List Sm}, oks count l n b = true → ∀ s ∈ b, s.ok count l n = true
  | [], _, _, h => by cases h
  | t :: b, h, s, hs => by
    rw [oks_cons, Bool.and_eq_true] at h
    rcases List.mem_cons.mp hs with rfl | hs
    · exact h.1
    · exact mem_oks h.2 s hs
theorem longG_ok {c : Int} {n : Nat} : oks count false n (longG c) = true := by
  unfold longG
  have hb := longB_ok (count := count) (n := n) (11 + c % 60).toNat
  refine oks_app (oks_app (oks_mem fun s hs => mem_oks hb s (List.mem_of_mem_take hs)) (oks_one ?_)) (oks_mem fun s hs => mem_oks hb s (List.mem_of_mem_drop hs))
  split
  · exact raise_ok (boxT_ok (by decide))
  · split
    · exact give_ok rfl
    · exact say_ok rfl
end
theorem okProg_set {P : List (List Sm)} {b : List Sm} (h : okProg P = true) (hb : oks P.length false 7 b = true) : okProg (P.set 0 b) = true := by
  unfold okProg at h ⊢
  rw [Bool.and_eq_true] at h
  rw [List.length_set, Bool.and_eq_true]
  refine ⟨h.1, List.all_eq_true.mpr fun x hx => ?_⟩
  rcases List.mem_or_eq_of_mem_set hx with hx | rfl
  · exact List.all_eq_true.mp h.2 x hx
  · exact hb
theorem drawnG_ok (ns : List Int) (more : Int) (k : Nat) : okProg (drawnG ns more k).1 = true := by
  unfold drawnG
  dsimp only
  have hP := progG_ok ns k
  generalize hPP : progG ns k = P at hP ⊢
  have hl : 0 < P.1.length := by
    unfold okProg at hP
    rw [Bool.and_eq_true] at hP
    exact of_decide_eq_true hP.1
  have hr : ∀ n, (genR ns P.1.length 1 (genB ns P.1.length 0) (genB ns P.1.length 0) false P.2).1.ok P.1.length false n = true := fun n =>
    leaf_ok (genR_ok hl (fun m e => by
      obtain rfl : m = 0 := by omega
      exact genB_ok hl 0) (fun m e => by omega))
  have h2 : okProg (if more % 4 = 1 then (P.1.set 0 (towerG 7 0 (more / 4) [.set 1 (.bin .add (.box 0) (.num 1)), (genR ns P.1.length 1 (genB ns P.1.length 0) (genB ns P.1.length 0) false P.2).1]), (genR ns P.1.length 1 (genB ns P.1.length 0) (genB ns P.1.length 0) false P.2).2) else P).1 = true := by
    split
    · refine okProg_set hP (towerG_ok 7 0 _ 0 _ ?_)
      rw [oks_cons, oks_one (hr 0), Bool.and_true]
      refine set_ok (by decide) ?_
      have : (Un.Tree.box 0).ok P.1.length 5 = true := decide_eq_true (by decide)
      show (Tree.ok P.1.length 5 _ && Tree.ok P.1.length 5 (.num 1)) = true
      rw [this]; rfl
    · exact hP
  generalize (if more % 4 = 1 then (P.1.set 0 (towerG 7 0 (more / 4) [.set 1 (.bin .add (.box 0) (.num 1)), (genR ns P.1.length 1 (genB ns P.1.length 0) (genB ns P.1.length 0) false P.2).1]), (genR ns P.1.length 1 (genB ns P.1.length 0) (genB ns P.1.length 0) false P.2).2) else P) = P2 at h2 ⊢
  split
  · refine okProg_set h2 (oks_app longG_ok ?_)
    unfold okProg at h2
    rw [Bool.and_eq_true] at h2
    have h0 := of_decide_eq_true h2.1
    cases hp : P2.1 with
    | nil => rw [hp] at h0; cases h0
    | cons b r =>
      have := List.all_eq_true.mp h2.2 b (by rw [hp]; exact List.mem_cons_self ..)
      rw [hp] at this
      exact this
  · exact h2
end Un

set_option maxHeartbeats 4000000
namespace U
open PySem PySem.Spec PyProof.Rows L2 Un
local macro_rules | `(tactic| walk_at "w1") => `(tactic| first
  | with_reducible refine w_seq ?_
  | with_reducible refine w_asg ?_
  | with_reducible refine w_op ?_
  | ((with_reducible refine' w_var ?h1 ?_); (case h1 => rfl))
  | with_reducible refine w_c ?_
  | with_reducible refine w_name ?_
  | with_reducible refine w_tFd ?_
  | ((with_reducible refine' w_fld ?h1 ?h2 ?_); (case h1 => assumption); (case h2 => rfl))
  | with_reducible refine w_if ?_
  | with_reducible refine w_test ?_
  | with_reducible refine w_eqS ?_
  | with_reducible refine w_eqI ?_
  | with_reducible refine w_neS ?_
  | with_reducible refine w_neI ?_
  | with_reducible refine w_isN ?_
  | with_reducible refine w_isnN ?_
  | with_reducible refine w_bl ?_
  | with_reducible refine w_ret ?_
  | with_reducible refine w_drop ?_
  | with_reducible refine w_next ?_
  | with_reducible refine w_cons ?_
  | with_reducible refine w_nil ?_
  | with_reducible refine w_call ?_
  | with_reducible refine w_cb ?_
  | with_reducible refine w_meth ?_
  | ((with_reducible refine' w_recv ?h1 ?h2 ?_); (case h1 => assumption); (case h2 => rfl))
  | with_reducible refine w_sFd ?_
  | ((with_reducible refine' w_put ?h1 ?h2 ?_); (case h1 => assumption); (case h2 => exact Nat.le_of_ble_eq_true rfl))
  | with_reducible refine w_add ?_
  | with_reducible refine w_sub ?_
  | with_reducible refine w_lt ?_
  | with_reducible refine w_le ?_
  | with_reducible refine w_gt ?_
  | with_reducible refine w_ge ?_
  | with_reducible refine w_bm ?_
  | with_reducible refine w_bm0 ?_
  | ((with_reducible refine' w_ty ?h1 ?_); (case h1 => assumption))
  | with_reducible refine w_tup ?_
  | with_reducible refine w_lst ?_
  | ((with_reducible refine' w_new ?h1 ?_); (case h1 => exact Nat.le_of_ble_eq_true rfl))
  | with_reducible refine w_gsub ?_
  | with_reducible refine w_make ?_
  | with_reducible refine w_lc ?_
  | with_reducible refine w_iList ?_
  | with_reducible refine w_for ?_
  | with_reducible refine w_yes ?_
  | with_reducible refine w_tSl ?_
  | with_reducible refine w_part ?_
  | with_reducible refine w_nopart ?_
  | with_reducible refine w_i ?_
  | with_reducible refine w_rng1 ?_
  | with_reducible refine w_rng2 ?_
  | with_reducible refine w_isiII ?_
  | with_reducible refine w_isiIB ?_
  | with_reducible refine w_isiSS ?_
  | ((with_reducible refine w_mod ?h1 ?_); (case h1 => decide))
  | ((with_reducible refine w_fdC' ?h1 ?h2 ?_); (case h1 => decide); (case h2 => decide))
  | ((with_reducible refine w_mulR ?h1 ?h2 ?_); (case h1 => decide); (case h2 => decide))
  | ((with_reducible refine w_mulL ?h1 ?h2 ?_); (case h1 => decide); (case h2 => decide))
  | ((with_reducible refine w_pow' ?h1 ?h2 ?h3 ?_); (case h1 => decide); (case h2 => decide); (case h3 => decide))
  | with_reducible refine w_andV ?_
  | with_reducible refine w_orV ?_
  | with_reducible refine w_notV ?_
  | with_reducible refine w_B ?_
  | with_reducible refine w_not ?_
  | with_reducible refine w_and ?_
  | with_reducible refine w_or ?_
  | with_reducible refine w_ifx ?_
  | with_reducible refine w_un ?_
  | ((with_reducible refine w_T ?h1 ?_); (case h1 => with_reducible rfl))
  | ((with_reducible refine w_F ?h1 ?_); (case h1 => with_reducible rfl))
  | ((with_reducible refine w_T ?h1 ?_); (case h1 => decide +kernel))
  | ((with_reducible refine w_F ?h1 ?_); (case h1 => decide +kernel)))
local macro_rules | `(tactic| walk_at "w") => `(tactic| repeat walk_at "w1")

section
variable {K : PySem.W.Frag}
def sp_l_tower (K : PySem.W.Frag) : Sp := fun vs H Q _ => ∃ H0 L b ws bs c, vs = [.ref b, .int c] ∧ Own H0 H L ∧ RawAt (less H L) b (.lst ws) ∧ SmsAt K (less H L) bs ws ∧ ws.length ≤ 2 ∧
    ∀ H' r ws', Own H0 H' L → Same (less H L) (less H' L) → RawAt (less H' L) r (.lst ws') → SmsAt K (less H' L) (towerG 7 0 c bs) ws' → ws'.length ≤ 2 → Q (.ref r) H'
theorem p_l_tower (vs : List V) (H : Hp) (Q : VK) (E : XK) (h : sp_l_tower K vs H Q E) : t_l_tower K { nx := fun _ H' => Q .non H', rt := Q } (L2.start n_l_tower vs) H := by
  obtain ⟨H0, L, b, ws, bs, c, rfl, w, f0, f1, hl, q⟩ := h
  generalize hB : less H L = B at q
  have s : Same B (less H L) := hB ▸ Same.refl _
  clear hB
  unfold t_l_tower
  walk_at "w"
  refine w_r1 (by decide) (by decide) ?_
  refine for_range (fun i σ H => ∃ r ws bi c' x y, i ≤ 7 ∧ Own H0 H L ∧ Same B (less H L) ∧ RawAt (less H L) r (.lst ws) ∧ SmsAt K (less H L) bi ws ∧ ws.length ≤ 2 ∧ towerG 7 0 c bs = towerG (7 - i) i c' bi ∧ σ = [some (.ref r), some (.int c'), x, y])
    ⟨b, ws, bs, c, _, _, by decide, w, s, f0, f1, hl, rfl, rfl⟩ ?_ ?_
  · clear w s f0 f1 hl
    rintro i σ H hi ⟨r, ws, bi, c', x, y, _, w, s, f0, f1, hl, ht, rfl⟩
    have hi7 : i < 7 := hi
    obtain ⟨j, hj⟩ : ∃ j, 7 - i = j + 1 := ⟨6 - i, by omega⟩
    have hj2 : 7 - (i + 1) = j := by omega
    rw [hj] at ht
    replace ht : towerG 7 0 c bs = towerG j (i + 1) (c' / 5) (towerS c' i bi) := ht
    have e0 : (0 : Int) + (i : Int) = (i : Int) := by omega
    have mk := m4k i
    walk_at "w"
    rw [e0]
    refine w_D (fun c1 => ?_) (fun c1 => ?_)
    · have et : towerS c' i bi = [.endd bi [.say (.num (50 + i))]] := if_pos c1
      walk_at "w"
      refine fun u1 h1 => ?_
      have g1 := lessTup (K := K) w h1 (xs := [.str "num", .int (50 + (i : Int))])
      replace w := w.lay (o := .tup [.str "num", .int (50 + (i : Int))]) h1
      replace s := s.trans (less_lay (o := .tup [.str "num", .int (50 + (i : Int))]) h1)
      replace f0 := f0.mono (less_lay (o := .tup [.str "num", .int (50 + (i : Int))]) h1)
      replace f1 := f1.mono (less_lay (o := .tup [.str "num", .int (50 + (i : Int))]) h1)
      generalize upd H u1 _ = H at w s f0 f1 g1 ⊢
      walk_at "w"
      refine fun u2 h2 => ?_
      have g2 := lessTup (K := K) w h2 (xs := [.str "say", .ref u1])
      replace w := w.lay (o := .tup [.str "say", .ref u1]) h2
      replace s := s.trans (less_lay (o := .tup [.str "say", .ref u1]) h2)
      replace f0 := f0.mono (less_lay (o := .tup [.str "say", .ref u1]) h2)
      replace f1 := f1.mono (less_lay (o := .tup [.str "say", .ref u1]) h2)
      replace g1 := g1.mono (less_lay (o := .tup [.str "say", .ref u1]) h2)
      generalize upd H u2 _ = H at w s f0 f1 g1 g2 ⊢
      walk_at "w"
      refine fun u3 h3 => ?_
      have g3 := LsAt.of (K := K) (less_new w h3 (o := .lst [.ref u2]))
      replace w := w.lay (o := .lst [.ref u2]) h3
      replace s := s.trans (less_lay (o := .lst [.ref u2]) h3)
      replace f0 := f0.mono (less_lay (o := .lst [.ref u2]) h3)
      replace f1 := f1.mono (less_lay (o := .lst [.ref u2]) h3)
      replace g1 := g1.mono (less_lay (o := .lst [.ref u2]) h3)
      replace g2 := g2.mono (less_lay (o := .lst [.ref u2]) h3)
      generalize upd H u3 _ = H at w s f0 f1 g1 g2 g3 ⊢
      walk_at "w"
      refine fun u4 h4 => ?_
      have g4 := lessTup (K := K) w h4 (xs := [.str "end", .ref r, .ref u3])
      replace w := w.lay (o := .tup [.str "end", .ref r, .ref u3]) h4
      replace s := s.trans (less_lay (o := .tup [.str "end", .ref r, .ref u3]) h4)
      replace f0 := f0.mono (less_lay (o := .tup [.str "end", .ref r, .ref u3]) h4)
      replace f1 := f1.mono (less_lay (o := .tup [.str "end", .ref r, .ref u3]) h4)
      replace g1 := g1.mono (less_lay (o := .tup [.str "end", .ref r, .ref u3]) h4)
      replace g2 := g2.mono (less_lay (o := .tup [.str "end", .ref r, .ref u3]) h4)
      replace g3 := g3.mono (less_lay (o := .tup [.str "end", .ref r, .ref u3]) h4)
      generalize upd H u4 _ = H at w s f0 f1 g1 g2 g3 g4 ⊢
      walk_at "w"
      refine fun u5 h5 => ?_
      have g5 : RawAt (less (upd H u5 (.lst [.ref u4])) _) u5 (.lst [.ref u4]) := less_new w h5 (o := .lst [.ref u4])
      replace w := w.lay (o := .lst [.ref u4]) h5
      replace s := s.trans (less_lay (o := .lst [.ref u4]) h5)
      replace f0 := f0.mono (less_lay (o := .lst [.ref u4]) h5)
      replace f1 := f1.mono (less_lay (o := .lst [.ref u4]) h5)
      replace g1 := g1.mono (less_lay (o := .lst [.ref u4]) h5)
      replace g2 := g2.mono (less_lay (o := .lst [.ref u4]) h5)
      replace g3 := g3.mono (less_lay (o := .lst [.ref u4]) h5)
      replace g4 := g4.mono (less_lay (o := .lst [.ref u4]) h5)
      generalize upd H u5 _ = H at w s f0 f1 g1 g2 g3 g4 g5 ⊢
      walk_at "w"
      refine ⟨u5, _, towerS c' i bi, c' / 5, _, _, hi, w, s, g5, ?_, by simp, by rw [ht, hj2], rfl⟩
      rw [et]
      exact ⟨_, [], rfl, ⟨r, u3, _, _, g4, SqL.of f0, f1, g3, ⟨_, [], rfl, ⟨_, g2, g1⟩, rfl⟩⟩, rfl⟩
    walk_at "w"
    refine w_D (fun c2 => ?_) (fun c2 => ?_)
    · have et : towerS c' i bi = [.say (.num i), .endd [.set ((i : Int) % 4) (.box 0)] bi] := by
        unfold towerS
        rw [if_neg c1, if_pos c2]
      walk_at "w"
      refine fun u1 h1 => ?_
      have g1 := lessTup (K := K) w h1 (xs := [.str "num", .int (i : Int)])
      replace w := w.lay (o := .tup [.str "num", .int (i : Int)]) h1
      replace s := s.trans (less_lay (o := .tup [.str "num", .int (i : Int)]) h1)
      replace f0 := f0.mono (less_lay (o := .tup [.str "num", .int (i : Int)]) h1)
      replace f1 := f1.mono (less_lay (o := .tup [.str "num", .int (i : Int)]) h1)
      generalize upd H u1 _ = H at w s f0 f1 g1 ⊢
      walk_at "w"
      refine fun u2 h2 => ?_
      have g2 := lessTup (K := K) w h2 (xs := [.str "say", .ref u1])
      replace w := w.lay (o := .tup [.str "say", .ref u1]) h2
      replace s := s.trans (less_lay (o := .tup [.str "say", .ref u1]) h2)
      replace f0 := f0.mono (less_lay (o := .tup [.str "say", .ref u1]) h2)
      replace f1 := f1.mono (less_lay (o := .tup [.str "say", .ref u1]) h2)
      replace g1 := g1.mono (less_lay (o := .tup [.str "say", .ref u1]) h2)
      generalize upd H u2 _ = H at w s f0 f1 g1 g2 ⊢
      walk_at "w"
      refine fun u3 h3 => ?_
      have g3 := lessTup (K := K) w h3 (xs := [.str "box", .int 0])
      replace w := w.lay (o := .tup [.str "box", .int 0]) h3
      replace s := s.trans (less_lay (o := .tup [.str "box", .int 0]) h3)
      replace f0 := f0.mono (less_lay (o := .tup [.str "box", .int 0]) h3)
      replace f1 := f1.mono (less_lay (o := .tup [.str "box", .int 0]) h3)
      replace g1 := g1.mono (less_lay (o := .tup [.str "box", .int 0]) h3)
      replace g2 := g2.mono (less_lay (o := .tup [.str "box", .int 0]) h3)
      generalize upd H u3 _ = H at w s f0 f1 g1 g2 g3 ⊢
      walk_at "w"
      refine fun u4 h4 => ?_
      have g4 := lessTup (K := K) w h4 (xs := [.str "set", .int ((i : Int) % 4), .ref u3])
      replace w := w.lay (o := .tup [.str "set", .int ((i : Int) % 4), .ref u3]) h4
      replace s := s.trans (less_lay (o := .tup [.str "set", .int ((i : Int) % 4), .ref u3]) h4)
      replace f0 := f0.mono (less_lay (o := .tup [.str "set", .int ((i : Int) % 4), .ref u3]) h4)
      replace f1 := f1.mono (less_lay (o := .tup [.str "set", .int ((i : Int) % 4), .ref u3]) h4)
      replace g1 := g1.mono (less_lay (o := .tup [.str "set", .int ((i : Int) % 4), .ref u3]) h4)
      replace g2 := g2.mono (less_lay (o := .tup [.str "set", .int ((i : Int) % 4), .ref u3]) h4)
      replace g3 := g3.mono (less_lay (o := .tup [.str "set", .int ((i : Int) % 4), .ref u3]) h4)
      generalize upd H u4 _ = H at w s f0 f1 g1 g2 g3 g4 ⊢
      walk_at "w"
      refine fun u5 h5 => ?_
      have g5 := LsAt.of (K := K) (less_new w h5 (o := .lst [.ref u4]))
      replace w := w.lay (o := .lst [.ref u4]) h5
      replace s := s.trans (less_lay (o := .lst [.ref u4]) h5)
      replace f0 := f0.mono (less_lay (o := .lst [.ref u4]) h5)
      replace f1 := f1.mono (less_lay (o := .lst [.ref u4]) h5)
      replace g1 := g1.mono (less_lay (o := .lst [.ref u4]) h5)
      replace g2 := g2.mono (less_lay (o := .lst [.ref u4]) h5)
      replace g3 := g3.mono (less_lay (o := .lst [.ref u4]) h5)
      replace g4 := g4.mono (less_lay (o := .lst [.ref u4]) h5)
      generalize upd H u5 _ = H at w s f0 f1 g1 g2 g3 g4 g5 ⊢
      walk_at "w"
      refine fun u6 h6 => ?_
      have g6 := lessTup (K := K) w h6 (xs := [.str "end", .ref u5, .ref r])
      replace w := w.lay (o := .tup [.str "end", .ref u5, .ref r]) h6
      replace s := s.trans (less_lay (o := .tup [.str "end", .ref u5, .ref r]) h6)
      replace f0 := f0.mono (less_lay (o := .tup [.str "end", .ref u5, .ref r]) h6)
      replace f1 := f1.mono (less_lay (o := .tup [.str "end", .ref u5, .ref r]) h6)
      replace g1 := g1.mono (less_lay (o := .tup [.str "end", .ref u5, .ref r]) h6)
      replace g2 := g2.mono (less_lay (o := .tup [.str "end", .ref u5, .ref r]) h6)
      replace g3 := g3.mono (less_lay (o := .tup [.str "end", .ref u5, .ref r]) h6)
      replace g4 := g4.mono (less_lay (o := .tup [.str "end", .ref u5, .ref r]) h6)
      replace g5 := g5.mono (less_lay (o := .tup [.str "end", .ref u5, .ref r]) h6)
      generalize upd H u6 _ = H at w s f0 f1 g1 g2 g3 g4 g5 g6 ⊢
      walk_at "w"
      refine fun u7 h7 => ?_
      have g7 : RawAt (less (upd H u7 (.lst [.ref u2, .ref u6])) _) u7 (.lst [.ref u2, .ref u6]) := less_new w h7 (o := .lst [.ref u2, .ref u6])
      replace w := w.lay (o := .lst [.ref u2, .ref u6]) h7
      replace s := s.trans (less_lay (o := .lst [.ref u2, .ref u6]) h7)
      replace f0 := f0.mono (less_lay (o := .lst [.ref u2, .ref u6]) h7)
      replace f1 := f1.mono (less_lay (o := .lst [.ref u2, .ref u6]) h7)
      replace g1 := g1.mono (less_lay (o := .lst [.ref u2, .ref u6]) h7)
      replace g2 := g2.mono (less_lay (o := .lst [.ref u2, .ref u6]) h7)
      replace g3 := g3.mono (less_lay (o := .lst [.ref u2, .ref u6]) h7)
      replace g4 := g4.mono (less_lay (o := .lst [.ref u2, .ref u6]) h7)
      replace g5 := g5.mono (less_lay (o := .lst [.ref u2, .ref u6]) h7)
      replace g6 := g6.mono (less_lay (o := .lst [.ref u2, .ref u6]) h7)
      generalize upd H u7 _ = H at w s f0 f1 g1 g2 g3 g4 g5 g6 g7 ⊢
      walk_at "w"
      refine ⟨u7, _, towerS c' i bi, c' / 5, _, _, hi, w, s, g7, ?_, by simp, by rw [ht, hj2], rfl⟩
      rw [et]
      exact ⟨_, _, rfl, ⟨_, g2, g1⟩, _, [], rfl, ⟨u5, r, _, _, g6, g5, ⟨_, [], rfl, ⟨_, g4, g3⟩, rfl⟩, SqL.of f0, f1⟩, rfl⟩
    walk_at "w"
    refine w_D (fun c3 => ?_) (fun c3 => ?_)
    · have et : towerS c' i bi = [.ctch bi (if i % 2 = 0 then none else some 101) ((i : Int) % 4) [.raise (.box ((i : Int) % 4))]] := by
        unfold towerS
        rw [if_neg c1, if_neg c2, if_pos c3]
      walk_at "w"
      refine fun u1 h1 => ?_
      walk_at "w"
      refine w_ixL (v := goalV (if i % 2 = 0 then none else some 101)) (SqL.of upd_same) ?_ ?_
      · rcases (by omega : i % 2 = 0 ∨ i % 2 = 1) with h | h
        · rw [show (i : Int) % 2 = 0 from by omega, h]
          rfl
        · rw [show (i : Int) % 2 = 1 from by omega, h]
          rfl
      have g0 := LsAt.of (K := K) (less_new w h1 (o := .lst [.non, .int 101]))
      replace w := w.lay (o := .lst [.non, .int 101]) h1
      replace s := s.trans (less_lay (o := .lst [.non, .int 101]) h1)
      replace f0 := f0.mono (less_lay (o := .lst [.non, .int 101]) h1)
      replace f1 := f1.mono (less_lay (o := .lst [.non, .int 101]) h1)
      generalize upd H u1 _ = H at w s f0 f1 g0 ⊢
      clear g0
      generalize (if i % 2 = 0 then none else some 101 : Option Int) = num at et ⊢
      walk_at "w"
      refine fun u2 h2 => ?_
      have g1 := lessTup (K := K) w h2 (xs := [.str "box", .int ((i : Int) % 4)])
      replace w := w.lay (o := .tup [.str "box", .int ((i : Int) % 4)]) h2
      replace s := s.trans (less_lay (o := .tup [.str "box", .int ((i : Int) % 4)]) h2)
      replace f0 := f0.mono (less_lay (o := .tup [.str "box", .int ((i : Int) % 4)]) h2)
      replace f1 := f1.mono (less_lay (o := .tup [.str "box", .int ((i : Int) % 4)]) h2)
      generalize upd H u2 _ = H at w s f0 f1 g1 ⊢
      walk_at "w"
      refine fun u3 h3 => ?_
      have g2 := lessTup (K := K) w h3 (xs := [.str "raise", .ref u2])
      replace w := w.lay (o := .tup [.str "raise", .ref u2]) h3
      replace s := s.trans (less_lay (o := .tup [.str "raise", .ref u2]) h3)
      replace f0 := f0.mono (less_lay (o := .tup [.str "raise", .ref u2]) h3)
      replace f1 := f1.mono (less_lay (o := .tup [.str "raise", .ref u2]) h3)
      replace g1 := g1.mono (less_lay (o := .tup [.str "raise", .ref u2]) h3)
      generalize upd H u3 _ = H at w s f0 f1 g1 g2 ⊢
      walk_at "w"
      refine fun u4 h4 => ?_
      have g3 := LsAt.of (K := K) (less_new w h4 (o := .lst [.ref u3]))
      replace w := w.lay (o := .lst [.ref u3]) h4
      replace s := s.trans (less_lay (o := .lst [.ref u3]) h4)
      replace f0 := f0.mono (less_lay (o := .lst [.ref u3]) h4)
      replace f1 := f1.mono (less_lay (o := .lst [.ref u3]) h4)
      replace g1 := g1.mono (less_lay (o := .lst [.ref u3]) h4)
      replace g2 := g2.mono (less_lay (o := .lst [.ref u3]) h4)
      generalize upd H u4 _ = H at w s f0 f1 g1 g2 g3 ⊢
      walk_at "w"
      refine fun u5 h5 => ?_
      have g4 := lessTup (K := K) w h5 (xs := [.str "catch", .ref r, goalV num, .int ((i : Int) % 4), .ref u4])
      replace w := w.lay (o := .tup [.str "catch", .ref r, goalV num, .int ((i : Int) % 4), .ref u4]) h5
      replace s := s.trans (less_lay (o := .tup [.str "catch", .ref r, goalV num, .int ((i : Int) % 4), .ref u4]) h5)
      replace f0 := f0.mono (less_lay (o := .tup [.str "catch", .ref r, goalV num, .int ((i : Int) % 4), .ref u4]) h5)
      replace f1 := f1.mono (less_lay (o := .tup [.str "catch", .ref r, goalV num, .int ((i : Int) % 4), .ref u4]) h5)
      replace g1 := g1.mono (less_lay (o := .tup [.str "catch", .ref r, goalV num, .int ((i : Int) % 4), .ref u4]) h5)
      replace g2 := g2.mono (less_lay (o := .tup [.str "catch", .ref r, goalV num, .int ((i : Int) % 4), .ref u4]) h5)
      replace g3 := g3.mono (less_lay (o := .tup [.str "catch", .ref r, goalV num, .int ((i : Int) % 4), .ref u4]) h5)
      generalize upd H u5 _ = H at w s f0 f1 g1 g2 g3 g4 ⊢
      walk_at "w"
      refine fun u6 h6 => ?_
      have g5 : RawAt (less (upd H u6 (.lst [.ref u5])) _) u6 (.lst [.ref u5]) := less_new w h6 (o := .lst [.ref u5])
      replace w := w.lay (o := .lst [.ref u5]) h6
      replace s := s.trans (less_lay (o := .lst [.ref u5]) h6)
      replace f0 := f0.mono (less_lay (o := .lst [.ref u5]) h6)
      replace f1 := f1.mono (less_lay (o := .lst [.ref u5]) h6)
      replace g1 := g1.mono (less_lay (o := .lst [.ref u5]) h6)
      replace g2 := g2.mono (less_lay (o := .lst [.ref u5]) h6)
      replace g3 := g3.mono (less_lay (o := .lst [.ref u5]) h6)
      replace g4 := g4.mono (less_lay (o := .lst [.ref u5]) h6)
      generalize upd H u6 _ = H at w s f0 f1 g1 g2 g3 g4 g5 ⊢
      walk_at "w"
      refine ⟨u6, _, towerS c' i bi, c' / 5, _, _, hi, w, s, g5, ?_, by simp, by rw [ht, hj2], rfl⟩
      rw [et]
      exact ⟨_, [], rfl, ⟨r, u4, _, _, g4, SqL.of f0, f1, g3, ⟨_, [], rfl, ⟨_, g2, g1⟩, rfl⟩⟩, rfl⟩
    walk_at "w"
    refine w_D (fun c4 => ?_) (fun c4 => ?_)
    · have et : towerS c' i bi = [.loop (.num 1) (bi ++ [.leave]), .say (.box ((i : Int) % 4))] := by
        unfold towerS
        rw [if_neg c1, if_neg c2, if_neg c3, if_pos c4]
      walk_at "w"
      refine fun u1 h1 => ?_
      have g1 := lessTup (K := K) w h1 (xs := [.str "num", .int 1])
      replace w := w.lay (o := .tup [.str "num", .int 1]) h1
      replace s := s.trans (less_lay (o := .tup [.str "num", .int 1]) h1)
      replace f0 := f0.mono (less_lay (o := .tup [.str "num", .int 1]) h1)
      replace f1 := f1.mono (less_lay (o := .tup [.str "num", .int 1]) h1)
      generalize upd H u1 _ = H at w s f0 f1 g1 ⊢
      walk_at "w"
      refine fun u2 h2 => ?_
      have g2 := lessTup (K := K) w h2 (xs := [.str "leave"])
      replace w := w.lay (o := .tup [.str "leave"]) h2
      replace s := s.trans (less_lay (o := .tup [.str "leave"]) h2)
      replace f0 := f0.mono (less_lay (o := .tup [.str "leave"]) h2)
      replace f1 := f1.mono (less_lay (o := .tup [.str "leave"]) h2)
      replace g1 := g1.mono (less_lay (o := .tup [.str "leave"]) h2)
      generalize upd H u2 _ = H at w s f0 f1 g1 g2 ⊢
      walk_at "w"
      refine fun u3 h3 => ?_
      have g3 : RawAt (less (upd H u3 (.lst [.ref u2])) _) u3 (.lst [.ref u2]) := less_new w h3 (o := .lst [.ref u2])
      replace w := w.lay (o := .lst [.ref u2]) h3
      replace s := s.trans (less_lay (o := .lst [.ref u2]) h3)
      replace f0 := f0.mono (less_lay (o := .lst [.ref u2]) h3)
      replace f1 := f1.mono (less_lay (o := .lst [.ref u2]) h3)
      replace g1 := g1.mono (less_lay (o := .lst [.ref u2]) h3)
      replace g2 := g2.mono (less_lay (o := .lst [.ref u2]) h3)
      generalize upd H u3 _ = H at w s f0 f1 g1 g2 g3 ⊢
      refine w_cat f0.up g3.up (by rw [sizeLine_eq]; simp; omega) fun u4 h4 => ?_
      have g4 := LsAt.of (K := K) (less_new w h4 (o := .lst (ws ++ [V.ref u2])))
      replace w := w.lay (o := .lst (ws ++ [V.ref u2])) h4
      replace s := s.trans (less_lay (o := .lst (ws ++ [V.ref u2])) h4)
      replace f0 := f0.mono (less_lay (o := .lst (ws ++ [V.ref u2])) h4)
      replace f1 := f1.mono (less_lay (o := .lst (ws ++ [V.ref u2])) h4)
      replace g1 := g1.mono (less_lay (o := .lst (ws ++ [V.ref u2])) h4)
      replace g2 := g2.mono (less_lay (o := .lst (ws ++ [V.ref u2])) h4)
      replace g3 := g3.mono (less_lay (o := .lst (ws ++ [V.ref u2])) h4)
      generalize upd H u4 _ = H at w s f0 f1 g1 g2 g3 g4 ⊢
      walk_at "w"
      refine fun u5 h5 => ?_
      have g5 := lessTup (K := K) w h5 (xs := [.str "loop", .ref u1, .ref u4])
      replace w := w.lay (o := .tup [.str "loop", .ref u1, .ref u4]) h5
      replace s := s.trans (less_lay (o := .tup [.str "loop", .ref u1, .ref u4]) h5)
      replace f0 := f0.mono (less_lay (o := .tup [.str "loop", .ref u1, .ref u4]) h5)
      replace f1 := f1.mono (less_lay (o := .tup [.str "loop", .ref u1, .ref u4]) h5)
      replace g1 := g1.mono (less_lay (o := .tup [.str "loop", .ref u1, .ref u4]) h5)
      replace g2 := g2.mono (less_lay (o := .tup [.str "loop", .ref u1, .ref u4]) h5)
      replace g3 := g3.mono (less_lay (o := .tup [.str "loop", .ref u1, .ref u4]) h5)
      replace g4 := g4.mono (less_lay (o := .tup [.str "loop", .ref u1, .ref u4]) h5)
      generalize upd H u5 _ = H at w s f0 f1 g1 g2 g3 g4 g5 ⊢
      walk_at "w"
      refine fun u6 h6 => ?_
      have g6 := lessTup (K := K) w h6 (xs := [.str "box", .int ((i : Int) % 4)])
      replace w := w.lay (o := .tup [.str "box", .int ((i : Int) % 4)]) h6
      replace s := s.trans (less_lay (o := .tup [.str "box", .int ((i : Int) % 4)]) h6)
      replace f0 := f0.mono (less_lay (o := .tup [.str "box", .int ((i : Int) % 4)]) h6)
      replace f1 := f1.mono (less_lay (o := .tup [.str "box", .int ((i : Int) % 4)]) h6)
      replace g1 := g1.mono (less_lay (o := .tup [.str "box", .int ((i : Int) % 4)]) h6)
      replace g2 := g2.mono (less_lay (o := .tup [.str "box", .int ((i : Int) % 4)]) h6)
      replace g3 := g3.mono (less_lay (o := .tup [.str "box", .int ((i : Int) % 4)]) h6)
      replace g4 := g4.mono (less_lay (o := .tup [.str "box", .int ((i : Int) % 4)]) h6)
      replace g5 := g5.mono (less_lay (o := .tup [.str "box", .int ((i : Int) % 4)]) h6)
      generalize upd H u6 _ = H at w s f0 f1 g1 g2 g3 g4 g5 g6 ⊢
      walk_at "w"
      refine fun u7 h7 => ?_
      have g7 := lessTup (K := K) w h7 (xs := [.str "say", .ref u6])
      replace w := w.lay (o := .tup [.str "say", .ref u6]) h7
      replace s := s.trans (less_lay (o := .tup [.str "say", .ref u6]) h7)
      replace f0 := f0.mono (less_lay (o := .tup [.str "say", .ref u6]) h7)
      replace f1 := f1.mono (less_lay (o := .tup [.str "say", .ref u6]) h7)
      replace g1 := g1.mono (less_lay (o := .tup [.str "say", .ref u6]) h7)
      replace g2 := g2.mono (less_lay (o := .tup [.str "say", .ref u6]) h7)
      replace g3 := g3.mono (less_lay (o := .tup [.str "say", .ref u6]) h7)
      replace g4 := g4.mono (less_lay (o := .tup [.str "say", .ref u6]) h7)
      replace g5 := g5.mono (less_lay (o := .tup [.str "say", .ref u6]) h7)
      replace g6 := g6.mono (less_lay (o := .tup [.str "say", .ref u6]) h7)
      generalize upd H u7 _ = H at w s f0 f1 g1 g2 g3 g4 g5 g6 g7 ⊢
      walk_at "w"
      refine fun u8 h8 => ?_
      have g8 : RawAt (less (upd H u8 (.lst [.ref u5, .ref u7])) _) u8 (.lst [.ref u5, .ref u7]) := less_new w h8 (o := .lst [.ref u5, .ref u7])
      replace w := w.lay (o := .lst [.ref u5, .ref u7]) h8
      replace s := s.trans (less_lay (o := .lst [.ref u5, .ref u7]) h8)
      replace f0 := f0.mono (less_lay (o := .lst [.ref u5, .ref u7]) h8)
      replace f1 := f1.mono (less_lay (o := .lst [.ref u5, .ref u7]) h8)
      replace g1 := g1.mono (less_lay (o := .lst [.ref u5, .ref u7]) h8)
      replace g2 := g2.mono (less_lay (o := .lst [.ref u5, .ref u7]) h8)
      replace g3 := g3.mono (less_lay (o := .lst [.ref u5, .ref u7]) h8)
      replace g4 := g4.mono (less_lay (o := .lst [.ref u5, .ref u7]) h8)
      replace g5 := g5.mono (less_lay (o := .lst [.ref u5, .ref u7]) h8)
      replace g6 := g6.mono (less_lay (o := .lst [.ref u5, .ref u7]) h8)
      replace g7 := g7.mono (less_lay (o := .lst [.ref u5, .ref u7]) h8)
      generalize upd H u8 _ = H at w s f0 f1 g1 g2 g3 g4 g5 g6 g7 g8 ⊢
      walk_at "w"
      refine ⟨u8, _, towerS c' i bi, c' / 5, _, _, hi, w, s, g8, ?_, by simp, by rw [ht, hj2], rfl⟩
      rw [et]
      exact ⟨_, _, rfl, ⟨_, u4, _, g5, g1, g4, smsAt_snoc f1 g2⟩, _, [], rfl, ⟨_, g7, g6⟩, rfl⟩
    · have et : towerS c' i bi = [.ife (.bin .less (.num i) (.num 4)) bi [], .set ((i : Int) % 4) (.num i)] := by
        unfold towerS
        rw [if_neg c1, if_neg c2, if_neg c3, if_neg c4]
      walk_at "w"
      refine fun u1 h1 => ?_
      have g1 := lessTup (K := K) w h1 (xs := [.str "num", .int (i : Int)])
      replace w := w.lay (o := .tup [.str "num", .int (i : Int)]) h1
      replace s := s.trans (less_lay (o := .tup [.str "num", .int (i : Int)]) h1)
      replace f0 := f0.mono (less_lay (o := .tup [.str "num", .int (i : Int)]) h1)
      replace f1 := f1.mono (less_lay (o := .tup [.str "num", .int (i : Int)]) h1)
      generalize upd H u1 _ = H at w s f0 f1 g1 ⊢
      walk_at "w"
      refine fun u2 h2 => ?_
      have g2 := lessTup (K := K) w h2 (xs := [.str "num", .int 4])
      replace w := w.lay (o := .tup [.str "num", .int 4]) h2
      replace s := s.trans (less_lay (o := .tup [.str "num", .int 4]) h2)
      replace f0 := f0.mono (less_lay (o := .tup [.str "num", .int 4]) h2)
      replace f1 := f1.mono (less_lay (o := .tup [.str "num", .int 4]) h2)
      replace g1 := g1.mono (less_lay (o := .tup [.str "num", .int 4]) h2)
      generalize upd H u2 _ = H at w s f0 f1 g1 g2 ⊢
      walk_at "w"
      refine fun u3 h3 => ?_
      have g3 := lessTup (K := K) w h3 (xs := [.str "less", .ref u1, .ref u2])
      replace w := w.lay (o := .tup [.str "less", .ref u1, .ref u2]) h3
      replace s := s.trans (less_lay (o := .tup [.str "less", .ref u1, .ref u2]) h3)
      replace f0 := f0.mono (less_lay (o := .tup [.str "less", .ref u1, .ref u2]) h3)
      replace f1 := f1.mono (less_lay (o := .tup [.str "less", .ref u1, .ref u2]) h3)
      replace g1 := g1.mono (less_lay (o := .tup [.str "less", .ref u1, .ref u2]) h3)
      replace g2 := g2.mono (less_lay (o := .tup [.str "less", .ref u1, .ref u2]) h3)
      generalize upd H u3 _ = H at w s f0 f1 g1 g2 g3 ⊢
      walk_at "w"
      refine fun u4 h4 => ?_
      have g4 := LsAt.of (K := K) (less_new w h4 (o := .lst []))
      replace w := w.lay (o := .lst []) h4
      replace s := s.trans (less_lay (o := .lst []) h4)
      replace f0 := f0.mono (less_lay (o := .lst []) h4)
      replace f1 := f1.mono (less_lay (o := .lst []) h4)
      replace g1 := g1.mono (less_lay (o := .lst []) h4)
      replace g2 := g2.mono (less_lay (o := .lst []) h4)
      replace g3 := g3.mono (less_lay (o := .lst []) h4)
      generalize upd H u4 _ = H at w s f0 f1 g1 g2 g3 g4 ⊢
      walk_at "w"
      refine fun u5 h5 => ?_
      have g5 := lessTup (K := K) w h5 (xs := [.str "if", .ref u3, .ref r, .ref u4])
      replace w := w.lay (o := .tup [.str "if", .ref u3, .ref r, .ref u4]) h5
      replace s := s.trans (less_lay (o := .tup [.str "if", .ref u3, .ref r, .ref u4]) h5)
      replace f0 := f0.mono (less_lay (o := .tup [.str "if", .ref u3, .ref r, .ref u4]) h5)
      replace f1 := f1.mono (less_lay (o := .tup [.str "if", .ref u3, .ref r, .ref u4]) h5)
      replace g1 := g1.mono (less_lay (o := .tup [.str "if", .ref u3, .ref r, .ref u4]) h5)
      replace g2 := g2.mono (less_lay (o := .tup [.str "if", .ref u3, .ref r, .ref u4]) h5)
      replace g3 := g3.mono (less_lay (o := .tup [.str "if", .ref u3, .ref r, .ref u4]) h5)
      replace g4 := g4.mono (less_lay (o := .tup [.str "if", .ref u3, .ref r, .ref u4]) h5)
      generalize upd H u5 _ = H at w s f0 f1 g1 g2 g3 g4 g5 ⊢
      walk_at "w"
      refine fun u6 h6 => ?_
      have g6 := lessTup (K := K) w h6 (xs := [.str "num", .int (i : Int)])
      replace w := w.lay (o := .tup [.str "num", .int (i : Int)]) h6
      replace s := s.trans (less_lay (o := .tup [.str "num", .int (i : Int)]) h6)
      replace f0 := f0.mono (less_lay (o := .tup [.str "num", .int (i : Int)]) h6)
      replace f1 := f1.mono (less_lay (o := .tup [.str "num", .int (i : Int)]) h6)
      replace g1 := g1.mono (less_lay (o := .tup [.str "num", .int (i : Int)]) h6)
      replace g2 := g2.mono (less_lay (o := .tup [.str "num", .int (i : Int)]) h6)
      replace g3 := g3.mono (less_lay (o := .tup [.str "num", .int (i : Int)]) h6)
      replace g4 := g4.mono (less_lay (o := .tup [.str "num", .int (i : Int)]) h6)
      replace g5 := g5.mono (less_lay (o := .tup [.str "num", .int (i : Int)]) h6)
      generalize upd H u6 _ = H at w s f0 f1 g1 g2 g3 g4 g5 g6 ⊢
      walk_at "w"
      refine fun u7 h7 => ?_
      have g7 := lessTup (K := K) w h7 (xs := [.str "set", .int ((i : Int) % 4), .ref u6])
      replace w := w.lay (o := .tup [.str "set", .int ((i : Int) % 4), .ref u6]) h7
      replace s := s.trans (less_lay (o := .tup [.str "set", .int ((i : Int) % 4), .ref u6]) h7)
      replace f0 := f0.mono (less_lay (o := .tup [.str "set", .int ((i : Int) % 4), .ref u6]) h7)
      replace f1 := f1.mono (less_lay (o := .tup [.str "set", .int ((i : Int) % 4), .ref u6]) h7)
      replace g1 := g1.mono (less_lay (o := .tup [.str "set", .int ((i : Int) % 4), .ref u6]) h7)
      replace g2 := g2.mono (less_lay (o := .tup [.str "set", .int ((i : Int) % 4), .ref u6]) h7)
      replace g3 := g3.mono (less_lay (o := .tup [.str "set", .int ((i : Int) % 4), .ref u6]) h7)
      replace g4 := g4.mono (less_lay (o := .tup [.str "set", .int ((i : Int) % 4), .ref u6]) h7)
      replace g5 := g5.mono (less_lay (o := .tup [.str "set", .int ((i : Int) % 4), .ref u6]) h7)
      replace g6 := g6.mono (less_lay (o := .tup [.str "set", .int ((i : Int) % 4), .ref u6]) h7)
      generalize upd H u7 _ = H at w s f0 f1 g1 g2 g3 g4 g5 g6 g7 ⊢
      walk_at "w"
      refine fun u8 h8 => ?_
      have g8 : RawAt (less (upd H u8 (.lst [.ref u5, .ref u7])) _) u8 (.lst [.ref u5, .ref u7]) := less_new w h8 (o := .lst [.ref u5, .ref u7])
      replace w := w.lay (o := .lst [.ref u5, .ref u7]) h8
      replace s := s.trans (less_lay (o := .lst [.ref u5, .ref u7]) h8)
      replace f0 := f0.mono (less_lay (o := .lst [.ref u5, .ref u7]) h8)
      replace f1 := f1.mono (less_lay (o := .lst [.ref u5, .ref u7]) h8)
      replace g1 := g1.mono (less_lay (o := .lst [.ref u5, .ref u7]) h8)
      replace g2 := g2.mono (less_lay (o := .lst [.ref u5, .ref u7]) h8)
      replace g3 := g3.mono (less_lay (o := .lst [.ref u5, .ref u7]) h8)
      replace g4 := g4.mono (less_lay (o := .lst [.ref u5, .ref u7]) h8)
      replace g5 := g5.mono (less_lay (o := .lst [.ref u5, .ref u7]) h8)
      replace g6 := g6.mono (less_lay (o := .lst [.ref u5, .ref u7]) h8)
      replace g7 := g7.mono (less_lay (o := .lst [.ref u5, .ref u7]) h8)
      generalize upd H u8 _ = H at w s f0 f1 g1 g2 g3 g4 g5 g6 g7 g8 ⊢
      walk_at "w"
      refine ⟨u8, _, towerS c' i bi, c' / 5, _, _, hi, w, s, g8, ?_, by simp, by rw [ht, hj2], rfl⟩
      rw [et]
      exact ⟨_, _, rfl, ⟨_, r, u4, _, _, g5, ⟨_, _, g3, g1, g2⟩, SqL.of f0, f1, g4, rfl⟩, _, [], rfl, ⟨_, g7, g6⟩, rfl⟩
  · clear w s f0 f1 hl
    rintro σ H ⟨r, ws, bi, c', x, y, _, w, s, f0, f1, hl, ht, rfl⟩
    walk_at "w"
    refine q _ _ _ w s f0 ?_ hl
    rw [ht]
    exact f1
end
end U

set_option maxHeartbeats 4000000
namespace U
open PySem PySem.Spec PyProof.Rows L2 Un
local macro_rules | `(tactic| walk_at "w1") => `(tactic| first
  | with_reducible refine w_seq ?_
  | with_reducible refine w_asg ?_
  | with_reducible refine w_op ?_
  | ((with_reducible refine' w_var ?h1 ?_); (case h1 => rfl))
  | with_reducible refine w_c ?_
  | with_reducible refine w_name ?_
  | with_reducible refine w_tFd ?_
  | ((with_reducible refine' w_fld ?h1 ?h2 ?_); (case h1 => assumption); (case h2 => rfl))
  | with_reducible refine w_if ?_
  | with_reducible refine w_test ?_
  | with_reducible refine w_eqS ?_
  | with_reducible refine w_eqI ?_
  | with_reducible refine w_neS ?_
  | with_reducible refine w_neI ?_
  | with_reducible refine w_isN ?_
  | with_reducible refine w_isnN ?_
  | with_reducible refine w_bl ?_
  | with_reducible refine w_ret ?_
  | with_reducible refine w_drop ?_
  | with_reducible refine w_next ?_
  | with_reducible refine w_cons ?_
  | with_reducible refine w_nil ?_
  | with_reducible refine w_call ?_
  | with_reducible refine w_cb ?_
  | with_reducible refine w_meth ?_
  | ((with_reducible refine' w_recv ?h1 ?h2 ?_); (case h1 => assumption); (case h2 => rfl))
  | with_reducible refine w_sFd ?_
  | ((with_reducible refine' w_put ?h1 ?h2 ?_); (case h1 => assumption); (case h2 => exact Nat.le_of_ble_eq_true rfl))
  | with_reducible refine w_add ?_
  | with_reducible refine w_sub ?_
  | with_reducible refine w_lt ?_
  | with_reducible refine w_le ?_
  | with_reducible refine w_gt ?_
  | with_reducible refine w_ge ?_
  | with_reducible refine w_bm ?_
  | with_reducible refine w_bm0 ?_
  | ((with_reducible refine' w_ty ?h1 ?_); (case h1 => assumption))
  | with_reducible refine w_tup ?_
  | with_reducible refine w_lst ?_
  | ((with_reducible refine' w_new ?h1 ?_); (case h1 => exact Nat.le_of_ble_eq_true rfl))
  | with_reducible refine w_gsub ?_
  | with_reducible refine w_make ?_
  | with_reducible refine w_lc ?_
  | with_reducible refine w_iList ?_
  | with_reducible refine w_for ?_
  | with_reducible refine w_yes ?_
  | with_reducible refine w_tSl ?_
  | with_reducible refine w_part ?_
  | with_reducible refine w_nopart ?_
  | with_reducible refine w_i ?_
  | with_reducible refine w_rng1 ?_
  | with_reducible refine w_rng2 ?_
  | with_reducible refine w_isiII ?_
  | with_reducible refine w_isiIB ?_
  | with_reducible refine w_isiSS ?_
  | ((with_reducible refine w_mod ?h1 ?_); (case h1 => decide))
  | ((with_reducible refine w_fdC' ?h1 ?h2 ?_); (case h1 => decide); (case h2 => decide))
  | ((with_reducible refine w_mulR ?h1 ?h2 ?_); (case h1 => decide); (case h2 => decide))
  | ((with_reducible refine w_mulL ?h1 ?h2 ?_); (case h1 => decide); (case h2 => decide))
  | ((with_reducible refine w_pow' ?h1 ?h2 ?h3 ?_); (case h1 => decide); (case h2 => decide); (case h3 => decide))
  | with_reducible refine w_andV ?_
  | with_reducible refine w_orV ?_
  | with_reducible refine w_notV ?_
  | with_reducible refine w_B ?_
  | with_reducible refine w_not ?_
  | with_reducible refine w_and ?_
  | with_reducible refine w_or ?_
  | with_reducible refine w_ifx ?_
  | with_reducible refine w_un ?_
  | ((with_reducible refine w_T ?h1 ?_); (case h1 => with_reducible rfl))
  | ((with_reducible refine w_F ?h1 ?_); (case h1 => with_reducible rfl))
  | ((with_reducible refine w_T ?h1 ?_); (case h1 => decide +kernel))
  | ((with_reducible refine w_F ?h1 ?_); (case h1 => decide +kernel)))
local macro_rules | `(tactic| walk_at "w") => `(tactic| repeat walk_at "w1")

section
variable {K : PySem.W.Frag}
theorem longB_len : ∀ m, (longB m).length = 2 * m
  | 0 => rfl
  | m + 1 => by rw [longB, List.length_append, longB_len m]; simp [longS]; omega
theorem smsAt_take {H : Hp} : ∀ (n : Nat) {b : List Sm} {vs : List V}, SmsAt K H b vs → SmsAt K H (b.take n) (vs.take n)
  | 0, b, vs, _ => by simp [SmsAt]
  | n + 1, [], vs, h => by rw [show vs = [] from h]; simp [SmsAt]
  | n + 1, s :: b, vs, h => by
    obtain ⟨v, vr, rfl, h1, h2⟩ := h
    exact ⟨v, _, rfl, h1, smsAt_take n h2⟩
theorem smsAt_drop {H : Hp} : ∀ (n : Nat) {b : List Sm} {vs : List V}, SmsAt K H b vs → SmsAt K H (b.drop n) (vs.drop n)
  | 0, b, vs, h => h
  | n + 1, [], vs, h => by rw [show vs = [] from h]; simp [SmsAt]
  | n + 1, s :: b, vs, h => by
    obtain ⟨v, vr, rfl, h1, h2⟩ := h
    exact smsAt_drop n h2
def sp_l_long (K : PySem.W.Frag) : Sp := fun vs H Q _ => ∃ H0 L c, vs = [.int c] ∧ Own H0 H L ∧
    ∀ H' r ws', Own H0 H' L → Same (less H L) (less H' L) → RawAt (less H' L) r (.lst ws') → SmsAt K (less H' L) (longG c) ws' → ws'.length ≤ 200 → Q (.ref r) H'
theorem p_l_long (vs : List V) (H : Hp) (Q : VK) (E : XK) (h : sp_l_long K vs H Q E) : t_l_long K { nx := fun _ H' => Q .non H', rt := Q } (L2.start n_l_long vs) H := by
  obtain ⟨H0, L, c, rfl, w, q⟩ := h
  generalize hB : less H L = B at q
  have s : Same B (less H L) := hB ▸ Same.refl _
  clear hB
  unfold t_l_long
  walk_at "w"
  refine fun bq hbq => ?_
  have l0 := less_take (L := L) (o := .lst []) hbq
  replace w := w.take (o := .lst []) hbq
  rw [← l0] at s
  clear l0
  generalize upd H bq _ = H at w s ⊢
  walk_at "w"
  generalize hn : (11 + c % 60).toNat = n
  have en : 11 + c % 60 = ((n : Nat) : Int) := by omega
  have hn71 : n ≤ 70 := by omega
  have hn11 : 11 ≤ n := by omega
  refine w_r1 (by omega) (by omega) ?_
  rw [en, Int.toNat_natCast]
  refine for_range (fun i σ H => ∃ ws x, i ≤ n ∧ Own H0 H ((bq, .lst ws) :: L) ∧ Same B (less H ((bq, .lst ws) :: L)) ∧ SmsAt K (less H ((bq, .lst ws) :: L)) (longB i) ws ∧ σ = [some (.int c), some (.ref bq), x, none, none])
    ⟨[], _, Nat.zero_le _, w, s, rfl, rfl⟩ ?_ ?_
  · clear w s
    rintro i σ H hi ⟨ws, x, _, w, s, f1, rfl⟩
    have hwl : ws.length = 2 * i := (smsAt_len f1).trans (longB_len i)
    have e0 : (0 : Int) + (i : Int) = (i : Int) := by omega
    have hq := w.ix 0 rfl
    walk_at "w"
    rw [e0]
    refine fun u1 h1 => ?_
    have g1 := lessTup (K := K) w h1 (xs := [.str "box", .int (((i : Int) + 1) % 4)])
    replace w := w.lay (o := .tup [.str "box", .int (((i : Int) + 1) % 4)]) h1
    replace s := s.trans (less_lay (o := .tup [.str "box", .int (((i : Int) + 1) % 4)]) h1)
    replace f1 := f1.mono (less_lay (o := .tup [.str "box", .int (((i : Int) + 1) % 4)]) h1)
    generalize upd H u1 _ = H at w s f1 g1 ⊢
    walk_at "w"
    refine fun u2 h2 => ?_
    have g2 := lessTup (K := K) w h2 (xs := [.str "num", .int (i : Int)])
    replace w := w.lay (o := .tup [.str "num", .int (i : Int)]) h2
    replace s := s.trans (less_lay (o := .tup [.str "num", .int (i : Int)]) h2)
    replace f1 := f1.mono (less_lay (o := .tup [.str "num", .int (i : Int)]) h2)
    replace g1 := g1.mono (less_lay (o := .tup [.str "num", .int (i : Int)]) h2)
    generalize upd H u2 _ = H at w s f1 g1 g2 ⊢
    walk_at "w"
    refine fun u3 h3 => ?_
    have g3 := lessTup (K := K) w h3 (xs := [.str "add", .ref u1, .ref u2])
    replace w := w.lay (o := .tup [.str "add", .ref u1, .ref u2]) h3
    replace s := s.trans (less_lay (o := .tup [.str "add", .ref u1, .ref u2]) h3)
    replace f1 := f1.mono (less_lay (o := .tup [.str "add", .ref u1, .ref u2]) h3)
    replace g1 := g1.mono (less_lay (o := .tup [.str "add", .ref u1, .ref u2]) h3)
    replace g2 := g2.mono (less_lay (o := .tup [.str "add", .ref u1, .ref u2]) h3)
    generalize upd H u3 _ = H at w s f1 g1 g2 g3 ⊢
    walk_at "w"
    refine fun u4 h4 => ?_
    have g4 := lessTup (K := K) w h4 (xs := [.str "set", .int ((i : Int) % 4), .ref u3])
    replace w := w.lay (o := .tup [.str "set", .int ((i : Int) % 4), .ref u3]) h4
    replace s := s.trans (less_lay (o := .tup [.str "set", .int ((i : Int) % 4), .ref u3]) h4)
    replace f1 := f1.mono (less_lay (o := .tup [.str "set", .int ((i : Int) % 4), .ref u3]) h4)
    replace g1 := g1.mono (less_lay (o := .tup [.str "set", .int ((i : Int) % 4), .ref u3]) h4)
    replace g2 := g2.mono (less_lay (o := .tup [.str "set", .int ((i : Int) % 4), .ref u3]) h4)
    replace g3 := g3.mono (less_lay (o := .tup [.str "set", .int ((i : Int) % 4), .ref u3]) h4)
    generalize upd H u4 _ = H at w s f1 g1 g2 g3 g4 ⊢
    have hq := w.ix 0 rfl
    walk_at "w"
    refine w_app hq (by rw [sizeLine_eq]; omega) ?_
    replace f1 := smsAt_snoc f1 (s := .set ((i : Int) % 4) (.bin .add (.box (((i : Int) + 1) % 4)) (.num i))) ⟨_, g4, _, _, g3, g1, g2⟩
    clear g1 g2 g3 g4
    replace w : Own H0 (upd H bq (.lst (ws ++ [V.ref u4]))) ((bq, .lst (ws ++ [V.ref u4])) :: L) := w.set 0 (.lst (ws ++ [V.ref u4])) rfl
    have l0 : less (upd H bq (.lst (ws ++ [V.ref u4]))) ((bq, .lst (ws ++ [V.ref u4])) :: L) = less H ((bq, .lst ws) :: L) := less_put (L := (bq, .lst ws) :: L) 0 rfl
    rw [← l0] at s f1
    clear l0
    generalize upd H bq _ = H at w s f1 ⊢
    have hq := w.ix 0 rfl
    walk_at "w"
    refine fun u1 h1 => ?_
    have g1 := lessTup (K := K) w h1 (xs := [.str "box", .int ((i : Int) % 4)])
    replace w := w.lay (o := .tup [.str "box", .int ((i : Int) % 4)]) h1
    replace s := s.trans (less_lay (o := .tup [.str "box", .int ((i : Int) % 4)]) h1)
    replace f1 := f1.mono (less_lay (o := .tup [.str "box", .int ((i : Int) % 4)]) h1)
    generalize upd H u1 _ = H at w s f1 g1 ⊢
    walk_at "w"
    refine fun u2 h2 => ?_
    have g2 := lessTup (K := K) w h2 (xs := [.str "say", .ref u1])
    replace w := w.lay (o := .tup [.str "say", .ref u1]) h2
    replace s := s.trans (less_lay (o := .tup [.str "say", .ref u1]) h2)
    replace f1 := f1.mono (less_lay (o := .tup [.str "say", .ref u1]) h2)
    replace g1 := g1.mono (less_lay (o := .tup [.str "say", .ref u1]) h2)
    generalize upd H u2 _ = H at w s f1 g1 g2 ⊢
    have hq := w.ix 0 rfl
    walk_at "w"
    refine w_app hq (by rw [sizeLine_eq, List.length_append]; simp; omega) ?_
    replace f1 := smsAt_snoc f1 (s := .say (.box ((i : Int) % 4))) ⟨_, g2, g1⟩
    generalize ws ++ [V.ref u4] = ws at w s f1 g1 g2 hq ⊢
    clear g1 g2
    replace w : Own H0 (upd H bq (.lst (ws ++ [V.ref u2]))) ((bq, .lst (ws ++ [V.ref u2])) :: L) := w.set 0 (.lst (ws ++ [V.ref u2])) rfl
    have l0 : less (upd H bq (.lst (ws ++ [V.ref u2]))) ((bq, .lst (ws ++ [V.ref u2])) :: L) = less H ((bq, .lst ws) :: L) := less_put (L := (bq, .lst ws) :: L) 0 rfl
    rw [← l0] at s f1
    clear l0
    generalize upd H bq _ = H at w s f1 ⊢
    refine ⟨ws ++ [V.ref u2], _, hi, w, s, ?_, rfl⟩
    rw [longB]
    unfold longS
    have e1 : ∀ (b : List Sm) (x y : Sm), b ++ [x, y] = b ++ [x] ++ [y] := fun b x y => by simp
    rw [e1]
    exact f1
  · clear w s
    rintro σ H ⟨ws, x, _, w, s, f1, rfl⟩
    have hwl : ws.length = 2 * n := (smsAt_len f1).trans (longB_len n)
    unfold longG at q
    rw [hn] at q
    dsimp only at q
    rw [longB_len] at q
    have hq := w.ix 0 rfl
    walk_at "w"
    refine w_lenL (SqL.of hq) ?_
    rw [hwl]
    refine w_mod (by omega) ?_
    have e1 : c / 60 % ((2 * n : Nat) : Int) = (((c / 60 % ((2 * n : Nat) : Int)).toNat : Nat) : Int) := by
      have : 0 ≤ c / 60 % ((2 * n : Nat) : Int) := Int.emod_nonneg _ (by omega)
      omega
    generalize (c / 60 % ((2 * n : Nat) : Int)).toNat = k at e1 q
    rw [e1] at q ⊢
    walk_at "w"
    refine fun u1 h1 => ?_
    have a1 := lessTup (K := K) w h1 (xs := [.str "box", .int 1])
    replace w := w.lay (o := .tup [.str "box", .int 1]) h1
    replace s := s.trans (less_lay (o := .tup [.str "box", .int 1]) h1)
    replace f1 := f1.mono (less_lay (o := .tup [.str "box", .int 1]) h1)
    generalize upd H u1 _ = H at w s f1 a1 ⊢
    walk_at "w"
    refine fun u2 h2 => ?_
    have a2 := lessTup (K := K) w h2 (xs := [.str "raise", .ref u1])
    replace w := w.lay (o := .tup [.str "raise", .ref u1]) h2
    replace s := s.trans (less_lay (o := .tup [.str "raise", .ref u1]) h2)
    replace f1 := f1.mono (less_lay (o := .tup [.str "raise", .ref u1]) h2)
    replace a1 := a1.mono (less_lay (o := .tup [.str "raise", .ref u1]) h2)
    generalize upd H u2 _ = H at w s f1 a1 a2 ⊢
    walk_at "w"
    refine fun u3 h3 => ?_
    have b1 := lessTup (K := K) w h3 (xs := [.str "num", .int (k : Int)])
    replace w := w.lay (o := .tup [.str "num", .int (k : Int)]) h3
    replace s := s.trans (less_lay (o := .tup [.str "num", .int (k : Int)]) h3)
    replace f1 := f1.mono (less_lay (o := .tup [.str "num", .int (k : Int)]) h3)
    replace a1 := a1.mono (less_lay (o := .tup [.str "num", .int (k : Int)]) h3)
    replace a2 := a2.mono (less_lay (o := .tup [.str "num", .int (k : Int)]) h3)
    generalize upd H u3 _ = H at w s f1 a1 a2 b1 ⊢
    walk_at "w"
    refine fun u4 h4 => ?_
    have b2 := lessTup (K := K) w h4 (xs := [.str "give", .ref u3])
    replace w := w.lay (o := .tup [.str "give", .ref u3]) h4
    replace s := s.trans (less_lay (o := .tup [.str "give", .ref u3]) h4)
    replace f1 := f1.mono (less_lay (o := .tup [.str "give", .ref u3]) h4)
    replace a1 := a1.mono (less_lay (o := .tup [.str "give", .ref u3]) h4)
    replace a2 := a2.mono (less_lay (o := .tup [.str "give", .ref u3]) h4)
    replace b1 := b1.mono (less_lay (o := .tup [.str "give", .ref u3]) h4)
    generalize upd H u4 _ = H at w s f1 a1 a2 b1 b2 ⊢
    walk_at "w"
    refine fun u5 h5 => ?_
    have d1 := lessTup (K := K) w h5 (xs := [.str "num", .int (k : Int)])
    replace w := w.lay (o := .tup [.str "num", .int (k : Int)]) h5
    replace s := s.trans (less_lay (o := .tup [.str "num", .int (k : Int)]) h5)
    replace f1 := f1.mono (less_lay (o := .tup [.str "num", .int (k : Int)]) h5)
    replace a1 := a1.mono (less_lay (o := .tup [.str "num", .int (k : Int)]) h5)
    replace a2 := a2.mono (less_lay (o := .tup [.str "num", .int (k : Int)]) h5)
    replace b1 := b1.mono (less_lay (o := .tup [.str "num", .int (k : Int)]) h5)
    replace b2 := b2.mono (less_lay (o := .tup [.str "num", .int (k : Int)]) h5)
    generalize upd H u5 _ = H at w s f1 a1 a2 b1 b2 d1 ⊢
    walk_at "w"
    refine fun u6 h6 => ?_
    have d2 := lessTup (K := K) w h6 (xs := [.str "say", .ref u5])
    replace w := w.lay (o := .tup [.str "say", .ref u5]) h6
    replace s := s.trans (less_lay (o := .tup [.str "say", .ref u5]) h6)
    replace f1 := f1.mono (less_lay (o := .tup [.str "say", .ref u5]) h6)
    replace a1 := a1.mono (less_lay (o := .tup [.str "say", .ref u5]) h6)
    replace a2 := a2.mono (less_lay (o := .tup [.str "say", .ref u5]) h6)
    replace b1 := b1.mono (less_lay (o := .tup [.str "say", .ref u5]) h6)
    replace b2 := b2.mono (less_lay (o := .tup [.str "say", .ref u5]) h6)
    replace d1 := d1.mono (less_lay (o := .tup [.str "say", .ref u5]) h6)
    generalize upd H u6 _ = H at w s f1 a1 a2 b1 b2 d1 d2 ⊢
    walk_at "w"
    refine fun u7 h7 => ?_
    walk_at "w"
    refine w_ixL (v := if c / 61 % 3 = 0 then .ref u2 else if c / 61 % 3 = 1 then .ref u4 else .ref u6) (SqL.of upd_same) ?_ ?_
    · rcases (by omega : c / 61 % 3 = 0 ∨ c / 61 % 3 = 1 ∨ c / 61 % 3 = 2) with h | h | h <;> rw [h] <;> rfl
    have g0 := LsAt.of (K := K) (less_new w h7 (o := .lst [.ref u2, .ref u4, .ref u6]))
    replace w := w.lay (o := .lst [.ref u2, .ref u4, .ref u6]) h7
    replace s := s.trans (less_lay (o := .lst [.ref u2, .ref u4, .ref u6]) h7)
    replace f1 := f1.mono (less_lay (o := .lst [.ref u2, .ref u4, .ref u6]) h7)
    replace a1 := a1.mono (less_lay (o := .lst [.ref u2, .ref u4, .ref u6]) h7)
    replace a2 := a2.mono (less_lay (o := .lst [.ref u2, .ref u4, .ref u6]) h7)
    replace b1 := b1.mono (less_lay (o := .lst [.ref u2, .ref u4, .ref u6]) h7)
    replace b2 := b2.mono (less_lay (o := .lst [.ref u2, .ref u4, .ref u6]) h7)
    replace d1 := d1.mono (less_lay (o := .lst [.ref u2, .ref u4, .ref u6]) h7)
    replace d2 := d2.mono (less_lay (o := .lst [.ref u2, .ref u4, .ref u6]) h7)
    generalize upd H u7 _ = H at w s f1 a1 a2 b1 b2 d1 d2 g0 ⊢
    clear g0
    have fo : SmAt K (less H ((bq, .lst ws) :: L)) (if c / 61 % 3 = 0 then .raise (.box 1) else if c / 61 % 3 = 1 then .give (.num (k : Int)) else .say (.num (k : Int))) (if c / 61 % 3 = 0 then .ref u2 else if c / 61 % 3 = 1 then .ref u4 else .ref u6) := by
      split
      · exact ⟨_, a2, a1⟩
      · split
        · exact ⟨_, b2, b1⟩
        · exact ⟨_, d2, d1⟩
    clear a1 a2 b1 b2 d1 d2
    generalize (if c / 61 % 3 = 0 then .raise (.box 1) else if c / 61 % 3 = 1 then .give (.num (k : Int)) else .say (.num (k : Int)) : Sm) = so at fo q
    generalize (if c / 61 % 3 = 0 then V.ref u2 else if c / 61 % 3 = 1 then V.ref u4 else V.ref u6) = vo at fo ⊢
    have hq := w.ix 0 rfl
    walk_at "w"
    refine w_slL (SqL.of hq) fun x1 i1 => ?_
    rw [cut_to]
    have g1 : RawAt (less (upd H x1 (.lst (ws.take k))) _) x1 (.lst (ws.take k)) := less_new w i1 (o := .lst (ws.take k))
    replace w := w.lay (o := .lst (ws.take k)) i1
    replace s := s.trans (less_lay (o := .lst (ws.take k)) i1)
    replace f1 := f1.mono (less_lay (o := .lst (ws.take k)) i1)
    replace fo := fo.mono (less_lay (o := .lst (ws.take k)) i1)
    generalize upd H x1 _ = H at w s f1 fo g1 ⊢
    walk_at "w"
    refine fun x2 i2 => ?_
    have g2 : RawAt (less (upd H x2 (.lst [vo])) _) x2 (.lst [vo]) := less_new w i2 (o := .lst [vo])
    replace w := w.lay (o := .lst [vo]) i2
    replace s := s.trans (less_lay (o := .lst [vo]) i2)
    replace f1 := f1.mono (less_lay (o := .lst [vo]) i2)
    replace fo := fo.mono (less_lay (o := .lst [vo]) i2)
    replace g1 := g1.mono (less_lay (o := .lst [vo]) i2)
    generalize upd H x2 _ = H at w s f1 fo g1 g2 ⊢
    refine w_cat g1.up g2.up (by rw [sizeLine_eq, List.length_take]; simp; omega) fun x3 i3 => ?_
    have g3 : RawAt (less (upd H x3 (.lst (ws.take k ++ [vo]))) _) x3 (.lst (ws.take k ++ [vo])) := less_new w i3 (o := .lst (ws.take k ++ [vo]))
    replace w := w.lay (o := .lst (ws.take k ++ [vo])) i3
    replace s := s.trans (less_lay (o := .lst (ws.take k ++ [vo])) i3)
    replace f1 := f1.mono (less_lay (o := .lst (ws.take k ++ [vo])) i3)
    replace fo := fo.mono (less_lay (o := .lst (ws.take k ++ [vo])) i3)
    replace g1 := g1.mono (less_lay (o := .lst (ws.take k ++ [vo])) i3)
    replace g2 := g2.mono (less_lay (o := .lst (ws.take k ++ [vo])) i3)
    generalize upd H x3 _ = H at w s f1 fo g1 g2 g3 ⊢
    have hq := w.ix 0 rfl
    walk_at "w"
    refine w_slL (SqL.of hq) fun x4 i4 => ?_
    rw [cut_from]
    have g4 : RawAt (less (upd H x4 (.lst (ws.drop k))) _) x4 (.lst (ws.drop k)) := less_new w i4 (o := .lst (ws.drop k))
    replace w := w.lay (o := .lst (ws.drop k)) i4
    replace s := s.trans (less_lay (o := .lst (ws.drop k)) i4)
    replace f1 := f1.mono (less_lay (o := .lst (ws.drop k)) i4)
    replace fo := fo.mono (less_lay (o := .lst (ws.drop k)) i4)
    replace g1 := g1.mono (less_lay (o := .lst (ws.drop k)) i4)
    replace g2 := g2.mono (less_lay (o := .lst (ws.drop k)) i4)
    replace g3 := g3.mono (less_lay (o := .lst (ws.drop k)) i4)
    generalize upd H x4 _ = H at w s f1 fo g1 g2 g3 g4 ⊢
    refine w_cat g3.up g4.up (by rw [sizeLine_eq, List.length_append, List.length_take, List.length_drop]; simp; omega) fun x5 i5 => ?_
    have g5 : RawAt (less (upd H x5 (.lst (ws.take k ++ [vo] ++ ws.drop k))) _) x5 (.lst (ws.take k ++ [vo] ++ ws.drop k)) := less_new w i5 (o := .lst (ws.take k ++ [vo] ++ ws.drop k))
    replace w := w.lay (o := .lst (ws.take k ++ [vo] ++ ws.drop k)) i5
    replace s := s.trans (less_lay (o := .lst (ws.take k ++ [vo] ++ ws.drop k)) i5)
    replace f1 := f1.mono (less_lay (o := .lst (ws.take k ++ [vo] ++ ws.drop k)) i5)
    replace fo := fo.mono (less_lay (o := .lst (ws.take k ++ [vo] ++ ws.drop k)) i5)
    replace g1 := g1.mono (less_lay (o := .lst (ws.take k ++ [vo] ++ ws.drop k)) i5)
    replace g2 := g2.mono (less_lay (o := .lst (ws.take k ++ [vo] ++ ws.drop k)) i5)
    replace g3 := g3.mono (less_lay (o := .lst (ws.take k ++ [vo] ++ ws.drop k)) i5)
    replace g4 := g4.mono (less_lay (o := .lst (ws.take k ++ [vo] ++ ws.drop k)) i5)
    generalize upd H x5 _ = H at w s f1 fo g1 g2 g3 g4 g5 ⊢
    have lg : Same (less H ((bq, .lst ws) :: L)) (less H L) := less_give
    have ff : SmsAt K (less H ((bq, .lst ws) :: L)) ((longB n).take k ++ [so] ++ (longB n).drop k) (ws.take k ++ [vo] ++ ws.drop k) := smsAt_app (smsAt_snoc (smsAt_take k f1) fo) (smsAt_drop k f1)
    refine q _ _ _ (w.drop (L := [(bq, .lst ws)])) (s.trans lg) (g5.mono lg) (ff.mono lg) ?_
    · rw [List.length_append, List.length_append, List.length_take, List.length_drop]
      simp
      omega
end
end U

set_option maxHeartbeats 4000000
namespace U
open PySem PySem.Spec PyProof.Rows L2 Un
local macro_rules | `(tactic| walk_at "w1") => `(tactic| first
  | with_reducible refine w_seq ?_
  | with_reducible refine w_asg ?_
  | with_reducible refine w_op ?_
  | ((with_reducible refine' w_var ?h1 ?_); (case h1 => rfl))
  | with_reducible refine w_c ?_
  | with_reducible refine w_name ?_
  | with_reducible refine w_tFd ?_
  | ((with_reducible refine' w_fld ?h1 ?h2 ?_); (case h1 => assumption); (case h2 => rfl))
  | with_reducible refine w_if ?_
  | with_reducible refine w_test ?_
  | with_reducible refine w_eqS ?_
  | with_reducible refine w_eqI ?_
  | with_reducible refine w_neS ?_
  | with_reducible refine w_neI ?_
  | with_reducible refine w_isN ?_
  | with_reducible refine w_isnN ?_
  | with_reducible refine w_bl ?_
  | with_reducible refine w_ret ?_
  | with_reducible refine w_drop ?_
  | with_reducible refine w_next ?_
  | with_reducible refine w_cons ?_
  | with_reducible refine w_nil ?_
  | with_reducible refine w_call ?_
  | with_reducible refine w_cb ?_
  | with_reducible refine w_meth ?_
  | ((with_reducible refine' w_recv ?h1 ?h2 ?_); (case h1 => assumption); (case h2 => rfl))
  | with_reducible refine w_sFd ?_
  | ((with_reducible refine' w_put ?h1 ?h2 ?_); (case h1 => assumption); (case h2 => exact Nat.le_of_ble_eq_true rfl))
  | with_reducible refine w_add ?_
  | with_reducible refine w_sub ?_
  | with_reducible refine w_lt ?_
  | with_reducible refine w_le ?_
  | with_reducible refine w_gt ?_
  | with_reducible refine w_ge ?_
  | with_reducible refine w_bm ?_
  | with_reducible refine w_bm0 ?_
  | ((with_reducible refine' w_ty ?h1 ?_); (case h1 => assumption))
  | with_reducible refine w_tup ?_
  | with_reducible refine w_lst ?_
  | ((with_reducible refine' w_new ?h1 ?_); (case h1 => exact Nat.le_of_ble_eq_true rfl))
  | with_reducible refine w_gsub ?_
  | with_reducible refine w_make ?_
  | with_reducible refine w_lc ?_
  | with_reducible refine w_iList ?_
  | with_reducible refine w_for ?_
  | with_reducible refine w_yes ?_
  | with_reducible refine w_tSl ?_
  | with_reducible refine w_part ?_
  | with_reducible refine w_nopart ?_
  | with_reducible refine w_i ?_
  | with_reducible refine w_rng1 ?_
  | with_reducible refine w_rng2 ?_
  | with_reducible refine w_isiII ?_
  | with_reducible refine w_isiIB ?_
  | with_reducible refine w_isiSS ?_
  | ((with_reducible refine w_mod ?h1 ?_); (case h1 => decide))
  | ((with_reducible refine w_fdC' ?h1 ?h2 ?_); (case h1 => decide); (case h2 => decide))
  | ((with_reducible refine w_mulR ?h1 ?h2 ?_); (case h1 => decide); (case h2 => decide))
  | ((with_reducible refine w_mulL ?h1 ?h2 ?_); (case h1 => decide); (case h2 => decide))
  | ((with_reducible refine w_pow' ?h1 ?h2 ?h3 ?_); (case h1 => decide); (case h2 => decide); (case h3 => decide))
  | with_reducible refine w_andV ?_
  | with_reducible refine w_orV ?_
  | with_reducible refine w_notV ?_
  | with_reducible refine w_B ?_
  | with_reducible refine w_not ?_
  | with_reducible refine w_and ?_
  | with_reducible refine w_or ?_
  | with_reducible refine w_ifx ?_
  | with_reducible refine w_un ?_
  | ((with_reducible refine w_T ?h1 ?_); (case h1 => with_reducible rfl))
  | ((with_reducible refine w_F ?h1 ?_); (case h1 => with_reducible rfl))
  | ((with_reducible refine w_T ?h1 ?_); (case h1 => decide +kernel))
  | ((with_reducible refine w_F ?h1 ?_); (case h1 => decide +kernel)))
local macro_rules | `(tactic| walk_at "w") => `(tactic| repeat walk_at "w1")

section
variable {K : PySem.W.Frag}
/-- blocks in lists of their own, not too long -/
def BlcAt (K : PySem.W.Frag) (H : Hp) (P : List (List Sm)) (vs : List V) : Prop := All2 (fun v b => BlRw K H 300 b v) vs P
theorem BlcAt.mono {H H' : Hp} {P : List (List Sm)} {vs : List V} (h : BlcAt K H P vs) (s : Same H H') : BlcAt K H' P vs := All2.mono (fun _ _ q => q.mono s) h
theorem BlcAt.len {H : Hp} {P : List (List Sm)} {vs : List V} (h : BlcAt K H P vs) : vs.length = P.length := All2.len h
theorem BlcAt.prog {H : Hp} {P : List (List Sm)} {vs : List V} {p : Addr} (h : BlcAt K H P vs) (hp : SqL K H p vs) : ProgAt K H P p := ⟨vs, hp, All2.mono (fun _ _ q => q.at) h⟩
theorem BlsAt.set {H : Hp} {P : List (List Sm)} {vs : List V} {b : List Sm} {v : V} (h : BlsAt K H P vs) (hb : BlRw K H 5 b v) : BlsAt K H (P.set 0 b) (vs.set 0 v) := by
  cases h with
  | nil => exact .nil
  | cons r h => exact .cons hb h
theorem BlsAt.up {H : Hp} {P : List (List Sm)} {vs : List V} (h : BlsAt K H P vs) : BlcAt K H P vs := All2.mono (fun _ _ q => q.up (by decide)) h
def sp_l_drawn (K : PySem.W.Frag) : Sp := fun vs H Q _ => ∃ H0 a ns p k R more, vs = [.ref a, .ref p, .int more] ∧ SqL K H0 a (ns.map V.int) ∧ Own H0 H (atC p k :: R) ∧
    ∀ H' q ws, Own H0 H' (atC p (drawnG ns more k).2 :: (q, .lst ws) :: R) → Same (less H (atC p k :: R)) (less H' (atC p (drawnG ns more k).2 :: (q, .lst ws) :: R)) →
      BlcAt K (less H' (atC p (drawnG ns more k).2 :: (q, .lst ws) :: R)) (drawnG ns more k).1 ws → Q (.ref q) H'
theorem p_l_drawn (vs : List V) (H : Hp) (Q : VK) (E : XK) (h : sp_l_drawn K vs H Q E) : t_l_drawn K (sp_l_program K) (sp_l_row K 1) (sp_l_tower K) (sp_l_long K) { nx := fun _ H' => Q .non H', rt := Q } (L2.start n_l_drawn vs) H := by
  obtain ⟨H0, a, ns, p, k, R, more, rfl, hS, w, q⟩ := h
  generalize hB : less H (atC p k :: R) = B at q
  have s : Same B (less H (atC p k :: R)) := hB ▸ Same.refl _
  clear hB
  have hlen := progG_len ns k
  have hcp := countG_pos (cellN ns k)
  unfold t_l_drawn
  unfold drawnG at q
  dsimp only at q
  walk_at "w"
  refine ⟨H0, a, ns, p, k, R, rfl, hS, w, fun H bq ws w s2 f1 => ?_⟩
  replace s := s.trans s2
  clear s2
  generalize progG ns k = P at q w s f1 hlen
  obtain ⟨P, k1⟩ := P
  dsimp only at q w s f1 hlen
  have hwl : ws.length = P.length := f1.len
  have hw0 : 0 < ws.length := by omega
  generalize hr : genR ns P.length 1 (genB ns P.length 0) (genB ns P.length 0) false k1 = r at q
  with_reducible refine w_name ?_
  with_reducible refine w_cut (fun σ' H => ∃ P2 k2 ws x, (if more % 4 = 1 then (P.set 0 (towerG 7 0 (more / 4) [.set 1 (.bin .add (.box 0) (.num 1)), r.1]), r.2) else (P, k1)) = (P2, k2) ∧ Own H0 H (atC p k2 :: (bq, .lst ws) :: R) ∧ Same B (less H (atC p k2 :: (bq, .lst ws) :: R)) ∧
    BlsAt K (less H (atC p k2 :: (bq, .lst ws) :: R)) P2 ws ∧ 0 < ws.length ∧ σ' = [some (.ref a), some (.ref p), some (.int more), some (.ref bq), x]) ?_ fun N key => ?_
  · clear w s f1 hwl hw0
    rintro σ' H ⟨P2, k2, ws, x, e, w, s, f1, hw0, rfl⟩
    rw [e] at q
    dsimp only at q
    have hq := w.ix 1 rfl
    walk_at "w"
    refine w_D (fun c1 => ?_) (fun c1 => ?_)
    · rw [if_pos c1] at q
      walk_at "w"
      refine ⟨H0, _, _, rfl, w, fun H lr ls w s2 f2 f3 hls => ?_⟩
      replace s := s.trans s2
      replace f1 := f1.mono s2
      clear s2
      have hq := w.ix 1 rfl
      cases f1 with
      | nil => cases hw0
      | @cons v0 b0 vr br f0 f1 =>
      obtain ⟨q0, w0, rfl, i1, i2, i3⟩ := f0
      walk_at "w"
      refine w_ixL (v := .ref q0) (SqL.of hq) (atI_ok (by decide) rfl) ?_
      refine w_cat f2.up i1.up (by rw [sizeLine_eq]; omega) fun u hu => ?_
      have f1' : BlcAt K _ br vr := BlsAt.up f1
      have g1 : RawAt (less (upd H u (.lst (ls ++ w0))) _) u (.lst (ls ++ w0)) := less_new w hu (o := .lst (ls ++ w0))
      replace w := w.lay (o := .lst (ls ++ w0)) hu
      replace s := s.trans (less_lay (o := .lst (ls ++ w0)) hu)
      replace f1' := f1'.mono (less_lay (o := .lst (ls ++ w0)) hu)
      replace f3 := f3.mono (less_lay (o := .lst (ls ++ w0)) hu)
      replace i2 := i2.mono (less_lay (o := .lst (ls ++ w0)) hu)
      generalize upd H u _ = H at w s f1' f3 i2 g1 ⊢
      have hq := w.ix 1 rfl
      have e0 : (.ref q0 :: vr : List V).set (0 : Int).toNat (.ref u) = .ref u :: vr := rfl
      walk_at "w"
      refine w_setL hq (by decide) (by simp) ?_
      rw [e0]
      replace w : Own H0 (upd H bq (.lst (.ref u :: vr))) (atC p k2 :: (bq, .lst (.ref u :: vr)) :: R) := w.set 1 (.lst (.ref u :: vr)) rfl
      have l0 : less (upd H bq (.lst (.ref u :: vr))) (atC p k2 :: (bq, .lst (.ref u :: vr)) :: R) = less H (atC p k2 :: (bq, .lst (.ref q0 :: vr)) :: R) := less_put (L := atC p k2 :: (bq, .lst (.ref q0 :: vr)) :: R) 1 rfl
      rw [← l0] at s f1' f3 g1 i2
      clear l0
      generalize upd H bq _ = H at w s f1' f3 g1 i2 ⊢
      walk_at "w"
      exact q _ _ _ w s (All2.cons ⟨u, _, rfl, g1, smsAt_app f3 i2, by rw [List.length_append]; omega⟩ f1')
    · rw [if_neg c1] at q
      walk_at "w"
      exact q _ _ _ w s f1.up
  · have hq := w.ix 1 rfl
    walk_at "w"
    refine w_D (fun c1 => ?_) (fun c1 => ?_)
    · rw [if_pos c1] at key
      walk_at "w"
      refine w_lenL (SqL.of hq) ?_
      rw [hwl]
      refine ⟨H0, a, ns, p, k1, (bq, .lst ws) :: R, 7, 0, P.length, 0, rfl, hS, w, by decide, rfl, Int.le_refl _, by omega, fun H v w s2 f2 => ?_⟩
      rw [show decide ((0 : Int) < 0) = false from rfl] at w s2 f2
      have er : genR ns P.length (0 + 1) (genB ns P.length 0) (genB ns P.length (0 - 1)) false k1 = r := hr
      rw [er] at w s2 f2
      obtain ⟨r1, r2⟩ := r
      dsimp only at w s2 f2 key
      replace s := s.trans s2
      replace f1 := f1.mono s2
      clear s2
      walk_at "w"
      refine fun u1 h1 => ?_
      have g1 := lessTup (K := K) w h1 (xs := [.str "box", .int 0])
      replace w := w.lay (o := .tup [.str "box", .int 0]) h1
      replace s := s.trans (less_lay (o := .tup [.str "box", .int 0]) h1)
      replace f1 := f1.mono (less_lay (o := .tup [.str "box", .int 0]) h1)
      replace f2 := f2.mono (less_lay (o := .tup [.str "box", .int 0]) h1)
      generalize upd H u1 _ = H at w s f1 f2 g1 ⊢
      walk_at "w"
      refine fun u2 h2 => ?_
      have g2 := lessTup (K := K) w h2 (xs := [.str "num", .int 1])
      replace w := w.lay (o := .tup [.str "num", .int 1]) h2
      replace s := s.trans (less_lay (o := .tup [.str "num", .int 1]) h2)
      replace f1 := f1.mono (less_lay (o := .tup [.str "num", .int 1]) h2)
      replace f2 := f2.mono (less_lay (o := .tup [.str "num", .int 1]) h2)
      replace g1 := g1.mono (less_lay (o := .tup [.str "num", .int 1]) h2)
      generalize upd H u2 _ = H at w s f1 f2 g1 g2 ⊢
      walk_at "w"
      refine fun u3 h3 => ?_
      have g3 := lessTup (K := K) w h3 (xs := [.str "add", .ref u1, .ref u2])
      replace w := w.lay (o := .tup [.str "add", .ref u1, .ref u2]) h3
      replace s := s.trans (less_lay (o := .tup [.str "add", .ref u1, .ref u2]) h3)
      replace f1 := f1.mono (less_lay (o := .tup [.str "add", .ref u1, .ref u2]) h3)
      replace f2 := f2.mono (less_lay (o := .tup [.str "add", .ref u1, .ref u2]) h3)
      replace g1 := g1.mono (less_lay (o := .tup [.str "add", .ref u1, .ref u2]) h3)
      replace g2 := g2.mono (less_lay (o := .tup [.str "add", .ref u1, .ref u2]) h3)
      generalize upd H u3 _ = H at w s f1 f2 g1 g2 g3 ⊢
      walk_at "w"
      refine fun u4 h4 => ?_
      have g4 := lessTup (K := K) w h4 (xs := [.str "set", .int 1, .ref u3])
      replace w := w.lay (o := .tup [.str "set", .int 1, .ref u3]) h4
      replace s := s.trans (less_lay (o := .tup [.str "set", .int 1, .ref u3]) h4)
      replace f1 := f1.mono (less_lay (o := .tup [.str "set", .int 1, .ref u3]) h4)
      replace f2 := f2.mono (less_lay (o := .tup [.str "set", .int 1, .ref u3]) h4)
      replace g1 := g1.mono (less_lay (o := .tup [.str "set", .int 1, .ref u3]) h4)
      replace g2 := g2.mono (less_lay (o := .tup [.str "set", .int 1, .ref u3]) h4)
      replace g3 := g3.mono (less_lay (o := .tup [.str "set", .int 1, .ref u3]) h4)
      generalize upd H u4 _ = H at w s f1 f2 g1 g2 g3 g4 ⊢
      walk_at "w"
      refine fun u5 h5 => ?_
      have g5 : RawAt (less (upd H u5 (.lst [.ref u4, v])) _) u5 (.lst [.ref u4, v]) := less_new w h5 (o := .lst [.ref u4, v])
      replace w := w.lay (o := .lst [.ref u4, v]) h5
      replace s := s.trans (less_lay (o := .lst [.ref u4, v]) h5)
      replace f1 := f1.mono (less_lay (o := .lst [.ref u4, v]) h5)
      replace f2 := f2.mono (less_lay (o := .lst [.ref u4, v]) h5)
      replace g1 := g1.mono (less_lay (o := .lst [.ref u4, v]) h5)
      replace g2 := g2.mono (less_lay (o := .lst [.ref u4, v]) h5)
      replace g3 := g3.mono (less_lay (o := .lst [.ref u4, v]) h5)
      replace g4 := g4.mono (less_lay (o := .lst [.ref u4, v]) h5)
      generalize upd H u5 _ = H at w s f1 f2 g1 g2 g3 g4 g5 ⊢
      walk_at "w"
      refine ⟨H0, _, u5, _, [.set 1 (.bin .add (.box 0) (.num 1)), r1], more / 4, rfl, w, g5, ⟨_, _, rfl, ⟨_, g4, _, _, g3, g1, g2⟩, _, [], rfl, f2, rfl⟩, by simp, fun H tr ts w s2 f3 f4 hts => ?_⟩
      clear g1 g2 g3 g4 g5 f2
      replace s := s.trans s2
      replace f1 := f1.mono s2
      clear s2
      have hq := w.ix 1 rfl
      walk_at "w"
      refine w_setL hq (by decide) (by omega) ?_
      replace w : Own H0 (upd H bq (.lst (ws.set 0 (.ref tr)))) (atC p r2 :: (bq, .lst (ws.set 0 (.ref tr))) :: R) := w.set 1 (.lst (ws.set 0 (.ref tr))) rfl
      have l0 : less (upd H bq (.lst (ws.set 0 (.ref tr)))) (atC p r2 :: (bq, .lst (ws.set 0 (.ref tr))) :: R) = less H (atC p r2 :: (bq, .lst ws) :: R) := less_put (L := atC p r2 :: (bq, .lst ws) :: R) 1 rfl
      rw [← l0] at s f1 f3 f4
      clear l0
      have e0 : (0 : Int).toNat = 0 := rfl
      rw [e0]
      generalize upd H bq _ = H at w s f1 f3 f4 ⊢
      exact key _ _ ⟨_, _, ws.set 0 (.ref tr), _, rfl, w, s, f1.set ⟨tr, ts, rfl, f3, f4, by omega⟩, by rw [List.length_set]; exact hw0, rfl⟩
    · rw [if_neg c1] at key
      walk_at "w"
      exact key _ _ ⟨_, _, ws, _, rfl, w, s, f1, hw0, rfl⟩
end
end U

/-! a tree's way is never "on" -/
namespace Un
open PySem
structure NotOn (E : Ev) : Prop where
  tree : ∀ {t bx w r w'}, E.tree t bx w = some (r, w') → r.1 ≠ .on
  call : ∀ {f v w r w'}, E.call f v w = some (r, w') → r.1 ≠ .on
  enter : ∀ {f v w r w'}, E.enter f v w = some (r, w') → r.1 ≠ .on
theorem joinT_on (o : Op) (a b : Int) : (joinT o a b).1 ≠ .on := by
  cases o with
  | share =>
    unfold joinT
    split
    · rename_i h; cases h
    · rename_i h; cases h
    · rename_i h; cases h
    · split <;> (intro h; cases h)
  | _ => intro h; cases h
theorem outOf_on (r : Res) : (outOf r).1 ≠ .on := by
  obtain ⟨y, v⟩ := r
  cases y <;> (intro h; cases h)
theorem notOn_ev (P : List (List Sm)) : ∀ n, NotOn (ev P n)
  | 0 => by constructor <;> (intros; rename_i h; cases h)
  | n + 1 => by
    have N := notOn_ev P n
    refine ⟨?_, ?_, ?_⟩
    · intro t bx w r w' h
      have h : treeS (ev P n) t bx w = some (r, w') := h
      unfold treeS at h
      cases t with
      | num n => cases h; intro h; cases h
      | box k =>
        dsimp only at h
        cases hv : at? bx k with
        | none => rw [hv] at h; cases h
        | some v => rw [hv] at h; cases h; intro h; cases h
      | call f t =>
        dsimp only at h
        split at h
        · exact N.call h
        · exact N.tree h
      | bin o a b =>
        dsimp only at h
        split at h
        · split at h
          · cases h; exact joinT_on _ _ _
          · exact N.tree h
        · exact N.tree h
    · intro f v w r w' h
      have h : callS (ev P n) f v w = some (r, w') := h
      unfold callS at h
      split at h
      · cases h; intro h; cases h
      · split at h
        · cases h; intro h; cases h
        · exact N.enter h
    · intro f v w r w' h
      have h : enterS P (ev P n) f v w = some (r, w') := h
      unfold enterS at h
      split at h
      · cases h
      · rename_i b hb
        cases hb2 : (ev P n).block b [v, 0, 0, 0] { w with deep := w.deep + 1 } with
        | none => rw [hb2] at h; cases h
        | some x =>
          rw [hb2] at h
          cases h
          exact outOf_on _
end Un

set_option maxHeartbeats 4000000
namespace U
open PySem PySem.Spec PyProof.Rows L2 Un
local macro_rules | `(tactic| walk_at "w1") => `(tactic| first
  | with_reducible refine w_tDGet ?_
  | ((with_reducible refine' w_dget ?h1 ?h2 ?_); (case h1 => assumption); (case h2 => rfl)))
local macro_rules | `(tactic| walk_at "w1") => `(tactic| first
  | with_reducible refine w_seq ?_
  | with_reducible refine w_asg ?_
  | with_reducible refine w_op ?_
  | ((with_reducible refine' w_var ?h1 ?_); (case h1 => rfl))
  | with_reducible refine w_c ?_
  | with_reducible refine w_name ?_
  | with_reducible refine w_tFd ?_
  | ((with_reducible refine' w_fld ?h1 ?h2 ?_); (case h1 => assumption); (case h2 => rfl))
  | with_reducible refine w_if ?_
  | with_reducible refine w_test ?_
  | with_reducible refine w_eqS ?_
  | with_reducible refine w_eqI ?_
  | with_reducible refine w_neS ?_
  | with_reducible refine w_neI ?_
  | with_reducible refine w_isN ?_
  | with_reducible refine w_isnN ?_
  | with_reducible refine w_bl ?_
  | with_reducible refine w_ret ?_
  | with_reducible refine w_drop ?_
  | with_reducible refine w_next ?_
  | with_reducible refine w_cons ?_
  | with_reducible refine w_nil ?_
  | with_reducible refine w_call ?_
  | with_reducible refine w_cb ?_
  | with_reducible refine w_meth ?_
  | ((with_reducible refine' w_recv ?h1 ?h2 ?_); (case h1 => assumption); (case h2 => rfl))
  | with_reducible refine w_sFd ?_
  | ((with_reducible refine' w_put ?h1 ?h2 ?_); (case h1 => assumption); (case h2 => exact Nat.le_of_ble_eq_true rfl))
  | with_reducible refine w_add ?_
  | with_reducible refine w_sub ?_
  | with_reducible refine w_lt ?_
  | with_reducible refine w_le ?_
  | with_reducible refine w_gt ?_
  | with_reducible refine w_ge ?_
  | with_reducible refine w_bm ?_
  | with_reducible refine w_bm0 ?_
  | ((with_reducible refine' w_ty ?h1 ?_); (case h1 => assumption))
  | with_reducible refine w_tup ?_
  | with_reducible refine w_lst ?_
  | ((with_reducible refine' w_new ?h1 ?_); (case h1 => exact Nat.le_of_ble_eq_true rfl))
  | with_reducible refine w_gsub ?_
  | with_reducible refine w_make ?_
  | with_reducible refine w_lc ?_
  | with_reducible refine w_iList ?_
  | with_reducible refine w_for ?_
  | with_reducible refine w_yes ?_
  | with_reducible refine w_tSl ?_
  | with_reducible refine w_part ?_
  | with_reducible refine w_nopart ?_
  | with_reducible refine w_i ?_
  | with_reducible refine w_rng1 ?_
  | with_reducible refine w_rng2 ?_
  | with_reducible refine w_isiII ?_
  | with_reducible refine w_isiIB ?_
  | with_reducible refine w_isiSS ?_
  | ((with_reducible refine w_mod ?h1 ?_); (case h1 => decide))
  | ((with_reducible refine w_fdC' ?h1 ?h2 ?_); (case h1 => decide); (case h2 => decide))
  | ((with_reducible refine w_mulR ?h1 ?h2 ?_); (case h1 => decide); (case h2 => decide))
  | ((with_reducible refine w_mulL ?h1 ?h2 ?_); (case h1 => decide); (case h2 => decide))
  | ((with_reducible refine w_pow' ?h1 ?h2 ?h3 ?_); (case h1 => decide); (case h2 => decide); (case h3 => decide))
  | with_reducible refine w_andV ?_
  | with_reducible refine w_orV ?_
  | with_reducible refine w_notV ?_
  | with_reducible refine w_B ?_
  | with_reducible refine w_not ?_
  | with_reducible refine w_and ?_
  | with_reducible refine w_or ?_
  | with_reducible refine w_ifx ?_
  | with_reducible refine w_un ?_
  | ((with_reducible refine w_T ?h1 ?_); (case h1 => with_reducible rfl))
  | ((with_reducible refine w_F ?h1 ?_); (case h1 => with_reducible rfl))
  | ((with_reducible refine w_T ?h1 ?_); (case h1 => decide +kernel))
  | ((with_reducible refine w_F ?h1 ?_); (case h1 => decide +kernel)))
local macro_rules | `(tactic| walk_at "w") => `(tactic| repeat walk_at "w1")

/-! ### the law's own interpreter: its world is a dict -/
def dwK (pa s : Addr) (t d : Int) : List (Key × V) := [(.inr "said", .ref s), (.inr "turns", .int t), (.inr "deep", .int d), (.inr "program", .ref pa)]
abbrev dwC (d : WA) (w : Wd) : Cell := (d.a, .dK (dwK d.pa d.s w.turns w.deep))
theorem put_turns (pa s : Addr) (t d z : Int) : putK (dwK pa s t d) (.inr "turns") (.int z) = dwK pa s z d := rfl
theorem put_deep (pa s : Addr) (t d z : Int) : putK (dwK pa s t d) (.inr "deep") (.int z) = dwK pa s t z := rfl
/-- a way as the law's interpreter gives it -/
def LAt (K : PySem.W.Frag) (H : Hp) (u : V) (r : Res) : Prop := match r.1 with
  | .on => u = .non
  | .leave => IsTup K H u [.str "leave"]
  | .next => IsTup K H u [.str "next"]
  | _ => IsTup K H u (resV r)
section
variable {K : PySem.W.Frag}
def sp_l_value (K : PySem.W.Frag) (n : Nat) : Sp := fun vs H Q _ => ∃ (P : List (List Sm)) (H0 : Hp), ∃ d t v b bx w r w', vs = [v, .ref b, .ref d.a] ∧ TreeAt K H0 t v ∧ ProgAt K H0 P d.pa ∧ Own H0 H [dwC d w, sdC d w, bxC b bx] ∧
  (ev P n).tree t bx w = some (r, w') ∧ w'.said.length < LIM ∧ ∀ H' u, Own H0 H' [dwC d w', sdC d w', bxC b bx] → LAt K H' u r → Q u H'
def sp_l_call (K : PySem.W.Frag) (n : Nat) : Sp := fun vs H Q _ => ∃ (P : List (List Sm)) (H0 : Hp), ∃ d f v w r w', vs = [.int f, .int v, .ref d.a] ∧ ProgAt K H0 P d.pa ∧ Own H0 H [dwC d w, sdC d w] ∧
  (ev P n).call f v w = some (r, w') ∧ w'.said.length < LIM ∧ ∀ H' u, Own H0 H' [dwC d w', sdC d w'] → LAt K H' u r → Q u H'
def sp_l_function (K : PySem.W.Frag) (n : Nat) : Sp := fun vs H Q _ => ∃ (P : List (List Sm)) (H0 : Hp), ∃ d f v w r w', vs = [.int f, .int v, .ref d.a] ∧ ProgAt K H0 P d.pa ∧ Own H0 H [dwC d w, sdC d w] ∧
  (ev P n).enter f v w = some (r, w') ∧ w'.said.length < LIM ∧ ∀ H' u, Own H0 H' [dwC d w', sdC d w'] → LAt K H' u r → Q u H'
def sp_l_done (K : PySem.W.Frag) (n : Nat) : Sp := fun vs H Q _ => ∃ (P : List (List Sm)) (H0 : Hp), ∃ d l v b bx w r bx' w', vs = [v, .ref b, .ref d.a] ∧ BlAt K H0 l v ∧ ProgAt K H0 P d.pa ∧ Own H0 H [dwC d w, sdC d w, bxC b bx] ∧
  (ev P n).block l bx w = some (r, bx', w') ∧ w'.said.length < LIM ∧ ∀ H' u, Own H0 H' [dwC d w', sdC d w', bxC b bx'] → LAt K H' u r → Q u H'
theorem p_l_call (n : Nat) (vs : List V) (H : Hp) (Q : VK) (E : XK) (h : sp_l_call K (n + 1) vs H Q E) :
    t_l_call K (sp_l_function K n) { nx := fun _ H' => Q .non H', rt := Q } (L2.start n_l_call vs) H := by
  obtain ⟨P, H0, d, f, v, w, r, w', rfl, hp, o, he, hs, k⟩ := h
  have he : callS (ev P n) f v w = some (r, w') := he
  unfold callS at he
  unfold t_l_call
  have h := o.ix 0 rfl
  walk_at "w"
  refine w_D (fun c => ?_) (fun c => ?_)
  · rw [if_pos (by omega)] at he
    cases he
    walk_at "w"
    exact fun p h1 => k _ _ (o.lay h1) new_tup
  · rw [if_neg (by omega)] at he
    walk_at "w"
    refine w_dset h (Nat.le_of_ble_eq_true rfl) ?_
    have e : ((w.turns - 1 : Nat) : Int) = (w.turns : Int) - 1 := by omega
    rw [put_turns, ← e]
    have o : Own H0 (upd H d.a (.dK (dwK d.pa d.s ((w.turns - 1 : Nat) : Int) w.deep))) [dwC d { w with turns := w.turns - 1 }, sdC d w] := o.set 0 (.dK (dwK d.pa d.s ((w.turns - 1 : Nat) : Int) w.deep)) rfl
    generalize upd H d.a _ = H at o ⊢
    have h := o.ix 0 rfl
    walk_at "w"
    refine w_D (fun c2 => ?_) (fun c2 => ?_)
    · rw [if_pos (by dsimp only at c2; omega)] at he
      cases he
      walk_at "w"
      exact fun p h1 => k _ _ (o.lay h1) new_tup
    · rw [if_neg (fun z => c2 (by rw [z]; rfl))] at he
      walk_at "w"
      exact ⟨P, H0, d, f, v, _, _, _, rfl, hp, o, he, hs, k⟩
theorem tup_putD {H : Hp} {D a : Addr} {kvs : List (Key × V)} {xs : List V} {o : HO} (hD : H D = some (.dK kvs)) (h : SqT K H a xs) : SqT K (upd H D o) a xs := by
  rcases h with (h | ⟨ob, h⟩) | h
  · exact .inl (.inl (by rw [upd_ne (ne_of h hD (by intro z; cases z))]; exact h))
  · exact .inl (.inr ⟨ob, by rw [upd_ne (ne_of h hD (by intro z; cases z))]; exact h⟩)
  · exact .inr h
theorem LAt.putD {H : Hp} {D : Addr} {kvs : List (Key × V)} {o : HO} {u : V} {r : Res} (hD : H D = some (.dK kvs)) (h : LAt K H u r) : LAt K (upd H D o) u r := by
  obtain ⟨y, z⟩ := r
  cases y with
  | on => exact h
  | _ =>
    obtain ⟨a, e, h⟩ := (show IsTup K H u _ from h)
    exact ⟨a, e, tup_putD hD h⟩
/-- a way that is not "on" is a tuple that begins with its word -/
theorem LAt.word {H : Hp} {u : V} {r : Res} (h : LAt K H u r) (hn : r.1 ≠ .on) : ∃ a xs, u = .ref a ∧ SqT K H a (.str r.1.str :: xs) ∧ (r.1 ≠ .leave → r.1 ≠ .next → xs = [.int r.2]) := by
  obtain ⟨y, z⟩ := r
  cases y with
  | on => exact absurd rfl hn
  | leave =>
    obtain ⟨a, e, h⟩ := (show IsTup K H u [.str "leave"] from h)
    exact ⟨a, [], e, h, fun c => absurd rfl c⟩
  | next =>
    obtain ⟨a, e, h⟩ := (show IsTup K H u [.str "next"] from h)
    exact ⟨a, [], e, h, fun _ c => absurd rfl c⟩
  | _ =>
    obtain ⟨a, e, h⟩ := (show IsTup K H u (resV _) from h)
    exact ⟨a, [.int z], e, h, fun _ _ => rfl⟩
theorem p_l_function (n : Nat) (vs : List V) (H : Hp) (Q : VK) (E : XK) (h : sp_l_function K (n + 1) vs H Q E) :
    t_l_function K (sp_l_done K n) { nx := fun _ H' => Q .non H', rt := Q } (L2.start n_l_function vs) H := by
  obtain ⟨P, H0, d, f, v, w, r, w', rfl, hp, o, he, hs, k⟩ := h
  have he : enterS P (ev P n) f v w = some (r, w') := he
  unfold enterS at he
  unfold t_l_function
  have h := o.ix 0 rfl
  cases hb : at? P f with
  | none => rw [hb] at he; cases he
  | some b =>
  rw [hb] at he
  dsimp only at he
  cases h1 : (ev P n).block b [v, 0, 0, 0] { w with deep := w.deep + 1 } with
  | none => rw [h1] at he; cases he
  | some q =>
  obtain ⟨⟨wy, z⟩, bx1, w1⟩ := q
  rw [h1] at he
  cases he
  have hd1 : w1.deep = w.deep + 1 := ((good_ev P n).block h1).1.deep
  obtain ⟨ps, hps, hall⟩ := hp
  obtain ⟨bv, hbv, hbl⟩ := at?_all hall hb
  walk_at "w"
  refine w_dset h (Nat.le_of_ble_eq_true rfl) ?_
  rw [put_deep]
  have o : Own H0 (upd H d.a (.dK (dwK d.pa d.s w.turns ((w.deep : Int) + 1)))) [dwC d { w with deep := w.deep + 1 }, sdC d w] := o.set 0 (.dK (dwK d.pa d.s w.turns ((w.deep : Int) + 1))) rfl
  generalize upd H d.a _ = H at o ⊢
  have h := o.ix 0 rfl
  walk_at "w"
  refine w_ixL (o.same.seq hps) hbv ?_
  walk_at "w"
  refine fun bq hbq => ?_
  have o2 := o.take (o := .lst ([v, 0, 0, 0].map V.int)) hbq
  have o3 : Own H0 _ ([dwC d { w with deep := w.deep + 1 }, sdC d w] ++ [bxC bq [v, 0, 0, 0]]) := o2.perm (List.perm_append_comm (l₁ := [_]) (l₂ := [_, _]))
  walk_at "w"
  refine ⟨P, _, d, b, bv, bq, [v, 0, 0, 0], { w with deep := w.deep + 1 }, _, _, _, rfl, hbl.mono (Own.base o3), ⟨ps, (Own.base o3).seq hps, hall.mono fun _ _ q => q.mono (Own.base o3)⟩, Own.lend o3, h1, hs, fun H2 u o4 hu => ?_⟩
  replace o4 := Own.same1 o3 o4
  have h := o4.ix 0 rfl
  walk_at "w"
  refine w_dset h (Nat.le_of_ble_eq_true rfl) ?_
  rw [put_deep]
  replace hu := hu.putD (o := .dK (dwK d.pa d.s w1.turns ((w1.deep : Int) - 1))) h
  have e3 : ((w1.deep - 1 : Nat) : Int) = (w1.deep : Int) - 1 := by omega
  have o6 : Own H0 (upd H2 d.a (.dK (dwK d.pa d.s w1.turns ((w1.deep : Int) - 1)))) [dwC d { w1 with deep := w1.deep - 1 }, sdC d w1] := by
    show Own H0 _ [(d.a, .dK (dwK d.pa d.s w1.turns ((w1.deep - 1 : Nat) : Int))), sdC d w1]
    rw [e3]
    exact Own.sub (R := [bxC bq bx1]) (o4.set 0 (.dK (dwK d.pa d.s w1.turns ((w1.deep : Int) - 1))) rfl)
  generalize upd H2 d.a _ = H at o6 hu ⊢
  by_cases hon : wy = .on
  · subst hon
    have hu : u = .non := hu
    subst hu
    walk_at "w"
    exact fun p h1 => k _ _ (o6.lay h1) new_tup
  · obtain ⟨c, xs, rfl, hc, hx⟩ := hu.word hon
    walk_at "w"
    refine w_D (fun z => nomatch z) fun _ => ?_
    walk_at "w"
    refine w_ixT hc (atI_ok (by decide) rfl) ?_
    walk_at "w"
    refine w_D (fun c2 => ?_) (fun c2 => ?_) <;> rw [wy_give] at c2
    · dsimp only at c2
      subst c2
      obtain rfl := hx (by intro h; cases h) (by intro h; cases h)
      walk_at "w"
      refine w_ixT hc rfl ?_
      walk_at "w"
      exact fun p h1 => k _ _ (o6.lay h1) new_tup
    · walk_at "w"
      have e : outOf (wy, z) = (wy, z) := by
        cases wy with
        | on => exact absurd rfl hon
        | give => exact absurd rfl c2
        | _ => rfl
      rw [e] at k
      exact k _ _ o6 hu
end
end U

set_option maxHeartbeats 4000000
namespace U
open PySem PySem.Spec PyProof.Rows L2 Un
local macro_rules | `(tactic| walk_at "w1") => `(tactic| first
  | with_reducible refine w_tDGet ?_
  | ((with_reducible refine' w_dget ?h1 ?h2 ?_); (case h1 => assumption); (case h2 => rfl)))
local macro_rules | `(tactic| walk_at "w1") => `(tactic| first
  | with_reducible refine w_seq ?_
  | with_reducible refine w_asg ?_
  | with_reducible refine w_op ?_
  | ((with_reducible refine' w_var ?h1 ?_); (case h1 => rfl))
  | with_reducible refine w_c ?_
  | with_reducible refine w_name ?_
  | with_reducible refine w_tFd ?_
  | ((with_reducible refine' w_fld ?h1 ?h2 ?_); (case h1 => assumption); (case h2 => rfl))
  | with_reducible refine w_if ?_
  | with_reducible refine w_test ?_
  | with_reducible refine w_eqS ?_
  | with_reducible refine w_eqI ?_
  | with_reducible refine w_neS ?_
  | with_reducible refine w_neI ?_
  | with_reducible refine w_isN ?_
  | with_reducible refine w_isnN ?_
  | with_reducible refine w_bl ?_
  | with_reducible refine w_ret ?_
  | with_reducible refine w_drop ?_
  | with_reducible refine w_next ?_
  | with_reducible refine w_cons ?_
  | with_reducible refine w_nil ?_
  | with_reducible refine w_call ?_
  | with_reducible refine w_cb ?_
  | with_reducible refine w_meth ?_
  | ((with_reducible refine' w_recv ?h1 ?h2 ?_); (case h1 => assumption); (case h2 => rfl))
  | with_reducible refine w_sFd ?_
  | ((with_reducible refine' w_put ?h1 ?h2 ?_); (case h1 => assumption); (case h2 => exact Nat.le_of_ble_eq_true rfl))
  | with_reducible refine w_add ?_
  | with_reducible refine w_sub ?_
  | with_reducible refine w_lt ?_
  | with_reducible refine w_le ?_
  | with_reducible refine w_gt ?_
  | with_reducible refine w_ge ?_
  | with_reducible refine w_bm ?_
  | with_reducible refine w_bm0 ?_
  | ((with_reducible refine' w_ty ?h1 ?_); (case h1 => assumption))
  | with_reducible refine w_tup ?_
  | with_reducible refine w_lst ?_
  | ((with_reducible refine' w_new ?h1 ?_); (case h1 => exact Nat.le_of_ble_eq_true rfl))
  | with_reducible refine w_gsub ?_
  | with_reducible refine w_make ?_
  | with_reducible refine w_lc ?_
  | with_reducible refine w_iList ?_
  | with_reducible refine w_for ?_
  | with_reducible refine w_yes ?_
  | with_reducible refine w_tSl ?_
  | with_reducible refine w_part ?_
  | with_reducible refine w_nopart ?_
  | with_reducible refine w_i ?_
  | with_reducible refine w_rng1 ?_
  | with_reducible refine w_rng2 ?_
  | with_reducible refine w_isiII ?_
  | with_reducible refine w_isiIB ?_
  | with_reducible refine w_isiSS ?_
  | ((with_reducible refine w_mod ?h1 ?_); (case h1 => decide))
  | ((with_reducible refine w_fdC' ?h1 ?h2 ?_); (case h1 => decide); (case h2 => decide))
  | ((with_reducible refine w_mulR ?h1 ?h2 ?_); (case h1 => decide); (case h2 => decide))
  | ((with_reducible refine w_mulL ?h1 ?h2 ?_); (case h1 => decide); (case h2 => decide))
  | ((with_reducible refine w_pow' ?h1 ?h2 ?h3 ?_); (case h1 => decide); (case h2 => decide); (case h3 => decide))
  | with_reducible refine w_andV ?_
  | with_reducible refine w_orV ?_
  | with_reducible refine w_notV ?_
  | with_reducible refine w_B ?_
  | with_reducible refine w_not ?_
  | with_reducible refine w_and ?_
  | with_reducible refine w_or ?_
  | with_reducible refine w_ifx ?_
  | with_reducible refine w_un ?_
  | ((with_reducible refine w_T ?h1 ?_); (case h1 => with_reducible rfl))
  | ((with_reducible refine w_F ?h1 ?_); (case h1 => with_reducible rfl))
  | ((with_reducible refine w_T ?h1 ?_); (case h1 => decide +kernel))
  | ((with_reducible refine w_F ?h1 ?_); (case h1 => decide +kernel)))
local macro_rules | `(tactic| walk_at "w") => `(tactic| repeat walk_at "w1")

def MutD (L : List Cell) : Prop := ∀ p ∈ L, (∃ ys, p.2 = .lst ys) ∨ ∃ kvs, p.2 = .dK kvs
section
variable {K : PySem.W.Frag}
theorem tup_lessD {H0 H : Hp} {L : List Cell} {a : Addr} {xs : List V} (w : Own H0 H L) (hl : MutD L) (h : SqT K H a xs) : SqT K (less H L) a xs := by
  have off : ∀ o, H a = some o → (∀ ys, o ≠ .lst ys) → (∀ kvs, o ≠ .dK kvs) → less H L a = some o := fun o e n n' => by
    rw [less_off]
    · exact e
    · intro hm
      obtain ⟨p, hp, e2⟩ := List.mem_map.mp hm
      rcases hl p hp with ⟨ys, e3⟩ | ⟨kvs, e3⟩
      · have q := w.at_ p hp
        rw [e2, e, e3] at q
        exact n ys (Option.some.inj q)
      · have q := w.at_ p hp
        rw [e2, e, e3] at q
        exact n' kvs (Option.some.inj q)
  rcases h with (h | ⟨o, h⟩) | h
  · exact .inl (.inl (off _ h (by intro ys z; cases z) (by intro _ z; cases z)))
  · exact .inl (.inr ⟨o, off _ h (by intro ys z; cases z) (by intro _ z; cases z)⟩)
  · exact .inr h
theorem LAt.overD {H0 H H' : Hp} {L L' : List Cell} {u : V} {r : Res} (w : Own H0 H L) (hl : MutD L) (w' : Own (less H L) H' L') (h : LAt K H u r) : LAt K H' u r := by
  obtain ⟨y, z⟩ := r
  cases y with
  | on => exact h
  | _ =>
    obtain ⟨a, e, h⟩ := (show IsTup K H u _ from h)
    exact ⟨a, e, same_tup w'.same (tup_lessD w hl h)⟩
theorem mutD3 {d : WA} {w : Wd} {b : Addr} {bx : List Int} : MutD [dwC d w, sdC d w, bxC b bx] := by
  intro p hp
  rcases List.mem_cons.mp hp with rfl | hp
  · exact .inr ⟨_, rfl⟩
  · rcases List.mem_cons.mp hp with rfl | hp
    · exact .inl ⟨_, rfl⟩
    · rcases List.mem_cons.mp hp with rfl | hp
      · exact .inl ⟨_, rfl⟩
      · cases hp
theorem LAt.non {H : Hp} {u : V} {r : Res} (h : LAt K H u r) : (u = .non) ↔ r.1 = .on := by
  constructor
  · intro e
    by_cases hn : r.1 = .on
    · exact hn
    · obtain ⟨a, xs, e2, _⟩ := h.word hn
      rw [e] at e2
      cases e2
  · intro e
    obtain ⟨y, z⟩ := r
    cases e
    exact h
def sp_l_row_done (K : PySem.W.Frag) (n : Nat) : Sp := fun vs H Q _ => ∃ (P : List (List Sm)) (H0 : Hp), ∃ d s v b bx w r bx' w', vs = [v, .ref b, .ref d.a] ∧ SmAt K H0 s v ∧ ProgAt K H0 P d.pa ∧ Own H0 H [dwC d w, sdC d w, bxC b bx] ∧
  (ev P n).row s bx w = some (r, bx', w') ∧ w'.said.length < LIM ∧ ∀ H' u, Own H0 H' [dwC d w', sdC d w', bxC b bx'] → LAt K H' u r → Q u H'
def sp_l_looped (K : PySem.W.Frag) (n : Nat) : Sp := fun vs H Q _ => ∃ (P : List (List Sm)) (H0 : Hp), ∃ d e l v b bx w r bx' w', vs = [v, .ref b, .ref d.a] ∧ SmAt K H0 (.loop e l) v ∧ ProgAt K H0 P d.pa ∧ Own H0 H [dwC d w, sdC d w, bxC b bx] ∧
  (ev P n).loop e l bx w = some (r, bx', w') ∧ w'.said.length < LIM ∧ ∀ H' u, Own H0 H' [dwC d w', sdC d w', bxC b bx'] → LAt K H' u r → Q u H'
theorem p_l_done (n : Nat) (vs : List V) (H : Hp) (Q : VK) (E : XK) (h : sp_l_done K (n + 1) vs H Q E) :
    t_l_done K (sp_l_row_done K n) { nx := fun _ H' => Q .non H', rt := Q } (L2.start n_l_done vs) H := by
  obtain ⟨P, H0, d, l, v, b, bx, w, r, bx', w', rfl, ⟨p, ps, rfl, hp1, hp2⟩, hp, o, he, hs, k⟩ := h
  have he : blockS (ev P n) l bx w = some (r, bx', w') := he
  unfold t_l_done
  have len := fun {l : List Sm} {ps : List V} (h : SmsAt K H0 l ps) => smsAt_len h
  refine w_seq ⟨_, rfl, p, rfl, ⟨_, o.same.seq hp1⟩, for_list (xs := ps) (fun i σ H' => ∃ bx1 w1 x y, Own H0 H' [dwC d w1, sdC d w1, bxC b bx1] ∧ blockS (ev P n) (l.drop i) bx1 w1 = some (r, bx', w') ∧ SmsAt K H0 (l.drop i) (ps.drop i) ∧ σ = [some (.ref p), some (.ref b), some (.ref d.a), x, y])
    ⟨bx, w, _, _, o, he, hp2, rfl⟩ (fun i σ H' _ h => ?_) ?_ ?_⟩
  · obtain ⟨bx1, w1, x, y, o1, _⟩ := h
    exact o1.same.seq hp1
  · rintro i xv σ H' hx ⟨bx1, w1, x, y, o1, he1, hat, rfl⟩
    have hi : i < ps.length := (List.getElem?_eq_some_iff.mp hx).1
    have hil : i < l.length := by rw [← len hp2]; exact hi
    rw [← List.getElem_cons_drop hil, ← List.getElem_cons_drop hi] at hat
    obtain ⟨v1, vr, e, hat1, hat2⟩ := hat
    cases e
    have ex : ps[i] = xv := by
      rw [List.getElem?_eq_getElem hi] at hx
      exact Option.some.inj hx
    rw [ex] at hat1
    rw [← List.getElem_cons_drop hil] at he1
    unfold blockS at he1
    cases h1 : (ev P n).row l[i] bx1 w1 with
    | none => rw [h1] at he1; cases he1
    | some q =>
    obtain ⟨⟨wy, z⟩, bx2, w2⟩ := q
    rw [h1] at he1
    have hs1 : w2.said.length < LIM := by
      cases wy with
      | on => exact Nat.lt_of_le_of_lt (blockS_len he1).len hs
      | _ => cases he1; exact hs
    walk_at "w"
    refine ⟨P, _, d, l[i], xv, b, bx1, w1, _, _, _, rfl, hat1.mono o1.base, hp.mono o1.base, o1.lend, h1, hs1, fun H1 u o2 hu => ?_⟩
    replace o2 := o1.same1 o2
    walk_at "w"
    refine w_ND (fun c1 => ?_) (fun c1 => ?_) <;> rw [hu.non] at c1
    · dsimp only at c1
      subst c1
      walk_at "w"
      exact ⟨bx2, w2, _, _, o2, he1, hat2, rfl⟩
    · walk_at "w"
      cases wy with
      | on => exact absurd rfl c1
      | _ => cases he1; exact k _ _ o2 hu
  · rintro σ H' ⟨bx1, w1, x, y, o1, he1, hat, rfl⟩
    rw [len hp2, List.drop_length] at he1
    cases he1
    walk_at "w"
    exact k _ _ o1 rfl
theorem p_l_looped (n : Nat) (vs : List V) (H : Hp) (Q : VK) (E : XK) (h : sp_l_looped K (n + 1) vs H Q E) :
    t_l_looped K (sp_l_value K n) (sp_l_done K n) { nx := fun _ H' => Q .non H', rt := Q } (L2.start n_l_looped vs) H := by
  obtain ⟨P, H0, d, e, l, v, b, bx, w, r, bx', w', rfl, ⟨x, p, ps, ⟨a, rfl, hv0⟩, hx, hp1, hp2⟩, hp, o, he, hs, k⟩ := h
  have he : loopGo (ev P n) e l (w.turns + 1) bx w = some (r, bx', w') := he
  have G := good_ev P n
  unfold t_l_looped
  walk_at "w"
  refine ⟨fun m σ H' => ∃ c bx1 w1 y, m = c ∧ Own H0 H' [dwC d w1, sdC d w1, bxC b bx1] ∧ loopGo (ev P n) e l c bx1 w1 = some (r, bx', w') ∧ σ = [some (.ref a), some (.ref b), some (.ref d.a), y], ⟨_, _, bx, w, _, rfl, o, he, rfl⟩, ?_⟩
  rintro m σ H' ⟨c, bx1, w1, y, rfl, o1, he1, rfl⟩
  cases m with
  | zero => cases he1
  | succ c =>
  unfold loopGo at he1
  have hw := o1.ix 0 rfl
  walk_at "w"
  refine w_D (fun c0 => ?_) (fun c0 => ?_)
  · rw [if_neg (by omega)] at he1
    refine ⟨fun σ' H' => ∃ bx1 w1 y, Own H0 H' [dwC d w1, sdC d w1, bxC b bx1] ∧ loopGo (ev P n) e l c bx1 w1 = some (r, bx', w') ∧ σ' = [some (.ref a), some (.ref b), some (.ref d.a), y], ?_, ?_⟩
    · rintro σ' H' ⟨bx1, w1, y, h1, h2, h3⟩
      exact ⟨c, Nat.lt_succ_self _, c, bx1, w1, y, rfl, h1, h2, h3⟩
    walk_at "w"
    refine w_dset hw (Nat.le_of_ble_eq_true rfl) ?_
    have et : ((w1.turns - 1 : Nat) : Int) = (w1.turns : Int) - 1 := by omega
    rw [put_turns, ← et]
    have o2 : Own H0 (upd H' d.a (.dK (dwK d.pa d.s ((w1.turns - 1 : Nat) : Int) w1.deep))) [dwC d { w1 with turns := w1.turns - 1 }, sdC d w1, bxC b bx1] := o1.set 0 (.dK (dwK d.pa d.s ((w1.turns - 1 : Nat) : Int) w1.deep)) rfl
    generalize upd H' d.a _ = H2 at o2 ⊢
    unfold thenT at he1
    cases h1 : (ev P n).tree e bx1 { w1 with turns := w1.turns - 1 } with
    | none => rw [h1] at he1; cases he1
    | some q =>
    obtain ⟨⟨wy, z⟩, w2⟩ := q
    rw [h1] at he1
    have hs1 : w2.said.length < LIM := by
      cases wy with
      | value =>
        dsimp only at he1
        by_cases hz : z = 0
        · rw [if_pos hz] at he1
          cases he1; exact hs
        · rw [if_neg hz] at he1
          cases h2 : (ev P n).block l bx1 w2 with
          | none => rw [h2] at he1; cases he1
          | some x =>
          obtain ⟨⟨wy2, z2⟩, bx2, w3⟩ := x
          rw [h2] at he1
          have l1 := (G.block h2).1.len
          cases wy2 with
          | on => exact Nat.lt_of_le_of_lt (Nat.le_trans l1 (loopGo_good G e l c he1).1.len) hs
          | next => exact Nat.lt_of_le_of_lt (Nat.le_trans l1 (loopGo_good G e l c he1).1.len) hs
          | _ => cases he1; exact Nat.lt_of_le_of_lt l1 hs
      | _ => cases he1; exact hs
    have hon := (notOn_ev P n).tree h1
    walk_at "w"
    refine w_ixT (same_tup o2.same hv0) rfl ?_
    walk_at "w"
    refine ⟨P, _, d, e, x, b, bx1, _, _, _, rfl, hx.mono o2.base, hp.mono o2.base, o2.lend, h1, hs1, fun H3 u o3 hu => ?_⟩
    replace o3 := o2.same1 o3
    obtain ⟨c1, xs, rfl, hu', hxs⟩ := hu.word hon
    walk_at "w"
    refine w_ixT hu' (atI_ok (by decide) rfl) ?_
    walk_at "w"
    refine w_ND (fun c2 => ?_) (fun c2 => ?_) <;> rw [wy_value] at c2
    · dsimp only at c2
      subst c2
      dsimp only at he1
      obtain rfl := hxs (by intro h; cases h) (by intro h; cases h)
      walk_at "w"
      refine w_ixT hu' rfl ?_
      walk_at "w"
      refine w_D (fun c3 => ?_) (fun c3 => ?_) <;> dsimp only at c3
      · rw [if_pos c3] at he1
        cases he1
        walk_at "w"
        exact k _ _ o3 rfl
      · rw [if_neg c3] at he1
        cases h2 : (ev P n).block l bx1 w2 with
        | none => rw [h2] at he1; cases he1
        | some q =>
        obtain ⟨⟨wy2, z2⟩, bx2, w3⟩ := q
        rw [h2] at he1
        have hs2 : w3.said.length < LIM := by
          cases wy2 with
          | on => exact Nat.lt_of_le_of_lt (loopGo_good G e l c he1).1.len hs
          | next => exact Nat.lt_of_le_of_lt (loopGo_good G e l c he1).1.len hs
          | _ => cases he1; exact hs
        walk_at "w"
        refine w_ixT (same_tup o3.same hv0) rfl ?_
        walk_at "w"
        refine ⟨P, _, d, l, _, b, bx1, w2, _, _, _, rfl, ⟨p, ps, rfl, o3.base.seq hp1, hp2.mono o3.base⟩, hp.mono o3.base, o3.lend, h2, hs2, fun H4 u2 o4 hu2 => ?_⟩
        replace o4 := o3.same1 o4
        by_cases hon2 : wy2 = .on
        · subst hon2
          have hu2 : u2 = .non := hu2
          subst hu2
          walk_at "w"
          exact ⟨bx2, w3, _, o4, he1, rfl⟩
        · obtain ⟨c4, xs2, rfl, hu2', hxs2⟩ := hu2.word hon2
          walk_at "w"
          refine w_ND (fun z => nomatch z) fun _ => ?_
          walk_at "w"
          refine w_ixT hu2' (atI_ok (by decide) rfl) ?_
          walk_at "w"
          refine w_D (fun c5 => ?_) (fun c5 => ?_) <;> rw [wy_leave] at c5
          · dsimp only at c5
            subst c5
            cases he1
            walk_at "w"
            exact k _ _ o4 rfl
          · walk_at "w"
            refine w_ND (fun z => nomatch z) fun _ => ?_
            walk_at "w"
            refine w_ixT hu2' (atI_ok (by decide) rfl) ?_
            walk_at "w"
            refine w_ND (fun c7 => ?_) (fun c7 => ?_) <;> rw [wy_next] at c7
            · dsimp only at c7
              subst c7
              walk_at "w"
              exact ⟨bx2, w3, _, o4, he1, rfl⟩
            · walk_at "w"
              cases wy2 with
              | leave => exact absurd rfl c5
              | on => exact absurd rfl hon2
              | next => exact absurd rfl c7
              | _ => cases he1; exact k _ _ o4 hu2
    · walk_at "w"
      cases wy with
      | value => exact absurd rfl c2
      | _ => cases he1; exact k _ _ o3 hu
  · rw [if_pos (by omega)] at he1
    cases he1
    walk_at "w"
    exact fun p h1 => k _ _ (o1.lay h1) new_tup
end
end U

/-! what is told at a level is told at every higher one -/
namespace Un
open PySem
structure LeE (E E' : Ev) : Prop where
  tree : ∀ {t bx w x}, E.tree t bx w = some x → E'.tree t bx w = some x
  call : ∀ {f v w x}, E.call f v w = some x → E'.call f v w = some x
  enter : ∀ {f v w x}, E.enter f v w = some x → E'.enter f v w = some x
  block : ∀ {b bx w x}, E.block b bx w = some x → E'.block b bx w = some x
  row : ∀ {s bx w x}, E.row s bx w = some x → E'.row s bx w = some x
  loop : ∀ {e b bx w x}, E.loop e b bx w = some x → E'.loop e b bx w = some x
  ctch : ∀ {b n k h bx w x}, E.ctch b n k h bx w = some x → E'.ctch b n k h bx w = some x
  endd : ∀ {b l bx w x}, E.endd b l bx w = some x → E'.endd b l bx w = some x
section
variable {E E' : Ev} (L : LeE E E')
include L
theorem leE_tree {t bx w x} (h : treeS E t bx w = some x) : treeS E' t bx w = some x := by
  unfold treeS at h ⊢
  cases t with
  | num n => exact h
  | box k => exact h
  | call f t =>
    dsimp only at h ⊢
    cases h1 : E.tree t bx w with
    | none => rw [h1] at h; cases h
    | some p =>
      rw [h1] at h
      rw [L.tree h1]
      obtain ⟨⟨y, z⟩, w1⟩ := p
      cases y with
      | value => exact L.call h
      | _ => exact h
  | bin o a b =>
    dsimp only at h ⊢
    cases h1 : E.tree a bx w with
    | none => rw [h1] at h; cases h
    | some p =>
      rw [h1] at h
      rw [L.tree h1]
      obtain ⟨⟨y, z⟩, w1⟩ := p
      cases y with
      | value =>
        dsimp only at h ⊢
        cases h2 : E.tree b bx w1 with
        | none => rw [h2] at h; cases h
        | some p =>
          rw [h2] at h
          rw [L.tree h2]
          exact h
      | _ => exact h
theorem leE_then {e bx w x} {k k' : Int → Wd → Option (Res × List Int × Wd)} (hk : ∀ v w1 x, k v w1 = some x → k' v w1 = some x) (h : thenT E e bx w k = some x) : thenT E' e bx w k' = some x := by
  unfold thenT at h ⊢
  cases h1 : E.tree e bx w with
  | none => rw [h1] at h; cases h
  | some p =>
    rw [h1] at h
    rw [L.tree h1]
    obtain ⟨⟨y, z⟩, w1⟩ := p
    cases y with
    | value => exact hk _ _ _ h
    | _ => exact h
theorem leE_loop {e b} : ∀ (c : Nat) {bx w x}, loopGo E e b c bx w = some x → loopGo E' e b c bx w = some x
  | 0, _, _, _, h => by cases h
  | c + 1, bx, w, x, h => by
    unfold loopGo at h ⊢
    split at h
    · rename_i ht
      rw [if_pos ht]
      exact h
    · rename_i ht
      rw [if_neg ht]
      refine leE_then L (fun v w1 x hx => ?_) h
      split at hx
      · rename_i hv
        rw [if_pos hv]
        exact hx
      · rename_i hv
        rw [if_neg hv]
        cases h1 : E.block b bx w1 with
        | none => rw [h1] at hx; cases hx
        | some p =>
          rw [h1] at hx
          rw [L.block h1]
          obtain ⟨⟨y, z⟩, bx2, w2⟩ := p
          cases y with
          | on => exact leE_loop c hx
          | next => exact leE_loop c hx
          | _ => exact hx
theorem leE_block : ∀ (b : List Sm) {bx w x}, blockS E b bx w = some x → blockS E' b bx w = some x
  | [], _, _, _, h => h
  | s :: b, bx, w, x, h => by
    unfold blockS at h ⊢
    cases h1 : E.row s bx w with
    | none => rw [h1] at h; cases h
    | some p =>
      rw [h1] at h
      rw [L.row h1]
      obtain ⟨⟨y, z⟩, bx2, w2⟩ := p
      cases y with
      | on => exact leE_block b h
      | _ => exact h
theorem leE_row {s bx w x} (h : rowS E s bx w = some x) : rowS E' s bx w = some x := by
  unfold rowS at h ⊢
  cases s with
  | leave => exact h
  | next => exact h
  | loop e b => exact L.loop h
  | ctch b n k h' => exact L.ctch h
  | endd b l => exact L.endd h
  | ife e a b => exact leE_then L (fun v w1 x hx => L.block hx) h
  | give e => exact leE_then L (fun v w1 x hx => hx) h
  | raise e => exact leE_then L (fun v w1 x hx => hx) h
  | set k e => exact leE_then L (fun v w1 x hx => hx) h
  | say e => exact leE_then L (fun v w1 x hx => hx) h
theorem leE_ctch {b n k h' bx w x} (h : ctchS E b n k h' bx w = some x) : ctchS E' b n k h' bx w = some x := by
  unfold ctchS at h ⊢
  cases h1 : E.block b bx w with
  | none => rw [h1] at h; cases h
  | some p =>
    rw [h1] at h
    rw [L.block h1]
    obtain ⟨⟨y, z⟩, bx2, w2⟩ := p
    cases y with
    | fault =>
      dsimp only at h ⊢
      split at h
      · rename_i hc
        rw [if_pos hc]
        exact h
      · rename_i hc
        rw [if_neg hc]
        split at h
        · rename_i hk
          rw [if_pos hk]
          exact L.block h
        · cases h
    | _ => exact h
theorem leE_endd {b l bx w x} (h : endS E b l bx w = some x) : endS E' b l bx w = some x := by
  unfold endS at h ⊢
  cases h1 : E.block b bx w with
  | none => rw [h1] at h; cases h
  | some p =>
    rw [h1] at h
    rw [L.block h1]
    obtain ⟨⟨y, z⟩, bx2, w2⟩ := p
    have go : ∀ r : Res, (match E.block l bx2 w2 with
        | some ((.on, _), bx2, w2) => some (r, bx2, w2)
        | r2 => r2) = some x → (match E'.block l bx2 w2 with
        | some ((.on, _), bx2, w2) => some (r, bx2, w2)
        | r2 => r2) = some x := fun r h => by
      cases h2 : E.block l bx2 w2 with
      | none => rw [h2] at h; cases h
      | some p =>
        rw [h2] at h
        rw [L.block h2]
        exact h
    cases y with
    | tired => exact h
    | _ => exact go _ h
theorem leE_call {f v w x} (h : callS E f v w = some x) : callS E' f v w = some x := by
  unfold callS at h ⊢
  split at h
  · rename_i ht
    rw [if_pos ht]
    exact h
  · rename_i ht
    rw [if_neg ht]
    split at h
    · rename_i hd
      rw [if_pos hd]
      exact h
    · rename_i hd
      rw [if_neg hd]
      exact L.enter h
theorem leE_enter {P : List (List Sm)} {f v w x} (h : enterS P E f v w = some x) : enterS P E' f v w = some x := by
  unfold enterS at h ⊢
  split at h
  · cases h
  · rename_i b hb
    cases h1 : E.block b [v, 0, 0, 0] { w with deep := w.deep + 1 } with
    | none => rw [h1] at h; cases h
    | some p =>
      rw [h1] at h
      rw [L.block h1]
      exact h
end
theorem leE_no (E : Ev) : LeE Ev.no E := by constructor <;> (intros; rename_i h; cases h)
theorem leE_ev (P : List (List Sm)) : ∀ n, LeE (ev P n) (ev P (n + 1))
  | 0 => leE_no _
  | n + 1 => by
    have L := leE_ev P n
    exact ⟨fun h => leE_tree L h, fun h => leE_call L h, fun h => leE_enter L h, fun h => leE_block L _ h, fun h => leE_row L h, fun h => leE_loop L _ h, fun h => leE_ctch L h, fun h => leE_endd L h⟩
end Un

set_option maxHeartbeats 4000000
namespace U
open PySem PySem.Spec PyProof.Rows L2 Un
local macro_rules | `(tactic| walk_at "w1") => `(tactic| first
  | with_reducible refine w_tDGet ?_
  | ((with_reducible refine' w_dget ?h1 ?h2 ?_); (case h1 => assumption); (case h2 => rfl)))
local macro_rules | `(tactic| walk_at "w1") => `(tactic| first
  | with_reducible refine w_seq ?_
  | with_reducible refine w_asg ?_
  | with_reducible refine w_op ?_
  | ((with_reducible refine' w_var ?h1 ?_); (case h1 => rfl))
  | with_reducible refine w_c ?_
  | with_reducible refine w_name ?_
  | with_reducible refine w_tFd ?_
  | ((with_reducible refine' w_fld ?h1 ?h2 ?_); (case h1 => assumption); (case h2 => rfl))
  | with_reducible refine w_if ?_
  | with_reducible refine w_test ?_
  | with_reducible refine w_eqS ?_
  | with_reducible refine w_eqI ?_
  | with_reducible refine w_neS ?_
  | with_reducible refine w_neI ?_
  | with_reducible refine w_isN ?_
  | with_reducible refine w_isnN ?_
  | with_reducible refine w_bl ?_
  | with_reducible refine w_ret ?_
  | with_reducible refine w_drop ?_
  | with_reducible refine w_next ?_
  | with_reducible refine w_cons ?_
  | with_reducible refine w_nil ?_
  | with_reducible refine w_call ?_
  | with_reducible refine w_cb ?_
  | with_reducible refine w_meth ?_
  | ((with_reducible refine' w_recv ?h1 ?h2 ?_); (case h1 => assumption); (case h2 => rfl))
  | with_reducible refine w_sFd ?_
  | ((with_reducible refine' w_put ?h1 ?h2 ?_); (case h1 => assumption); (case h2 => exact Nat.le_of_ble_eq_true rfl))
  | with_reducible refine w_add ?_
  | with_reducible refine w_sub ?_
  | with_reducible refine w_lt ?_
  | with_reducible refine w_le ?_
  | with_reducible refine w_gt ?_
  | with_reducible refine w_ge ?_
  | with_reducible refine w_bm ?_
  | with_reducible refine w_bm0 ?_
  | ((with_reducible refine' w_ty ?h1 ?_); (case h1 => assumption))
  | with_reducible refine w_tup ?_
  | with_reducible refine w_lst ?_
  | ((with_reducible refine' w_new ?h1 ?_); (case h1 => exact Nat.le_of_ble_eq_true rfl))
  | with_reducible refine w_gsub ?_
  | with_reducible refine w_make ?_
  | with_reducible refine w_lc ?_
  | with_reducible refine w_iList ?_
  | with_reducible refine w_for ?_
  | with_reducible refine w_yes ?_
  | with_reducible refine w_tSl ?_
  | with_reducible refine w_part ?_
  | with_reducible refine w_nopart ?_
  | with_reducible refine w_i ?_
  | with_reducible refine w_rng1 ?_
  | with_reducible refine w_rng2 ?_
  | with_reducible refine w_isiII ?_
  | with_reducible refine w_isiIB ?_
  | with_reducible refine w_isiSS ?_
  | ((with_reducible refine w_mod ?h1 ?_); (case h1 => decide))
  | ((with_reducible refine w_fdC' ?h1 ?h2 ?_); (case h1 => decide); (case h2 => decide))
  | ((with_reducible refine w_mulR ?h1 ?h2 ?_); (case h1 => decide); (case h2 => decide))
  | ((with_reducible refine w_mulL ?h1 ?h2 ?_); (case h1 => decide); (case h2 => decide))
  | ((with_reducible refine w_pow' ?h1 ?h2 ?h3 ?_); (case h1 => decide); (case h2 => decide); (case h3 => decide))
  | with_reducible refine w_andV ?_
  | with_reducible refine w_orV ?_
  | with_reducible refine w_notV ?_
  | with_reducible refine w_B ?_
  | with_reducible refine w_not ?_
  | with_reducible refine w_and ?_
  | with_reducible refine w_or ?_
  | with_reducible refine w_ifx ?_
  | with_reducible refine w_un ?_
  | ((with_reducible refine w_T ?h1 ?_); (case h1 => with_reducible rfl))
  | ((with_reducible refine w_F ?h1 ?_); (case h1 => with_reducible rfl))
  | ((with_reducible refine w_T ?h1 ?_); (case h1 => decide +kernel))
  | ((with_reducible refine w_F ?h1 ?_); (case h1 => decide +kernel)))
local macro_rules | `(tactic| walk_at "w") => `(tactic| repeat walk_at "w1")

section
variable {K : PySem.W.Frag}
theorem sms_block_len {P : List (List Sm)} {n : Nat} {b : List Sm} {bx : List Int} {w : Wd} {r : Res} {bx' : List Int} {w' : Wd} (h : (ev P n).block b bx w = some (r, bx', w')) : w.said.length ≤ w'.said.length := ((good_ev P n).block h).1.len
theorem p_l_row_done (n : Nat) (vs : List V) (H : Hp) (Q : VK) (E : XK) (h : sp_l_row_done K (n + 1) vs H Q E) :
    t_l_row_done K (sp_l_done K n) (sp_l_looped K n) (sp_l_value K n) { nx := fun _ H' => Q .non H', rt := Q } (L2.start n_l_row_done vs) H := by
  obtain ⟨P, H0, d, s, v, b, bx, w, r, bx', w', rfl, hat, hp, o, he, hs, k⟩ := h
  have he : rowS (ev P n) s bx w = some (r, bx', w') := he
  have G := good_ev P n
  unfold rowS at he
  unfold t_l_row_done
  cases s with
  | leave =>
    obtain ⟨a, rfl, hv0⟩ := hat
    have hv := same_tup o.same hv0
    cases he
    walk_at "w"
    refine w_ixT hv rfl ?_
    walk_at "w"
    exact k _ _ o ⟨a, rfl, hv⟩
  | next =>
    obtain ⟨a, rfl, hv0⟩ := hat
    have hv := same_tup o.same hv0
    cases he
    walk_at "w"
    refine w_ixT hv rfl ?_
    walk_at "w"
    refine w_ixT hv rfl ?_
    walk_at "w"
    exact k _ _ o ⟨a, rfl, hv⟩
  | loop e l =>
    have hat' := hat
    obtain ⟨x, p, ps, ⟨a, rfl, hv0⟩, _⟩ := hat
    have hv := same_tup o.same hv0
    walk_at "w"
    refine w_ixT hv rfl ?_
    walk_at "w"
    refine w_ixT hv rfl ?_
    walk_at "w"
    refine w_ixT hv rfl ?_
    walk_at "w"
    refine w_ixT hv rfl ?_
    walk_at "w"
    refine w_ixT hv rfl ?_
    walk_at "w"
    exact ⟨P, H0, d, e, l, _, b, bx, w, r, bx', w', rfl, hat', hp, o, he, hs, k⟩
  | endd l m =>
    obtain ⟨p, q, ps, qs, ⟨a, rfl, hv0⟩, hp1, hp2, hq1, hq2⟩ := hat
    have hv := same_tup o.same hv0
    dsimp only at he
    cases n with
    | zero => cases he
    | succ j =>
    have he : endS (ev P j) l m bx w = some (r, bx', w') := he
    unfold endS at he
    have up := leE_ev P j
    cases h1 : (ev P j).block l bx w with
    | none => rw [h1] at he; cases he
    | some x =>
    obtain ⟨⟨wy, z⟩, bx1, w1⟩ := x
    rw [h1] at he
    walk_at "w"
    refine w_ixT hv rfl ?_
    walk_at "w"
    refine w_ixT hv rfl ?_
    walk_at "w"
    refine w_ixT hv rfl ?_
    walk_at "w"
    refine w_ixT hv rfl ?_
    walk_at "w"
    by_cases hw : wy = .tired
    · subst hw
      cases he
      refine ⟨P, _, d, l, _, b, bx, w, _, _, _, rfl, ⟨p, ps, rfl, o.base.seq hp1, hp2.mono o.base⟩, hp.mono o.base, o.lend, up.block h1, hs, fun H1 u o1 hu => ?_⟩
      replace o1 := o.same1 o1
      obtain ⟨c, xs, rfl, hu', hxs⟩ := hu.word (by intro h; cases h)
      walk_at "w"
      refine w_D (fun z => nomatch z) fun _ => ?_
      walk_at "w"
      refine w_ixT hu' (atI_ok (by decide) rfl) ?_
      walk_at "w"
      refine w_ND (fun _ => ?_) (fun cn => absurd rfl cn)
      walk_at "w"
      exact k _ _ o1 hu
    · have he2 : (match (ev P j).block m bx1 w1 with
          | some ((.on, _), bx2, w2) => some ((wy, z), bx2, w2)
          | r2 => r2) = some (r, bx', w') := by
        cases wy with
        | tired => exact absurd rfl hw
        | _ => exact he
      cases h2 : (ev P j).block m bx1 w1 with
      | none => rw [h2] at he2; cases he2
      | some x =>
      obtain ⟨⟨wy2, z2⟩, bx2, w2⟩ := x
      rw [h2] at he2
      have e2 : w2 = w' := by cases wy2 <;> (cases he2; rfl)
      subst e2
      have hs1 : w1.said.length < LIM := Nat.lt_of_le_of_lt (sms_block_len h2) hs
      refine ⟨P, _, d, l, _, b, bx, w, _, _, _, rfl, ⟨p, ps, rfl, o.base.seq hp1, hp2.mono o.base⟩, hp.mono o.base, o.lend, up.block h1, hs1, fun H1 u o1 hu => ?_⟩
      replace o1 := o.same1 o1
      have hv1 := same_tup o1.same hv0
      -- the last
      have last : tSeq (tIfS (tOr (tTest (tOp rIsNo (tVar 3) (tC .non))) (tTest (tOp rNe (tOp (rIxT K) (tVar 3) (tC (.int 0))) (tC (.str "tired"))))) (tAsg (tCall (sp_l_done K (j + 1)) [] E0 (tCons (tOp (rIxT K) (tVar 0) (tC (.int 2))) (tCons (tVar 1) (tCons (tVar 2) tNil)))) (gName 4)) tNext)
          (tRet (tIf (tTest (tOp rIsNo (tVar 4) (tC .non))) (tVar 3) (tVar 4))) { nx := fun _ H' => Q .non H', rt := Q } [some (.ref a), some (.ref b), some (.ref d.a), some u, some .non] H1 := by
        have fin : ∀ H2 u2, Own H0 H2 [dwC d w2, sdC d w2, bxC b bx2] → LAt K H2 u2 (wy2, z2) → LAt K H2 u (wy, z) →
            tRet (tIf (tTest (tOp rIsNo (tVar 4) (tC .non))) (tVar 3) (tVar 4)) { nx := fun _ H' => Q .non H', rt := Q } [some (.ref a), some (.ref b), some (.ref d.a), some u, some u2] H2 := fun H2 u2 o2 hu2 hu3 => by
          walk_at "w"
          refine w_D (fun c3 => ?_) (fun c3 => ?_) <;> rw [hu2.non] at c3
          · dsimp only at c3
            subst c3
            cases he2
            walk_at "w"
            exact k _ _ o2 hu3
          · walk_at "w"
            cases wy2 with
            | on => exact absurd rfl c3
            | _ => cases he2; exact k _ _ o2 hu2
        by_cases hon : wy = .on
        · subst hon
          have hun : u = .non := hu
          subst hun
          walk_at "w"
          refine w_ixT hv1 rfl ?_
          walk_at "w"
          refine ⟨P, _, d, m, _, b, bx1, w1, _, _, _, rfl, ⟨q, qs, rfl, o1.base.seq hq1, hq2.mono o1.base⟩, hp.mono o1.base, o1.lend, up.block h2, hs, fun H2 u2 o2 hu2 => ?_⟩
          with_reducible refine w_name ?_
          exact fin H2 u2 (o1.same1 o2) hu2 (hu.overD o1 mutD3 o2)
        · obtain ⟨c, xs, rfl, hu', hxs⟩ := hu.word hon
          walk_at "w"
          refine w_D (fun z => nomatch z) fun _ => ?_
          walk_at "w"
          refine w_ixT hu' (atI_ok (by decide) rfl) ?_
          walk_at "w"
          refine w_ND (fun c1 => absurd ((wy_tired wy).mp c1) hw) fun c1 => ?_
          walk_at "w"
          refine w_ixT hv1 rfl ?_
          walk_at "w"
          refine ⟨P, _, d, m, _, b, bx1, w1, _, _, _, rfl, ⟨q, qs, rfl, o1.base.seq hq1, hq2.mono o1.base⟩, hp.mono o1.base, o1.lend, up.block h2, hs, fun H2 u2 o2 hu2 => ?_⟩
          with_reducible refine w_name ?_
          exact fin H2 u2 (o1.same1 o2) hu2 (hu.overD o1 mutD3 o2)
      with_reducible refine w_name ?_
      iterate 4 walk_at "w1"
      exact last
  | ife e l m =>
    obtain ⟨x, p, q, ps, qs, ⟨a, rfl, hv0⟩, hx, hp1, hp2, hq1, hq2⟩ := hat
    have hv := same_tup o.same hv0
    obtain ⟨⟨wy, z⟩, w1, h1, hl, hy, hn⟩ := thenT_len he fun v w1 hk => (G.block hk).1
    have hon := (notOn_ev P n).tree h1
    walk_at "w"
    refine w_ixT hv rfl ?_
    walk_at "w"
    refine w_ixT hv rfl ?_
    walk_at "w"
    refine w_ixT hv rfl ?_
    walk_at "w"
    refine w_ixT hv rfl ?_
    walk_at "w"
    refine w_ixT hv rfl ?_
    walk_at "w"
    refine w_ixT hv rfl ?_
    walk_at "w"
    refine ⟨_, rfl, ?_⟩
    walk_at "w"
    refine w_ixT hv rfl ?_
    walk_at "w"
    refine ⟨P, _, d, e, x, b, bx, w, _, _, rfl, hx.mono o.base, hp.mono o.base, o.lend, h1, Nat.lt_of_le_of_lt hl hs, fun H1 u o1 hu => ?_⟩
    replace o1 := o.same1 o1
    have hv1 := same_tup o1.same hv0
    obtain ⟨c, xs, rfl, hu', hxs⟩ := hu.word hon
    walk_at "w"
    refine w_ixT hu' (atI_ok (by decide) rfl) ?_
    walk_at "w"
    refine w_ND (fun c1 => ?_) (fun c1 => ?_) <;> rw [wy_value] at c1
    · replace hy := hy c1
      dsimp only at c1 hy
      subst c1
      obtain rfl := hxs (by intro h; cases h) (by intro h; cases h)
      walk_at "w"
      refine w_ixT hv1 rfl ?_
      walk_at "w"
      refine w_ixT hu' rfl ?_
      walk_at "w"
      refine ⟨_, rfl, ?_⟩
      by_cases c2 : z = 0
      · rw [if_pos c2] at hy
        rw [decide_eq_true c2]
        walk_at "w"
        refine w_ixT hv1 rfl ?_
        walk_at "w"
        exact ⟨P, H0, d, m, _, b, bx, w1, r, bx', w', rfl, ⟨q, qs, rfl, hq1, hq2⟩, hp, o1, hy, hs, k⟩
      · rw [if_neg c2] at hy
        rw [decide_eq_false c2]
        walk_at "w"
        refine w_ixT hv1 rfl ?_
        walk_at "w"
        exact ⟨P, H0, d, l, _, b, bx, w1, r, bx', w', rfl, ⟨p, ps, rfl, hp1, hp2⟩, hp, o1, hy, hs, k⟩
    · obtain ⟨rfl, rfl, rfl⟩ := hn c1
      walk_at "w"
      exact k _ _ o1 hu
  | give e =>
    obtain ⟨x, ⟨a, rfl, hv0⟩, hx⟩ := hat
    have hv := same_tup o.same hv0
    obtain ⟨⟨wy, z⟩, w1, h1, hl, hy, hn⟩ := thenT_len he fun v w1 hk => by cases hk; exact Le.refl _
    have hon := (notOn_ev P n).tree h1
    walk_at "w"
    refine w_ixT hv rfl ?_
    walk_at "w"
    refine w_ixT hv rfl ?_
    walk_at "w"
    refine w_ixT hv rfl ?_
    walk_at "w"
    refine w_ixT hv rfl ?_
    walk_at "w"
    refine w_ixT hv rfl ?_
    walk_at "w"
    refine w_ixT hv rfl ?_
    walk_at "w"
    refine ⟨_, rfl, ?_⟩
    walk_at "w"
    refine w_ixT hv rfl ?_
    walk_at "w"
    refine ⟨P, _, d, e, x, b, bx, w, _, _, rfl, hx.mono o.base, hp.mono o.base, o.lend, h1, Nat.lt_of_le_of_lt hl hs, fun H1 u o1 hu => ?_⟩
    replace o1 := o.same1 o1
    have hv1 := same_tup o1.same hv0
    obtain ⟨c, xs, rfl, hu', hxs⟩ := hu.word hon
    walk_at "w"
    refine w_ixT hu' (atI_ok (by decide) rfl) ?_
    walk_at "w"
    refine w_ND (fun c1 => ?_) (fun c1 => ?_) <;> rw [wy_value] at c1
    · replace hy := hy c1
      dsimp only at c1
      subst c1
      obtain rfl := hxs (by intro h; cases h) (by intro h; cases h)
      cases hy
      walk_at "w"
      refine w_ixT hv1 rfl ?_
      walk_at "w"
      refine w_ixT hv1 rfl ?_
      walk_at "w"
      refine w_ixT hu' rfl ?_
      walk_at "w"
      exact fun p h1 => k _ _ (o1.lay h1) new_tup
    · obtain ⟨rfl, rfl, rfl⟩ := hn c1
      walk_at "w"
      exact k _ _ o1 hu
  | raise e =>
    obtain ⟨x, ⟨a, rfl, hv0⟩, hx⟩ := hat
    have hv := same_tup o.same hv0
    obtain ⟨⟨wy, z⟩, w1, h1, hl, hy, hn⟩ := thenT_len he fun v w1 hk => by cases hk; exact Le.refl _
    have hon := (notOn_ev P n).tree h1
    walk_at "w"
    refine w_ixT hv rfl ?_
    walk_at "w"
    refine w_ixT hv rfl ?_
    walk_at "w"
    refine w_ixT hv rfl ?_
    walk_at "w"
    refine w_ixT hv rfl ?_
    walk_at "w"
    refine w_ixT hv rfl ?_
    walk_at "w"
    refine w_ixT hv rfl ?_
    walk_at "w"
    refine ⟨_, rfl, ?_⟩
    walk_at "w"
    refine w_ixT hv rfl ?_
    walk_at "w"
    refine ⟨P, _, d, e, x, b, bx, w, _, _, rfl, hx.mono o.base, hp.mono o.base, o.lend, h1, Nat.lt_of_le_of_lt hl hs, fun H1 u o1 hu => ?_⟩
    replace o1 := o.same1 o1
    have hv1 := same_tup o1.same hv0
    obtain ⟨c, xs, rfl, hu', hxs⟩ := hu.word hon
    walk_at "w"
    refine w_ixT hu' (atI_ok (by decide) rfl) ?_
    walk_at "w"
    refine w_ND (fun c1 => ?_) (fun c1 => ?_) <;> rw [wy_value] at c1
    · replace hy := hy c1
      dsimp only at c1
      subst c1
      obtain rfl := hxs (by intro h; cases h) (by intro h; cases h)
      cases hy
      walk_at "w"
      refine w_ixT hv1 rfl ?_
      walk_at "w"
      refine w_ixT hv1 rfl ?_
      walk_at "w"
      refine w_ixT hv1 rfl ?_
      walk_at "w"
      refine w_ixT hu' rfl ?_
      walk_at "w"
      exact fun p h1 => k _ _ (o1.lay h1) new_tup
    · obtain ⟨rfl, rfl, rfl⟩ := hn c1
      walk_at "w"
      exact k _ _ o1 hu
  | set kk e =>
    obtain ⟨x, ⟨a, rfl, hv0⟩, hx⟩ := hat
    have hv := same_tup o.same hv0
    obtain ⟨⟨wy, z⟩, w1, h1, hl, hy, hn⟩ := thenT_len he fun v w1 hk => by
      split at hk
      · cases hk; exact Le.refl _
      · cases hk
    have hon := (notOn_ev P n).tree h1
    walk_at "w"
    refine w_ixT hv rfl ?_
    walk_at "w"
    refine w_ixT hv rfl ?_
    walk_at "w"
    refine w_ixT hv rfl ?_
    walk_at "w"
    refine w_ixT hv rfl ?_
    walk_at "w"
    refine w_ixT hv rfl ?_
    walk_at "w"
    refine w_ixT hv rfl ?_
    walk_at "w"
    refine ⟨_, rfl, ?_⟩
    walk_at "w"
    refine w_ixT hv rfl ?_
    walk_at "w"
    refine ⟨P, _, d, e, x, b, bx, w, _, _, rfl, hx.mono o.base, hp.mono o.base, o.lend, h1, Nat.lt_of_le_of_lt hl hs, fun H1 u o1 hu => ?_⟩
    replace o1 := o.same1 o1
    have hv1 := same_tup o1.same hv0
    obtain ⟨c, xs, rfl, hu', hxs⟩ := hu.word hon
    walk_at "w"
    refine w_ixT hu' (atI_ok (by decide) rfl) ?_
    walk_at "w"
    refine w_ND (fun c1 => ?_) (fun c1 => ?_) <;> rw [wy_value] at c1
    · replace hy := hy c1
      dsimp only at c1
      subst c1
      obtain rfl := hxs (by intro h; cases h) (by intro h; cases h)
      split at hy
      · rename_i hk
        cases hy
        have hb := o1.ix 2 rfl
        have o2 := o1.set 2 (.lst ((bx.map V.int).set kk.toNat (.int z))) rfl
        walk_at "w"
        refine w_ixT hv1 rfl ?_
        walk_at "w"
        refine w_ixT hv1 rfl ?_
        walk_at "w"
        refine w_ixT hv1 rfl ?_
        walk_at "w"
        refine w_ixT hv1 rfl ?_
        walk_at "w"
        refine w_ixT hu' rfl ?_
        walk_at "w"
        refine w_ixT hv1 rfl ?_
        refine w_setL hb hk.1 (by rw [List.length_map]; exact hk.2) ?_
        walk_at "w"
        rw [← List.map_set] at o2 ⊢
        exact k _ _ o2 rfl
      · cases hy
    · obtain ⟨rfl, rfl, rfl⟩ := hn c1
      walk_at "w"
      exact k _ _ o1 hu
  | say e =>
    obtain ⟨x, ⟨a, rfl, hv0⟩, hx⟩ := hat
    have hv := same_tup o.same hv0
    obtain ⟨⟨wy, z⟩, w1, h1, hl, hy, hn⟩ := thenT_len he fun v w1 hk => by
      cases hk
      exact ⟨List.prefix_append _ _, Nat.le_refl _, rfl⟩
    have hon := (notOn_ev P n).tree h1
    walk_at "w"
    refine w_ixT hv rfl ?_
    walk_at "w"
    refine w_ixT hv rfl ?_
    walk_at "w"
    refine w_ixT hv rfl ?_
    walk_at "w"
    refine w_ixT hv rfl ?_
    walk_at "w"
    refine w_ixT hv rfl ?_
    walk_at "w"
    refine w_ixT hv rfl ?_
    walk_at "w"
    refine ⟨_, rfl, ?_⟩
    walk_at "w"
    refine w_ixT hv rfl ?_
    walk_at "w"
    refine ⟨P, _, d, e, x, b, bx, w, _, _, rfl, hx.mono o.base, hp.mono o.base, o.lend, h1, Nat.lt_of_le_of_lt hl hs, fun H1 u o1 hu => ?_⟩
    replace o1 := o.same1 o1
    have hv1 := same_tup o1.same hv0
    obtain ⟨c, xs, rfl, hu', hxs⟩ := hu.word hon
    walk_at "w"
    refine w_ixT hu' (atI_ok (by decide) rfl) ?_
    walk_at "w"
    refine w_ND (fun c1 => ?_) (fun c1 => ?_) <;> rw [wy_value] at c1
    · replace hy := hy c1
      dsimp only at c1
      subst c1
      obtain rfl := hxs (by intro h; cases h) (by intro h; cases h)
      cases hy
      have hw := o1.ix 0 rfl
      have hsd := o1.ix 1 rfl
      have o2 := o1.set 1 (.lst (w1.said.map V.int ++ [.int z])) rfl
      walk_at "w"
      refine w_ixT hv1 rfl ?_
      walk_at "w"
      refine w_ixT hv1 rfl ?_
      walk_at "w"
      refine w_ixT hv1 rfl ?_
      walk_at "w"
      refine w_ixT hv1 rfl ?_
      walk_at "w"
      refine w_ixT hu' rfl ?_
      walk_at "w"
      refine w_app hsd (by rw [List.length_map]; exact Nat.lt_of_le_of_lt hl (lim_lt hs)) ?_
      walk_at "w"
      have e1 : w1.said.map V.int ++ [V.int z] = (w1.said ++ [z]).map V.int := by simp
      rw [e1] at o2 ⊢
      exact k _ _ o2 rfl
    · obtain ⟨rfl, rfl, rfl⟩ := hn c1
      walk_at "w"
      exact k _ _ o1 hu
  | ctch l m kk hh =>
    obtain ⟨p, q, ps, qs, ⟨a, rfl, hv0⟩, hp1, hp2, hq1, hq2⟩ := hat
    have hv := same_tup o.same hv0
    dsimp only at he
    cases n with
    | zero => cases he
    | succ j =>
    have he : ctchS (ev P j) l m kk hh bx w = some (r, bx', w') := he
    unfold ctchS at he
    have up := leE_ev P j
    cases h1 : (ev P j).block l bx w with
    | none => rw [h1] at he; cases he
    | some x =>
    obtain ⟨⟨wy, z⟩, bx1, w1⟩ := x
    rw [h1] at he
    have hs1 : w1.said.length < LIM := by
      cases wy with
      | fault =>
        dsimp only at he
        split at he
        · cases he; exact hs
        · split at he
          · exact Nat.lt_of_le_of_lt (sms_block_len he) hs
          · cases he
      | _ => cases he; exact hs
    walk_at "w"
    refine w_ixT hv rfl ?_
    walk_at "w"
    refine w_ixT hv rfl ?_
    walk_at "w"
    refine w_ixT hv rfl ?_
    walk_at "w"
    refine w_ixT hv rfl ?_
    walk_at "w"
    refine w_ixT hv rfl ?_
    walk_at "w"
    refine ⟨P, _, d, l, _, b, bx, w, _, _, _, rfl, ⟨p, ps, rfl, o.base.seq hp1, hp2.mono o.base⟩, hp.mono o.base, o.lend, up.block h1, hs1, fun H1 u o1 hu => ?_⟩
    replace o1 := o.same1 o1
    have hv1 := same_tup o1.same hv0
    by_cases hon : wy = .on
    · subst hon
      cases he
      have hun : u = .non := hu
      subst hun
      walk_at "w"
      exact k _ _ o1 hu
    obtain ⟨c, xs, rfl, hu', hxs⟩ := hu.word hon
    walk_at "w"
    refine w_D (fun z => nomatch z) fun _ => ?_
    walk_at "w"
    refine w_ixT hu' (atI_ok (by decide) rfl) ?_
    walk_at "w"
    refine w_ND (fun c1 => ?_) (fun c1 => ?_) <;> rw [wy_fault] at c1
    · dsimp only at c1
      subst c1
      dsimp only at he
      obtain rfl := hxs (by intro h; cases h) (by intro h; cases h)
      have go : ¬ (m ≠ none ∧ some z ≠ m) → sp_l_done K (j + 1) [V.ref q, .ref b, .ref d.a] (upd H1 b (.lst ((bx1.map V.int).set kk.toNat (.int z)))) Q E ∧ 0 ≤ kk ∧ kk < bx1.length := fun cn => by
        rw [if_neg cn] at he
        split at he
        · rename_i hk
          have o2 := o1.set 2 (.lst ((bx1.map V.int).set kk.toNat (.int z))) rfl
          rw [← List.map_set] at o2 ⊢
          exact ⟨⟨P, H0, d, hh, _, b, bx1.set kk.toNat z, w1, r, bx', w', rfl, ⟨q, qs, rfl, hq1, hq2⟩, hp, o2, up.block he, hs, k⟩, hk⟩
        · cases he
      have hb := o1.ix 2 rfl
      walk_at "w"
      refine w_ixT hv1 rfl ?_
      walk_at "w"
      refine w_ND (fun c2 => ?_) (fun c2 => ?_) <;> rw [goalV_non] at c2
      · obtain ⟨g1, g2, g3⟩ := go fun hz => hz.1 c2
        walk_at "w"
        refine w_ixT hu' rfl ?_
        walk_at "w"
        refine w_ixT hv1 rfl ?_
        refine w_setL hb g2 (by rw [List.length_map]; exact g3) ?_
        walk_at "w"
        refine w_ixT (tup_put hb hv1) rfl ?_
        walk_at "w"
        exact g1
      · cases m with
        | none => exact absurd rfl c2
        | some g =>
        walk_at "w"
        refine w_ixT hv1 rfl ?_
        dsimp only [goalV]
        walk_at "w"
        refine w_ixT hu' rfl ?_
        walk_at "w"
        refine w_ND (fun c3 => ?_) (fun c3 => ?_)
        · obtain ⟨g1, g2, g3⟩ := go fun hz => hz.2 (by rw [c3])
          walk_at "w"
          refine w_ixT hu' rfl ?_
          walk_at "w"
          refine w_ixT hv1 rfl ?_
          refine w_setL hb g2 (by rw [List.length_map]; exact g3) ?_
          walk_at "w"
          refine w_ixT (tup_put hb hv1) rfl ?_
          walk_at "w"
          exact g1
        · have c4 : ¬ (some z = some g) := fun e => c3 (Option.some.inj e).symm
          rw [if_pos ⟨c2, c4⟩] at he
          cases he
          walk_at "w"
          exact k _ _ o1 hu
    · walk_at "w"
      cases wy with
      | fault => exact absurd rfl c1
      | on => exact absurd rfl hon
      | _ => cases he; exact k _ _ o1 hu
end
end U

set_option maxHeartbeats 4000000
namespace U
open PySem PySem.Spec PyProof.Rows L2 Un
local macro_rules | `(tactic| walk_at "w1") => `(tactic| first
  | with_reducible refine w_tDGet ?_
  | ((with_reducible refine' w_dget ?h1 ?h2 ?_); (case h1 => assumption); (case h2 => rfl)))
local macro_rules | `(tactic| walk_at "w1") => `(tactic| first
  | with_reducible refine w_seq ?_
  | with_reducible refine w_asg ?_
  | with_reducible refine w_op ?_
  | ((with_reducible refine' w_var ?h1 ?_); (case h1 => rfl))
  | with_reducible refine w_c ?_
  | with_reducible refine w_name ?_
  | with_reducible refine w_tFd ?_
  | ((with_reducible refine' w_fld ?h1 ?h2 ?_); (case h1 => assumption); (case h2 => rfl))
  | with_reducible refine w_if ?_
  | with_reducible refine w_test ?_
  | with_reducible refine w_eqS ?_
  | with_reducible refine w_eqI ?_
  | with_reducible refine w_neS ?_
  | with_reducible refine w_neI ?_
  | with_reducible refine w_isN ?_
  | with_reducible refine w_isnN ?_
  | with_reducible refine w_bl ?_
  | with_reducible refine w_ret ?_
  | with_reducible refine w_drop ?_
  | with_reducible refine w_next ?_
  | with_reducible refine w_cons ?_
  | with_reducible refine w_nil ?_
  | with_reducible refine w_call ?_
  | with_reducible refine w_cb ?_
  | with_reducible refine w_meth ?_
  | ((with_reducible refine' w_recv ?h1 ?h2 ?_); (case h1 => assumption); (case h2 => rfl))
  | with_reducible refine w_sFd ?_
  | ((with_reducible refine' w_put ?h1 ?h2 ?_); (case h1 => assumption); (case h2 => exact Nat.le_of_ble_eq_true rfl))
  | with_reducible refine w_add ?_
  | with_reducible refine w_sub ?_
  | with_reducible refine w_lt ?_
  | with_reducible refine w_le ?_
  | with_reducible refine w_gt ?_
  | with_reducible refine w_ge ?_
  | with_reducible refine w_bm ?_
  | with_reducible refine w_bm0 ?_
  | ((with_reducible refine' w_ty ?h1 ?_); (case h1 => assumption))
  | with_reducible refine w_tup ?_
  | with_reducible refine w_lst ?_
  | ((with_reducible refine' w_new ?h1 ?_); (case h1 => exact Nat.le_of_ble_eq_true rfl))
  | with_reducible refine w_gsub ?_
  | with_reducible refine w_make ?_
  | with_reducible refine w_lc ?_
  | with_reducible refine w_iList ?_
  | with_reducible refine w_for ?_
  | with_reducible refine w_yes ?_
  | with_reducible refine w_tSl ?_
  | with_reducible refine w_part ?_
  | with_reducible refine w_nopart ?_
  | with_reducible refine w_i ?_
  | with_reducible refine w_rng1 ?_
  | with_reducible refine w_rng2 ?_
  | with_reducible refine w_isiII ?_
  | with_reducible refine w_isiIB ?_
  | with_reducible refine w_isiSS ?_
  | ((with_reducible refine w_mod ?h1 ?_); (case h1 => decide))
  | ((with_reducible refine w_fdC' ?h1 ?h2 ?_); (case h1 => decide); (case h2 => decide))
  | ((with_reducible refine w_mulR ?h1 ?h2 ?_); (case h1 => decide); (case h2 => decide))
  | ((with_reducible refine w_mulL ?h1 ?h2 ?_); (case h1 => decide); (case h2 => decide))
  | ((with_reducible refine w_pow' ?h1 ?h2 ?h3 ?_); (case h1 => decide); (case h2 => decide); (case h3 => decide))
  | with_reducible refine w_andV ?_
  | with_reducible refine w_orV ?_
  | with_reducible refine w_notV ?_
  | with_reducible refine w_B ?_
  | with_reducible refine w_not ?_
  | with_reducible refine w_and ?_
  | with_reducible refine w_or ?_
  | with_reducible refine w_ifx ?_
  | with_reducible refine w_un ?_
  | ((with_reducible refine w_T ?h1 ?_); (case h1 => with_reducible rfl))
  | ((with_reducible refine w_F ?h1 ?_); (case h1 => with_reducible rfl))
  | ((with_reducible refine w_T ?h1 ?_); (case h1 => decide +kernel))
  | ((with_reducible refine w_F ?h1 ?_); (case h1 => decide +kernel)))
local macro_rules | `(tactic| walk_at "w") => `(tactic| repeat walk_at "w1")

section
variable {K : PySem.W.Frag}
theorem w_isiTS {H : Hp} {Q : VK} {a : Addr} {xs : List V} (h : SqT K H a xs) (q : Q (.bl true) H) : rIsi K [.ref a, .ty "tuple"] H Q := by
  rcases h with (h | ⟨o, h⟩) | ⟨o, its, n, h1, h2, _⟩
  · exact w_isiTT h q
  · exact ⟨_, _, _, _, true, rfl, .ty _, .fTuple h, kit_ty (by decide +kernel), q⟩
  · exact ⟨_, _, _, _, true, rfl, .ty _, .kTuple h1 h2, kit_ty (by decide +kernel), q⟩
theorem w_isiIT {H : Hp} {Q : VK} {i : Int} (q : Q (.bl false) H) : rIsi K [.int i, .ty "tuple"] H Q := ⟨_, _, _, _, false, rfl, .ty _, .base (.int i), kit_ty (by decide +kernel), q⟩
theorem TreeAt.tup {H : Hp} {t : Un.Tree} {v : V} (h : TreeAt K H t v) : ∃ a xs, v = .ref a ∧ SqT K H a xs := by
  cases t with
  | num n => obtain ⟨a, e, h⟩ := h; exact ⟨a, _, e, h⟩
  | box n => obtain ⟨a, e, h⟩ := h; exact ⟨a, _, e, h⟩
  | call f t => obtain ⟨x, ⟨a, e, h⟩, _⟩ := h; exact ⟨a, _, e, h⟩
  | bin o s t => obtain ⟨x, y, ⟨a, e, h⟩, _⟩ := h; exact ⟨a, _, e, h⟩
/-- the parts that are trees, one after the other -/
def partsS (E : Ev) : List (Option Un.Tree) → List Int → Wd → List Int → Option ((Res ⊕ List Int) × Wd)
  | [], _, w, zs => some (.inr zs, w)
  | none :: r, bx, w, zs => partsS E r bx w zs
  | some t :: r, bx, w, zs => match E.tree t bx w with
    | some ((.value, z), w1) => partsS E r bx w1 (zs ++ [z])
    | some (q, w1) => some (.inl q, w1)
    | none => none
theorem partsS_len {P : List (List Sm)} {n : Nat} : ∀ (ts : List (Option Un.Tree)) {bx : List Int} {w : Wd} {zs : List Int} {q : Res ⊕ List Int} {wf : Wd}, partsS (ev P n) ts bx w zs = some (q, wf) → w.said.length ≤ wf.said.length
  | [], _, _, _, _, _, h => by cases h; exact Nat.le_refl _
  | none :: r, _, _, _, _, _, h => partsS_len r h
  | some t :: r, bx, w, zs, q, wf, h => by
    unfold partsS at h
    cases h1 : (ev P n).tree t bx w with
    | none => rw [h1] at h; cases h
    | some p =>
      obtain ⟨⟨y, z⟩, w1⟩ := p
      rw [h1] at h
      have l := ((good_ev P n).tree h1).len
      cases y with
      | value => exact Nat.le_trans l (partsS_len r h)
      | _ => cases h; exact l
def PartAt (K : PySem.W.Frag) (H : Hp) (v : V) : Option Un.Tree → Prop
  | none => ∃ i, v = .int i
  | some t => TreeAt K H t v
abbrev bodyV (K : PySem.W.Frag) (spv : Sp) : TS := tIfS (tB (tCB (rIsi K) (tCons (tVar 4) (tCons (tC (.ty "tuple")) tNil)))) (tSeq (tAsg (tCall spv [] E0 (tCons (tVar 4) (tCons (tVar 1) (tCons (tVar 2) tNil)))) (gName 5))
    (tSeq (tIfS (tTest (tOp rNe (tOp (rIxT K) (tVar 5) (tC (.int 0))) (tC (.str "value")))) (tRet (tVar 5)) tNext)
    (tDrop (tBM K "list" rAppend (tVar 3) (tCons (tOp (rIxT K) (tVar 5) (tC (.int 1))) tNil))))) tNext
/-- the for over the parts -/
theorem parts_for {P : List (List Sm)} {n : Nat} {H0 : Hp} {d : WA} {b pl xa : Addr} {tv : V} {bx : List Int} {w wf : Wd} {res : Res ⊕ List Int} {ts : List (Option Un.Tree)} {xs : List V} {H : Hp} {Q : VK} {nx : L2.St → Hp → Prop} {x5 x6 : Option V}
    (hp : ProgAt K H0 P d.pa) (hat : All2 (PartAt K H0) xs ts) (o : Own H0 H ([dwC d w, sdC d w, bxC b bx] ++ [(pl, .lst [])])) (hxa : IsTup K (less H [dwC d w, sdC d w, bxC b bx, (pl, .lst [])]) (.ref xa) xs)
    (hts : xs.length ≤ 5) (he : partsS (ev P n) ts bx w [] = some (res, wf)) (hs : wf.said.length < LIM)
    (k1 : ∀ q, res = .inl q → ∀ H' u, Own H0 H' ([dwC d wf, sdC d wf, bxC b bx]) → LAt K H' u q → Q u H')
    (k2 : ∀ zs, res = .inr zs → ∀ H' y5 y6, Own H0 H' ([dwC d wf, sdC d wf, bxC b bx] ++ [(pl, .lst (zs.map V.int))]) → nx [some tv, some (.ref b), some (.ref d.a), some (.ref pl), y5, y6] H') :
    ∃ W : Nat → Nat → L2.St → Hp → Prop, (∃ m, W 0 m [some tv, some (.ref b), some (.ref d.a), some (.ref pl), x5, x6] H) ∧ ∀ i m σ H, W i m σ H →
      ((Itt K xa).stop i H ∧ nx σ H) ∨ ((Itt K xa).go i H ∧ ∃ N : L2.St → Hp → Prop, (∀ σ' H', N σ' H' → ∃ m', m' < m ∧ W (i + 1) m' σ' H') ∧ ∀ x H', (Itt K xa).yld i H x H' → gName 4 x σ H' fun σ2 H2 => bodyV K (sp_l_value K n) { nx := N, ct := N, bk := nx, rt := Q } σ2 H2) := by
  refine for_tup (D := { nx := nx, rt := Q }) (xs := xs) (fun i σ H' => ∃ w1 zs y5 y6, Own H0 H' ([dwC d w1, sdC d w1, bxC b bx] ++ [(pl, .lst (zs.map V.int))]) ∧ Same (less H [dwC d w, sdC d w, bxC b bx, (pl, .lst [])]) (less H' [dwC d w1, sdC d w1, bxC b bx, (pl, .lst (zs.map V.int))]) ∧ zs.length ≤ i ∧
      partsS (ev P n) (ts.drop i) bx w1 zs = some (res, wf) ∧ σ = [some tv, some (.ref b), some (.ref d.a), some (.ref pl), y5, y6])
    ⟨w, [], _, _, o, Same.refl _, Nat.le_refl _, he, rfl⟩ (fun i σ H' _ h => ?_) ?_ ?_
  · obtain ⟨w1, zs, y5, y6, o1, s1, _⟩ := h
    obtain ⟨c, e, h⟩ := hxa
    cases e
    exact same_tup (s1.trans same_less) h
  · rintro i x σ H' hx ⟨w1, zs, y5, y6, o1, s1, hz, he1, rfl⟩
    obtain ⟨t, ht, hd⟩ := hat.drop i hx
    have hi : i < xs.length := (List.getElem?_eq_some_iff.mp hx).1
    rw [hd] at he1
    cases t with
    | none =>
      obtain ⟨j, rfl⟩ := ht
      walk_at "w"
      refine w_isiIT ?_
      walk_at "w"
      exact ⟨w1, zs, _, _, o1, s1, by omega, he1, rfl⟩
    | some t =>
      have ht : TreeAt K H0 t x := ht
      unfold partsS at he1
      cases h1 : (ev P n).tree t bx w1 with
      | none => rw [h1] at he1; cases he1
      | some q =>
      obtain ⟨⟨wy, z⟩, w2⟩ := q
      rw [h1] at he1
      have hs2 : w2.said.length < LIM := by
        cases wy with
        | value => exact Nat.lt_of_le_of_lt (partsS_len _ he1) hs
        | _ => cases he1; exact hs
      obtain ⟨c, ys, rfl, hc⟩ := (ht.mono o1.same).tup
      walk_at "w"
      refine w_isiTS hc ?_
      walk_at "w"
      refine ⟨P, _, d, t, _, b, bx, w1, _, _, rfl, ht.mono o1.sub.base, hp.mono o1.sub.base, o1.sub.lend, h1, hs2, fun H2 u o2 hu => ?_⟩
      have o3 := o1.back o2
      have s2 : Same (less H' [dwC d w1, sdC d w1, bxC b bx, (pl, .lst (zs.map V.int))]) (less H2 [dwC d w2, sdC d w2, bxC b bx, (pl, .lst (zs.map V.int))]) := by
        intro a v e
        by_cases ha : a ∈ ads [dwC d w1, sdC d w1, bxC b bx, (pl, .lst (zs.map V.int))]
        · rw [less_on ha] at e; cases e
        · rw [less_off (show a ∉ ads [dwC d w2, sdC d w2, bxC b bx, (pl, .lst (zs.map V.int))] from ha)]
          rw [less_off ha] at e
          refine o2.same a v ?_
          rw [less_off fun hm => ha (by
            rcases List.mem_cons.mp hm with h | hm
            · exact h ▸ List.mem_cons_self ..
            · refine List.mem_cons_of_mem _ ?_
              rcases List.mem_cons.mp hm with h | hm
              · exact h ▸ List.mem_cons_self ..
              · refine List.mem_cons_of_mem _ ?_
                rcases List.mem_cons.mp hm with h | hm
                · exact h ▸ List.mem_cons_self ..
                · cases hm)]
          exact e
      have hon := (notOn_ev P n).tree h1
      obtain ⟨c1, xs1, rfl, hu', hxs⟩ := hu.word hon
      walk_at "w"
      refine w_ixT hu' (atI_ok (by decide) rfl) ?_
      walk_at "w"
      refine w_ND (fun c2 => ?_) (fun c2 => ?_) <;> rw [wy_value] at c2
      · dsimp only at c2
        subst c2
        obtain rfl := hxs (by intro h; cases h) (by intro h; cases h)
        have hpl := o3.ix 3 rfl
        walk_at "w"
        refine w_ixT hu' rfl ?_
        walk_at "w"
        refine w_app hpl (by rw [sizeLine_eq, List.length_map]; omega) ?_
        walk_at "w"
        have e1 : zs.map V.int ++ [V.int z] = (zs ++ [z]).map V.int := by simp
        have l4 : less (upd H2 pl (.lst (zs.map V.int ++ [V.int z]))) [dwC d w2, sdC d w2, bxC b bx, (pl, .lst (zs.map V.int ++ [V.int z]))] = less H2 [dwC d w2, sdC d w2, bxC b bx, (pl, .lst (zs.map V.int))] := less_put (L := [dwC d w2, sdC d w2, bxC b bx, (pl, .lst (zs.map V.int))]) 3 rfl
        have o4 : Own H0 (upd H2 pl (.lst (zs.map V.int ++ [V.int z]))) ([dwC d w2, sdC d w2, bxC b bx] ++ [(pl, .lst (zs.map V.int ++ [V.int z]))]) := o3.set 3 (.lst (zs.map V.int ++ [V.int z])) rfl
        rw [← l4] at s2
        rw [e1] at o4 s2 ⊢
        exact ⟨w2, zs ++ [z], _, _, o4, s1.trans s2, by rw [List.length_append]; simp; omega, he1, rfl⟩
      · walk_at "w"
        cases wy with
        | value => exact absurd rfl c2
        | _ => cases he1; exact k1 _ rfl _ _ (Own.sub o3) hu
  · rintro σ H' ⟨w1, zs, y5, y6, o1, s1, hz, he1, rfl⟩
    rw [hat.len, List.drop_length] at he1
    cases he1
    exact k2 zs rfl _ _ _ o1
end
end U

set_option maxHeartbeats 4000000
namespace U
open PySem PySem.Spec PyProof.Rows L2 Un
local macro_rules | `(tactic| walk_at "w1") => `(tactic| first
  | with_reducible refine w_tDGet ?_
  | ((with_reducible refine' w_dget ?h1 ?h2 ?_); (case h1 => assumption); (case h2 => rfl)))
local macro_rules | `(tactic| walk_at "w1") => `(tactic| first
  | with_reducible refine w_seq ?_
  | with_reducible refine w_asg ?_
  | with_reducible refine w_op ?_
  | ((with_reducible refine' w_var ?h1 ?_); (case h1 => rfl))
  | with_reducible refine w_c ?_
  | with_reducible refine w_name ?_
  | with_reducible refine w_tFd ?_
  | ((with_reducible refine' w_fld ?h1 ?h2 ?_); (case h1 => assumption); (case h2 => rfl))
  | with_reducible refine w_if ?_
  | with_reducible refine w_test ?_
  | with_reducible refine w_eqS ?_
  | with_reducible refine w_eqI ?_
  | with_reducible refine w_neS ?_
  | with_reducible refine w_neI ?_
  | with_reducible refine w_isN ?_
  | with_reducible refine w_isnN ?_
  | with_reducible refine w_bl ?_
  | with_reducible refine w_ret ?_
  | with_reducible refine w_drop ?_
  | with_reducible refine w_next ?_
  | with_reducible refine w_cons ?_
  | with_reducible refine w_nil ?_
  | with_reducible refine w_call ?_
  | with_reducible refine w_cb ?_
  | with_reducible refine w_meth ?_
  | ((with_reducible refine' w_recv ?h1 ?h2 ?_); (case h1 => assumption); (case h2 => rfl))
  | with_reducible refine w_sFd ?_
  | ((with_reducible refine' w_put ?h1 ?h2 ?_); (case h1 => assumption); (case h2 => exact Nat.le_of_ble_eq_true rfl))
  | with_reducible refine w_add ?_
  | with_reducible refine w_sub ?_
  | with_reducible refine w_lt ?_
  | with_reducible refine w_le ?_
  | with_reducible refine w_gt ?_
  | with_reducible refine w_ge ?_
  | with_reducible refine w_bm ?_
  | with_reducible refine w_bm0 ?_
  | ((with_reducible refine' w_ty ?h1 ?_); (case h1 => assumption))
  | with_reducible refine w_tup ?_
  | with_reducible refine w_lst ?_
  | ((with_reducible refine' w_new ?h1 ?_); (case h1 => exact Nat.le_of_ble_eq_true rfl))
  | with_reducible refine w_gsub ?_
  | with_reducible refine w_make ?_
  | with_reducible refine w_lc ?_
  | with_reducible refine w_iList ?_
  | with_reducible refine w_for ?_
  | with_reducible refine w_yes ?_
  | with_reducible refine w_tSl ?_
  | with_reducible refine w_part ?_
  | with_reducible refine w_nopart ?_
  | with_reducible refine w_i ?_
  | with_reducible refine w_rng1 ?_
  | with_reducible refine w_rng2 ?_
  | with_reducible refine w_isiII ?_
  | with_reducible refine w_isiIB ?_
  | with_reducible refine w_isiSS ?_
  | ((with_reducible refine w_mod ?h1 ?_); (case h1 => decide))
  | ((with_reducible refine w_fdC' ?h1 ?h2 ?_); (case h1 => decide); (case h2 => decide))
  | ((with_reducible refine w_mulR ?h1 ?h2 ?_); (case h1 => decide); (case h2 => decide))
  | ((with_reducible refine w_mulL ?h1 ?h2 ?_); (case h1 => decide); (case h2 => decide))
  | ((with_reducible refine w_pow' ?h1 ?h2 ?h3 ?_); (case h1 => decide); (case h2 => decide); (case h3 => decide))
  | with_reducible refine w_andV ?_
  | with_reducible refine w_orV ?_
  | with_reducible refine w_notV ?_
  | with_reducible refine w_B ?_
  | with_reducible refine w_not ?_
  | with_reducible refine w_and ?_
  | with_reducible refine w_or ?_
  | with_reducible refine w_ifx ?_
  | with_reducible refine w_un ?_
  | ((with_reducible refine w_T ?h1 ?_); (case h1 => with_reducible rfl))
  | ((with_reducible refine w_F ?h1 ?_); (case h1 => with_reducible rfl))
  | ((with_reducible refine w_T ?h1 ?_); (case h1 => decide +kernel))
  | ((with_reducible refine w_F ?h1 ?_); (case h1 => decide +kernel)))
local macro_rules | `(tactic| walk_at "w") => `(tactic| repeat walk_at "w1")

section
variable {K : PySem.W.Frag}
theorem w_iTup {σ : L2.St} {H : Hp} {tl : TE} {R : It → Hp → Prop} (h : tl σ H fun x H1 => ∃ a, x = .ref a ∧ (∃ xs, SqT K H1 a xs) ∧ R (Itt K a) H1) : iTup K tl σ H R := h
theorem w_slT {H : Hp} {Q : VK} {a : Addr} {xs : List V} {lo hi : Option Int} (h : SqT K H a xs) (hn : ¬ (HT.sIx xs.length 0 lo = 0 ∧ HT.sIx xs.length xs.length hi = xs.length)) (q : ∀ p, H p = none → Q (.ref p) (upd H p (.tup (cutV xs lo hi)))) : rSlT K (.ref a) lo hi H Q := ⟨a, xs, rfl, h, hn, q⟩
theorem w_refT {H : Hp} {a : Addr} {xs : List V} {P : Addr → Prop} (h : SqT K H a xs) (q : P a) : ∃ a', V.ref a = .ref a' ∧ (∃ xs, SqT K H a' xs) ∧ P a' := ⟨a, rfl, ⟨xs, h⟩, q⟩
theorem p_l_value (n : Nat) (vs : List V) (H : Hp) (Q : VK) (E : XK) (h : sp_l_value K (n + 1) vs H Q E) :
    t_l_value K (sp_l_value K n) (sp_l_call K n) { nx := fun _ H' => Q .non H', rt := Q } (L2.start n_l_value vs) H := by
  obtain ⟨P, H0, d, t, v, b, bx, w, r, w', rfl, ht, hp, o, he, hs, k⟩ := h
  have he : treeS (ev P n) t bx w = some (r, w') := he
  unfold treeS at he
  unfold t_l_value
  have G := good_ev P n
  cases t with
  | num m =>
    obtain ⟨a, rfl, hv0⟩ := ht
    have hv := same_tup o.same hv0
    cases he
    walk_at "w"
    refine w_ixT hv rfl ?_
    walk_at "w"
    refine w_ixT hv rfl ?_
    walk_at "w"
    exact fun p h1 => k _ _ (o.lay h1) new_tup
  | box m =>
    obtain ⟨a, rfl, hv0⟩ := ht
    have hv := same_tup o.same hv0
    dsimp only at he
    cases hm : at? bx m with
    | none => rw [hm] at he; cases he
    | some x =>
    rw [hm] at he
    cases he
    walk_at "w"
    refine w_ixT hv rfl ?_
    walk_at "w"
    refine w_ixT hv rfl ?_
    walk_at "w"
    refine w_ixT hv rfl ?_
    refine w_ixL (SqL.of (o.ix 2 rfl)) (at?_at hm) ?_
    walk_at "w"
    exact fun p h1 => k _ _ (o.lay h1) new_tup
  | call f t =>
    obtain ⟨x, ⟨a, rfl, hv0⟩, hx⟩ := ht
    have hv := same_tup o.same hv0
    dsimp only at he
    walk_at "w"
    refine w_ixT hv rfl ?_
    walk_at "w"
    refine w_ixT hv rfl ?_
    walk_at "w"
    refine fun pl hpl => ?_
    have o1 : Own H0 (upd H pl (.lst [])) ([dwC d w, sdC d w, bxC b bx] ++ [(pl, .lst [])]) := (o.take (o := .lst []) hpl).perm (List.perm_append_comm (l₁ := [_]) (l₂ := [_, _, _]))
    generalize upd H pl (.lst []) = H at o1 ⊢
    have hv := same_tup o1.same hv0
    with_reducible refine w_name ?_
    with_reducible refine w_seq ?_
    refine w_for (w_iTup ?_)
    walk_at "w"
    refine w_slT hv (fun h => absurd h.1 (by exact (by decide : ¬ HT.sIx 3 0 (some 1) = 0))) fun xa hxa => ?_
    have ecut : cutV [V.str "call", V.int f, x] (some 1) none = [.int f, x] := cut_from _ 1
    rw [ecut]
    have f1 : IsTup K (less (upd H xa (.tup [.int f, x])) ([dwC d w, sdC d w, bxC b bx] ++ [(pl, .lst [])])) (.ref xa) [.int f, x] := lessTup o1 hxa
    have o2 := o1.lay (o := .tup [.int f, x]) hxa
    generalize upd H xa (.tup [.int f, x]) = H at o2 f1 ⊢
    refine w_refT (same_tup same_less (show SqT K _ xa _ by obtain ⟨c, e, h⟩ := f1; cases e; exact h)) ?_
    cases h1 : partsS (ev P n) [none, some t] bx w [] with
    | none =>
      exfalso
      unfold partsS at h1
      unfold partsS at h1
      cases h2 : (ev P n).tree t bx w with
      | none => rw [h2] at he; cases he
      | some q =>
        obtain ⟨⟨wy, z⟩, w1⟩ := q
        rw [h2] at h1
        cases wy <;> cases h1
    | some q =>
    obtain ⟨res, wf⟩ := q
    have key : (∀ q, res = .inl q → q = r ∧ wf = w') ∧ (∀ zs, res = .inr zs → ∃ z, zs = [z] ∧ (ev P n).call f z wf = some (r, w')) := by
      have h3 := h1
      unfold partsS at h3
      unfold partsS at h3
      cases h2 : (ev P n).tree t bx w with
      | none => rw [h2] at h3; cases h3
      | some q =>
        obtain ⟨⟨wy, z⟩, w1⟩ := q
        rw [h2] at h3 he
        cases wy with
        | value =>
          cases h3
          exact ⟨fun q e => (by cases e), fun zs e => (by cases e; exact ⟨z, rfl, he⟩)⟩
        | _ =>
          cases h3
          cases he
          exact ⟨fun q e => (by cases e; exact ⟨rfl, rfl⟩), fun zs e => (by cases e)⟩
    have hsf : wf.said.length < LIM := by
      cases res with
      | inl q => obtain ⟨_, e⟩ := key.1 q rfl; rw [e]; exact hs
      | inr zs => obtain ⟨z, _, h⟩ := key.2 zs rfl; exact Nat.lt_of_le_of_lt (G.call h).len hs
    have hat : All2 (PartAt K H0) [.int f, x] [none, some t] := All2.cons (show PartAt K H0 (.int f) none from ⟨f, rfl⟩) (All2.cons (show PartAt K H0 x (some t) from hx) .nil)
    refine parts_for (x5 := none) (x6 := none) hp hat o2 f1 (Nat.le_of_ble_eq_true rfl) h1 hsf ?_ ?_
    · rintro q rfl H' u o3 hu
      obtain ⟨rfl, rfl⟩ := key.1 q rfl
      exact k _ _ o3 hu
    · rintro zs rfl H' y5 y6 o3
      obtain ⟨z, rfl, hc⟩ := key.2 zs rfl
      have hv := same_tup o3.same hv0
      walk_at "w"
      refine w_ixT hv rfl ?_
      walk_at "w"
      refine w_ixT hv rfl ?_
      walk_at "w"
      refine w_ixL (SqL.of (o3.ix 3 rfl)) rfl ?_
      walk_at "w"
      have o4 : Own H0 H' ([dwC d wf, sdC d wf] ++ [bxC b bx]) := Own.sub (R := [(pl, .lst ([z].map V.int))]) o3
      exact ⟨P, _, d, f, z, wf, _, _, rfl, hp.mono o4.sub.base, o4.sub.lend, hc, hs, fun H2 u2 o5 hu2 => k _ _ (o4.back o5) hu2⟩
  | bin op s t =>
    obtain ⟨x, y, ⟨a, rfl, hv0⟩, hx, hy⟩ := ht
    have hv := same_tup o.same hv0
    dsimp only at he
    walk_at "w"
    refine w_ixT hv rfl ?_
    walk_at "w"
    refine w_F (by cases op <;> decide) ?_
    walk_at "w"
    refine w_ixT hv rfl ?_
    walk_at "w"
    refine w_F (by cases op <;> decide) ?_
    walk_at "w"
    refine fun pl hpl => ?_
    have o1 : Own H0 (upd H pl (.lst [])) ([dwC d w, sdC d w, bxC b bx] ++ [(pl, .lst [])]) := (o.take (o := .lst []) hpl).perm (List.perm_append_comm (l₁ := [_]) (l₂ := [_, _, _]))
    generalize upd H pl (.lst []) = H at o1 ⊢
    have hv := same_tup o1.same hv0
    with_reducible refine w_name ?_
    with_reducible refine w_seq ?_
    refine w_for (w_iTup ?_)
    walk_at "w"
    refine w_slT hv (fun h => absurd h.1 (by exact (by decide : ¬ HT.sIx 3 0 (some 1) = 0))) fun xa hxa => ?_
    have ecut : cutV [V.str op.str, x, y] (some 1) none = [x, y] := cut_from _ 1
    rw [ecut]
    have f1 : IsTup K (less (upd H xa (.tup [x, y])) ([dwC d w, sdC d w, bxC b bx] ++ [(pl, .lst [])])) (.ref xa) [x, y] := lessTup o1 hxa
    have o2 := o1.lay (o := .tup [x, y]) hxa
    generalize upd H xa (.tup [x, y]) = H at o2 f1 ⊢
    refine w_refT (same_tup same_less (show SqT K _ xa _ by obtain ⟨c, e, h⟩ := f1; cases e; exact h)) ?_
    have key : ∃ res wf, partsS (ev P n) [some s, some t] bx w [] = some (res, wf) ∧ wf = w' ∧ (∀ q, res = .inl q → q = r) ∧ (∀ zs, res = .inr zs → ∃ z1 z2, zs = [z1, z2] ∧ r = joinT op z1 z2) := by
      unfold partsS
      cases h2 : (ev P n).tree s bx w with
      | none => rw [h2] at he; cases he
      | some q =>
        obtain ⟨⟨wy, z⟩, w1⟩ := q
        rw [h2] at he
        cases wy with
        | value =>
          dsimp only at he ⊢
          unfold partsS
          cases h3 : (ev P n).tree t bx w1 with
          | none => rw [h3] at he; cases he
          | some q =>
            obtain ⟨⟨wy2, z2⟩, w2⟩ := q
            rw [h3] at he
            cases wy2 with
            | value =>
              cases he
              exact ⟨_, _, rfl, rfl, fun q e => (by cases e), fun zs e => (by cases e; exact ⟨z, z2, rfl, rfl⟩)⟩
            | _ =>
              cases he
              exact ⟨_, _, rfl, rfl, fun q e => (by cases e; rfl), fun zs e => (by cases e)⟩
        | _ =>
          cases he
          exact ⟨_, _, rfl, rfl, fun q e => (by cases e; rfl), fun zs e => (by cases e)⟩
    obtain ⟨res, wf, h1, rfl, kl, kr⟩ := key
    have hat : All2 (PartAt K H0) [x, y] [some s, some t] := All2.cons (show PartAt K H0 x (some s) from hx) (All2.cons (show PartAt K H0 y (some t) from hy) .nil)
    refine parts_for (x5 := none) (x6 := none) hp hat o2 f1 (Nat.le_of_ble_eq_true rfl) h1 hs ?_ ?_
    · rintro q rfl H' u o3 hu
      obtain rfl := kl q rfl
      exact k _ _ o3 hu
    · rintro zs rfl H' y5 y6 o3
      obtain ⟨z1, z2, rfl, rfl⟩ := kr zs rfl
      have hv := same_tup o3.same hv0
      have hq := SqL.of (K := K) (o3.ix 3 rfl)
      have o4 : Own H0 H' [dwC d wf, sdC d wf, bxC b bx] := Own.sub (R := [(pl, .lst ([z1, z2].map V.int))]) o3
      walk_at "w"
      refine w_ixT hv rfl ?_
      walk_at "w"
      refine w_F (by cases op <;> decide) ?_
      walk_at "w"
      refine w_ixT hv rfl ?_
      walk_at "w"
      cases op with
      | share =>
        refine w_T (by decide) ?_
        walk_at "w"
        refine w_ixL hq rfl ?_
        walk_at "w"
        refine w_D (fun c => ?_) (fun c => ?_)
        · simp only [joinT, if_pos c] at k
          walk_at "w"
          exact fun p h1 => k _ _ (o4.lay h1) new_tup
        · simp only [joinT, if_neg c] at k
          walk_at "w"
          refine w_ixT hv rfl ?_
          walk_at "w"
          refine w_ixL hq rfl ?_
          walk_at "w"
          refine w_ixL hq rfl ?_
          refine w_fd c ?_
          walk_at "w"
          exact fun p h1 => k _ _ (o4.lay h1) new_tup
      | less =>
        refine w_F (by decide) ?_
        walk_at "w"
        refine w_ixT hv rfl ?_
        walk_at "w"
        refine w_ixT hv rfl ?_
        walk_at "w"
        refine w_ixL hq rfl ?_
        walk_at "w"
        refine w_ixL hq rfl ?_
        walk_at "w"
        refine ⟨_, rfl, ?_⟩
        by_cases c : z1 < z2
        · simp only [joinT, if_pos c] at k
          rw [decide_eq_true c]
          walk_at "w"
          exact fun p h1 => k _ _ (o4.lay h1) new_tup
        · simp only [joinT, if_neg c] at k
          rw [decide_eq_false c]
          walk_at "w"
          exact fun p h1 => k _ _ (o4.lay h1) new_tup
      | add =>
        refine w_F (by decide) ?_
        walk_at "w"
        refine w_ixT hv rfl ?_
        walk_at "w"
        refine w_ixT hv rfl ?_
        walk_at "w"
        refine w_ixL hq rfl ?_
        walk_at "w"
        refine w_ixL hq rfl ?_
        walk_at "w"
        refine w_ixT hv rfl ?_
        walk_at "w"
        refine ⟨_, rfl, ?_⟩
        walk_at "w"
        have e : z1 + z2 * (1 - 2 * (if decide (Op.add.str = "sub") = true then 1 else 0)) = z1 + z2 := by rw [if_neg (by decide)]; omega
        rw [e]
        exact fun p h1 => k _ _ (o4.lay h1) new_tup
      | sub =>
        refine w_F (by decide) ?_
        walk_at "w"
        refine w_ixT hv rfl ?_
        walk_at "w"
        refine w_ixT hv rfl ?_
        walk_at "w"
        refine w_ixL hq rfl ?_
        walk_at "w"
        refine w_ixL hq rfl ?_
        walk_at "w"
        refine w_ixT hv rfl ?_
        walk_at "w"
        refine ⟨_, rfl, ?_⟩
        walk_at "w"
        have e : z1 + z2 * (1 - 2 * (if decide (Op.sub.str = "sub") = true then 1 else 0)) = z1 - z2 := by rw [if_pos (by decide)]; omega
        rw [e]
        exact fun p h1 => k _ _ (o4.lay h1) new_tup
end
end U

/-! by which ways a good program is left -/
namespace Un
open PySem
def TW (r : Res) : Prop := r.1 = .value ∨ r.1 = .fault ∨ (r.1 = .tired ∧ r.2 = 0)
def BW (l : Bool) (r : Res) : Prop := r.1 = .on ∨ r.1 = .give ∨ r.1 = .fault ∨ (r.1 = .tired ∧ r.2 = 0) ∨ (l = true ∧ (r.1 = .leave ∨ r.1 = .next))
theorem TW.bw {r : Res} {l : Bool} (h : TW r) (hv : r.1 ≠ .value) : BW l r := by
  rcases h with h | h | h
  · exact absurd h hv
  · exact .inr (.inr (.inl h))
  · exact .inr (.inr (.inr (.inl h)))
structure Ways (P : List (List Sm)) (E : Ev) : Prop where
  tree : ∀ {t bx w r w'}, E.tree t bx w = some (r, w') → TW r
  call : ∀ {f v w r w'}, E.call f v w = some (r, w') → TW r
  enter : ∀ {f v w r w'}, E.enter f v w = some (r, w') → TW r
  block : ∀ {l d b bx w r bx' w'}, oks P.length l d b = true → E.block b bx w = some (r, bx', w') → BW l r
  row : ∀ {l d s bx w r bx' w'}, s.ok P.length l d = true → E.row s bx w = some (r, bx', w') → BW l r
  loop : ∀ {d e b bx w r bx' w'} (l : Bool), oks P.length true d b = true → E.loop e b bx w = some (r, bx', w') → BW l r
  ctch : ∀ {l d b n k h bx w r bx' w'}, oks P.length l d b = true → oks P.length l d h = true → E.ctch b n k h bx w = some (r, bx', w') → BW l r
  endd : ∀ {l d b a bx w r bx' w'}, oks P.length l d b = true → oks P.length l d a = true → E.endd b a bx w = some (r, bx', w') → BW l r
theorem ways_no (P : List (List Sm)) : Ways P Ev.no := by
  constructor
  case block => intro _ _ _ _ _ _ _ _ _ h; cases h
  case row => intro _ _ _ _ _ _ _ _ _ h; cases h
  case loop => intro _ _ _ _ _ _ _ _ _ _ h; cases h
  case ctch => intro _ _ _ _ _ _ _ _ _ _ _ _ _ h; cases h
  case endd => intro _ _ _ _ _ _ _ _ _ _ _ h; cases h
  all_goals (intros; rename_i h; cases h)
section
variable {P : List (List Sm)} {E : Ev} (W : Ways P E)
include W
theorem then_way {l : Bool} {e bx w r bx' w'} {k : Int → Wd → Option (Res × List Int × Wd)} (h : thenT E e bx w k = some (r, bx', w')) (hk : ∀ v w1, k v w1 = some (r, bx', w') → BW l r) : BW l r := by
  unfold thenT at h
  cases h1 : E.tree e bx w with
  | none => rw [h1] at h; cases h
  | some p =>
    obtain ⟨⟨y, z⟩, w1⟩ := p
    rw [h1] at h
    have t := W.tree h1
    cases y with
    | value => exact hk _ _ h
    | _ => cases h; exact t.bw (by intro h; cases h)
theorem loop_way {l : Bool} {d e b} (hb : oks P.length true d b = true) : ∀ (c : Nat) {bx w r bx' w'}, loopGo E e b c bx w = some (r, bx', w') → BW l r
  | 0, _, _, _, _, _, h => by cases h
  | c + 1, bx, w, r, bx', w', h => by
    unfold loopGo at h
    split at h
    · cases h
      exact .inr (.inr (.inr (.inl ⟨rfl, rfl⟩)))
    · refine then_way W h fun v w1 hk => ?_
      split at hk
      · cases hk
        exact .inl rfl
      · cases h1 : E.block b bx w1 with
        | none => rw [h1] at hk; cases hk
        | some p =>
          obtain ⟨⟨y, z⟩, bx2, w2⟩ := p
          rw [h1] at hk
          have t := W.block hb h1
          cases y with
          | on => exact loop_way hb c hk
          | next => exact loop_way hb c hk
          | leave => cases hk; exact .inl rfl
          | give => cases hk; exact .inr (.inl rfl)
          | fault => cases hk; exact .inr (.inr (.inl rfl))
          | tired =>
            cases hk
            rcases t with t | t | t | t | ⟨_, t | t⟩
            · cases t
            · cases t
            · cases t
            · exact .inr (.inr (.inr (.inl t)))
            · cases t
            · cases t
          | value =>
            cases hk
            rcases t with t | t | t | ⟨t, _⟩ | ⟨_, t | t⟩ <;> cases t
theorem block_way {l : Bool} {d : Nat} : ∀ (b : List Sm) {bx w r bx' w'}, oks P.length l d b = true → blockS E b bx w = some (r, bx', w') → BW l r
  | [], _, _, _, _, _, _, h => by cases h; exact .inl rfl
  | s :: b, bx, w, r, bx', w', hb, h => by
    rw [oks_cons, Bool.and_eq_true] at hb
    unfold blockS at h
    cases h1 : E.row s bx w with
    | none => rw [h1] at h; cases h
    | some p =>
      obtain ⟨⟨y, z⟩, bx2, w2⟩ := p
      rw [h1] at h
      have t := W.row hb.1 h1
      cases y with
      | on => exact block_way b hb.2 h
      | _ => cases h; exact t
theorem row_way {l : Bool} {d : Nat} {s bx w r bx' w'} (hs : s.ok P.length l d = true) (h : rowS E s bx w = some (r, bx', w')) : BW l r := by
  unfold rowS at h
  cases s with
  | leave =>
    cases h
    have : l = true := by cases d <;> exact hs
    exact .inr (.inr (.inr (.inr ⟨this, .inl rfl⟩)))
  | next =>
    cases h
    have : l = true := by cases d <;> exact hs
    exact .inr (.inr (.inr (.inr ⟨this, .inr rfl⟩)))
  | give e => exact then_way W h fun v w1 hk => by cases hk; exact .inr (.inl rfl)
  | raise e => exact then_way W h fun v w1 hk => by cases hk; exact .inr (.inr (.inl rfl))
  | set k e =>
    refine then_way W h fun v w1 hk => ?_
    split at hk
    · cases hk; exact .inl rfl
    · cases hk
  | say e => exact then_way W h fun v w1 hk => by cases hk; exact .inl rfl
  | ife e a b =>
    cases d with
    | zero => cases hs
    | succ d =>
    have hs : (e.ok P.length 6 && (oks P.length l d a && oks P.length l d b)) = true := hs
    rw [Bool.and_eq_true, Bool.and_eq_true] at hs
    refine then_way W h fun v w1 hk => ?_
    split at hk
    · exact W.block hs.2.2 hk
    · exact W.block hs.2.1 hk
  | loop e b =>
    cases d with
    | zero => cases hs
    | succ d =>
    have hs : (e.ok P.length 6 && oks P.length true d b) = true := hs
    rw [Bool.and_eq_true] at hs
    exact W.loop l hs.2 h
  | ctch b n k a =>
    cases d with
    | zero => cases hs
    | succ d =>
    have hs : (oks P.length l d b && (decide (0 ≤ k ∧ k < 4) && oks P.length l d a)) = true := hs
    rw [Bool.and_eq_true, Bool.and_eq_true] at hs
    exact W.ctch hs.1 hs.2.2 h
  | endd b a =>
    cases d with
    | zero => cases hs
    | succ d =>
    have hs : (oks P.length l d b && oks P.length l d a) = true := hs
    rw [Bool.and_eq_true] at hs
    exact W.endd hs.1 hs.2 h
theorem ctch_way {l : Bool} {d : Nat} {b n k a bx w r bx' w'} (hb : oks P.length l d b = true) (ha : oks P.length l d a = true) (h : ctchS E b n k a bx w = some (r, bx', w')) : BW l r := by
  unfold ctchS at h
  cases h1 : E.block b bx w with
  | none => rw [h1] at h; cases h
  | some p =>
    obtain ⟨⟨y, z⟩, bx2, w2⟩ := p
    rw [h1] at h
    have t := W.block hb h1
    cases y with
    | fault =>
      dsimp only at h
      split at h
      · cases h; exact t
      · split at h
        · exact W.block ha h
        · cases h
    | _ => cases h; exact t
theorem endd_way {l : Bool} {d : Nat} {b a bx w r bx' w'} (hb : oks P.length l d b = true) (ha : oks P.length l d a = true) (h : endS E b a bx w = some (r, bx', w')) : BW l r := by
  unfold endS at h
  cases h1 : E.block b bx w with
  | none => rw [h1] at h; cases h
  | some p =>
    obtain ⟨⟨y, z⟩, bx2, w2⟩ := p
    rw [h1] at h
    have t := W.block hb h1
    have go : ∀ q : Res, BW l q → (match E.block a bx2 w2 with
        | some ((.on, _), bx2, w2) => some (q, bx2, w2)
        | r2 => r2) = some (r, bx', w') → BW l r := fun q hq h => by
      cases h2 : E.block a bx2 w2 with
      | none => rw [h2] at h; cases h
      | some p =>
        obtain ⟨⟨y3, z3⟩, bx3, w3⟩ := p
        rw [h2] at h
        have t2 := W.block ha h2
        cases y3 <;> first | (cases h; exact hq) | (cases h; exact t2)
    cases y with
    | tired => cases h; exact t
    | _ => exact go _ t h
end
theorem joinT_way (o : Op) (a b : Int) : TW (joinT o a b) := by
  cases o with
  | share =>
    by_cases h : b = 0
    · rw [joinT, if_pos h]; exact .inr (.inl rfl)
    · rw [joinT, if_neg h]; exact .inl rfl
  | _ => exact .inl rfl
theorem ways_ev {P : List (List Sm)} (hok : okProg P = true) : ∀ n, Ways P (ev P n)
  | 0 => ways_no P
  | n + 1 => by
    have W := ways_ev hok n
    refine ⟨?_, ?_, ?_, fun hb h => block_way W _ hb h, fun hs h => row_way W hs h, fun l hb h => loop_way W hb _ h, fun hb ha h => ctch_way W hb ha h, fun hb ha h => endd_way W hb ha h⟩
    · intro t bx w r w' h
      have h : treeS (ev P n) t bx w = some (r, w') := h
      unfold treeS at h
      cases t with
      | num n => cases h; exact .inl rfl
      | box k =>
        dsimp only at h
        cases hv : at? bx k with
        | none => rw [hv] at h; cases h
        | some v => rw [hv] at h; cases h; exact .inl rfl
      | call f t =>
        dsimp only at h
        split at h
        · exact W.call h
        · exact W.tree h
      | bin o a b =>
        dsimp only at h
        split at h
        · split at h
          · cases h; exact joinT_way _ _ _
          · exact W.tree h
        · exact W.tree h
    · intro f v w r w' h
      have h : callS (ev P n) f v w = some (r, w') := h
      unfold callS at h
      split at h
      · cases h; exact .inr (.inr ⟨rfl, rfl⟩)
      · split at h
        · cases h; exact .inr (.inl rfl)
        · exact W.enter h
    · intro f v w r w' h
      have h : enterS P (ev P n) f v w = some (r, w') := h
      unfold enterS at h
      split at h
      · cases h
      · rename_i b hb
        have hm : b ∈ P := by
          unfold at? at hb
          split at hb
          · exact List.mem_of_getElem? hb
          · cases hb
        unfold okProg at hok
        rw [Bool.and_eq_true] at hok
        have hk := List.all_eq_true.mp hok.2 b hm
        cases hb2 : (ev P n).block b [v, 0, 0, 0] { w with deep := w.deep + 1 } with
        | none => rw [hb2] at h; cases h
        | some x =>
          obtain ⟨⟨y, z⟩, bx2, w2⟩ := x
          rw [hb2] at h
          have t := W.block hk hb2
          cases h
          rcases t with t | t | t | ⟨t, e⟩ | ⟨c, _⟩
          · cases t; exact .inl rfl
          · cases t; exact .inl rfl
          · cases t; exact .inr (.inl rfl)
          · cases t
            exact .inr (.inr ⟨rfl, e⟩)
          · cases c
end Un

set_option maxHeartbeats 4000000
namespace U
open PySem PySem.Spec PyProof.Rows L2 Un
/-! ### programs as data -/
def dT : Un.Tree → PyData
  | .num n => .tuple [.str "num", .int n]
  | .box k => .tuple [.str "box", .int k]
  | .call f t => .tuple [.str "call", .int f, dT t]
  | .bin o a b => .tuple [.str o.str, dT a, dT b]
def dN : Option Int → PyData
  | none => .none
  | some n => .int n
mutual
def dS : Sm → PyData
  | .set k e => .tuple [.str "set", .int k, dT e]
  | .say e => .tuple [.str "say", dT e]
  | .ife e a b => .tuple [.str "if", dT e, .list (dB a), .list (dB b)]
  | .loop e b => .tuple [.str "loop", dT e, .list (dB b)]
  | .leave => .tuple [.str "leave"]
  | .next => .tuple [.str "next"]
  | .give e => .tuple [.str "give", dT e]
  | .raise e => .tuple [.str "raise", dT e]
  | .ctch b n k h => .tuple [.str "catch", .list (dB b), dN n, .int k, .list (dB h)]
  | .endd b l => .tuple [.str "end", .list (dB b), .list (dB l)]
def dB : List Sm → List PyData
  | [] => []
  | s :: b => dS s :: dB b
end
def dP (P : List (List Sm)) : PyData := .list (P.map fun b => .list (dB b))
section
variable {K : PySem.W.Frag} {H : Hp}
theorem dp_tup {v : V} {xs : List V} {ds : List PyData} (h : IsTup K H v xs) (d : DpAll K H xs ds) : Dp K H v (.tuple ds) := by
  obtain ⟨a, e, h⟩ := h
  rw [e]
  exact .tup h d
theorem dp_tree : ∀ {t : Un.Tree} {v : V}, TreeAt K H t v → Dp K H v (dT t)
  | .num _, _, h => dp_tup h (.cons (.str _) (.cons (.int _) .nil))
  | .box _, _, h => dp_tup h (.cons (.str _) (.cons (.int _) .nil))
  | .call _ _, _, h => by
    obtain ⟨x, h1, h2⟩ := h
    exact dp_tup h1 (.cons (.str _) (.cons (.int _) (.cons (dp_tree h2) .nil)))
  | .bin _ _ _, _, h => by
    obtain ⟨x, y, h1, h2, h3⟩ := h
    exact dp_tup h1 (.cons (.str _) (.cons (dp_tree h2) (.cons (dp_tree h3) .nil)))
theorem dp_goal (n : Option Int) : Dp K H (goalV n) (dN n) := by
  cases n with
  | none => exact .non
  | some n => exact .int n
mutual
theorem dp_sm : ∀ (s : Sm) {v : V}, SmAt K H s v → Dp K H v (dS s)
  | .set _ _, _, h => by
    obtain ⟨x, h1, h2⟩ := h
    exact dp_tup h1 (.cons (.str _) (.cons (.int _) (.cons (dp_tree h2) .nil)))
  | .say _, _, h => by
    obtain ⟨x, h1, h2⟩ := h
    exact dp_tup h1 (.cons (.str _) (.cons (dp_tree h2) .nil))
  | .ife _ a b, _, h => by
    obtain ⟨x, p, q, ps, qs, h1, h2, h3, h4, h5, h6⟩ := h
    exact dp_tup h1 (.cons (.str _) (.cons (dp_tree h2) (.cons (.lst h3 (dp_sms a h4)) (.cons (.lst h5 (dp_sms b h6)) .nil))))
  | .loop _ b, _, h => by
    obtain ⟨x, p, ps, h1, h2, h3, h4⟩ := h
    exact dp_tup h1 (.cons (.str _) (.cons (dp_tree h2) (.cons (.lst h3 (dp_sms b h4)) .nil)))
  | .leave, _, h => dp_tup h (.cons (.str _) .nil)
  | .next, _, h => dp_tup h (.cons (.str _) .nil)
  | .give _, _, h => by
    obtain ⟨x, h1, h2⟩ := h
    exact dp_tup h1 (.cons (.str _) (.cons (dp_tree h2) .nil))
  | .raise _, _, h => by
    obtain ⟨x, h1, h2⟩ := h
    exact dp_tup h1 (.cons (.str _) (.cons (dp_tree h2) .nil))
  | .ctch a n _ b, _, h => by
    obtain ⟨p, q, ps, qs, h1, h3, h4, h5, h6⟩ := h
    exact dp_tup h1 (.cons (.str _) (.cons (.lst h3 (dp_sms a h4)) (.cons (dp_goal n) (.cons (.int _) (.cons (.lst h5 (dp_sms b h6)) .nil)))))
  | .endd a b, _, h => by
    obtain ⟨p, q, ps, qs, h1, h3, h4, h5, h6⟩ := h
    exact dp_tup h1 (.cons (.str _) (.cons (.lst h3 (dp_sms a h4)) (.cons (.lst h5 (dp_sms b h6)) .nil)))
theorem dp_sms : ∀ (b : List Sm) {vs : List V}, SmsAt K H b vs → DpAll K H vs (dB b)
  | [], _, h => by
    rw [show _ = [] from h]
    exact .nil
  | s :: b, _, h => by
    obtain ⟨v, vr, e, h1, h2⟩ := h
    rw [e]
    exact .cons (dp_sm s h1) (dp_sms b h2)
end
theorem dp_bls : ∀ {P : List (List Sm)} {vs : List V}, All2 (fun v b => BlAt K H b v) vs P → DpAll K H vs (P.map fun b => .list (dB b))
  | _, _, .nil => .nil
  | _, _, .cons h hs => by
    obtain ⟨p, ps, e, h1, h2⟩ := h
    rw [e]
    exact .cons (.lst h1 (dp_sms _ h2)) (dp_bls hs)
theorem dp_prog {P : List (List Sm)} {p : Addr} (h : ProgAt K H P p) : Dp K H (.ref p) (dP P) := by
  obtain ⟨vs, h1, h2⟩ := h
  exact .lst h1 (dp_bls h2)
end
theorem dT_lay {count : Nat} : ∀ {d : Nat} {t : Un.Tree}, t.ok count d = true → (dT t).canLay0 = true ∧ (dT t).depth ≤ d := by
  intro d
  induction d with
  | zero => intro t h; cases t <;> cases h
  | succ d ih =>
    intro t h
    cases t with
    | num n =>
      refine ⟨?_, ?_⟩
      · simp only [dT, PyData.canLay0, PyData.canLayAll0]; decide +kernel
      · simp [dT, PyData.depth, PyData.depthAll]
    | box n =>
      refine ⟨?_, ?_⟩
      · simp only [dT, PyData.canLay0, PyData.canLayAll0]; decide +kernel
      · simp [dT, PyData.depth, PyData.depthAll]
    | call f t =>
      have h : (decide (0 ≤ f ∧ f < (count : Nat)) && t.ok count d) = true := h
      rw [Bool.and_eq_true] at h
      obtain ⟨i1, i2⟩ := ih h.2
      refine ⟨?_, ?_⟩
      · simp only [dT, PyData.canLay0, PyData.canLayAll0, i1]; decide +kernel
      · simp [dT, PyData.depth, PyData.depthAll]; omega
    | bin o a b =>
      have h : (a.ok count d && b.ok count d) = true := h
      rw [Bool.and_eq_true] at h
      obtain ⟨i1, i2⟩ := ih h.1
      obtain ⟨j1, j2⟩ := ih h.2
      refine ⟨?_, ?_⟩
      · simp only [dT, PyData.canLay0, PyData.canLayAll0, i1, j1]
        cases o <;> decide +kernel
      · simp [dT, PyData.depth, PyData.depthAll]; omega
theorem dN_lay (n : Option Int) : (dN n).canLay0 = true ∧ (dN n).depth = 0 := by
  cases n <;> exact ⟨rfl, rfl⟩
mutual
theorem dS_lay {count : Nat} : ∀ (s : Sm) {l : Bool} {d : Nat}, s.ok count l d = true → (dS s).canLay0 = true ∧ (dS s).depth ≤ 2 * d + 7
  | .set k e, l, d, h => by
    have h : (decide (0 ≤ k ∧ k < 4) && e.ok count 6) = true := by cases d <;> exact h
    rw [Bool.and_eq_true] at h
    obtain ⟨i1, i2⟩ := dT_lay h.2
    refine ⟨?_, ?_⟩
    · simp only [dS, PyData.canLay0, PyData.canLayAll0, i1]; decide +kernel
    · simp [dS, PyData.depth, PyData.depthAll]; omega
  | .say e, l, d, h => by
    have h : e.ok count 6 = true := by cases d <;> exact h
    obtain ⟨i1, i2⟩ := dT_lay h
    refine ⟨?_, ?_⟩
    · simp only [dS, PyData.canLay0, PyData.canLayAll0, i1]; decide +kernel
    · simp [dS, PyData.depth, PyData.depthAll]; omega
  | .give e, l, d, h => by
    have h : e.ok count 6 = true := by cases d <;> exact h
    obtain ⟨i1, i2⟩ := dT_lay h
    refine ⟨?_, ?_⟩
    · simp only [dS, PyData.canLay0, PyData.canLayAll0, i1]; decide +kernel
    · simp [dS, PyData.depth, PyData.depthAll]; omega
  | .raise e, l, d, h => by
    have h : e.ok count 6 = true := by cases d <;> exact h
    obtain ⟨i1, i2⟩ := dT_lay h
    refine ⟨?_, ?_⟩
    · simp only [dS, PyData.canLay0, PyData.canLayAll0, i1]; decide +kernel
    · simp [dS, PyData.depth, PyData.depthAll]; omega
  | .leave, l, d, _ => by
    refine ⟨?_, ?_⟩
    · simp only [dS, PyData.canLay0, PyData.canLayAll0]; decide +kernel
    · simp [dS, PyData.depth, PyData.depthAll]
  | .next, l, d, _ => by
    refine ⟨?_, ?_⟩
    · simp only [dS, PyData.canLay0, PyData.canLayAll0]; decide +kernel
    · simp [dS, PyData.depth, PyData.depthAll]
  | .ife e a b, l, 0, h => by cases h
  | .ife e a b, l, d + 1, h => by
    have h : (e.ok count 6 && (oks count l d a && oks count l d b)) = true := h
    rw [Bool.and_eq_true, Bool.and_eq_true] at h
    obtain ⟨i1, i2⟩ := dT_lay h.1
    obtain ⟨j1, j2⟩ := dB_lay a h.2.1
    obtain ⟨k1, k2⟩ := dB_lay b h.2.2
    refine ⟨?_, ?_⟩
    · simp only [dS, PyData.canLay0, PyData.canLayAll0, i1, j1, k1]; decide +kernel
    · simp [dS, PyData.depth, PyData.depthAll]; omega
  | .loop e b, l, 0, h => by cases h
  | .loop e b, l, d + 1, h => by
    have h : (e.ok count 6 && oks count true d b) = true := h
    rw [Bool.and_eq_true] at h
    obtain ⟨i1, i2⟩ := dT_lay h.1
    obtain ⟨j1, j2⟩ := dB_lay b h.2
    refine ⟨?_, ?_⟩
    · simp only [dS, PyData.canLay0, PyData.canLayAll0, i1, j1]; decide +kernel
    · simp [dS, PyData.depth, PyData.depthAll]; omega
  | .ctch b n k a, l, 0, h => by cases h
  | .ctch b n k a, l, d + 1, h => by
    have h : (oks count l d b && (decide (0 ≤ k ∧ k < 4) && oks count l d a)) = true := h
    rw [Bool.and_eq_true, Bool.and_eq_true] at h
    obtain ⟨i1, i2⟩ := dN_lay n
    obtain ⟨j1, j2⟩ := dB_lay b h.1
    obtain ⟨k1, k2⟩ := dB_lay a h.2.2
    refine ⟨?_, ?_⟩
    · simp only [dS, PyData.canLay0, PyData.canLayAll0, i1, j1, k1]; decide +kernel
    · simp [dS, PyData.depth, PyData.depthAll, i2]; omega
  | .endd a b, l, 0, h => by cases h
  | .endd a b, l, d + 1, h => by
    have h : (oks count l d a && oks count l d b) = true := h
    rw [Bool.and_eq_true] at h
    obtain ⟨j1, j2⟩ := dB_lay a h.1
    obtain ⟨k1, k2⟩ := dB_lay b h.2
    refine ⟨?_, ?_⟩
    · simp only [dS, PyData.canLay0, PyData.canLayAll0, j1, k1]; decide +kernel
    · simp [dS, PyData.depth, PyData.depthAll]; omega
theorem dB_lay {count : Nat} : ∀ (b : List Sm) {l : Bool} {d : Nat}, oks count l d b = true → PyData.canLayAll0 (dB b) = true ∧ PyData.depthAll (dB b) ≤ 2 * d + 7
  | [], _, _, _ => ⟨rfl, by simp [dB, PyData.depthAll]⟩
  | s :: b, l, d, h => by
    rw [U.oks_cons, Bool.and_eq_true] at h
    obtain ⟨i1, i2⟩ := dS_lay s h.1
    obtain ⟨j1, j2⟩ := dB_lay b h.2
    refine ⟨?_, ?_⟩
    · simp only [dB, PyData.canLayAll0, i1, j1]; rfl
    · simp [dB, PyData.depthAll]; omega
end
theorem shaped_prog {P : List (List Sm)} (h : okProg P = true) : SeqAt.shaped (dP P) = true := by
  unfold okProg at h
  rw [Bool.and_eq_true] at h
  have hk := List.all_eq_true.mp h.2
  generalize P.length = count at hk
  have key : PyData.canLayAll0 (P.map fun b => PyData.list (dB b)) = true ∧ PyData.depthAll (P.map fun b => PyData.list (dB b)) ≤ 30 := by
    clear h
    induction P with
    | nil => exact ⟨rfl, by simp [PyData.depthAll]⟩
    | cons b P ih =>
      obtain ⟨i1, i2⟩ := dB_lay b (hk b (List.mem_cons_self ..))
      obtain ⟨j1, j2⟩ := ih fun x hx => hk x (List.mem_cons_of_mem _ hx)
      refine ⟨?_, ?_⟩
      · simp only [List.map_cons, PyData.canLayAll0, PyData.canLay0, i1, j1]; rfl
      · simp only [List.map_cons, PyData.depthAll, PyData.depth]; omega
  refine shaped_of (by simp only [dP, PyData.canLay0, key.1]) ?_
  simp only [dP, PyData.depth]
  have := key.2
  omega
end U

set_option maxHeartbeats 4000000
namespace U
open PySem PySem.Spec PyProof.Rows L2 Un
local macro_rules | `(tactic| walk_at "w1") => `(tactic| first
  | with_reducible refine w_seq ?_
  | with_reducible refine w_asg ?_
  | with_reducible refine w_op ?_
  | ((with_reducible refine' w_var ?h1 ?_); (case h1 => rfl))
  | with_reducible refine w_c ?_
  | with_reducible refine w_name ?_
  | with_reducible refine w_tFd ?_
  | ((with_reducible refine' w_fld ?h1 ?h2 ?_); (case h1 => assumption); (case h2 => rfl))
  | with_reducible refine w_if ?_
  | with_reducible refine w_test ?_
  | with_reducible refine w_eqS ?_
  | with_reducible refine w_eqI ?_
  | with_reducible refine w_neS ?_
  | with_reducible refine w_neI ?_
  | with_reducible refine w_isN ?_
  | with_reducible refine w_isnN ?_
  | with_reducible refine w_bl ?_
  | with_reducible refine w_ret ?_
  | with_reducible refine w_drop ?_
  | with_reducible refine w_next ?_
  | with_reducible refine w_cons ?_
  | with_reducible refine w_nil ?_
  | with_reducible refine w_call ?_
  | with_reducible refine w_cb ?_
  | with_reducible refine w_meth ?_
  | ((with_reducible refine' w_recv ?h1 ?h2 ?_); (case h1 => assumption); (case h2 => rfl))
  | with_reducible refine w_sFd ?_
  | ((with_reducible refine' w_put ?h1 ?h2 ?_); (case h1 => assumption); (case h2 => exact Nat.le_of_ble_eq_true rfl))
  | with_reducible refine w_add ?_
  | with_reducible refine w_sub ?_
  | with_reducible refine w_lt ?_
  | with_reducible refine w_le ?_
  | with_reducible refine w_gt ?_
  | with_reducible refine w_ge ?_
  | with_reducible refine w_bm ?_
  | with_reducible refine w_bm0 ?_
  | ((with_reducible refine' w_ty ?h1 ?_); (case h1 => assumption))
  | with_reducible refine w_tup ?_
  | with_reducible refine w_lst ?_
  | ((with_reducible refine' w_new ?h1 ?_); (case h1 => exact Nat.le_of_ble_eq_true rfl))
  | with_reducible refine w_gsub ?_
  | with_reducible refine w_make ?_
  | with_reducible refine w_lc ?_
  | with_reducible refine w_iList ?_
  | with_reducible refine w_for ?_
  | with_reducible refine w_yes ?_
  | with_reducible refine w_tSl ?_
  | with_reducible refine w_part ?_
  | with_reducible refine w_nopart ?_
  | with_reducible refine w_i ?_
  | with_reducible refine w_rng1 ?_
  | with_reducible refine w_rng2 ?_
  | with_reducible refine w_isiII ?_
  | with_reducible refine w_isiIB ?_
  | with_reducible refine w_isiSS ?_
  | ((with_reducible refine w_mod ?h1 ?_); (case h1 => decide))
  | ((with_reducible refine w_fdC' ?h1 ?h2 ?_); (case h1 => decide); (case h2 => decide))
  | ((with_reducible refine w_mulR ?h1 ?h2 ?_); (case h1 => decide); (case h2 => decide))
  | ((with_reducible refine w_mulL ?h1 ?h2 ?_); (case h1 => decide); (case h2 => decide))
  | ((with_reducible refine w_pow' ?h1 ?h2 ?h3 ?_); (case h1 => decide); (case h2 => decide); (case h3 => decide))
  | with_reducible refine w_andV ?_
  | with_reducible refine w_orV ?_
  | with_reducible refine w_notV ?_
  | with_reducible refine w_B ?_
  | with_reducible refine w_not ?_
  | with_reducible refine w_and ?_
  | with_reducible refine w_or ?_
  | with_reducible refine w_ifx ?_
  | with_reducible refine w_un ?_
  | ((with_reducible refine w_T ?h1 ?_); (case h1 => with_reducible rfl))
  | ((with_reducible refine w_F ?h1 ?_); (case h1 => with_reducible rfl))
  | ((with_reducible refine w_T ?h1 ?_); (case h1 => decide +kernel))
  | ((with_reducible refine w_F ?h1 ?_); (case h1 => decide +kernel)))
local macro_rules | `(tactic| walk_at "w") => `(tactic| repeat walk_at "w1")

section
variable {K : PySem.W.Frag}
def sp_l_is (K : PySem.W.Frag) : Sp := fun vs H Q _ => ∃ (c s : Addr) (y : Wy) (z : Int) (ns : List Int), vs = [.ref c] ∧ H c = some (.tup [.ref s, .str (wordT y), .int z]) ∧ H s = some (.lst (ns.map V.int)) ∧ TW (y, z) ∧ ∀ H', Same H H' → Q (.bl true) H'
theorem p_l_is (vs : List V) (H : Hp) (Q : VK) (E : XK) (h : sp_l_is K vs H Q E) : t_l_is K (sp_l_whole K) { nx := fun _ H' => Q .non H', rt := Q } (L2.start n_l_is vs) H := by
  obtain ⟨c, s, y, z, ns, rfl, hc, hs, tw, q⟩ := h
  have hc' : SqT K H c _ := SqT.of hc
  unfold t_l_is
  walk_at "w"
  refine w_isiTT hc ?_
  walk_at "w"
  refine w_lenT hc' ?_
  walk_at "w"
  refine w_ND (fun _ => ?_) (fun z => absurd rfl z)
  walk_at "w"
  refine w_ixT hc' rfl ?_
  walk_at "w"
  refine w_isiLL hs ?_
  walk_at "w"
  refine w_ixT hc' rfl ?_
  refine w_refL (SqL.of hs) ?_
  refine w_nowhole (SqL.of hs) (Nat.le_of_ble_eq_true rfl) fun D hD => ?_
  have s1 : Same H (upd H D (.lst [])) := same_lay hD
  have hc1 : SqT K (upd H D (.lst [])) c _ := same_tup s1 hc'
  have e1 : (upd H D (.lst [])) D = some (.lst []) := upd_same
  generalize upd H D (.lst []) = H1 at s1 hc1 e1 ⊢
  walk_at "w"
  refine w_lenL (SqL.of e1) ?_
  walk_at "w"
  refine w_ixT hc1 rfl ?_
  walk_at "w"
  refine ⟨_, rfl, ?_⟩
  walk_at "w"
  refine w_ixT hc1 rfl ?_
  walk_at "w"
  refine w_ixT hc1 rfl ?_
  walk_at "w"
  refine fun t ht => ?_
  refine w_inT (SqT.of upd_same) rfl rfl ?_
  have s2 : Same H (upd H1 t (.tup [.str "answer", .str "fault"])) := s1.trans (same_lay ht)
  have hc2 : SqT K (upd H1 t (.tup [.str "answer", .str "fault"])) c _ := same_tup (same_lay ht) hc1
  generalize upd H1 t (.tup [.str "answer", .str "fault"]) = H2 at s2 hc2 ⊢
  rcases tw with e | e | ⟨e, e0⟩
  · dsimp only at e
    subst e
    refine ⟨true, rfl, ?_⟩
    exact q _ s2
  · dsimp only at e
    subst e
    refine ⟨true, rfl, ?_⟩
    exact q _ s2
  · dsimp only at e e0
    subst e e0
    refine ⟨false, rfl, ?_⟩
    refine iteF ?_
    walk_at "w"
    refine w_ixT hc2 rfl ?_
    walk_at "w"
    refine w_ixT hc2 rfl ?_
    walk_at "w"
    exact q _ s2
end
end U

/-! how much a drawn program may say -/
namespace Un
open PySem U
theorem towerS_says (c : Int) (k : Nat) (b : List Sm) : saysL (towerS c k b) ≤ saysL b + 1 := by
  unfold towerS
  split
  · simp [saysL, Sm.says]
  · split
    · simp [saysL, Sm.says]; omega
    · split
      · simp [saysL, Sm.says]
      · split
        · simp [saysL, Sm.says, saysL_app]
        · simp [saysL, Sm.says]
theorem towerG_says : ∀ (m k : Nat) (c : Int) (b : List Sm), saysL (towerG m k c b) ≤ saysL b + m
  | 0, _, _, _ => Nat.le_refl _
  | m + 1, k, c, b => by
    have h1 := towerG_says m (k + 1) (c / 5) (towerS c k b)
    have h2 := towerS_says c k b
    show saysL (towerG m (k + 1) (c / 5) (towerS c k b)) ≤ _
    omega
theorem longB_says : ∀ m, saysL (longB m) = m
  | 0 => rfl
  | m + 1 => by
    rw [longB, saysL_app, longB_says m]
    simp [longS, saysL, Sm.says]
theorem longG_says (c : Int) : saysL (longG c) ≤ 71 := by
  unfold longG
  dsimp only
  generalize hn : (11 + c % 60).toNat = n
  have hn70 : n ≤ 70 := by omega
  generalize (c / 60 % ((longB n).length : Int)) = z
  have e : saysL ((longB n).take z.toNat) + saysL ((longB n).drop z.toNat) = n := by
    rw [← saysL_app, List.take_append_drop, longB_says]
  rw [saysL_app, saysL_app]
  have o : saysL [if c / 61 % 3 = 0 then .raise (.box 1) else if c / 61 % 3 = 1 then .give (.num z) else .say (.num z)] ≤ 1 := by
    split
    · simp [saysL, Sm.says]
    · split <;> simp [saysL, Sm.says]
  omega
theorem progG_says {ns : List Int} (hl : ns.length ≤ 63) (k : Nat) : ∀ b ∈ (progG ns k).1, saysL b ≤ 126 := by
  intro b hb
  unfold progG at hb
  dsimp only at hb
  rcases List.mem_cons.mp hb with rfl | hb
  · exact genB_says hl 7 _ _
  · exact blocksG_mem (Q := fun b => saysL b ≤ 126) (fun k => genB_says hl 6 _ _) _ _ b hb
theorem set_says {P : List (List Sm)} {b : List Sm} {n : Nat} (h : ∀ x ∈ P, saysL x ≤ n) (hb : saysL b ≤ n) : ∀ x ∈ P.set 0 b, saysL x ≤ n := fun x hx => by
  rcases List.mem_or_eq_of_mem_set hx with hx | rfl
  · exact h x hx
  · exact hb
theorem drawnG_says {ns : List Int} (hl : ns.length ≤ 63) (more : Int) (k : Nat) : ∀ b ∈ (drawnG ns more k).1, saysL b ≤ 300 := by
  unfold drawnG
  dsimp only
  have hP := progG_says hl k
  generalize progG ns k = P at hP ⊢
  have hr : (genR ns P.1.length 1 (genB ns P.1.length 0) (genB ns P.1.length 0) false P.2).1.says ≤ 126 := by
    have := (genR_paid (ns := ns) (count := P.1.length) hl (n := 1) (B1 := genB ns P.1.length 0) (B2 := genB ns P.1.length 0) paid_nil paid_nil (l := false) (k := P.2)).2
    omega
  generalize genR ns P.1.length 1 (genB ns P.1.length 0) (genB ns P.1.length 0) false P.2 = r at hr
  have h2 : ∀ b ∈ (if more % 4 = 1 then (P.1.set 0 (towerG 7 0 (more / 4) [.set 1 (.bin .add (.box 0) (.num 1)), r.1]), r.2) else P).1, saysL b ≤ 140 := by
    split
    · refine set_says (fun x hx => Nat.le_trans (hP x hx) (by decide)) ?_
      have h3 := towerG_says 7 0 (more / 4) [.set 1 (.bin .add (.box 0) (.num 1)), r.1]
      have h4 : saysL [.set 1 (.bin .add (.box 0) (.num 1)), r.1] = r.1.says := by simp [saysL, Sm.says]
      omega
    · exact fun x hx => Nat.le_trans (hP x hx) (by decide)
  generalize (if more % 4 = 1 then (P.1.set 0 (towerG 7 0 (more / 4) [.set 1 (.bin .add (.box 0) (.num 1)), r.1]), r.2) else P) = P2 at h2 ⊢
  split
  · refine set_says (fun x hx => Nat.le_trans (h2 x hx) (by decide)) ?_
    rw [saysL_app]
    have h5 := longG_says (more / 8)
    have h6 : saysL (P2.1.headD []) ≤ 140 := by
      cases hp : P2.1 with
      | nil => exact Nat.zero_le _
      | cons b q => exact h2 b (by rw [hp]; exact List.mem_cons_self ..)
    omega
  · exact fun x hx => Nat.le_trans (h2 x hx) (by decide)
end Un

set_option maxHeartbeats 8000000
namespace U
open PySem PySem.Spec PyProof.Rows L2 Un
local macro_rules | `(tactic| walk_at "w1") => `(tactic| first
  | with_reducible refine w_tDGet ?_
  | ((with_reducible refine' w_dget ?h1 ?h2 ?_); (case h1 => assumption); (case h2 => rfl)))
local macro_rules | `(tactic| walk_at "w1") => `(tactic| first
  | with_reducible refine w_seq ?_
  | with_reducible refine w_asg ?_
  | with_reducible refine w_op ?_
  | ((with_reducible refine' w_var ?h1 ?_); (case h1 => rfl))
  | with_reducible refine w_c ?_
  | with_reducible refine w_name ?_
  | with_reducible refine w_tFd ?_
  | ((with_reducible refine' w_fld ?h1 ?h2 ?_); (case h1 => assumption); (case h2 => rfl))
  | with_reducible refine w_if ?_
  | with_reducible refine w_test ?_
  | with_reducible refine w_eqS ?_
  | with_reducible refine w_eqI ?_
  | with_reducible refine w_neS ?_
  | with_reducible refine w_neI ?_
  | with_reducible refine w_isN ?_
  | with_reducible refine w_isnN ?_
  | with_reducible refine w_bl ?_
  | with_reducible refine w_ret ?_
  | with_reducible refine w_drop ?_
  | with_reducible refine w_next ?_
  | with_reducible refine w_cons ?_
  | with_reducible refine w_nil ?_
  | with_reducible refine w_call ?_
  | with_reducible refine w_cb ?_
  | with_reducible refine w_meth ?_
  | ((with_reducible refine' w_recv ?h1 ?h2 ?_); (case h1 => assumption); (case h2 => rfl))
  | with_reducible refine w_sFd ?_
  | ((with_reducible refine' w_put ?h1 ?h2 ?_); (case h1 => assumption); (case h2 => exact Nat.le_of_ble_eq_true rfl))
  | with_reducible refine w_add ?_
  | with_reducible refine w_sub ?_
  | with_reducible refine w_lt ?_
  | with_reducible refine w_le ?_
  | with_reducible refine w_gt ?_
  | with_reducible refine w_ge ?_
  | with_reducible refine w_bm ?_
  | with_reducible refine w_bm0 ?_
  | ((with_reducible refine' w_ty ?h1 ?_); (case h1 => assumption))
  | with_reducible refine w_tup ?_
  | with_reducible refine w_lst ?_
  | ((with_reducible refine' w_new ?h1 ?_); (case h1 => exact Nat.le_of_ble_eq_true rfl))
  | with_reducible refine w_gsub ?_
  | with_reducible refine w_make ?_
  | with_reducible refine w_lc ?_
  | with_reducible refine w_iList ?_
  | with_reducible refine w_for ?_
  | with_reducible refine w_yes ?_
  | with_reducible refine w_tSl ?_
  | with_reducible refine w_part ?_
  | with_reducible refine w_nopart ?_
  | with_reducible refine w_i ?_
  | with_reducible refine w_rng1 ?_
  | with_reducible refine w_rng2 ?_
  | with_reducible refine w_isiII ?_
  | with_reducible refine w_isiIB ?_
  | with_reducible refine w_isiSS ?_
  | ((with_reducible refine w_mod ?h1 ?_); (case h1 => decide))
  | ((with_reducible refine w_fdC' ?h1 ?h2 ?_); (case h1 => decide); (case h2 => decide))
  | ((with_reducible refine w_mulR ?h1 ?h2 ?_); (case h1 => decide); (case h2 => decide))
  | ((with_reducible refine w_mulL ?h1 ?h2 ?_); (case h1 => decide); (case h2 => decide))
  | ((with_reducible refine w_pow' ?h1 ?h2 ?h3 ?_); (case h1 => decide); (case h2 => decide); (case h3 => decide))
  | with_reducible refine w_andV ?_
  | with_reducible refine w_orV ?_
  | with_reducible refine w_notV ?_
  | with_reducible refine w_B ?_
  | with_reducible refine w_not ?_
  | with_reducible refine w_and ?_
  | with_reducible refine w_or ?_
  | with_reducible refine w_ifx ?_
  | with_reducible refine w_un ?_
  | ((with_reducible refine w_T ?h1 ?_); (case h1 => with_reducible rfl))
  | ((with_reducible refine w_F ?h1 ?_); (case h1 => with_reducible rfl))
  | ((with_reducible refine w_T ?h1 ?_); (case h1 => decide +kernel))
  | ((with_reducible refine w_F ?h1 ?_); (case h1 => decide +kernel)))
local macro_rules | `(tactic| walk_at "w") => `(tactic| repeat walk_at "w1")

section
variable {K : PySem.W.Frag}
theorem w_disp {σ : L2.St} {H : Hp} {Q : VK} {trs : List (TE × TE)} (h : ∀ p, H p = none → tPairs trs σ (upd H p (.dK [])) fun ps H2 => H2 p = some (.dK []) ∧ ∃ kvs : List (Key × V), ps = kvs.map (fun kv => (kV kv.1, kv.2)) ∧ kvs.length ≤ 15 ∧ Q (.ref p) (upd H2 p (.dK (mergeK [] kvs)))) : tDisp trs σ H Q := h
theorem less_nil {H : Hp} : less H [] = H := by
  funext b
  exact less_off (fun h => by cases h)
theorem ints_shaped (ns : List Int) (x : Str) (hx : x = "answer" ∨ x = "fault" ∨ x = "tired") (z : Int) : SeqAt.shaped (.tuple [.list (ns.map PyData.int), .str x, .int z]) = true := by
  have l := lay_ints ns
  refine shaped_of ?_ ?_
  · rcases hx with rfl | rfl | rfl <;> (simp only [PyData.canLay0, PyData.canLayAll0, l.1]; decide +kernel)
  · simp [PyData.depth, PyData.depthAll, l.2]
theorem p_law (vs : List V) (H : Hp) (Q : VK) (E : XK) (h : spLaw K vs H Q E) : t_law K (sp_l_next K) (sp_l_number K) (sp_l_drawn K) (sp_l_function K 256) (sp_told K 256) (sp_l_is K) { nx := fun _ H' => Q .non H', rt := Q } (L2.start n_law vs) H := by
  obtain ⟨a, ns, rfl, hS, hlen, q⟩ := h
  unfold t_law
  walk_at "w"
  refine fun p hp => ?_
  have w := (Own.nil (Same.refl H)).take (o := .lst [.int ((0 : Nat) : Int)]) hp
  change Own H (upd H p (.lst [.int 0])) [atC p 0] at w
  generalize upd H p (.lst [.int 0]) = H1 at w ⊢
  walk_at "w"
  refine ⟨H, a, ns, p, 0, [], rfl, hS, w, ?_⟩
  have w := w.set 0 (.lst [.int ((0 + 1 : Nat) : Int)]) rfl
  change Own H _ [atC p 1] at w
  generalize upd H1 p (.lst [.int ((0 + 1 : Nat) : Int)]) = H1 at w ⊢
  generalize hc0 : cellN ns 0 = c0
  walk_at "w"
  refine ⟨H, a, ns, p, 1, [], rfl, hS, w, ?_⟩
  have w := w.set 0 (.lst [.int ((1 + 1 : Nat) : Int)]) rfl
  change Own H _ [atC p 2] at w
  generalize upd H1 p (.lst [.int ((1 + 1 : Nat) : Int)]) = H1 at w ⊢
  walk_at "w"
  refine ⟨_, rfl, ?_⟩
  generalize numberOf (cellN ns 1) = g
  walk_at "w"
  refine ⟨H, a, ns, p, 2, [], rfl, hS, w, ?_⟩
  have w := w.set 0 (.lst [.int ((2 + 1 : Nat) : Int)]) rfl
  change Own H _ [atC p 3] at w
  generalize upd H1 p (.lst [.int ((2 + 1 : Nat) : Int)]) = H1 at w ⊢
  generalize cellN ns 2 = c2
  walk_at "w"
  generalize c2 * 48271 % 1000003 = more
  refine ⟨H, a, ns, p, 3, [], more, rfl, hS, w, fun H2 bq ws w s f1 => ?_⟩
  clear s
  walk_at "w"
  refine fun p2 hp2 => ?_
  have l0 := less_take (L := [atC p (drawnG ns more 3).2, (bq, .lst ws)]) (o := .lst [.int ((3 : Nat) : Int)]) hp2
  have w : Own H (upd H2 p2 (.lst [.int ((3 : Nat) : Int)])) [atC p2 3, atC p (drawnG ns more 3).2, (bq, .lst ws)] := w.take (o := .lst [.int ((3 : Nat) : Int)]) hp2
  rw [← l0] at f1
  clear l0
  change BlcAt K (less (upd H2 p2 (.lst [.int ((3 : Nat) : Int)])) [atC p2 3, atC p (drawnG ns more 3).2, (bq, .lst ws)]) _ _ at f1
  change tCons _ _ _ (upd H2 p2 (.lst [.int ((3 : Nat) : Int)])) _
  generalize upd H2 p2 (.lst [.int ((3 : Nat) : Int)]) = H2 at w f1 ⊢
  have hok := drawnG_ok ns more 3
  have hsay := drawnG_says hlen more 3
  walk_at "w"
  refine ⟨H, a, ns, p2, 3, _, more, rfl, hS, w, fun H2 bq2 ws2 w s f2 => ?_⟩
  replace f1 := f1.mono s
  clear s
  generalize drawnG ns more 3 = D at w f1 f2 hok hsay
  obtain ⟨P, k1⟩ := D
  dsimp only at w f1 f2 hok hsay
  -- the programs become data
  have w : Own H H2 ([atC p2 k1, (bq2, .lst ws2), atC p k1, (bq, .lst ws)] ++ []) := w
  have w0 : Own H H2 [] := w.drop
  have b2 : H2 bq2 = some (.lst ws2) := w.get (by simp)
  have b1 : H2 bq = some (.lst ws) := w.get (by simp)
  have p1 : ProgAt K H2 P bq := (f1.mono same_less).prog (SqL.of b1)
  have p2' : ProgAt K H2 P bq2 := (f2.mono same_less).prog (SqL.of b2)
  clear w f1 f2 b1 b2
  generalize hturn : c0 % 60 = turns
  have ht0 : 0 ≤ turns ∧ turns < 60 := by omega
  obtain ⟨t, rfl⟩ : ∃ t : Nat, turns = (t : Int) := ⟨turns.toNat, by omega⟩
  obtain ⟨⟨y, z⟩, wf, hen, hsd⟩ := told_ends hok hsay g t
  have hsd2 : wf.said.length < LIM := by
    have : (t + 1) * 300 ≤ 60 * 300 := Nat.mul_le_mul_right _ (by omega)
    show _ < 16000000
    omega
  have tw := (ways_ev hok 256).enter hen
  walk_at "w"
  refine w_disp fun wd hwd => ?_
  rw [← less_nil (H := H2)] at p1 p2'
  have l0 := less_take (L := []) (o := .dK []) hwd
  have w := w0.take (o := .dK []) hwd
  rw [← l0] at p1 p2'
  clear l0
  generalize upd H2 wd (.dK []) = H3 at w p1 p2' ⊢
  simp only [tPairs]
  walk_at "w"
  refine fun s0 hs0 => ?_
  have l0 := less_take (L := [(wd, .dK [])]) (o := .lst []) hs0
  have w := (w.take (o := .lst []) hs0).swp
  rw [← l0, less_swp] at p1 p2'
  clear l0
  generalize upd H3 s0 (.lst []) = H3 at w p1 p2' ⊢
  walk_at "w"
  refine ⟨w.ix 0 rfl, dwK bq s0 (t : Nat) (0 : Nat), rfl, (Nat.le_of_ble_eq_true rfl), ?_⟩
  have em : mergeK [] (dwK bq s0 (t : Nat) (0 : Nat)) = dwK bq s0 (t : Nat) (0 : Nat) := rfl
  rw [em]
  have l0 := less_put (H := H3) (L := [(wd, .dK []), (s0, .lst [])]) (o' := .dK (dwK bq s0 (t : Nat) (0 : Nat))) 0 rfl
  have w := w.set 0 (.dK (dwK bq s0 (t : Nat) (0 : Nat))) rfl
  rw [← l0] at p1 p2'
  clear l0
  generalize upd H3 wd (.dK (dwK bq s0 (t : Nat) (0 : Nat))) = H3 at w p1 p2' ⊢
  change Own H H3 [(wd, .dK (dwK bq s0 (t : Nat) (0 : Nat))), (s0, .lst [])] at w
  change ProgAt K (less H3 [(wd, .dK (dwK bq s0 (t : Nat) (0 : Nat))), (s0, .lst [])]) P bq at p1
  change ProgAt K (less H3 [(wd, .dK (dwK bq s0 (t : Nat) (0 : Nat))), (s0, .lst [])]) P bq2 at p2'
  walk_at "w"
  refine ⟨P, _, ⟨wd, wd, s0, bq⟩, 0, g, ⟨[], t, 0⟩, _, _, rfl, p1, w.lend, hen, hsd2, fun H4 u w4 hu => ?_⟩
  have q1 := p1.mono w4.same
  have q2 := p2'.mono w4.same
  have hs4 : H4 s0 = some (.lst (wf.said.map V.int)) := w4.ix 1 rfl
  have hw4 := w4.ix 0 rfl
  clear w4 w p1 p2'
  walk_at "w"
  refine ⟨P, bq, g, t, _, _, rfl, q1, hok, hen, hsd2, fun H5 s5 c5 w5 h5 => ?_⟩
  have sm := w5.same
  have hs5 := w5.ix 0 rfl
  have hs4' := sm _ _ hs4
  have hw5 := sm _ _ hw4
  have q1' := q1.mono sm
  have q2' := q2.mono sm
  have hu5 : LAt K H5 u (y, z) := by
    rcases tw with e | e | ⟨e, _⟩ <;> (dsimp only at e; subst e; exact IsTup.mono sm hu)
  walk_at "w"
  refine ⟨c5, s5, y, z, _, rfl, h5, hs5, tw, fun H6 s6 => ?_⟩
  walk_at "w"
  refine w_neD (dp_prog (q1'.mono s6)) (dp_prog (q2'.mono s6)) (shaped_prog hok) (shaped_prog hok) ?_
  rw [eqv_self (shaped_prog hok)]
  have hw6 := s6 _ _ hw5
  walk_at "w"
  have hon : y ≠ .on := by
    rcases tw with e | e | ⟨e, _⟩ <;> (dsimp only at e; rw [e]; intro h; cases h)
  have hlv : y ≠ .leave ∧ y ≠ .next := by
    rcases tw with e | e | ⟨e, _⟩ <;> (dsimp only at e; rw [e]; exact ⟨fun h => (by cases h), fun h => (by cases h)⟩)
  have hu6 : LAt K H6 u (y, z) := by
    rcases tw with e | e | ⟨e, _⟩ <;> (dsimp only at e; subst e; exact IsTup.mono s6 hu5)
  obtain ⟨cu, xs, rfl, hcu, hxs⟩ := hu6.word hon
  obtain rfl := hxs hlv.1 hlv.2
  have hw7 : H6 wd = some (.dK (dwK bq s0 wf.turns wf.deep)) := hw6
  walk_at "w"
  refine w_ixT hcu rfl ?_
  walk_at "w"
  have fin : ∀ (r : Addr), H6 r = none → rEqD K (.ref c5) (.ref r) (upd H6 r (.tup [.ref s0, .str (wordT y), .int z])) Q := fun r hr => by
    have sr := same_lay (o := .tup [.ref s0, .str (wordT y), .int z]) hr
    have d1 : Dp K (upd H6 r (.tup [.ref s0, .str (wordT y), .int z])) (.ref c5) (.tuple [.list (wf.said.map PyData.int), .str (wordT y), .int z]) :=
      .tup (SqT.of (sr _ _ (s6 _ _ h5))) (.cons (.lst (SqL.of (sr _ _ (s6 _ _ hs5))) (dp_ints _)) (.cons (.str _) (.cons (.int _) .nil)))
    have d2 : Dp K (upd H6 r (.tup [.ref s0, .str (wordT y), .int z])) (.ref r) (.tuple [.list (wf.said.map PyData.int), .str (wordT y), .int z]) :=
      .tup (SqT.of upd_same) (.cons (.lst (SqL.of (sr _ _ (s6 _ _ hs4'))) (dp_ints _)) (.cons (.str _) (.cons (.int _) .nil)))
    have sh := ints_shaped wf.said (wordT y) (by
      rcases tw with e | e | ⟨e, _⟩ <;> (dsimp only at e; rw [e])
      · exact .inl rfl
      · exact .inr (.inl rfl)
      · exact .inr (.inr rfl)) z
    refine w_eqD d1 d2 sh sh ?_
    rw [eqv_self sh]
    exact q _
  rcases tw with e | e | ⟨e, _⟩ <;> (dsimp only at e; subst e)
  · refine w_T rfl ?_
    walk_at "w"
    refine w_ixT hcu rfl ?_
    walk_at "w"
    exact fin
  · refine w_F rfl ?_
    walk_at "w"
    refine w_ixT hcu rfl ?_
    walk_at "w"
    refine w_ixT hcu rfl ?_
    walk_at "w"
    exact fin
  · refine w_F rfl ?_
    walk_at "w"
    refine w_ixT hcu rfl ?_
    walk_at "w"
    refine w_ixT hcu rfl ?_
    walk_at "w"
    exact fin
end
end U

namespace U
open PySem PySem.Spec PyProof.Rows L2 Un
section
variable {K : PySem.W.Frag}
theorem no_l_value : ∀ vs H Q E, ¬ sp_l_value K 0 vs H Q E := fun _ _ _ _ ⟨_, _, _, _, _, _, _, _, _, _, _, _, _, _, he, _⟩ => by cases he
theorem no_l_call : ∀ vs H Q E, ¬ sp_l_call K 0 vs H Q E := fun _ _ _ _ ⟨_, _, _, _, _, _, _, _, _, _, _, he, _⟩ => by cases he
theorem no_l_function : ∀ vs H Q E, ¬ sp_l_function K 0 vs H Q E := fun _ _ _ _ ⟨_, _, _, _, _, _, _, _, _, _, _, he, _⟩ => by cases he
theorem no_l_done : ∀ vs H Q E, ¬ sp_l_done K 0 vs H Q E := fun _ _ _ _ ⟨_, _, _, _, _, _, _, _, _, _, _, _, _, _, _, he, _⟩ => by cases he
theorem no_l_row_done : ∀ vs H Q E, ¬ sp_l_row_done K 0 vs H Q E := fun _ _ _ _ ⟨_, _, _, _, _, _, _, _, _, _, _, _, _, _, _, he, _⟩ => by cases he
theorem no_l_looped : ∀ vs H Q E, ¬ sp_l_looped K 0 vs H Q E := fun _ _ _ _ ⟨_, _, _, _, _, _, _, _, _, _, _, _, _, _, _, _, he, _⟩ => by cases he
end
end U

set_option maxHeartbeats 8000000
namespace Lw
open PySem PySem.Spec PyProof.Rows L2 Un U

local macro_rules | `(tactic| walk_at "len") => `(tactic| (intro vs H Q E h; first
  | (obtain ⟨e, _⟩ := h; exact (congrArg List.length e).trans rfl) | (obtain ⟨_, e, _⟩ := h; exact (congrArg List.length e).trans rfl) | (obtain ⟨_, _, e, _⟩ := h; exact (congrArg List.length e).trans rfl) | (obtain ⟨_, _, _, e, _⟩ := h; exact (congrArg List.length e).trans rfl) | (obtain ⟨_, _, _, _, e, _⟩ := h; exact (congrArg List.length e).trans rfl) | (obtain ⟨_, _, _, _, _, e, _⟩ := h; exact (congrArg List.length e).trans rfl) | (obtain ⟨_, _, _, _, _, _, e, _⟩ := h; exact (congrArg List.length e).trans rfl) | (obtain ⟨_, _, _, _, _, _, _, e, _⟩ := h; exact (congrArg List.length e).trans rfl) | (obtain ⟨_, _, _, _, _, _, _, _, e, _⟩ := h; exact (congrArg List.length e).trans rfl) | (obtain ⟨_, _, _, _, _, _, _, _, _, e, _⟩ := h; exact (congrArg List.length e).trans rfl) | (obtain ⟨_, _, _, _, _, _, _, _, _, _, e, _⟩ := h; exact (congrArg List.length e).trans rfl) | (obtain ⟨_, _, _, _, _, _, _, _, _, _, _, e, _⟩ := h; exact (congrArg List.length e).trans rfl) | (obtain ⟨_, _, _, _, _, _, _, _, _, _, _, _, e, _⟩ := h; exact (congrArg List.length e).trans rfl) | (obtain ⟨_, _, _, _, _, _, _, _, _, _, _, _, _, e, _⟩ := h; exact (congrArg List.length e).trans rfl) | (obtain ⟨_, _, _, _, _, _, _, _, _, _, _, _, _, _, e, _⟩ := h; exact (congrArg List.length e).trans rfl) | (obtain ⟨_, _, _, _, _, _, _, _, _, _, _, _, _, _, _, e, _⟩ := h; exact (congrArg List.length e).trans rfl) | (obtain ⟨_, _, _, _, _, _, _, _, _, _, _, _, _, _, _, _, e, _⟩ := h; exact (congrArg List.length e).trans rfl) | (obtain ⟨_, _, _, _, _, _, _, _, _, _, _, _, _, _, _, _, _, e, _⟩ := h; exact (congrArg List.length e).trans rfl) | (obtain ⟨_, _, _, _, _, _, _, _, _, _, _, _, _, _, _, _, _, _, e, _⟩ := h; exact (congrArg List.length e).trans rfl) | (obtain ⟨_, _, _, _, _, _, _, _, _, _, _, _, _, _, _, _, _, _, _, e, _⟩ := h; exact (congrArg List.length e).trans rfl) | (obtain ⟨_, _, _, _, _, _, _, _, _, _, _, _, _, _, _, _, _, _, _, _, e, _⟩ := h; exact (congrArg List.length e).trans rfl) | (obtain ⟨_, _, _, _, _, _, _, _, _, _, _, _, _, _, _, _, _, _, _, _, _, e, _⟩ := h; exact (congrArg List.length e).trans rfl)))
/-! ### the text by places -/
def top (i : Nat) : Stmt := PySem.Challenge.pw_unwind_k08_told_by_hand.main.body.getD i (.Pass ⟨0, 0, 0, 0⟩)
abbrev s_check_box : Stmt := top 13
abbrev s_check_tree : Stmt := top 14
abbrev s_check_block : Stmt := top 15
abbrev s_check_row : Stmt := top 16
abbrev s_checked : Stmt := top 17
abbrev s_World___init__ : Stmt := inClass (top 19) 0
abbrev s_World_taken : Stmt := inClass (top 19) 1
abbrev s_joined : Stmt := top 20
abbrev s_reckoned : Stmt := top 21
abbrev s_called : Stmt := top 22
abbrev s_entered : Stmt := top 23
abbrev s_block_done : Stmt := top 24
abbrev s_row_done : Stmt := top 25
abbrev s_loop_done : Stmt := top 26
abbrev s_catch_done : Stmt := top 27
abbrev s_end_done : Stmt := top 28
abbrev s_told : Stmt := top 29
abbrev s_l_whole : Stmt := top 31
abbrev s_l_next : Stmt := top 32
abbrev s_l_number : Stmt := top 33
abbrev s_l_tree : Stmt := top 34
abbrev s_l_out : Stmt := top 35
abbrev s_l_loop : Stmt := top 36
abbrev s_l_catch : Stmt := top 37
abbrev s_l_ends : Stmt := top 38
abbrev s_l_row : Stmt := top 39
abbrev s_l_block : Stmt := top 40
abbrev s_l_program : Stmt := top 41
abbrev s_l_is : Stmt := top 42
abbrev s_l_value : Stmt := top 43
abbrev s_l_call : Stmt := top 44
abbrev s_l_function : Stmt := top 45
abbrev s_l_done : Stmt := top 46
abbrev s_l_row_done : Stmt := top 47
abbrev s_l_looped : Stmt := top 48
abbrev s_l_long : Stmt := top 49
abbrev s_l_tower : Stmt := top 50
abbrev s_l_drawn : Stmt := top 51
abbrev s_law : Stmt := top 52
/-! ### what the head tells -/
def d_check_box : He.FnD := ⟨("check_box", none), "check_box", "check_box", defArgs s_check_box, defBody s_check_box, defScope s_check_box⟩
def d_check_tree : He.FnD := ⟨("check_tree", none), "check_tree", "check_tree", defArgs s_check_tree, defBody s_check_tree, defScope s_check_tree⟩
def d_check_block : He.FnD := ⟨("check_block", none), "check_block", "check_block", defArgs s_check_block, defBody s_check_block, defScope s_check_block⟩
def d_check_row : He.FnD := ⟨("check_row", none), "check_row", "check_row", defArgs s_check_row, defBody s_check_row, defScope s_check_row⟩
def d_checked : He.FnD := ⟨("checked", none), "checked", "checked", defArgs s_checked, defBody s_checked, defScope s_checked⟩
def d_World___init__ : He.FnD := ⟨("World", some "__init__"), "__init__", "World.__init__", defArgs s_World___init__, defBody s_World___init__, defScope s_World___init__⟩
def d_World_taken : He.FnD := ⟨("World", some "taken"), "taken", "World.taken", defArgs s_World_taken, defBody s_World_taken, defScope s_World_taken⟩
def d_joined : He.FnD := ⟨("joined", none), "joined", "joined", defArgs s_joined, defBody s_joined, defScope s_joined⟩
def d_reckoned : He.FnD := ⟨("reckoned", none), "reckoned", "reckoned", defArgs s_reckoned, defBody s_reckoned, defScope s_reckoned⟩
def d_called : He.FnD := ⟨("called", none), "called", "called", defArgs s_called, defBody s_called, defScope s_called⟩
def d_entered : He.FnD := ⟨("entered", none), "entered", "entered", defArgs s_entered, defBody s_entered, defScope s_entered⟩
def d_block_done : He.FnD := ⟨("block_done", none), "block_done", "block_done", defArgs s_block_done, defBody s_block_done, defScope s_block_done⟩
def d_row_done : He.FnD := ⟨("row_done", none), "row_done", "row_done", defArgs s_row_done, defBody s_row_done, defScope s_row_done⟩
def d_loop_done : He.FnD := ⟨("loop_done", none), "loop_done", "loop_done", defArgs s_loop_done, defBody s_loop_done, defScope s_loop_done⟩
def d_catch_done : He.FnD := ⟨("catch_done", none), "catch_done", "catch_done", defArgs s_catch_done, defBody s_catch_done, defScope s_catch_done⟩
def d_end_done : He.FnD := ⟨("end_done", none), "end_done", "end_done", defArgs s_end_done, defBody s_end_done, defScope s_end_done⟩
def d_told : He.FnD := ⟨("told", none), "told", "told", defArgs s_told, defBody s_told, defScope s_told⟩
def d_l_whole : He.FnD := ⟨("_law_whole", none), "_law_whole", "_law_whole", defArgs s_l_whole, defBody s_l_whole, defScope s_l_whole⟩
def d_l_next : He.FnD := ⟨("_law_next", none), "_law_next", "_law_next", defArgs s_l_next, defBody s_l_next, defScope s_l_next⟩
def d_l_number : He.FnD := ⟨("_law_number", none), "_law_number", "_law_number", defArgs s_l_number, defBody s_l_number, defScope s_l_number⟩
def d_l_tree : He.FnD := ⟨("_law_tree", none), "_law_tree", "_law_tree", defArgs s_l_tree, defBody s_l_tree, defScope s_l_tree⟩
def d_l_out : He.FnD := ⟨("_law_out", none), "_law_out", "_law_out", defArgs s_l_out, defBody s_l_out, defScope s_l_out⟩
def d_l_loop : He.FnD := ⟨("_law_loop", none), "_law_loop", "_law_loop", defArgs s_l_loop, defBody s_l_loop, defScope s_l_loop⟩
def d_l_catch : He.FnD := ⟨("_law_catch", none), "_law_catch", "_law_catch", defArgs s_l_catch, defBody s_l_catch, defScope s_l_catch⟩
def d_l_ends : He.FnD := ⟨("_law_ends", none), "_law_ends", "_law_ends", defArgs s_l_ends, defBody s_l_ends, defScope s_l_ends⟩
def d_l_row : He.FnD := ⟨("_law_row", none), "_law_row", "_law_row", defArgs s_l_row, defBody s_l_row, defScope s_l_row⟩
def d_l_block : He.FnD := ⟨("_law_block", none), "_law_block", "_law_block", defArgs s_l_block, defBody s_l_block, defScope s_l_block⟩
def d_l_program : He.FnD := ⟨("_law_program", none), "_law_program", "_law_program", defArgs s_l_program, defBody s_l_program, defScope s_l_program⟩
def d_l_is : He.FnD := ⟨("_law_is", none), "_law_is", "_law_is", defArgs s_l_is, defBody s_l_is, defScope s_l_is⟩
def d_l_value : He.FnD := ⟨("_law_value", none), "_law_value", "_law_value", defArgs s_l_value, defBody s_l_value, defScope s_l_value⟩
def d_l_call : He.FnD := ⟨("_law_call", none), "_law_call", "_law_call", defArgs s_l_call, defBody s_l_call, defScope s_l_call⟩
def d_l_function : He.FnD := ⟨("_law_function", none), "_law_function", "_law_function", defArgs s_l_function, defBody s_l_function, defScope s_l_function⟩
def d_l_done : He.FnD := ⟨("_law_done", none), "_law_done", "_law_done", defArgs s_l_done, defBody s_l_done, defScope s_l_done⟩
def d_l_row_done : He.FnD := ⟨("_law_row_done", none), "_law_row_done", "_law_row_done", defArgs s_l_row_done, defBody s_l_row_done, defScope s_l_row_done⟩
def d_l_looped : He.FnD := ⟨("_law_looped", none), "_law_looped", "_law_looped", defArgs s_l_looped, defBody s_l_looped, defScope s_l_looped⟩
def d_l_long : He.FnD := ⟨("_law_long", none), "_law_long", "_law_long", defArgs s_l_long, defBody s_l_long, defScope s_l_long⟩
def d_l_tower : He.FnD := ⟨("_law_tower", none), "_law_tower", "_law_tower", defArgs s_l_tower, defBody s_l_tower, defScope s_l_tower⟩
def d_l_drawn : He.FnD := ⟨("_law_drawn", none), "_law_drawn", "_law_drawn", defArgs s_l_drawn, defBody s_l_drawn, defScope s_l_drawn⟩
def d_law : He.FnD := ⟨("law", none), "law", "law", defArgs s_law, defBody s_law, defScope s_law⟩
def fn : List He.FnD := ([d_check_box, d_check_tree, d_check_block, d_check_row, d_checked, d_World___init__, d_World_taken, d_joined, d_reckoned, d_called, d_entered, d_block_done, d_row_done, d_loop_done, d_catch_done, d_end_done, d_told, d_l_whole, d_l_next, d_l_number, d_l_tree, d_l_out, d_l_loop, d_l_catch, d_l_ends, d_l_row, d_l_block, d_l_program, d_l_is, d_l_value] : List He.FnD) ++ ([d_l_call, d_l_function, d_l_done, d_l_row_done, d_l_looped, d_l_long, d_l_tower, d_l_drawn, d_law] : List He.FnD)
def fa : List He.Fa := ([.glo "MillError", .glo "NoBox", .glo "NoFunction", .glo "NoLoop", .glo "TooDeep", .int "BOXES" 4, .int "DEEPEST" 8, .int "NOUGHT" 101, .int "DEEP" 102, .int "MOST_BLOCKS" 8, .int "MOST_PARTS" 6, .glo "check_box", .keep "check_box", .glo "check_tree", .keep "check_tree", .glo "check_block", .keep "check_block", .glo "check_row", .keep "check_row", .glo "checked", .keep "checked", .glo "World", .cls "World", .noat "World" "deep", .noat "World" "program", .noat "World" "said", .noat "World" "turns", .mkr "World", .meth "World" "taken", .glo "joined"] : List He.Fa) ++ ([.keep "joined", .glo "reckoned", .keep "reckoned", .glo "called", .keep "called", .glo "entered", .keep "entered", .glo "block_done", .keep "block_done", .glo "row_done", .keep "row_done", .glo "loop_done", .keep "loop_done", .glo "catch_done", .keep "catch_done", .glo "end_done", .keep "end_done", .glo "told", .keep "told", .glo "_law_whole", .keep "_law_whole", .glo "_law_next", .keep "_law_next", .glo "_law_number", .keep "_law_number", .glo "_law_tree", .keep "_law_tree", .glo "_law_out", .keep "_law_out", .glo "_law_loop"] : List He.Fa) ++ ([.keep "_law_loop", .glo "_law_catch", .keep "_law_catch", .glo "_law_ends", .keep "_law_ends", .glo "_law_row", .keep "_law_row", .glo "_law_block", .keep "_law_block", .glo "_law_program", .keep "_law_program", .glo "_law_is", .keep "_law_is", .glo "_law_value", .keep "_law_value", .glo "_law_call", .keep "_law_call", .glo "_law_function", .keep "_law_function", .glo "_law_done", .keep "_law_done", .glo "_law_row_done", .keep "_law_row_done", .glo "_law_looped", .keep "_law_looped", .glo "_law_long", .keep "_law_long", .glo "_law_tower", .keep "_law_tower", .glo "_law_drawn"] : List He.Fa) ++ ([.keep "_law_drawn", .glo "law", .keep "law", .free "ValueError", .free "bool", .free "int", .free "isinstance", .free "len", .free "list", .free "range", .free "str", .free "tuple"] : List He.Fa)
def loose : List PySem.Str := (["MillError", "NoBox", "NoFunction", "NoLoop", "TooDeep", "BOXES", "DEEPEST", "NOUGHT", "DEEP", "MOST_BLOCKS", "MOST_PARTS", "check_box", "check_tree", "check_block", "check_row", "checked", "World", "joined", "reckoned", "called", "entered", "block_done", "row_done", "loop_done", "catch_done", "end_done", "told", "_law_whole", "_law_next", "_law_number"] : List PySem.Str) ++ (["_law_tree", "_law_out", "_law_loop", "_law_catch", "_law_ends", "_law_row", "_law_block", "_law_program", "_law_is", "_law_value", "_law_call", "_law_function", "_law_done", "_law_row_done", "_law_looped", "_law_long", "_law_tower", "_law_drawn"] : List PySem.Str)

abbrev R : PySem.W.OpenRow := PySem.W.OpenLaw.row PySem.Challenge.rw_unwind_k08_told_by_hand
abbrev hk : PySem.W.Hook := He.hookE 5 fa fn
def ob (s : PySem.W.SharedT) : He.Al := He.obsG 5 fa fn (HandSHeadRun.getT s)
theorem ob_eq (s : PySem.W.SharedT) : ob s = hk.obs s.abs := He.obsG_eq (HandSHeadRun.getT_eq s)
theorem run (w : World) : HandSHeadRun.RunEq R (PySem.W.view R.prog [52]) hk ob 30000 loose w := by
  intro os
  kernel_rfl

structure Tx (Z : Zt) : Prop where
  says : He.SaysE fa fn Z.K
  kin : Z.K.In Z.base
  ns : Z.base.Ns mainGlobals Z.mg
  seer : Z.base.NoSeer
  tree : Z.P.given.tree = none
section
variable {Z : Zt}
theorem g_MillError (T : Tx Z) : Z.mg "MillError" = some (.ref (He.ga Z.K "MillError")) := He.glo_ok T.kin T.ns (T.says.fact 0 (f := .glo "MillError") rfl)
theorem g_NoBox (T : Tx Z) : Z.mg "NoBox" = some (.ref (He.ga Z.K "NoBox")) := He.glo_ok T.kin T.ns (T.says.fact 1 (f := .glo "NoBox") rfl)
theorem g_NoFunction (T : Tx Z) : Z.mg "NoFunction" = some (.ref (He.ga Z.K "NoFunction")) := He.glo_ok T.kin T.ns (T.says.fact 2 (f := .glo "NoFunction") rfl)
theorem g_NoLoop (T : Tx Z) : Z.mg "NoLoop" = some (.ref (He.ga Z.K "NoLoop")) := He.glo_ok T.kin T.ns (T.says.fact 3 (f := .glo "NoLoop") rfl)
theorem g_TooDeep (T : Tx Z) : Z.mg "TooDeep" = some (.ref (He.ga Z.K "TooDeep")) := He.glo_ok T.kin T.ns (T.says.fact 4 (f := .glo "TooDeep") rfl)
theorem i_BOXES (T : Tx Z) : ∃ t, Z.mg "BOXES" = some (.int 4 t) := He.int_ok T.kin T.ns (T.says.fact 5 (f := .int "BOXES" 4) rfl)
theorem i_DEEPEST (T : Tx Z) : ∃ t, Z.mg "DEEPEST" = some (.int 8 t) := He.int_ok T.kin T.ns (T.says.fact 6 (f := .int "DEEPEST" 8) rfl)
theorem i_NOUGHT (T : Tx Z) : ∃ t, Z.mg "NOUGHT" = some (.int 101 t) := He.int_ok T.kin T.ns (T.says.fact 7 (f := .int "NOUGHT" 101) rfl)
theorem i_DEEP (T : Tx Z) : ∃ t, Z.mg "DEEP" = some (.int 102 t) := He.int_ok T.kin T.ns (T.says.fact 8 (f := .int "DEEP" 102) rfl)
theorem i_MOST_BLOCKS (T : Tx Z) : ∃ t, Z.mg "MOST_BLOCKS" = some (.int 8 t) := He.int_ok T.kin T.ns (T.says.fact 9 (f := .int "MOST_BLOCKS" 8) rfl)
theorem i_MOST_PARTS (T : Tx Z) : ∃ t, Z.mg "MOST_PARTS" = some (.int 6 t) := He.int_ok T.kin T.ns (T.says.fact 10 (f := .int "MOST_PARTS" 6) rfl)
theorem g_check_box (T : Tx Z) : Z.mg "check_box" = some (.ref (He.ga Z.K "check_box")) := He.glo_ok T.kin T.ns (T.says.fact 11 (f := .glo "check_box") rfl)
theorem kp_check_box (T : Tx Z) : PySem.W.keepIn Z.K (.ref (He.ga Z.K "check_box")) = true := He.keep_ok (T.says.fact 12 (f := .keep "check_box") rfl)
theorem g_check_tree (T : Tx Z) : Z.mg "check_tree" = some (.ref (He.ga Z.K "check_tree")) := He.glo_ok T.kin T.ns (T.says.fact 13 (f := .glo "check_tree") rfl)
theorem kp_check_tree (T : Tx Z) : PySem.W.keepIn Z.K (.ref (He.ga Z.K "check_tree")) = true := He.keep_ok (T.says.fact 14 (f := .keep "check_tree") rfl)
theorem g_check_block (T : Tx Z) : Z.mg "check_block" = some (.ref (He.ga Z.K "check_block")) := He.glo_ok T.kin T.ns (T.says.fact 15 (f := .glo "check_block") rfl)
theorem kp_check_block (T : Tx Z) : PySem.W.keepIn Z.K (.ref (He.ga Z.K "check_block")) = true := He.keep_ok (T.says.fact 16 (f := .keep "check_block") rfl)
theorem g_check_row (T : Tx Z) : Z.mg "check_row" = some (.ref (He.ga Z.K "check_row")) := He.glo_ok T.kin T.ns (T.says.fact 17 (f := .glo "check_row") rfl)
theorem kp_check_row (T : Tx Z) : PySem.W.keepIn Z.K (.ref (He.ga Z.K "check_row")) = true := He.keep_ok (T.says.fact 18 (f := .keep "check_row") rfl)
theorem g_checked (T : Tx Z) : Z.mg "checked" = some (.ref (He.ga Z.K "checked")) := He.glo_ok T.kin T.ns (T.says.fact 19 (f := .glo "checked") rfl)
theorem kp_checked (T : Tx Z) : PySem.W.keepIn Z.K (.ref (He.ga Z.K "checked")) = true := He.keep_ok (T.says.fact 20 (f := .keep "checked") rfl)
theorem g_World (T : Tx Z) : Z.mg "World" = some (.ref (He.ga Z.K "World")) := He.glo_ok T.kin T.ns (T.says.fact 21 (f := .glo "World") rfl)
theorem cl_World (T : Tx Z) : Cls Z.K (He.ga Z.K "World") := He.cls_ok (T.says.fact 22 (f := .cls "World") rfl)
theorem na_World_deep (T : Tx Z) : NoAttr Z.K (He.ga Z.K "World") "deep" := He.noat_ok (T.says.fact 23 (f := .noat "World" "deep") rfl)
theorem na_World_program (T : Tx Z) : NoAttr Z.K (He.ga Z.K "World") "program" := He.noat_ok (T.says.fact 24 (f := .noat "World" "program") rfl)
theorem na_World_said (T : Tx Z) : NoAttr Z.K (He.ga Z.K "World") "said" := He.noat_ok (T.says.fact 25 (f := .noat "World" "said") rfl)
theorem na_World_turns (T : Tx Z) : NoAttr Z.K (He.ga Z.K "World") "turns" := He.noat_ok (T.says.fact 26 (f := .noat "World" "turns") rfl)
theorem mk_World (T : Tx Z) : Mk Z.K (He.ga Z.K "World") (He.ma Z.K (He.ga Z.K "World") "__init__") := He.mkr_ok (T.says.fact 27 (f := .mkr "World") rfl)
theorem m_World_taken (T : Tx Z) : Meth Z.K (He.ga Z.K "World") "taken" (He.ma Z.K (He.ga Z.K "World") "taken") := He.meth_ok (T.says.fact 28 (f := .meth "World" "taken") rfl)
theorem g_joined (T : Tx Z) : Z.mg "joined" = some (.ref (He.ga Z.K "joined")) := He.glo_ok T.kin T.ns (T.says.fact 29 (f := .glo "joined") rfl)
theorem kp_joined (T : Tx Z) : PySem.W.keepIn Z.K (.ref (He.ga Z.K "joined")) = true := He.keep_ok (T.says.fact 30 (f := .keep "joined") rfl)
theorem g_reckoned (T : Tx Z) : Z.mg "reckoned" = some (.ref (He.ga Z.K "reckoned")) := He.glo_ok T.kin T.ns (T.says.fact 31 (f := .glo "reckoned") rfl)
theorem kp_reckoned (T : Tx Z) : PySem.W.keepIn Z.K (.ref (He.ga Z.K "reckoned")) = true := He.keep_ok (T.says.fact 32 (f := .keep "reckoned") rfl)
theorem g_called (T : Tx Z) : Z.mg "called" = some (.ref (He.ga Z.K "called")) := He.glo_ok T.kin T.ns (T.says.fact 33 (f := .glo "called") rfl)
theorem kp_called (T : Tx Z) : PySem.W.keepIn Z.K (.ref (He.ga Z.K "called")) = true := He.keep_ok (T.says.fact 34 (f := .keep "called") rfl)
theorem g_entered (T : Tx Z) : Z.mg "entered" = some (.ref (He.ga Z.K "entered")) := He.glo_ok T.kin T.ns (T.says.fact 35 (f := .glo "entered") rfl)
theorem kp_entered (T : Tx Z) : PySem.W.keepIn Z.K (.ref (He.ga Z.K "entered")) = true := He.keep_ok (T.says.fact 36 (f := .keep "entered") rfl)
theorem g_block_done (T : Tx Z) : Z.mg "block_done" = some (.ref (He.ga Z.K "block_done")) := He.glo_ok T.kin T.ns (T.says.fact 37 (f := .glo "block_done") rfl)
theorem kp_block_done (T : Tx Z) : PySem.W.keepIn Z.K (.ref (He.ga Z.K "block_done")) = true := He.keep_ok (T.says.fact 38 (f := .keep "block_done") rfl)
theorem g_row_done (T : Tx Z) : Z.mg "row_done" = some (.ref (He.ga Z.K "row_done")) := He.glo_ok T.kin T.ns (T.says.fact 39 (f := .glo "row_done") rfl)
theorem kp_row_done (T : Tx Z) : PySem.W.keepIn Z.K (.ref (He.ga Z.K "row_done")) = true := He.keep_ok (T.says.fact 40 (f := .keep "row_done") rfl)
theorem g_loop_done (T : Tx Z) : Z.mg "loop_done" = some (.ref (He.ga Z.K "loop_done")) := He.glo_ok T.kin T.ns (T.says.fact 41 (f := .glo "loop_done") rfl)
theorem kp_loop_done (T : Tx Z) : PySem.W.keepIn Z.K (.ref (He.ga Z.K "loop_done")) = true := He.keep_ok (T.says.fact 42 (f := .keep "loop_done") rfl)
theorem g_catch_done (T : Tx Z) : Z.mg "catch_done" = some (.ref (He.ga Z.K "catch_done")) := He.glo_ok T.kin T.ns (T.says.fact 43 (f := .glo "catch_done") rfl)
theorem kp_catch_done (T : Tx Z) : PySem.W.keepIn Z.K (.ref (He.ga Z.K "catch_done")) = true := He.keep_ok (T.says.fact 44 (f := .keep "catch_done") rfl)
theorem g_end_done (T : Tx Z) : Z.mg "end_done" = some (.ref (He.ga Z.K "end_done")) := He.glo_ok T.kin T.ns (T.says.fact 45 (f := .glo "end_done") rfl)
theorem kp_end_done (T : Tx Z) : PySem.W.keepIn Z.K (.ref (He.ga Z.K "end_done")) = true := He.keep_ok (T.says.fact 46 (f := .keep "end_done") rfl)
theorem g_told (T : Tx Z) : Z.mg "told" = some (.ref (He.ga Z.K "told")) := He.glo_ok T.kin T.ns (T.says.fact 47 (f := .glo "told") rfl)
theorem kp_told (T : Tx Z) : PySem.W.keepIn Z.K (.ref (He.ga Z.K "told")) = true := He.keep_ok (T.says.fact 48 (f := .keep "told") rfl)
theorem g_l_whole (T : Tx Z) : Z.mg "_law_whole" = some (.ref (He.ga Z.K "_law_whole")) := He.glo_ok T.kin T.ns (T.says.fact 49 (f := .glo "_law_whole") rfl)
theorem kp_l_whole (T : Tx Z) : PySem.W.keepIn Z.K (.ref (He.ga Z.K "_law_whole")) = true := He.keep_ok (T.says.fact 50 (f := .keep "_law_whole") rfl)
theorem g_l_next (T : Tx Z) : Z.mg "_law_next" = some (.ref (He.ga Z.K "_law_next")) := He.glo_ok T.kin T.ns (T.says.fact 51 (f := .glo "_law_next") rfl)
theorem kp_l_next (T : Tx Z) : PySem.W.keepIn Z.K (.ref (He.ga Z.K "_law_next")) = true := He.keep_ok (T.says.fact 52 (f := .keep "_law_next") rfl)
theorem g_l_number (T : Tx Z) : Z.mg "_law_number" = some (.ref (He.ga Z.K "_law_number")) := He.glo_ok T.kin T.ns (T.says.fact 53 (f := .glo "_law_number") rfl)
theorem kp_l_number (T : Tx Z) : PySem.W.keepIn Z.K (.ref (He.ga Z.K "_law_number")) = true := He.keep_ok (T.says.fact 54 (f := .keep "_law_number") rfl)
theorem g_l_tree (T : Tx Z) : Z.mg "_law_tree" = some (.ref (He.ga Z.K "_law_tree")) := He.glo_ok T.kin T.ns (T.says.fact 55 (f := .glo "_law_tree") rfl)
theorem kp_l_tree (T : Tx Z) : PySem.W.keepIn Z.K (.ref (He.ga Z.K "_law_tree")) = true := He.keep_ok (T.says.fact 56 (f := .keep "_law_tree") rfl)
theorem g_l_out (T : Tx Z) : Z.mg "_law_out" = some (.ref (He.ga Z.K "_law_out")) := He.glo_ok T.kin T.ns (T.says.fact 57 (f := .glo "_law_out") rfl)
theorem kp_l_out (T : Tx Z) : PySem.W.keepIn Z.K (.ref (He.ga Z.K "_law_out")) = true := He.keep_ok (T.says.fact 58 (f := .keep "_law_out") rfl)
theorem g_l_loop (T : Tx Z) : Z.mg "_law_loop" = some (.ref (He.ga Z.K "_law_loop")) := He.glo_ok T.kin T.ns (T.says.fact 59 (f := .glo "_law_loop") rfl)
theorem kp_l_loop (T : Tx Z) : PySem.W.keepIn Z.K (.ref (He.ga Z.K "_law_loop")) = true := He.keep_ok (T.says.fact 60 (f := .keep "_law_loop") rfl)
theorem g_l_catch (T : Tx Z) : Z.mg "_law_catch" = some (.ref (He.ga Z.K "_law_catch")) := He.glo_ok T.kin T.ns (T.says.fact 61 (f := .glo "_law_catch") rfl)
theorem kp_l_catch (T : Tx Z) : PySem.W.keepIn Z.K (.ref (He.ga Z.K "_law_catch")) = true := He.keep_ok (T.says.fact 62 (f := .keep "_law_catch") rfl)
theorem g_l_ends (T : Tx Z) : Z.mg "_law_ends" = some (.ref (He.ga Z.K "_law_ends")) := He.glo_ok T.kin T.ns (T.says.fact 63 (f := .glo "_law_ends") rfl)
theorem kp_l_ends (T : Tx Z) : PySem.W.keepIn Z.K (.ref (He.ga Z.K "_law_ends")) = true := He.keep_ok (T.says.fact 64 (f := .keep "_law_ends") rfl)
theorem g_l_row (T : Tx Z) : Z.mg "_law_row" = some (.ref (He.ga Z.K "_law_row")) := He.glo_ok T.kin T.ns (T.says.fact 65 (f := .glo "_law_row") rfl)
theorem kp_l_row (T : Tx Z) : PySem.W.keepIn Z.K (.ref (He.ga Z.K "_law_row")) = true := He.keep_ok (T.says.fact 66 (f := .keep "_law_row") rfl)
theorem g_l_block (T : Tx Z) : Z.mg "_law_block" = some (.ref (He.ga Z.K "_law_block")) := He.glo_ok T.kin T.ns (T.says.fact 67 (f := .glo "_law_block") rfl)
theorem kp_l_block (T : Tx Z) : PySem.W.keepIn Z.K (.ref (He.ga Z.K "_law_block")) = true := He.keep_ok (T.says.fact 68 (f := .keep "_law_block") rfl)
theorem g_l_program (T : Tx Z) : Z.mg "_law_program" = some (.ref (He.ga Z.K "_law_program")) := He.glo_ok T.kin T.ns (T.says.fact 69 (f := .glo "_law_program") rfl)
theorem kp_l_program (T : Tx Z) : PySem.W.keepIn Z.K (.ref (He.ga Z.K "_law_program")) = true := He.keep_ok (T.says.fact 70 (f := .keep "_law_program") rfl)
theorem g_l_is (T : Tx Z) : Z.mg "_law_is" = some (.ref (He.ga Z.K "_law_is")) := He.glo_ok T.kin T.ns (T.says.fact 71 (f := .glo "_law_is") rfl)
theorem kp_l_is (T : Tx Z) : PySem.W.keepIn Z.K (.ref (He.ga Z.K "_law_is")) = true := He.keep_ok (T.says.fact 72 (f := .keep "_law_is") rfl)
theorem g_l_value (T : Tx Z) : Z.mg "_law_value" = some (.ref (He.ga Z.K "_law_value")) := He.glo_ok T.kin T.ns (T.says.fact 73 (f := .glo "_law_value") rfl)
theorem kp_l_value (T : Tx Z) : PySem.W.keepIn Z.K (.ref (He.ga Z.K "_law_value")) = true := He.keep_ok (T.says.fact 74 (f := .keep "_law_value") rfl)
theorem g_l_call (T : Tx Z) : Z.mg "_law_call" = some (.ref (He.ga Z.K "_law_call")) := He.glo_ok T.kin T.ns (T.says.fact 75 (f := .glo "_law_call") rfl)
theorem kp_l_call (T : Tx Z) : PySem.W.keepIn Z.K (.ref (He.ga Z.K "_law_call")) = true := He.keep_ok (T.says.fact 76 (f := .keep "_law_call") rfl)
theorem g_l_function (T : Tx Z) : Z.mg "_law_function" = some (.ref (He.ga Z.K "_law_function")) := He.glo_ok T.kin T.ns (T.says.fact 77 (f := .glo "_law_function") rfl)
theorem kp_l_function (T : Tx Z) : PySem.W.keepIn Z.K (.ref (He.ga Z.K "_law_function")) = true := He.keep_ok (T.says.fact 78 (f := .keep "_law_function") rfl)
theorem g_l_done (T : Tx Z) : Z.mg "_law_done" = some (.ref (He.ga Z.K "_law_done")) := He.glo_ok T.kin T.ns (T.says.fact 79 (f := .glo "_law_done") rfl)
theorem kp_l_done (T : Tx Z) : PySem.W.keepIn Z.K (.ref (He.ga Z.K "_law_done")) = true := He.keep_ok (T.says.fact 80 (f := .keep "_law_done") rfl)
theorem g_l_row_done (T : Tx Z) : Z.mg "_law_row_done" = some (.ref (He.ga Z.K "_law_row_done")) := He.glo_ok T.kin T.ns (T.says.fact 81 (f := .glo "_law_row_done") rfl)
theorem kp_l_row_done (T : Tx Z) : PySem.W.keepIn Z.K (.ref (He.ga Z.K "_law_row_done")) = true := He.keep_ok (T.says.fact 82 (f := .keep "_law_row_done") rfl)
theorem g_l_looped (T : Tx Z) : Z.mg "_law_looped" = some (.ref (He.ga Z.K "_law_looped")) := He.glo_ok T.kin T.ns (T.says.fact 83 (f := .glo "_law_looped") rfl)
theorem kp_l_looped (T : Tx Z) : PySem.W.keepIn Z.K (.ref (He.ga Z.K "_law_looped")) = true := He.keep_ok (T.says.fact 84 (f := .keep "_law_looped") rfl)
theorem g_l_long (T : Tx Z) : Z.mg "_law_long" = some (.ref (He.ga Z.K "_law_long")) := He.glo_ok T.kin T.ns (T.says.fact 85 (f := .glo "_law_long") rfl)
theorem kp_l_long (T : Tx Z) : PySem.W.keepIn Z.K (.ref (He.ga Z.K "_law_long")) = true := He.keep_ok (T.says.fact 86 (f := .keep "_law_long") rfl)
theorem g_l_tower (T : Tx Z) : Z.mg "_law_tower" = some (.ref (He.ga Z.K "_law_tower")) := He.glo_ok T.kin T.ns (T.says.fact 87 (f := .glo "_law_tower") rfl)
theorem kp_l_tower (T : Tx Z) : PySem.W.keepIn Z.K (.ref (He.ga Z.K "_law_tower")) = true := He.keep_ok (T.says.fact 88 (f := .keep "_law_tower") rfl)
theorem g_l_drawn (T : Tx Z) : Z.mg "_law_drawn" = some (.ref (He.ga Z.K "_law_drawn")) := He.glo_ok T.kin T.ns (T.says.fact 89 (f := .glo "_law_drawn") rfl)
theorem kp_l_drawn (T : Tx Z) : PySem.W.keepIn Z.K (.ref (He.ga Z.K "_law_drawn")) = true := He.keep_ok (T.says.fact 90 (f := .keep "_law_drawn") rfl)
theorem g_law (T : Tx Z) : Z.mg "law" = some (.ref (He.ga Z.K "law")) := He.glo_ok T.kin T.ns (T.says.fact 91 (f := .glo "law") rfl)
theorem kp_law (T : Tx Z) : PySem.W.keepIn Z.K (.ref (He.ga Z.K "law")) = true := He.keep_ok (T.says.fact 92 (f := .keep "law") rfl)
theorem g_ValueError (T : Tx Z) : Z.mg "ValueError" = none := He.free_ok T.kin T.ns (T.says.fact 93 (f := .free "ValueError") rfl)
theorem g_bool (T : Tx Z) : Z.mg "bool" = none := He.free_ok T.kin T.ns (T.says.fact 94 (f := .free "bool") rfl)
theorem g_int (T : Tx Z) : Z.mg "int" = none := He.free_ok T.kin T.ns (T.says.fact 95 (f := .free "int") rfl)
theorem g_isinstance (T : Tx Z) : Z.mg "isinstance" = none := He.free_ok T.kin T.ns (T.says.fact 96 (f := .free "isinstance") rfl)
theorem g_len (T : Tx Z) : Z.mg "len" = none := He.free_ok T.kin T.ns (T.says.fact 97 (f := .free "len") rfl)
theorem g_list (T : Tx Z) : Z.mg "list" = none := He.free_ok T.kin T.ns (T.says.fact 98 (f := .free "list") rfl)
theorem g_range (T : Tx Z) : Z.mg "range" = none := He.free_ok T.kin T.ns (T.says.fact 99 (f := .free "range") rfl)
theorem g_str (T : Tx Z) : Z.mg "str" = none := He.free_ok T.kin T.ns (T.says.fact 100 (f := .free "str") rfl)
theorem g_tuple (T : Tx Z) : Z.mg "tuple" = none := He.free_ok T.kin T.ns (T.says.fact 101 (f := .free "tuple") rfl)
theorem fx_check_box (T : Tx Z) : ∃ fd, FunE Z.K "check_box" "check_box" s_check_box (He.fAd Z.K ("check_box", none)) fd := fun_of (T.says.def_ 0 (d := d_check_box) rfl)
theorem fx_check_tree (T : Tx Z) : ∃ fd, FunE Z.K "check_tree" "check_tree" s_check_tree (He.fAd Z.K ("check_tree", none)) fd := fun_of (T.says.def_ 1 (d := d_check_tree) rfl)
theorem fx_check_block (T : Tx Z) : ∃ fd, FunE Z.K "check_block" "check_block" s_check_block (He.fAd Z.K ("check_block", none)) fd := fun_of (T.says.def_ 2 (d := d_check_block) rfl)
theorem fx_check_row (T : Tx Z) : ∃ fd, FunE Z.K "check_row" "check_row" s_check_row (He.fAd Z.K ("check_row", none)) fd := fun_of (T.says.def_ 3 (d := d_check_row) rfl)
theorem fx_checked (T : Tx Z) : ∃ fd, FunE Z.K "checked" "checked" s_checked (He.fAd Z.K ("checked", none)) fd := fun_of (T.says.def_ 4 (d := d_checked) rfl)
theorem fx_World___init__ (T : Tx Z) : ∃ fd, FunE Z.K "__init__" "World.__init__" s_World___init__ (He.fAd Z.K ("World", some "__init__")) fd := fun_of (T.says.def_ 5 (d := d_World___init__) rfl)
theorem fx_World_taken (T : Tx Z) : ∃ fd, FunE Z.K "taken" "World.taken" s_World_taken (He.fAd Z.K ("World", some "taken")) fd := fun_of (T.says.def_ 6 (d := d_World_taken) rfl)
theorem fx_joined (T : Tx Z) : ∃ fd, FunE Z.K "joined" "joined" s_joined (He.fAd Z.K ("joined", none)) fd := fun_of (T.says.def_ 7 (d := d_joined) rfl)
theorem fx_reckoned (T : Tx Z) : ∃ fd, FunE Z.K "reckoned" "reckoned" s_reckoned (He.fAd Z.K ("reckoned", none)) fd := fun_of (T.says.def_ 8 (d := d_reckoned) rfl)
theorem fx_called (T : Tx Z) : ∃ fd, FunE Z.K "called" "called" s_called (He.fAd Z.K ("called", none)) fd := fun_of (T.says.def_ 9 (d := d_called) rfl)
theorem fx_entered (T : Tx Z) : ∃ fd, FunE Z.K "entered" "entered" s_entered (He.fAd Z.K ("entered", none)) fd := fun_of (T.says.def_ 10 (d := d_entered) rfl)
theorem fx_block_done (T : Tx Z) : ∃ fd, FunE Z.K "block_done" "block_done" s_block_done (He.fAd Z.K ("block_done", none)) fd := fun_of (T.says.def_ 11 (d := d_block_done) rfl)
theorem fx_row_done (T : Tx Z) : ∃ fd, FunE Z.K "row_done" "row_done" s_row_done (He.fAd Z.K ("row_done", none)) fd := fun_of (T.says.def_ 12 (d := d_row_done) rfl)
theorem fx_loop_done (T : Tx Z) : ∃ fd, FunE Z.K "loop_done" "loop_done" s_loop_done (He.fAd Z.K ("loop_done", none)) fd := fun_of (T.says.def_ 13 (d := d_loop_done) rfl)
theorem fx_catch_done (T : Tx Z) : ∃ fd, FunE Z.K "catch_done" "catch_done" s_catch_done (He.fAd Z.K ("catch_done", none)) fd := fun_of (T.says.def_ 14 (d := d_catch_done) rfl)
theorem fx_end_done (T : Tx Z) : ∃ fd, FunE Z.K "end_done" "end_done" s_end_done (He.fAd Z.K ("end_done", none)) fd := fun_of (T.says.def_ 15 (d := d_end_done) rfl)
theorem fx_told (T : Tx Z) : ∃ fd, FunE Z.K "told" "told" s_told (He.fAd Z.K ("told", none)) fd := fun_of (T.says.def_ 16 (d := d_told) rfl)
theorem fx_l_whole (T : Tx Z) : ∃ fd, FunE Z.K "_law_whole" "_law_whole" s_l_whole (He.fAd Z.K ("_law_whole", none)) fd := fun_of (T.says.def_ 17 (d := d_l_whole) rfl)
theorem fx_l_next (T : Tx Z) : ∃ fd, FunE Z.K "_law_next" "_law_next" s_l_next (He.fAd Z.K ("_law_next", none)) fd := fun_of (T.says.def_ 18 (d := d_l_next) rfl)
theorem fx_l_number (T : Tx Z) : ∃ fd, FunE Z.K "_law_number" "_law_number" s_l_number (He.fAd Z.K ("_law_number", none)) fd := fun_of (T.says.def_ 19 (d := d_l_number) rfl)
theorem fx_l_tree (T : Tx Z) : ∃ fd, FunE Z.K "_law_tree" "_law_tree" s_l_tree (He.fAd Z.K ("_law_tree", none)) fd := fun_of (T.says.def_ 20 (d := d_l_tree) rfl)
theorem fx_l_out (T : Tx Z) : ∃ fd, FunE Z.K "_law_out" "_law_out" s_l_out (He.fAd Z.K ("_law_out", none)) fd := fun_of (T.says.def_ 21 (d := d_l_out) rfl)
theorem fx_l_loop (T : Tx Z) : ∃ fd, FunE Z.K "_law_loop" "_law_loop" s_l_loop (He.fAd Z.K ("_law_loop", none)) fd := fun_of (T.says.def_ 22 (d := d_l_loop) rfl)
theorem fx_l_catch (T : Tx Z) : ∃ fd, FunE Z.K "_law_catch" "_law_catch" s_l_catch (He.fAd Z.K ("_law_catch", none)) fd := fun_of (T.says.def_ 23 (d := d_l_catch) rfl)
theorem fx_l_ends (T : Tx Z) : ∃ fd, FunE Z.K "_law_ends" "_law_ends" s_l_ends (He.fAd Z.K ("_law_ends", none)) fd := fun_of (T.says.def_ 24 (d := d_l_ends) rfl)
theorem fx_l_row (T : Tx Z) : ∃ fd, FunE Z.K "_law_row" "_law_row" s_l_row (He.fAd Z.K ("_law_row", none)) fd := fun_of (T.says.def_ 25 (d := d_l_row) rfl)
theorem fx_l_block (T : Tx Z) : ∃ fd, FunE Z.K "_law_block" "_law_block" s_l_block (He.fAd Z.K ("_law_block", none)) fd := fun_of (T.says.def_ 26 (d := d_l_block) rfl)
theorem fx_l_program (T : Tx Z) : ∃ fd, FunE Z.K "_law_program" "_law_program" s_l_program (He.fAd Z.K ("_law_program", none)) fd := fun_of (T.says.def_ 27 (d := d_l_program) rfl)
theorem fx_l_is (T : Tx Z) : ∃ fd, FunE Z.K "_law_is" "_law_is" s_l_is (He.fAd Z.K ("_law_is", none)) fd := fun_of (T.says.def_ 28 (d := d_l_is) rfl)
theorem fx_l_value (T : Tx Z) : ∃ fd, FunE Z.K "_law_value" "_law_value" s_l_value (He.fAd Z.K ("_law_value", none)) fd := fun_of (T.says.def_ 29 (d := d_l_value) rfl)
theorem fx_l_call (T : Tx Z) : ∃ fd, FunE Z.K "_law_call" "_law_call" s_l_call (He.fAd Z.K ("_law_call", none)) fd := fun_of (T.says.def_ 30 (d := d_l_call) rfl)
theorem fx_l_function (T : Tx Z) : ∃ fd, FunE Z.K "_law_function" "_law_function" s_l_function (He.fAd Z.K ("_law_function", none)) fd := fun_of (T.says.def_ 31 (d := d_l_function) rfl)
theorem fx_l_done (T : Tx Z) : ∃ fd, FunE Z.K "_law_done" "_law_done" s_l_done (He.fAd Z.K ("_law_done", none)) fd := fun_of (T.says.def_ 32 (d := d_l_done) rfl)
theorem fx_l_row_done (T : Tx Z) : ∃ fd, FunE Z.K "_law_row_done" "_law_row_done" s_l_row_done (He.fAd Z.K ("_law_row_done", none)) fd := fun_of (T.says.def_ 33 (d := d_l_row_done) rfl)
theorem fx_l_looped (T : Tx Z) : ∃ fd, FunE Z.K "_law_looped" "_law_looped" s_l_looped (He.fAd Z.K ("_law_looped", none)) fd := fun_of (T.says.def_ 34 (d := d_l_looped) rfl)
theorem fx_l_long (T : Tx Z) : ∃ fd, FunE Z.K "_law_long" "_law_long" s_l_long (He.fAd Z.K ("_law_long", none)) fd := fun_of (T.says.def_ 35 (d := d_l_long) rfl)
theorem fx_l_tower (T : Tx Z) : ∃ fd, FunE Z.K "_law_tower" "_law_tower" s_l_tower (He.fAd Z.K ("_law_tower", none)) fd := fun_of (T.says.def_ 36 (d := d_l_tower) rfl)
theorem fx_l_drawn (T : Tx Z) : ∃ fd, FunE Z.K "_law_drawn" "_law_drawn" s_l_drawn (He.fAd Z.K ("_law_drawn", none)) fd := fun_of (T.says.def_ 37 (d := d_l_drawn) rfl)
theorem fx_law (T : Tx Z) : ∃ fd, FunE Z.K "law" "law" s_law (He.fAd Z.K ("law", none)) fd := fun_of (T.says.def_ 38 (d := d_law) rfl)
end
section
variable {Z : Zt} {n : Nat}
theorem sc_check_box : FnScope n_check_box ["number"] (defScope s_check_box) := ⟨rfl, rfl, rfl, by decide +kernel, rfl, by decide +kernel, by decide +kernel⟩
theorem dv_check_box (T : Tx Z) {sp : Sp} (len : ∀ vs H Q E, sp vs H Q E → vs.length = 1)
    (pure : ∀ (vs : List V) (H : Hp) (Q : VK) (E : XK), sp vs H Q E → t_check_box Z.K { nx := fun _ H' => Q .non H', rt := Q } (L2.start n_check_box vs) H) : Cal Z CX0 (n + 1) "check_box" ["number"] sp := by
  obtain ⟨fd, F⟩ := fx_check_box T
  have B : L2.Binds Z.K fd ["number"] [] := F.binds fun _ _ _ _ _ _ us hl => match us, hl with | [_], _ => rfl
  refine ⟨⟨_, fd, g_check_box T, kp_check_box T, B, mkR (tb := t_check_box Z.K) F sc_check_box len (fun cdv A outer s H E hr => ?_) pure⟩⟩
  skip
  exact (pss_one (ps_if (PW.pt (pw_or (pt_cmpR op_ltI (pv 0) pe_int (nomark _)) (pw_or1 (pt_cmpR op_geI (pv 0) (pe_glob (by rfl) (i_BOXES T).choose_spec ⟨_, rfl⟩) (nomark _))))) (pss_one ps_never) pss_nil))
theorem sc_check_tree : FnScope n_check_tree ["tree", "count", "deep"] (defScope s_check_tree) := ⟨rfl, rfl, rfl, by decide +kernel, rfl, by decide +kernel, by decide +kernel⟩
theorem vac_check_tree (T : Tx Z) {sp : Sp} (no : ∀ vs H Q E, ¬ sp vs H Q E) : Cal Z CX0 n "check_tree" ["tree", "count", "deep"] sp := by
  obtain ⟨fd, F⟩ := fx_check_tree T
  have B : L2.Binds Z.K fd ["tree", "count", "deep"] [] := F.binds fun _ _ _ _ _ _ us hl => match us, hl with | [_, _, _], _ => rfl
  exact ⟨⟨_, fd, g_check_tree T, kp_check_tree T, B, FnR.vac no⟩⟩
theorem dv_check_tree (T : Tx Z) {k_check_box : Nat} {ps_check_box : List Str} {sp_check_box : Sp} (c_check_box : Cal Z CX0 k_check_box "check_box" ps_check_box sp_check_box) (h_check_box : k_check_box ≤ n) {k_check_tree : Nat} {ps_check_tree : List Str} {sp_check_tree : Sp} (c_check_tree : Cal Z CX0 k_check_tree "check_tree" ps_check_tree sp_check_tree) (h_check_tree : k_check_tree ≤ n) {sp : Sp} (len : ∀ vs H Q E, sp vs H Q E → vs.length = 3)
    (pure : ∀ (vs : List V) (H : Hp) (Q : VK) (E : XK), sp vs H Q E → t_check_tree Z.K sp_check_box sp_check_tree { nx := fun _ H' => Q .non H', rt := Q } (L2.start n_check_tree vs) H) : Cal Z CX0 (n + 1) "check_tree" ["tree", "count", "deep"] sp := by
  obtain ⟨fd, F⟩ := fx_check_tree T
  have B : L2.Binds Z.K fd ["tree", "count", "deep"] [] := F.binds fun _ _ _ _ _ _ us hl => match us, hl with | [_, _, _], _ => rfl
  refine ⟨⟨_, fd, g_check_tree T, kp_check_tree T, B, mkR (tb := t_check_tree Z.K sp_check_box sp_check_tree) F sc_check_tree len (fun cdv A outer s H E hr => ?_) pure⟩⟩
  have r_check_box := hr.mono h_check_box
  have r_check_tree := hr.mono h_check_tree
  exact (pss_cons (ps_if (pt_cmpR op_gtI (pv 2) (pe_glob (by rfl) (i_MOST_PARTS T).choose_spec ⟨_, rfl⟩) (nomark _)) (pss_one ps_never) pss_nil)
    (pss_one (ps_if (pt_cmpR op_eq (pe_ix ix_tup (pv 0) pe_int (fun _ _ => rfl)) pe_str (nomark _)) (pss_one (ps_expr (pcal c_check_box r_check_box (by rfl) pass0 (pa_cons (pe_ix ix_tup (pv 0) pe_int (fun _ _ => rfl)) pa_nil)))) (pss_one (ps_if (pt_cmpR op_eq (pe_ix ix_tup (pv 0) pe_int (fun _ _ => rfl)) pe_str (nomark _)) (pss_cons (ps_if (PW.pt (pw_or (pt_cmpR op_ltI (pe_ix ix_tup (pv 0) pe_int (fun _ _ => rfl)) pe_int (nomark _)) (pw_or1 (pt_cmpR op_geI (pe_ix ix_tup (pv 0) pe_int (fun _ _ => rfl)) (pv 1) (nomark _))))) (pss_one ps_never) pss_nil)
    (pss_one (ps_expr (pcal c_check_tree r_check_tree (by rfl) pass0 (pa_cons (pe_ix ix_tup (pv 0) pe_int (fun _ _ => rfl)) (pa_cons (pv 1) (pa_cons (pe_op op_addI (pv 2) pe_int) pa_nil))))))) (pss_one (ps_if (pt_cmpR op_ne (pe_ix ix_tup (pv 0) pe_int (fun _ _ => rfl)) pe_str (nomark _)) (pss_cons (ps_expr (pcal c_check_tree r_check_tree (by rfl) pass0 (pa_cons (pe_ix ix_tup (pv 0) pe_int (fun _ _ => rfl)) (pa_cons (pv 1) (pa_cons (pe_op op_addI (pv 2) pe_int) pa_nil)))))
    (pss_one (ps_expr (pcal c_check_tree r_check_tree (by rfl) pass0 (pa_cons (pe_ix ix_tup (pv 0) pe_int (fun _ _ => rfl)) (pa_cons (pv 1) (pa_cons (pe_op op_addI (pv 2) pe_int) pa_nil))))))) pss_nil)))))))
theorem sc_check_block : FnScope n_check_block ["block", "count", "loops", "deep"] (defScope s_check_block) := ⟨rfl, rfl, rfl, by decide +kernel, rfl, by decide +kernel, by decide +kernel⟩
theorem vac_check_block (T : Tx Z) {sp : Sp} (no : ∀ vs H Q E, ¬ sp vs H Q E) : Cal Z CX0 n "check_block" ["block", "count", "loops", "deep"] sp := by
  obtain ⟨fd, F⟩ := fx_check_block T
  have B : L2.Binds Z.K fd ["block", "count", "loops", "deep"] [] := F.binds fun _ _ _ _ _ _ us hl => match us, hl with | [_, _, _, _], _ => rfl
  exact ⟨⟨_, fd, g_check_block T, kp_check_block T, B, FnR.vac no⟩⟩
theorem dv_check_block (T : Tx Z) {k_check_row : Nat} {ps_check_row : List Str} {sp_check_row : Sp} (c_check_row : Cal Z CX0 k_check_row "check_row" ps_check_row sp_check_row) (h_check_row : k_check_row ≤ n) {sp : Sp} (len : ∀ vs H Q E, sp vs H Q E → vs.length = 4)
    (pure : ∀ (vs : List V) (H : Hp) (Q : VK) (E : XK), sp vs H Q E → t_check_block Z.K sp_check_row { nx := fun _ H' => Q .non H', rt := Q } (L2.start n_check_block vs) H) : Cal Z CX0 (n + 1) "check_block" ["block", "count", "loops", "deep"] sp := by
  obtain ⟨fd, F⟩ := fx_check_block T
  have B : L2.Binds Z.K fd ["block", "count", "loops", "deep"] [] := F.binds fun _ _ _ _ _ _ us hl => match us, hl with | [_, _, _, _], _ => rfl
  refine ⟨⟨_, fd, g_check_block T, kp_check_block T, B, mkR (tb := t_check_block Z.K sp_check_row) F sc_check_block len (fun cdv A outer s H E hr => ?_) pure⟩⟩
  have r_check_row := hr.mono h_check_row
  exact (pss_cons (ps_if (pt_cmpR op_gtI (pv 3) (pe_glob (by rfl) (i_MOST_BLOCKS T).choose_spec ⟨_, rfl⟩) (nomark _)) (pss_one ps_never) pss_nil)
    (pss_one (ps_for PassesOwn.never rfl (pi_list (pv 0)) (pg_name (i := 4) sc_check_block.nd rfl (Or.inl rfl)) (pss_one (ps_expr (pcal c_check_row r_check_row (by rfl) pass0 (pa_cons (pv 4) (pa_cons (pv 1) (pa_cons (pv 2) (pa_cons (pv 3) pa_nil))))))))))
theorem sc_check_row : FnScope n_check_row ["row", "count", "loops", "deep"] (defScope s_check_row) := ⟨rfl, rfl, rfl, by decide +kernel, rfl, by decide +kernel, by decide +kernel⟩
theorem vac_check_row (T : Tx Z) {sp : Sp} (no : ∀ vs H Q E, ¬ sp vs H Q E) : Cal Z CX0 n "check_row" ["row", "count", "loops", "deep"] sp := by
  obtain ⟨fd, F⟩ := fx_check_row T
  have B : L2.Binds Z.K fd ["row", "count", "loops", "deep"] [] := F.binds fun _ _ _ _ _ _ us hl => match us, hl with | [_, _, _, _], _ => rfl
  exact ⟨⟨_, fd, g_check_row T, kp_check_row T, B, FnR.vac no⟩⟩
theorem dv_check_row (T : Tx Z) {k_check_box : Nat} {ps_check_box : List Str} {sp_check_box : Sp} (c_check_box : Cal Z CX0 k_check_box "check_box" ps_check_box sp_check_box) (h_check_box : k_check_box ≤ n) {k_check_tree : Nat} {ps_check_tree : List Str} {sp_check_tree : Sp} (c_check_tree : Cal Z CX0 k_check_tree "check_tree" ps_check_tree sp_check_tree) (h_check_tree : k_check_tree ≤ n) {k_check_block : Nat} {ps_check_block : List Str} {sp_check_block : Sp} (c_check_block : Cal Z CX0 k_check_block "check_block" ps_check_block sp_check_block) (h_check_block : k_check_block ≤ n) {sp : Sp} (len : ∀ vs H Q E, sp vs H Q E → vs.length = 4)
    (pure : ∀ (vs : List V) (H : Hp) (Q : VK) (E : XK), sp vs H Q E → t_check_row Z.K sp_check_box sp_check_tree sp_check_block { nx := fun _ H' => Q .non H', rt := Q } (L2.start n_check_row vs) H) : Cal Z CX0 (n + 1) "check_row" ["row", "count", "loops", "deep"] sp := by
  obtain ⟨fd, F⟩ := fx_check_row T
  have B : L2.Binds Z.K fd ["row", "count", "loops", "deep"] [] := F.binds fun _ _ _ _ _ _ us hl => match us, hl with | [_, _, _, _], _ => rfl
  refine ⟨⟨_, fd, g_check_row T, kp_check_row T, B, mkR (tb := t_check_row Z.K sp_check_box sp_check_tree sp_check_block) F sc_check_row len (fun cdv A outer s H E hr => ?_) pure⟩⟩
  have r_check_box := hr.mono h_check_box
  have r_check_tree := hr.mono h_check_tree
  have r_check_block := hr.mono h_check_block
  exact (pss_cons (ps_set (i := 4) sc_check_row.nd rfl (Or.inl rfl) (pe_ix ix_tup (pv 0) pe_int (fun _ _ => rfl)))
    (pss_one (ps_if (PW.pt (pw_or (pt_cmpR op_eq (pv 4) pe_str (nomark _)) (pw_or1 (pt_cmpR op_eq (pv 4) pe_str (nomark _))))) (pss_one (ps_if (pt_cmpR op_eq (pv 2) pe_int (nomark _)) (pss_one ps_never) pss_nil)) (pss_one (ps_if (pt_cmpR op_eq (pv 4) pe_str (nomark _)) (pss_cons (ps_expr (pcal c_check_box r_check_box (by rfl) pass0 (pa_cons (pe_ix ix_tup (pv 0) pe_int (fun _ _ => rfl)) pa_nil)))
    (pss_one (ps_expr (pcal c_check_tree r_check_tree (by rfl) pass0 (pa_cons (pe_ix ix_tup (pv 0) pe_int (fun _ _ => rfl)) (pa_cons (pv 1) (pa_cons pe_int pa_nil))))))) (pss_one (ps_if (pt_cmpR op_eq (pv 4) pe_str (nomark _)) (pss_cons (ps_expr (pcal c_check_tree r_check_tree (by rfl) pass0 (pa_cons (pe_ix ix_tup (pv 0) pe_int (fun _ _ => rfl)) (pa_cons (pv 1) (pa_cons pe_int pa_nil)))))
    (pss_cons (ps_expr (pcal c_check_block r_check_block (by rfl) pass0 (pa_cons (pe_ix ix_tup (pv 0) pe_int (fun _ _ => rfl)) (pa_cons (pv 1) (pa_cons (pv 2) (pa_cons (pe_op op_addI (pv 3) pe_int) pa_nil))))))
    (pss_one (ps_expr (pcal c_check_block r_check_block (by rfl) pass0 (pa_cons (pe_ix ix_tup (pv 0) pe_int (fun _ _ => rfl)) (pa_cons (pv 1) (pa_cons (pv 2) (pa_cons (pe_op op_addI (pv 3) pe_int) pa_nil))))))))) (pss_one (ps_if (pt_cmpR op_eq (pv 4) pe_str (nomark _)) (pss_cons (ps_expr (pcal c_check_tree r_check_tree (by rfl) pass0 (pa_cons (pe_ix ix_tup (pv 0) pe_int (fun _ _ => rfl)) (pa_cons (pv 1) (pa_cons pe_int pa_nil)))))
    (pss_one (ps_expr (pcal c_check_block r_check_block (by rfl) pass0 (pa_cons (pe_ix ix_tup (pv 0) pe_int (fun _ _ => rfl)) (pa_cons (pv 1) (pa_cons (pe_op op_addI (pv 2) pe_int) (pa_cons (pe_op op_addI (pv 3) pe_int) pa_nil)))))))) (pss_one (ps_if (pt_cmpR op_eq (pv 4) pe_str (nomark _)) (pss_cons (ps_expr (pcal c_check_block r_check_block (by rfl) pass0 (pa_cons (pe_ix ix_tup (pv 0) pe_int (fun _ _ => rfl)) (pa_cons (pv 1) (pa_cons (pv 2) (pa_cons (pe_op op_addI (pv 3) pe_int) pa_nil))))))
    (pss_cons (ps_expr (pcal c_check_box r_check_box (by rfl) pass0 (pa_cons (pe_ix ix_tup (pv 0) pe_int (fun _ _ => rfl)) pa_nil)))
    (pss_one (ps_expr (pcal c_check_block r_check_block (by rfl) pass0 (pa_cons (pe_ix ix_tup (pv 0) pe_int (fun _ _ => rfl)) (pa_cons (pv 1) (pa_cons (pv 2) (pa_cons (pe_op op_addI (pv 3) pe_int) pa_nil))))))))) (pss_one (ps_if (pt_cmpR op_eq (pv 4) pe_str (nomark _)) (pss_cons (ps_expr (pcal c_check_block r_check_block (by rfl) pass0 (pa_cons (pe_ix ix_tup (pv 0) pe_int (fun _ _ => rfl)) (pa_cons (pv 1) (pa_cons (pv 2) (pa_cons (pe_op op_addI (pv 3) pe_int) pa_nil))))))
    (pss_one (ps_expr (pcal c_check_block r_check_block (by rfl) pass0 (pa_cons (pe_ix ix_tup (pv 0) pe_int (fun _ _ => rfl)) (pa_cons (pv 1) (pa_cons (pv 2) (pa_cons (pe_op op_addI (pv 3) pe_int) pa_nil)))))))) (pss_one (ps_expr (pcal c_check_tree r_check_tree (by rfl) pass0 (pa_cons (pe_ix ix_tup (pv 0) pe_int (fun _ _ => rfl)) (pa_cons (pv 1) (pa_cons pe_int pa_nil)))))))))))))))))))
theorem sc_checked : FnScope n_checked ["program"] (defScope s_checked) := ⟨rfl, rfl, rfl, by decide +kernel, rfl, by decide +kernel, by decide +kernel⟩
theorem dv_checked (T : Tx Z) {k_check_block : Nat} {ps_check_block : List Str} {sp_check_block : Sp} (c_check_block : Cal Z CX0 k_check_block "check_block" ps_check_block sp_check_block) (h_check_block : k_check_block ≤ n) {sp : Sp} (len : ∀ vs H Q E, sp vs H Q E → vs.length = 1)
    (pure : ∀ (vs : List V) (H : Hp) (Q : VK) (E : XK), sp vs H Q E → t_checked Z.K sp_check_block { nx := fun _ H' => Q .non H', rt := Q } (L2.start n_checked vs) H) : Cal Z CX0 (n + 1) "checked" ["program"] sp := by
  obtain ⟨fd, F⟩ := fx_checked T
  have B : L2.Binds Z.K fd ["program"] [] := F.binds fun _ _ _ _ _ _ us hl => match us, hl with | [_], _ => rfl
  refine ⟨⟨_, fd, g_checked T, kp_checked T, B, mkR (tb := t_checked Z.K sp_check_block) F sc_checked len (fun cdv A outer s H E hr => ?_) pure⟩⟩
  have r_check_block := hr.mono h_check_block
  exact (pss_cons (ps_if (pt_cmpR op_eq (pe_callB call_lenQ (by rfl) (g_len T) PySem.boot_len (pa_cons (pv 0) pa_nil)) pe_int (nomark _)) (pss_one ps_never) pss_nil)
    (pss_one (ps_for PassesOwn.never rfl (pi_list (pv 0)) (pg_name (i := 1) sc_checked.nd rfl (Or.inl rfl)) (pss_one (ps_expr (pcal c_check_block r_check_block (by rfl) pass0 (pa_cons (pv 1) (pa_cons (pe_callB call_lenQ (by rfl) (g_len T) PySem.boot_len (pa_cons (pv 0) pa_nil)) (pa_cons pe_int (pa_cons pe_int pa_nil))))))))))
theorem sc_World___init__ : FnScope n_World___init__ ["self", "program", "turns"] (defScope s_World___init__) := ⟨rfl, rfl, rfl, by decide +kernel, rfl, by decide +kernel, by decide +kernel⟩
theorem dv_World___init__ (T : Tx Z) {sp : Sp} (len : ∀ vs H Q E, sp vs H Q E → vs.length = 3)
    (pure : ∀ (vs : List V) (H : Hp) (Q : VK) (E : XK), sp vs H Q E → t_World___init__ Z.K { nx := fun _ H' => Q .non H', rt := Q } (L2.start n_World___init__ vs) H) : CalN Z CX0 (n + 1) "World" (He.ga Z.K "World") ["self", "program", "turns"] sp := by
  obtain ⟨fd, F⟩ := fx_World___init__ T
  have B : L2.Binds Z.K fd ["self", "program", "turns"] [] := F.binds fun _ _ _ _ _ _ us hl => match us, hl with | [_, _, _], _ => rfl
  refine ⟨⟨_, fd, mk_World T, g_World T, B, mkR (tb := t_World___init__ Z.K) F sc_World___init__ len (fun cdv A outer s H E hr => ?_) pure⟩⟩
  skip
  exact (pss_cons (psfd (cl_World T) (na_World_program T) (pv 0) (pv 1))
    (pss_cons (psfd (cl_World T) (na_World_said T) (pv 0) (pe_lst pa_nil))
    (pss_cons (psfd (cl_World T) (na_World_turns T) (pv 0) (pv 2))
    (pss_one (psfd (cl_World T) (na_World_deep T) (pv 0) pe_int)))))
theorem sc_World_taken : FnScope n_World_taken ["self"] (defScope s_World_taken) := ⟨rfl, rfl, rfl, by decide +kernel, rfl, by decide +kernel, by decide +kernel⟩
theorem dv_World_taken (T : Tx Z) {sp : Sp} (len : ∀ vs H Q E, sp vs H Q E → vs.length = 1)
    (pure : ∀ (vs : List V) (H : Hp) (Q : VK) (E : XK), sp vs H Q E → t_World_taken Z.K { nx := fun _ H' => Q .non H', rt := Q } (L2.start n_World_taken vs) H) : CalM Z CX0 (n + 1) (He.ga Z.K "World") "taken" ["self"] sp := by
  obtain ⟨fd, F⟩ := fx_World_taken T
  have B : L2.Binds Z.K fd ["self"] [] := F.binds fun _ _ _ _ _ _ us hl => match us, hl with | [_], _ => rfl
  refine ⟨⟨_, fd, m_World_taken T, B, mkR (tb := t_World_taken Z.K) F sc_World_taken len (fun cdv A outer s H E hr => ?_) pure⟩⟩
  skip
  exact (pss_cons (ps_if (pt_cmpR op_eq (pfd (cl_World T) (na_World_turns T) (pv 0)) pe_int (nomark _)) (pss_one (ps_ret pe_bl)) pss_nil)
    (pss_cons (psfd (cl_World T) (na_World_turns T) (pv 0) (pe_op op_subI (pfd (cl_World T) (na_World_turns T) (pv 0)) pe_int))
    (pss_one (ps_ret pe_bl))))
theorem sc_joined : FnScope n_joined ["word", "one", "other"] (defScope s_joined) := ⟨rfl, rfl, rfl, by decide +kernel, rfl, by decide +kernel, by decide +kernel⟩
theorem dv_joined (T : Tx Z) {sp : Sp} (len : ∀ vs H Q E, sp vs H Q E → vs.length = 3)
    (pure : ∀ (vs : List V) (H : Hp) (Q : VK) (E : XK), sp vs H Q E → t_joined Z.K { nx := fun _ H' => Q .non H', rt := Q } (L2.start n_joined vs) H) : Cal Z CX0 (n + 1) "joined" ["word", "one", "other"] sp := by
  obtain ⟨fd, F⟩ := fx_joined T
  have B : L2.Binds Z.K fd ["word", "one", "other"] [] := F.binds fun _ _ _ _ _ _ us hl => match us, hl with | [_, _, _], _ => rfl
  refine ⟨⟨_, fd, g_joined T, kp_joined T, B, mkR (tb := t_joined Z.K) F sc_joined len (fun cdv A outer s H E hr => ?_) pure⟩⟩
  skip
  exact (pss_cons (ps_if (pt_cmpR op_eq (pv 0) pe_str (nomark _)) (pss_one (ps_ret (pe_tup (pa_cons pe_str (pa_cons (pe_op op_addI (pv 1) (pv 2)) pa_nil))))) pss_nil)
    (pss_cons (ps_if (pt_cmpR op_eq (pv 0) pe_str (nomark _)) (pss_one (ps_ret (pe_tup (pa_cons pe_str (pa_cons (pe_op op_subI (pv 1) (pv 2)) pa_nil))))) pss_nil)
    (pss_cons (ps_if (pt_cmpR op_eq (pv 0) pe_str (nomark _)) (pss_one (ps_ret (pe_tup (pa_cons pe_str (pa_cons (pe_ifExp (pt_cmpR op_ltI (pv 1) (pv 2) (nomark _)) pe_int pe_int) pa_nil))))) pss_nil)
    (pss_cons (ps_if (pt_cmpR op_eq (pv 2) pe_int (nomark _)) (pss_one (ps_ret (pe_tup (pa_cons pe_str (pa_cons (pe_glob (by rfl) (i_NOUGHT T).choose_spec ⟨_, rfl⟩) pa_nil))))) pss_nil)
    (pss_one (ps_ret (pe_tup (pa_cons pe_str (pa_cons (pe_op (op_fdZ T.seer T.tree rfl rfl rfl hr) (pv 1) (pv 2)) pa_nil)))))))))
theorem sc_reckoned : FnScope n_reckoned ["tree", "boxes", "world"] (defScope s_reckoned) := ⟨rfl, rfl, rfl, by decide +kernel, rfl, by decide +kernel, by decide +kernel⟩
theorem vac_reckoned (T : Tx Z) {sp : Sp} (no : ∀ vs H Q E, ¬ sp vs H Q E) : Cal Z CX0 n "reckoned" ["tree", "boxes", "world"] sp := by
  obtain ⟨fd, F⟩ := fx_reckoned T
  have B : L2.Binds Z.K fd ["tree", "boxes", "world"] [] := F.binds fun _ _ _ _ _ _ us hl => match us, hl with | [_, _, _], _ => rfl
  exact ⟨⟨_, fd, g_reckoned T, kp_reckoned T, B, FnR.vac no⟩⟩
theorem dv_reckoned (T : Tx Z) {k_reckoned : Nat} {ps_reckoned : List Str} {sp_reckoned : Sp} (c_reckoned : Cal Z CX0 k_reckoned "reckoned" ps_reckoned sp_reckoned) (h_reckoned : k_reckoned ≤ n) {k_called : Nat} {ps_called : List Str} {sp_called : Sp} (c_called : Cal Z CX0 k_called "called" ps_called sp_called) (h_called : k_called ≤ n) {k_joined : Nat} {ps_joined : List Str} {sp_joined : Sp} (c_joined : Cal Z CX0 k_joined "joined" ps_joined sp_joined) (h_joined : k_joined ≤ n) {sp : Sp} (len : ∀ vs H Q E, sp vs H Q E → vs.length = 3)
    (pure : ∀ (vs : List V) (H : Hp) (Q : VK) (E : XK), sp vs H Q E → t_reckoned Z.K sp_reckoned sp_called sp_joined { nx := fun _ H' => Q .non H', rt := Q } (L2.start n_reckoned vs) H) : Cal Z CX0 (n + 1) "reckoned" ["tree", "boxes", "world"] sp := by
  obtain ⟨fd, F⟩ := fx_reckoned T
  have B : L2.Binds Z.K fd ["tree", "boxes", "world"] [] := F.binds fun _ _ _ _ _ _ us hl => match us, hl with | [_, _, _], _ => rfl
  refine ⟨⟨_, fd, g_reckoned T, kp_reckoned T, B, mkR (tb := t_reckoned Z.K sp_reckoned sp_called sp_joined) F sc_reckoned len (fun cdv A outer s H E hr => ?_) pure⟩⟩
  have r_reckoned := hr.mono h_reckoned
  have r_called := hr.mono h_called
  have r_joined := hr.mono h_joined
  exact (pss_cons (ps_set (i := 3) sc_reckoned.nd rfl (Or.inl rfl) (pe_ix ix_tup (pv 0) pe_int (fun _ _ => rfl)))
    (pss_cons (ps_if (pt_cmpR op_eq (pv 3) pe_str (nomark _)) (pss_one (ps_ret (pe_tup (pa_cons pe_str (pa_cons (pe_ix ix_tup (pv 0) pe_int (fun _ _ => rfl)) pa_nil))))) pss_nil)
    (pss_cons (ps_if (pt_cmpR op_eq (pv 3) pe_str (nomark _)) (pss_one (ps_ret (pe_tup (pa_cons pe_str (pa_cons (pe_ix ix_list (pv 1) (pe_ix ix_tup (pv 0) pe_int (fun _ _ => rfl)) (fun _ _ => rfl)) pa_nil))))) pss_nil)
    (pss_cons (ps_if (pt_cmpR op_eq (pv 3) pe_str (nomark _)) (pss_cons (ps_set (i := 4) sc_reckoned.nd rfl (Or.inl rfl) (pcal c_reckoned r_reckoned (by rfl) pass0 (pa_cons (pe_ix ix_tup (pv 0) pe_int (fun _ _ => rfl)) (pa_cons (pv 1) (pa_cons (pv 2) pa_nil)))))
    (pss_cons (ps_if (pt_cmpR op_ne (pe_ix ix_tup (pv 4) pe_int (fun _ _ => rfl)) pe_str (nomark _)) (pss_one (ps_ret (pv 4))) pss_nil)
    (pss_one (ps_ret (pcal c_called r_called (by rfl) pass0 (pa_cons (pe_ix ix_tup (pv 0) pe_int (fun _ _ => rfl)) (pa_cons (pe_ix ix_tup (pv 4) pe_int (fun _ _ => rfl)) (pa_cons (pv 2) pa_nil)))))))) pss_nil)
    (pss_cons (ps_set (i := 5) sc_reckoned.nd rfl (Or.inl rfl) (pcal c_reckoned r_reckoned (by rfl) pass0 (pa_cons (pe_ix ix_tup (pv 0) pe_int (fun _ _ => rfl)) (pa_cons (pv 1) (pa_cons (pv 2) pa_nil)))))
    (pss_cons (ps_if (pt_cmpR op_ne (pe_ix ix_tup (pv 5) pe_int (fun _ _ => rfl)) pe_str (nomark _)) (pss_one (ps_ret (pv 5))) pss_nil)
    (pss_cons (ps_set (i := 6) sc_reckoned.nd rfl (Or.inl rfl) (pcal c_reckoned r_reckoned (by rfl) pass0 (pa_cons (pe_ix ix_tup (pv 0) pe_int (fun _ _ => rfl)) (pa_cons (pv 1) (pa_cons (pv 2) pa_nil)))))
    (pss_cons (ps_if (pt_cmpR op_ne (pe_ix ix_tup (pv 6) pe_int (fun _ _ => rfl)) pe_str (nomark _)) (pss_one (ps_ret (pv 6))) pss_nil)
    (pss_one (ps_ret (pcal c_joined r_joined (by rfl) pass0 (pa_cons (pv 3) (pa_cons (pe_ix ix_tup (pv 5) pe_int (fun _ _ => rfl)) (pa_cons (pe_ix ix_tup (pv 6) pe_int (fun _ _ => rfl)) pa_nil))))))))))))))
theorem sc_called : FnScope n_called ["number", "given", "world"] (defScope s_called) := ⟨rfl, rfl, rfl, by decide +kernel, rfl, by decide +kernel, by decide +kernel⟩
theorem vac_called (T : Tx Z) {sp : Sp} (no : ∀ vs H Q E, ¬ sp vs H Q E) : Cal Z CX0 n "called" ["number", "given", "world"] sp := by
  obtain ⟨fd, F⟩ := fx_called T
  have B : L2.Binds Z.K fd ["number", "given", "world"] [] := F.binds fun _ _ _ _ _ _ us hl => match us, hl with | [_, _, _], _ => rfl
  exact ⟨⟨_, fd, g_called T, kp_called T, B, FnR.vac no⟩⟩
theorem dv_called (T : Tx Z) {k_World_taken : Nat} {ps_World_taken : List Str} {sp_World_taken : Sp} (c_World_taken : CalM Z CX0 k_World_taken (He.ga Z.K "World") "taken" ps_World_taken sp_World_taken) (h_World_taken : k_World_taken ≤ n) {k_entered : Nat} {ps_entered : List Str} {sp_entered : Sp} (c_entered : Cal Z CX0 k_entered "entered" ps_entered sp_entered) (h_entered : k_entered ≤ n) {sp : Sp} (len : ∀ vs H Q E, sp vs H Q E → vs.length = 3)
    (pure : ∀ (vs : List V) (H : Hp) (Q : VK) (E : XK), sp vs H Q E → t_called Z.K sp_World_taken sp_entered { nx := fun _ H' => Q .non H', rt := Q } (L2.start n_called vs) H) : Cal Z CX0 (n + 1) "called" ["number", "given", "world"] sp := by
  obtain ⟨fd, F⟩ := fx_called T
  have B : L2.Binds Z.K fd ["number", "given", "world"] [] := F.binds fun _ _ _ _ _ _ us hl => match us, hl with | [_, _, _], _ => rfl
  refine ⟨⟨_, fd, g_called T, kp_called T, B, mkR (tb := t_called Z.K sp_World_taken sp_entered) F sc_called len (fun cdv A outer s H E hr => ?_) pure⟩⟩
  have r_World_taken := hr.mono h_World_taken
  have r_entered := hr.mono h_entered
  exact (pss_cons (ps_if (pt_not (pt_val (pmet0 (pv 2) (cl_World T) c_World_taken r_World_taken pass0))) (pss_one (ps_ret (pe_tup (pa_cons pe_str (pa_cons pe_int pa_nil))))) pss_nil)
    (pss_cons (ps_if (pt_cmpR op_eq (pfd (cl_World T) (na_World_deep T) (pv 2)) (pe_glob (by rfl) (i_DEEPEST T).choose_spec ⟨_, rfl⟩) (nomark _)) (pss_one (ps_ret (pe_tup (pa_cons pe_str (pa_cons (pe_glob (by rfl) (i_DEEP T).choose_spec ⟨_, rfl⟩) pa_nil))))) pss_nil)
    (pss_one (ps_ret (pcal c_entered r_entered (by rfl) pass0 (pa_cons (pv 0) (pa_cons (pv 1) (pa_cons (pv 2) pa_nil))))))))
theorem sc_entered : FnScope n_entered ["number", "given", "world"] (defScope s_entered) := ⟨rfl, rfl, rfl, by decide +kernel, rfl, by decide +kernel, by decide +kernel⟩
theorem vac_entered (T : Tx Z) {sp : Sp} (no : ∀ vs H Q E, ¬ sp vs H Q E) : Cal Z CX0 n "entered" ["number", "given", "world"] sp := by
  obtain ⟨fd, F⟩ := fx_entered T
  have B : L2.Binds Z.K fd ["number", "given", "world"] [] := F.binds fun _ _ _ _ _ _ us hl => match us, hl with | [_, _, _], _ => rfl
  exact ⟨⟨_, fd, g_entered T, kp_entered T, B, FnR.vac no⟩⟩
theorem dv_entered (T : Tx Z) {k_block_done : Nat} {ps_block_done : List Str} {sp_block_done : Sp} (c_block_done : Cal Z CX0 k_block_done "block_done" ps_block_done sp_block_done) (h_block_done : k_block_done ≤ n) {sp : Sp} (len : ∀ vs H Q E, sp vs H Q E → vs.length = 3)
    (pure : ∀ (vs : List V) (H : Hp) (Q : VK) (E : XK), sp vs H Q E → t_entered Z.K sp_block_done { nx := fun _ H' => Q .non H', rt := Q } (L2.start n_entered vs) H) : Cal Z CX0 (n + 1) "entered" ["number", "given", "world"] sp := by
  obtain ⟨fd, F⟩ := fx_entered T
  have B : L2.Binds Z.K fd ["number", "given", "world"] [] := F.binds fun _ _ _ _ _ _ us hl => match us, hl with | [_, _, _], _ => rfl
  refine ⟨⟨_, fd, g_entered T, kp_entered T, B, mkR (tb := t_entered Z.K sp_block_done) F sc_entered len (fun cdv A outer s H E hr => ?_) pure⟩⟩
  have r_block_done := hr.mono h_block_done
  exact (pss_cons (psfd (cl_World T) (na_World_deep T) (pv 2) (pe_op op_addI (pfd (cl_World T) (na_World_deep T) (pv 2)) pe_int))
    (pss_cons (ps_set (i := 3) sc_entered.nd rfl (Or.inl rfl) (pcal c_block_done r_block_done (by rfl) pass0 (pa_cons (pe_ix ix_list (pfd (cl_World T) (na_World_program T) (pv 2)) (pv 0) (fun _ _ => rfl)) (pa_cons (pe_op op_cat (pe_lst (pa_cons (pv 1) pa_nil)) (pe_op op_rep (pe_lst (pa_cons pe_int pa_nil)) (pe_op op_subI (pe_glob (by rfl) (i_BOXES T).choose_spec ⟨_, rfl⟩) pe_int))) (pa_cons (pv 2) pa_nil)))))
    (pss_cons (psfd (cl_World T) (na_World_deep T) (pv 2) (pe_op op_subI (pfd (cl_World T) (na_World_deep T) (pv 2)) pe_int))
    (pss_cons (ps_if (pt_cmpR op_eq (pe_ix ix_tup (pv 3) pe_int (fun _ _ => rfl)) pe_str (nomark _)) (pss_one (ps_ret (pe_tup (pa_cons pe_str (pa_cons pe_int pa_nil))))) pss_nil)
    (pss_cons (ps_if (pt_cmpR op_eq (pe_ix ix_tup (pv 3) pe_int (fun _ _ => rfl)) pe_str (nomark _)) (pss_one (ps_ret (pe_tup (pa_cons pe_str (pa_cons (pe_ix ix_tup (pv 3) pe_int (fun _ _ => rfl)) pa_nil))))) pss_nil)
    (pss_one (ps_ret (pv 3))))))))
theorem sc_block_done : FnScope n_block_done ["block", "boxes", "world"] (defScope s_block_done) := ⟨rfl, rfl, rfl, by decide +kernel, rfl, by decide +kernel, by decide +kernel⟩
theorem vac_block_done (T : Tx Z) {sp : Sp} (no : ∀ vs H Q E, ¬ sp vs H Q E) : Cal Z CX0 n "block_done" ["block", "boxes", "world"] sp := by
  obtain ⟨fd, F⟩ := fx_block_done T
  have B : L2.Binds Z.K fd ["block", "boxes", "world"] [] := F.binds fun _ _ _ _ _ _ us hl => match us, hl with | [_, _, _], _ => rfl
  exact ⟨⟨_, fd, g_block_done T, kp_block_done T, B, FnR.vac no⟩⟩
theorem dv_block_done (T : Tx Z) {k_row_done : Nat} {ps_row_done : List Str} {sp_row_done : Sp} (c_row_done : Cal Z CX0 k_row_done "row_done" ps_row_done sp_row_done) (h_row_done : k_row_done ≤ n) {sp : Sp} (len : ∀ vs H Q E, sp vs H Q E → vs.length = 3)
    (pure : ∀ (vs : List V) (H : Hp) (Q : VK) (E : XK), sp vs H Q E → t_block_done Z.K sp_row_done { nx := fun _ H' => Q .non H', rt := Q } (L2.start n_block_done vs) H) : Cal Z CX0 (n + 1) "block_done" ["block", "boxes", "world"] sp := by
  obtain ⟨fd, F⟩ := fx_block_done T
  have B : L2.Binds Z.K fd ["block", "boxes", "world"] [] := F.binds fun _ _ _ _ _ _ us hl => match us, hl with | [_, _, _], _ => rfl
  refine ⟨⟨_, fd, g_block_done T, kp_block_done T, B, mkR (tb := t_block_done Z.K sp_row_done) F sc_block_done len (fun cdv A outer s H E hr => ?_) pure⟩⟩
  have r_row_done := hr.mono h_row_done
  exact (pss_cons (ps_for PassesOwn.never rfl (pi_list (pv 0)) (pg_name (i := 3) sc_block_done.nd rfl (Or.inl rfl)) (pss_cons (ps_set (i := 4) sc_block_done.nd rfl (Or.inl rfl) (pcal c_row_done r_row_done (by rfl) pass0 (pa_cons (pv 3) (pa_cons (pv 1) (pa_cons (pv 2) pa_nil)))))
    (pss_one (ps_if (pt_cmpR op_ne (pe_ix ix_tup (pv 4) pe_int (fun _ _ => rfl)) pe_str (nomark _)) (pss_one (ps_ret (pv 4))) pss_nil))))
    (pss_one (ps_ret (pe_tup (pa_cons pe_str (pa_cons pe_int pa_nil))))))
theorem sc_row_done : FnScope n_row_done ["row", "boxes", "world"] (defScope s_row_done) := ⟨rfl, rfl, rfl, by decide +kernel, rfl, by decide +kernel, by decide +kernel⟩
theorem vac_row_done (T : Tx Z) {sp : Sp} (no : ∀ vs H Q E, ¬ sp vs H Q E) : Cal Z CX0 n "row_done" ["row", "boxes", "world"] sp := by
  obtain ⟨fd, F⟩ := fx_row_done T
  have B : L2.Binds Z.K fd ["row", "boxes", "world"] [] := F.binds fun _ _ _ _ _ _ us hl => match us, hl with | [_, _, _], _ => rfl
  exact ⟨⟨_, fd, g_row_done T, kp_row_done T, B, FnR.vac no⟩⟩
theorem dv_row_done (T : Tx Z) {k_loop_done : Nat} {ps_loop_done : List Str} {sp_loop_done : Sp} (c_loop_done : Cal Z CX0 k_loop_done "loop_done" ps_loop_done sp_loop_done) (h_loop_done : k_loop_done ≤ n) {k_catch_done : Nat} {ps_catch_done : List Str} {sp_catch_done : Sp} (c_catch_done : Cal Z CX0 k_catch_done "catch_done" ps_catch_done sp_catch_done) (h_catch_done : k_catch_done ≤ n) {k_end_done : Nat} {ps_end_done : List Str} {sp_end_done : Sp} (c_end_done : Cal Z CX0 k_end_done "end_done" ps_end_done sp_end_done) (h_end_done : k_end_done ≤ n) {k_reckoned : Nat} {ps_reckoned : List Str} {sp_reckoned : Sp} (c_reckoned : Cal Z CX0 k_reckoned "reckoned" ps_reckoned sp_reckoned) (h_reckoned : k_reckoned ≤ n) {k_block_done : Nat} {ps_block_done : List Str} {sp_block_done : Sp} (c_block_done : Cal Z CX0 k_block_done "block_done" ps_block_done sp_block_done) (h_block_done : k_block_done ≤ n) {sp : Sp} (len : ∀ vs H Q E, sp vs H Q E → vs.length = 3)
    (pure : ∀ (vs : List V) (H : Hp) (Q : VK) (E : XK), sp vs H Q E → t_row_done Z.K sp_loop_done sp_catch_done sp_end_done sp_reckoned sp_block_done { nx := fun _ H' => Q .non H', rt := Q } (L2.start n_row_done vs) H) : Cal Z CX0 (n + 1) "row_done" ["row", "boxes", "world"] sp := by
  obtain ⟨fd, F⟩ := fx_row_done T
  have B : L2.Binds Z.K fd ["row", "boxes", "world"] [] := F.binds fun _ _ _ _ _ _ us hl => match us, hl with | [_, _, _], _ => rfl
  refine ⟨⟨_, fd, g_row_done T, kp_row_done T, B, mkR (tb := t_row_done Z.K sp_loop_done sp_catch_done sp_end_done sp_reckoned sp_block_done) F sc_row_done len (fun cdv A outer s H E hr => ?_) pure⟩⟩
  have r_loop_done := hr.mono h_loop_done
  have r_catch_done := hr.mono h_catch_done
  have r_end_done := hr.mono h_end_done
  have r_reckoned := hr.mono h_reckoned
  have r_block_done := hr.mono h_block_done
  exact (pss_cons (ps_set (i := 3) sc_row_done.nd rfl (Or.inl rfl) (pe_ix ix_tup (pv 0) pe_int (fun _ _ => rfl)))
    (pss_cons (ps_if (PW.pt (pw_or (pt_cmpR op_eq (pv 3) pe_str (nomark _)) (pw_or1 (pt_cmpR op_eq (pv 3) pe_str (nomark _))))) (pss_one (ps_ret (pe_tup (pa_cons (pv 3) (pa_cons pe_int pa_nil))))) pss_nil)
    (pss_cons (ps_if (pt_cmpR op_eq (pv 3) pe_str (nomark _)) (pss_one (ps_ret (pcal c_loop_done r_loop_done (by rfl) pass0 (pa_cons (pv 0) (pa_cons (pv 1) (pa_cons (pv 2) pa_nil)))))) pss_nil)
    (pss_cons (ps_if (pt_cmpR op_eq (pv 3) pe_str (nomark _)) (pss_one (ps_ret (pcal c_catch_done r_catch_done (by rfl) pass0 (pa_cons (pv 0) (pa_cons (pv 1) (pa_cons (pv 2) pa_nil)))))) pss_nil)
    (pss_cons (ps_if (pt_cmpR op_eq (pv 3) pe_str (nomark _)) (pss_one (ps_ret (pcal c_end_done r_end_done (by rfl) pass0 (pa_cons (pv 0) (pa_cons (pv 1) (pa_cons (pv 2) pa_nil)))))) pss_nil)
    (pss_cons (ps_set (i := 4) sc_row_done.nd rfl (Or.inl rfl) (pcal c_reckoned r_reckoned (by rfl) pass0 (pa_cons (pe_ifExp (pt_cmpR op_eq (pv 3) pe_str (nomark _)) (pe_ix ix_tup (pv 0) pe_int (fun _ _ => rfl)) (pe_ix ix_tup (pv 0) pe_int (fun _ _ => rfl))) (pa_cons (pv 1) (pa_cons (pv 2) pa_nil)))))
    (pss_cons (ps_if (pt_cmpR op_ne (pe_ix ix_tup (pv 4) pe_int (fun _ _ => rfl)) pe_str (nomark _)) (pss_one (ps_ret (pv 4))) pss_nil)
    (pss_cons (ps_if (pt_cmpR op_eq (pv 3) pe_str (nomark _)) (pss_one (ps_ret (pcal c_block_done r_block_done (by rfl) pass0 (pa_cons (pe_ifExp (pt_cmpR op_eq (pe_ix ix_tup (pv 4) pe_int (fun _ _ => rfl)) pe_int (nomark _)) (pe_ix ix_tup (pv 0) pe_int (fun _ _ => rfl)) (pe_ix ix_tup (pv 0) pe_int (fun _ _ => rfl))) (pa_cons (pv 1) (pa_cons (pv 2) pa_nil)))))) pss_nil)
    (pss_cons (ps_if (pt_cmpR op_eq (pv 3) pe_str (nomark _)) (pss_one (ps_ret (pe_tup (pa_cons pe_str (pa_cons (pe_ix ix_tup (pv 4) pe_int (fun _ _ => rfl)) pa_nil))))) pss_nil)
    (pss_cons (ps_if (pt_cmpR op_eq (pv 3) pe_str (nomark _)) (pss_one (ps_ret (pe_tup (pa_cons pe_str (pa_cons (pe_ix ix_tup (pv 4) pe_int (fun _ _ => rfl)) pa_nil))))) pss_nil)
    (pss_cons (ps_if (pt_cmpR op_eq (pv 3) pe_str (nomark _)) (pss_one (ps_asg (pe_ix ix_tup (pv 4) pe_int (fun _ _ => rfl)) (pg_sub (pv 1) (pe_ix ix_tup (pv 0) pe_int (fun _ _ => rfl)) set_list))) (pss_one (ps_expr (pe_bm PySem.F.plainAttrs_list PySem.F.slot_list_append PySem.F.type_list_append mt_append (pfd (cl_World T) (na_World_said T) (pv 2)) (pa_cons (pe_ix ix_tup (pv 4) pe_int (fun _ _ => rfl)) pa_nil)))))
    (pss_one (ps_ret (pe_tup (pa_cons pe_str (pa_cons pe_int pa_nil))))))))))))))))
theorem sc_loop_done : FnScope n_loop_done ["row", "boxes", "world"] (defScope s_loop_done) := ⟨rfl, rfl, rfl, by decide +kernel, rfl, by decide +kernel, by decide +kernel⟩
theorem vac_loop_done (T : Tx Z) {sp : Sp} (no : ∀ vs H Q E, ¬ sp vs H Q E) : Cal Z CX0 n "loop_done" ["row", "boxes", "world"] sp := by
  obtain ⟨fd, F⟩ := fx_loop_done T
  have B : L2.Binds Z.K fd ["row", "boxes", "world"] [] := F.binds fun _ _ _ _ _ _ us hl => match us, hl with | [_, _, _], _ => rfl
  exact ⟨⟨_, fd, g_loop_done T, kp_loop_done T, B, FnR.vac no⟩⟩
theorem dv_loop_done (T : Tx Z) {k_World_taken : Nat} {ps_World_taken : List Str} {sp_World_taken : Sp} (c_World_taken : CalM Z CX0 k_World_taken (He.ga Z.K "World") "taken" ps_World_taken sp_World_taken) (h_World_taken : k_World_taken ≤ n) {k_reckoned : Nat} {ps_reckoned : List Str} {sp_reckoned : Sp} (c_reckoned : Cal Z CX0 k_reckoned "reckoned" ps_reckoned sp_reckoned) (h_reckoned : k_reckoned ≤ n) {k_block_done : Nat} {ps_block_done : List Str} {sp_block_done : Sp} (c_block_done : Cal Z CX0 k_block_done "block_done" ps_block_done sp_block_done) (h_block_done : k_block_done ≤ n) {sp : Sp} (len : ∀ vs H Q E, sp vs H Q E → vs.length = 3)
    (pure : ∀ (vs : List V) (H : Hp) (Q : VK) (E : XK), sp vs H Q E → t_loop_done Z.K sp_World_taken sp_reckoned sp_block_done { nx := fun _ H' => Q .non H', rt := Q } (L2.start n_loop_done vs) H) : Cal Z CX0 (n + 1) "loop_done" ["row", "boxes", "world"] sp := by
  obtain ⟨fd, F⟩ := fx_loop_done T
  have B : L2.Binds Z.K fd ["row", "boxes", "world"] [] := F.binds fun _ _ _ _ _ _ us hl => match us, hl with | [_, _, _], _ => rfl
  refine ⟨⟨_, fd, g_loop_done T, kp_loop_done T, B, mkR (tb := t_loop_done Z.K sp_World_taken sp_reckoned sp_block_done) F sc_loop_done len (fun cdv A outer s H E hr => ?_) pure⟩⟩
  have r_World_taken := hr.mono h_World_taken
  have r_reckoned := hr.mono h_reckoned
  have r_block_done := hr.mono h_block_done
  exact (pss_cons (ps_while PassesOwn.never (pt_val (pmet0 (pv 2) (cl_World T) c_World_taken r_World_taken pass0)) (pss_cons (ps_set (i := 3) sc_loop_done.nd rfl (Or.inl rfl) (pcal c_reckoned r_reckoned (by rfl) pass0 (pa_cons (pe_ix ix_tup (pv 0) pe_int (fun _ _ => rfl)) (pa_cons (pv 1) (pa_cons (pv 2) pa_nil)))))
    (pss_cons (ps_if (pt_cmpR op_ne (pe_ix ix_tup (pv 3) pe_int (fun _ _ => rfl)) pe_str (nomark _)) (pss_one (ps_ret (pv 3))) pss_nil)
    (pss_cons (ps_if (pt_cmpR op_eq (pe_ix ix_tup (pv 3) pe_int (fun _ _ => rfl)) pe_int (nomark _)) (pss_one (ps_ret (pe_tup (pa_cons pe_str (pa_cons pe_int pa_nil))))) pss_nil)
    (pss_cons (ps_set (i := 3) sc_loop_done.nd rfl (Or.inl rfl) (pcal c_block_done r_block_done (by rfl) pass0 (pa_cons (pe_ix ix_tup (pv 0) pe_int (fun _ _ => rfl)) (pa_cons (pv 1) (pa_cons (pv 2) pa_nil)))))
    (pss_cons (ps_if (pt_cmpR op_eq (pe_ix ix_tup (pv 3) pe_int (fun _ _ => rfl)) pe_str (nomark _)) (pss_one (ps_ret (pe_tup (pa_cons pe_str (pa_cons pe_int pa_nil))))) pss_nil)
    (pss_one (ps_if (PW.pt (pw_and (pt_cmpR op_ne (pe_ix ix_tup (pv 3) pe_int (fun _ _ => rfl)) pe_str (nomark _)) (pw_and1 (pt_cmpR op_ne (pe_ix ix_tup (pv 3) pe_int (fun _ _ => rfl)) pe_str (nomark _))))) (pss_one (ps_ret (pv 3))) pss_nil))))))))
    (pss_one (ps_ret (pe_tup (pa_cons pe_str (pa_cons pe_int pa_nil))))))
theorem sc_catch_done : FnScope n_catch_done ["row", "boxes", "world"] (defScope s_catch_done) := ⟨rfl, rfl, rfl, by decide +kernel, rfl, by decide +kernel, by decide +kernel⟩
theorem vac_catch_done (T : Tx Z) {sp : Sp} (no : ∀ vs H Q E, ¬ sp vs H Q E) : Cal Z CX0 n "catch_done" ["row", "boxes", "world"] sp := by
  obtain ⟨fd, F⟩ := fx_catch_done T
  have B : L2.Binds Z.K fd ["row", "boxes", "world"] [] := F.binds fun _ _ _ _ _ _ us hl => match us, hl with | [_, _, _], _ => rfl
  exact ⟨⟨_, fd, g_catch_done T, kp_catch_done T, B, FnR.vac no⟩⟩
theorem dv_catch_done (T : Tx Z) {k_block_done : Nat} {ps_block_done : List Str} {sp_block_done : Sp} (c_block_done : Cal Z CX0 k_block_done "block_done" ps_block_done sp_block_done) (h_block_done : k_block_done ≤ n) {sp : Sp} (len : ∀ vs H Q E, sp vs H Q E → vs.length = 3)
    (pure : ∀ (vs : List V) (H : Hp) (Q : VK) (E : XK), sp vs H Q E → t_catch_done Z.K sp_block_done { nx := fun _ H' => Q .non H', rt := Q } (L2.start n_catch_done vs) H) : Cal Z CX0 (n + 1) "catch_done" ["row", "boxes", "world"] sp := by
  obtain ⟨fd, F⟩ := fx_catch_done T
  have B : L2.Binds Z.K fd ["row", "boxes", "world"] [] := F.binds fun _ _ _ _ _ _ us hl => match us, hl with | [_, _, _], _ => rfl
  refine ⟨⟨_, fd, g_catch_done T, kp_catch_done T, B, mkR (tb := t_catch_done Z.K sp_block_done) F sc_catch_done len (fun cdv A outer s H E hr => ?_) pure⟩⟩
  have r_block_done := hr.mono h_block_done
  exact (pss_cons (ps_set (i := 3) sc_catch_done.nd rfl (Or.inl rfl) (pcal c_block_done r_block_done (by rfl) pass0 (pa_cons (pe_ix ix_tup (pv 0) pe_int (fun _ _ => rfl)) (pa_cons (pv 1) (pa_cons (pv 2) pa_nil)))))
    (pss_cons (ps_if (pt_cmpR op_ne (pe_ix ix_tup (pv 3) pe_int (fun _ _ => rfl)) pe_str (nomark _)) (pss_one (ps_ret (pv 3))) pss_nil)
    (pss_cons (ps_if (PW.pt (pw_and (pt_cmpR op_isNotNo (pe_ix ix_tup (pv 0) pe_int (fun _ _ => rfl)) pe_non (nomark _)) (pw_and1 (pt_cmpR op_ne (pe_ix ix_tup (pv 3) pe_int (fun _ _ => rfl)) (pe_ix ix_tup (pv 0) pe_int (fun _ _ => rfl)) (nomark _))))) (pss_one (ps_ret (pv 3))) pss_nil)
    (pss_cons (ps_asg (pe_ix ix_tup (pv 3) pe_int (fun _ _ => rfl)) (pg_sub (pv 1) (pe_ix ix_tup (pv 0) pe_int (fun _ _ => rfl)) set_list))
    (pss_one (ps_ret (pcal c_block_done r_block_done (by rfl) pass0 (pa_cons (pe_ix ix_tup (pv 0) pe_int (fun _ _ => rfl)) (pa_cons (pv 1) (pa_cons (pv 2) pa_nil))))))))))
theorem sc_end_done : FnScope n_end_done ["row", "boxes", "world"] (defScope s_end_done) := ⟨rfl, rfl, rfl, by decide +kernel, rfl, by decide +kernel, by decide +kernel⟩
theorem vac_end_done (T : Tx Z) {sp : Sp} (no : ∀ vs H Q E, ¬ sp vs H Q E) : Cal Z CX0 n "end_done" ["row", "boxes", "world"] sp := by
  obtain ⟨fd, F⟩ := fx_end_done T
  have B : L2.Binds Z.K fd ["row", "boxes", "world"] [] := F.binds fun _ _ _ _ _ _ us hl => match us, hl with | [_, _, _], _ => rfl
  exact ⟨⟨_, fd, g_end_done T, kp_end_done T, B, FnR.vac no⟩⟩
theorem dv_end_done (T : Tx Z) {k_block_done : Nat} {ps_block_done : List Str} {sp_block_done : Sp} (c_block_done : Cal Z CX0 k_block_done "block_done" ps_block_done sp_block_done) (h_block_done : k_block_done ≤ n) {sp : Sp} (len : ∀ vs H Q E, sp vs H Q E → vs.length = 3)
    (pure : ∀ (vs : List V) (H : Hp) (Q : VK) (E : XK), sp vs H Q E → t_end_done Z.K sp_block_done { nx := fun _ H' => Q .non H', rt := Q } (L2.start n_end_done vs) H) : Cal Z CX0 (n + 1) "end_done" ["row", "boxes", "world"] sp := by
  obtain ⟨fd, F⟩ := fx_end_done T
  have B : L2.Binds Z.K fd ["row", "boxes", "world"] [] := F.binds fun _ _ _ _ _ _ us hl => match us, hl with | [_, _, _], _ => rfl
  refine ⟨⟨_, fd, g_end_done T, kp_end_done T, B, mkR (tb := t_end_done Z.K sp_block_done) F sc_end_done len (fun cdv A outer s H E hr => ?_) pure⟩⟩
  have r_block_done := hr.mono h_block_done
  exact (pss_cons (ps_set (i := 3) sc_end_done.nd rfl (Or.inl rfl) (pcal c_block_done r_block_done (by rfl) pass0 (pa_cons (pe_ix ix_tup (pv 0) pe_int (fun _ _ => rfl)) (pa_cons (pv 1) (pa_cons (pv 2) pa_nil)))))
    (pss_cons (ps_if (pt_cmpR op_eq (pe_ix ix_tup (pv 3) pe_int (fun _ _ => rfl)) pe_str (nomark _)) (pss_one (ps_ret (pv 3))) pss_nil)
    (pss_cons (ps_set (i := 4) sc_end_done.nd rfl (Or.inl rfl) (pcal c_block_done r_block_done (by rfl) pass0 (pa_cons (pe_ix ix_tup (pv 0) pe_int (fun _ _ => rfl)) (pa_cons (pv 1) (pa_cons (pv 2) pa_nil)))))
    (pss_cons (ps_if (pt_cmpR op_ne (pe_ix ix_tup (pv 4) pe_int (fun _ _ => rfl)) pe_str (nomark _)) (pss_one (ps_ret (pv 4))) pss_nil)
    (pss_one (ps_ret (pv 3)))))))
theorem sc_told : FnScope n_told ["program", "number", "turns"] (defScope s_told) := ⟨rfl, rfl, rfl, by decide +kernel, rfl, by decide +kernel, by decide +kernel⟩
theorem vac_told (T : Tx Z) {sp : Sp} (no : ∀ vs H Q E, ¬ sp vs H Q E) : Cal Z CX0 n "told" ["program", "number", "turns"] sp := by
  obtain ⟨fd, F⟩ := fx_told T
  have B : L2.Binds Z.K fd ["program", "number", "turns"] [] := F.binds fun _ _ _ _ _ _ us hl => match us, hl with | [_, _, _], _ => rfl
  exact ⟨⟨_, fd, g_told T, kp_told T, B, FnR.vac no⟩⟩
theorem dv_told (T : Tx Z) {k_checked : Nat} {ps_checked : List Str} {sp_checked : Sp} (c_checked : Cal Z CX0 k_checked "checked" ps_checked sp_checked) (h_checked : k_checked ≤ n) {k_World___init__ : Nat} {ps_World___init__ : List Str} {sp_World___init__ : Sp} (c_World___init__ : CalN Z CX0 k_World___init__ "World" (He.ga Z.K "World") ps_World___init__ sp_World___init__) (h_World___init__ : k_World___init__ + 1 ≤ n) {k_entered : Nat} {ps_entered : List Str} {sp_entered : Sp} (c_entered : Cal Z CX0 k_entered "entered" ps_entered sp_entered) (h_entered : k_entered ≤ n) {sp : Sp} (len : ∀ vs H Q E, sp vs H Q E → vs.length = 3)
    (pure : ∀ (vs : List V) (H : Hp) (Q : VK) (E : XK), sp vs H Q E → t_told Z.K sp_checked sp_World___init__ sp_entered { nx := fun _ H' => Q .non H', rt := Q } (L2.start n_told vs) H) : Cal Z CX0 (n + 1) "told" ["program", "number", "turns"] sp := by
  obtain ⟨fd, F⟩ := fx_told T
  have B : L2.Binds Z.K fd ["program", "number", "turns"] [] := F.binds fun _ _ _ _ _ _ us hl => match us, hl with | [_, _, _], _ => rfl
  refine ⟨⟨_, fd, g_told T, kp_told T, B, mkR (tb := t_told Z.K sp_checked sp_World___init__ sp_entered) F sc_told len (fun cdv A outer s H E hr => ?_) pure⟩⟩
  have r_checked := hr.mono h_checked
  have r_World___init__ := hr.mono h_World___init__
  have r_entered := hr.mono h_entered
  exact (pss_cons (ps_expr (pcal c_checked r_checked (by rfl) pass0 (pa_cons (pv 0) pa_nil)))
    (pss_cons (ps_set (i := 3) sc_told.nd rfl (Or.inl rfl) (pmak c_World___init__ r_World___init__ (by rfl) pass0 (pa_cons (pv 0) (pa_cons (pv 2) pa_nil))))
    (pss_cons (ps_set (i := 4) sc_told.nd rfl (Or.inl rfl) (pcal c_entered r_entered (by rfl) pass0 (pa_cons pe_int (pa_cons (pv 1) (pa_cons (pv 3) pa_nil)))))
    (pss_cons (ps_set (i := 5) sc_told.nd rfl (Or.inl rfl) (pe_ifExp (pt_cmpR op_eq (pe_ix ix_tup (pv 4) pe_int (fun _ _ => rfl)) pe_str (nomark _)) pe_str (pe_ix ix_tup (pv 4) pe_int (fun _ _ => rfl))))
    (pss_one (ps_ret (pe_tup (pa_cons (pfd (cl_World T) (na_World_said T) (pv 3)) (pa_cons (pv 5) (pa_cons (pe_ix ix_tup (pv 4) pe_int (fun _ _ => rfl)) pa_nil))))))))))
theorem sc_l_whole : FnScope n_l_whole ["_law_found"] (defScope s_l_whole) := ⟨rfl, rfl, rfl, by decide +kernel, rfl, by decide +kernel, by decide +kernel⟩
theorem dv_l_whole (T : Tx Z) {sp : Sp} (len : ∀ vs H Q E, sp vs H Q E → vs.length = 1)
    (pure : ∀ (vs : List V) (H : Hp) (Q : VK) (E : XK), sp vs H Q E → t_l_whole Z.K { nx := fun _ H' => Q .non H', rt := Q } (L2.start n_l_whole vs) H) : Cal Z CX0 (n + 1) "_law_whole" ["_law_found"] sp := by
  obtain ⟨fd, F⟩ := fx_l_whole T
  have B : L2.Binds Z.K fd ["_law_found"] [] := F.binds fun _ _ _ _ _ _ us hl => match us, hl with | [_], _ => rfl
  refine ⟨⟨_, fd, g_l_whole T, kp_l_whole T, B, mkR (tb := t_l_whole Z.K) F sc_l_whole len (fun cdv A outer s H E hr => ?_) pure⟩⟩
  skip
  exact (pss_one (ps_ret (pe_and (pe_callB call_isi (by rfl) (g_isinstance T) (by decide +kernel) (pa_cons (pv 0) (pa_cons (pe_bltn (v := .ty "int") (by rfl) (g_int T) (by decide +kernel) rfl) pa_nil))) (pe_one (pe_not (pe_callB call_isi (by rfl) (g_isinstance T) (by decide +kernel) (pa_cons (pv 0) (pa_cons (pe_bltn (v := .ty "bool") (by rfl) (g_bool T) (by decide +kernel) rfl) pa_nil))))))))
theorem sc_l_next : FnScope n_l_next ["_law_script", "_law_at"] (defScope s_l_next) := ⟨rfl, rfl, rfl, by decide +kernel, rfl, by decide +kernel, by decide +kernel⟩
theorem dv_l_next (T : Tx Z) {sp : Sp} (len : ∀ vs H Q E, sp vs H Q E → vs.length = 2)
    (pure : ∀ (vs : List V) (H : Hp) (Q : VK) (E : XK), sp vs H Q E → t_l_next Z.K { nx := fun _ H' => Q .non H', rt := Q } (L2.start n_l_next vs) H) : Cal Z CX0 (n + 1) "_law_next" ["_law_script", "_law_at"] sp := by
  obtain ⟨fd, F⟩ := fx_l_next T
  have B : L2.Binds Z.K fd ["_law_script", "_law_at"] [] := F.binds fun _ _ _ _ _ _ us hl => match us, hl with | [_, _], _ => rfl
  refine ⟨⟨_, fd, g_l_next T, kp_l_next T, B, mkR (tb := t_l_next Z.K) F sc_l_next len (fun cdv A outer s H E hr => ?_) pure⟩⟩
  skip
  exact (pss_cons (ps_asg (pe_op op_addI (pe_ix ix_list (pv 1) pe_int (fun _ _ => rfl)) pe_int) (pg_sub (pv 1) pe_int set_list))
    (pss_cons (ps_set (i := 2) sc_l_next.nd rfl (Or.inl rfl) (pe_op op_subI (pe_ix ix_list (pv 1) pe_int (fun _ _ => rfl)) pe_int))
    (pss_cons (ps_if (pt_cmpR op_ltI (pv 2) (pe_callB call_lenQ (by rfl) (g_len T) PySem.boot_len (pa_cons (pv 0) pa_nil)) (nomark _)) (pss_one (ps_ret (pe_ix ix_list (pv 0) (pv 2) (fun _ _ => rfl)))) pss_nil)
    (pss_cons (ps_if (PW.pt (pw_and (pt_cmpR op_gtI (pe_callB call_lenQ (by rfl) (g_len T) PySem.boot_len (pa_cons (pv 0) pa_nil)) pe_int (nomark _)) (pw_and1 (pt_cmpR op_ltI (pv 2) pe_int (nomark _))))) (pss_one (ps_ret (pe_op op_modP (pe_op op_mulI (pe_op op_addI (pe_ix ix_list (pv 0) (pe_op op_modP (pv 2) (pe_callB call_lenQ (by rfl) (g_len T) PySem.boot_len (pa_cons (pv 0) pa_nil))) (fun _ _ => rfl)) (pe_op op_mulI pe_int (pv 2))) pe_int) pe_int))) pss_nil)
    (pss_one (ps_ret pe_int))))))
theorem sc_l_number : FnScope n_l_number ["_law_cell"] (defScope s_l_number) := ⟨rfl, rfl, rfl, by decide +kernel, rfl, by decide +kernel, by decide +kernel⟩
theorem dv_l_number (T : Tx Z) {sp : Sp} (len : ∀ vs H Q E, sp vs H Q E → vs.length = 1)
    (pure : ∀ (vs : List V) (H : Hp) (Q : VK) (E : XK), sp vs H Q E → t_l_number Z.K { nx := fun _ H' => Q .non H', rt := Q } (L2.start n_l_number vs) H) : Cal Z CX0 (n + 1) "_law_number" ["_law_cell"] sp := by
  obtain ⟨fd, F⟩ := fx_l_number T
  have B : L2.Binds Z.K fd ["_law_cell"] [] := F.binds fun _ _ _ _ _ _ us hl => match us, hl with | [_], _ => rfl
  refine ⟨⟨_, fd, g_l_number T, kp_l_number T, B, mkR (tb := t_l_number Z.K) F sc_l_number len (fun cdv A outer s H E hr => ?_) pure⟩⟩
  skip
  exact (pss_cons (ps_if (pt_cmpR op_eq (pe_op op_modP (pv 0) pe_int) pe_int (nomark _)) (pss_one (ps_ret (pe_op op_subI (pe_op op_modP (pe_op op_fdC (pv 0) pe_int) (pe_op op_powI pe_int pe_int)) (pe_op op_mulI pe_int (pe_op op_powI pe_int pe_int))))) pss_nil)
    (pss_one (ps_ret (pe_op op_subI (pe_op op_modP (pe_op op_fdC (pv 0) pe_int) pe_int) pe_int))))
theorem sc_l_tree : FnScope n_l_tree ["_law_script", "_law_at", "_law_deep", "_law_count"] (defScope s_l_tree) := ⟨rfl, rfl, rfl, by decide +kernel, rfl, by decide +kernel, by decide +kernel⟩
theorem vac_l_tree (T : Tx Z) {sp : Sp} (no : ∀ vs H Q E, ¬ sp vs H Q E) : Cal Z CX0 n "_law_tree" ["_law_script", "_law_at", "_law_deep", "_law_count"] sp := by
  obtain ⟨fd, F⟩ := fx_l_tree T
  have B : L2.Binds Z.K fd ["_law_script", "_law_at", "_law_deep", "_law_count"] [] := F.binds fun _ _ _ _ _ _ us hl => match us, hl with | [_, _, _, _], _ => rfl
  exact ⟨⟨_, fd, g_l_tree T, kp_l_tree T, B, FnR.vac no⟩⟩
theorem dv_l_tree (T : Tx Z) {k_l_next : Nat} {ps_l_next : List Str} {sp_l_next : Sp} (c_l_next : Cal Z CX0 k_l_next "_law_next" ps_l_next sp_l_next) (h_l_next : k_l_next ≤ n) {k_l_number : Nat} {ps_l_number : List Str} {sp_l_number : Sp} (c_l_number : Cal Z CX0 k_l_number "_law_number" ps_l_number sp_l_number) (h_l_number : k_l_number ≤ n) {k_l_tree : Nat} {ps_l_tree : List Str} {sp_l_tree : Sp} (c_l_tree : Cal Z CX0 k_l_tree "_law_tree" ps_l_tree sp_l_tree) (h_l_tree : k_l_tree ≤ n) {sp : Sp} (len : ∀ vs H Q E, sp vs H Q E → vs.length = 4)
    (pure : ∀ (vs : List V) (H : Hp) (Q : VK) (E : XK), sp vs H Q E → t_l_tree Z.K sp_l_next sp_l_number sp_l_tree { nx := fun _ H' => Q .non H', rt := Q } (L2.start n_l_tree vs) H) : Cal Z CX0 (n + 1) "_law_tree" ["_law_script", "_law_at", "_law_deep", "_law_count"] sp := by
  obtain ⟨fd, F⟩ := fx_l_tree T
  have B : L2.Binds Z.K fd ["_law_script", "_law_at", "_law_deep", "_law_count"] [] := F.binds fun _ _ _ _ _ _ us hl => match us, hl with | [_, _, _, _], _ => rfl
  refine ⟨⟨_, fd, g_l_tree T, kp_l_tree T, B, mkR (tb := t_l_tree Z.K sp_l_next sp_l_number sp_l_tree) F sc_l_tree len (fun cdv A outer s H E hr => ?_) pure⟩⟩
  have r_l_next := hr.mono h_l_next
  have r_l_number := hr.mono h_l_number
  have r_l_tree := hr.mono h_l_tree
  exact (pss_cons (ps_set (i := 4) sc_l_tree.nd rfl (Or.inl rfl) (pcal c_l_next r_l_next (by rfl) pass0 (pa_cons (pv 0) (pa_cons (pv 1) pa_nil))))
    (pss_cons (ps_set (i := 5) sc_l_tree.nd rfl (Or.inl rfl) (pe_op op_modP (pv 4) pe_int))
    (pss_cons (ps_if (PW.pt (pw_or (pt_cmpR op_gtI (pv 2) pe_int (nomark _)) (pw_or1 (PW.pt (pw_and (pt_cmpR op_gtI (pv 2) pe_int (nomark _)) (pw_and1 (pt_cmpR op_gtI (pe_op op_modP (pv 4) pe_int) pe_int (nomark _)))))))) (pss_one (ps_set (i := 5) sc_l_tree.nd rfl (Or.inl rfl) (pe_op op_modP (pv 5) pe_int))) pss_nil)
    (pss_cons (ps_if (pt_cmpR op_eq (pv 5) pe_int (nomark _)) (pss_one (ps_ret (pe_tup (pa_cons pe_str (pa_cons (pcal c_l_number r_l_number (by rfl) pass0 (pa_cons (pe_op op_fdC (pv 4) pe_int) pa_nil)) pa_nil))))) pss_nil)
    (pss_cons (ps_if (pt_cmpR op_ltI (pv 5) pe_int (nomark _)) (pss_one (ps_ret (pe_tup (pa_cons pe_str (pa_cons (pe_op op_modP (pe_op op_fdC (pv 4) pe_int) pe_int) pa_nil))))) pss_nil)
    (pss_cons (ps_if (pt_cmpR op_eq (pv 5) pe_int (nomark _)) (pss_one (ps_ret (pe_tup (pa_cons pe_str (pa_cons (pe_op op_modP (pe_op op_fdC (pv 4) pe_int) (pv 3)) (pa_cons (pcal c_l_tree r_l_tree (by rfl) pass0 (pa_cons (pv 0) (pa_cons (pv 1) (pa_cons (pe_op op_addI (pv 2) pe_int) (pa_cons (pv 3) pa_nil))))) pa_nil)))))) pss_nil)
    (pss_cons (ps_set (i := 6) sc_l_tree.nd rfl (Or.inl rfl) (pe_ix ix_list (pe_lst (pa_cons pe_str (pa_cons pe_str (pa_cons pe_str (pa_cons pe_str (pa_cons pe_str pa_nil)))))) (pe_op op_subI (pv 5) pe_int) (fun _ _ => rfl)))
    (pss_cons (ps_set (i := 7) sc_l_tree.nd rfl (Or.inl rfl) (pcal c_l_tree r_l_tree (by rfl) pass0 (pa_cons (pv 0) (pa_cons (pv 1) (pa_cons (pe_op op_addI (pv 2) pe_int) (pa_cons (pv 3) pa_nil))))))
    (pss_one (ps_ret (pe_tup (pa_cons (pv 6) (pa_cons (pv 7) (pa_cons (pcal c_l_tree r_l_tree (by rfl) pass0 (pa_cons (pv 0) (pa_cons (pv 1) (pa_cons (pe_op op_addI (pv 2) pe_int) (pa_cons (pv 3) pa_nil))))) pa_nil))))))))))))))
theorem sc_l_out : FnScope n_l_out ["_law_script", "_law_at", "_law_more", "_law_loops", "_law_count"] (defScope s_l_out) := ⟨rfl, rfl, rfl, by decide +kernel, rfl, by decide +kernel, by decide +kernel⟩
theorem dv_l_out (T : Tx Z) {k_l_tree : Nat} {ps_l_tree : List Str} {sp_l_tree : Sp} (c_l_tree : Cal Z CX0 k_l_tree "_law_tree" ps_l_tree sp_l_tree) (h_l_tree : k_l_tree ≤ n) {sp : Sp} (len : ∀ vs H Q E, sp vs H Q E → vs.length = 5)
    (pure : ∀ (vs : List V) (H : Hp) (Q : VK) (E : XK), sp vs H Q E → t_l_out Z.K sp_l_tree { nx := fun _ H' => Q .non H', rt := Q } (L2.start n_l_out vs) H) : Cal Z CX0 (n + 1) "_law_out" ["_law_script", "_law_at", "_law_more", "_law_loops", "_law_count"] sp := by
  obtain ⟨fd, F⟩ := fx_l_out T
  have B : L2.Binds Z.K fd ["_law_script", "_law_at", "_law_more", "_law_loops", "_law_count"] [] := F.binds fun _ _ _ _ _ _ us hl => match us, hl with | [_, _, _, _, _], _ => rfl
  refine ⟨⟨_, fd, g_l_out T, kp_l_out T, B, mkR (tb := t_l_out Z.K sp_l_tree) F sc_l_out len (fun cdv A outer s H E hr => ?_) pure⟩⟩
  have r_l_tree := hr.mono h_l_tree
  exact (pss_cons (ps_if (PW.pt (pw_and (pt_cmpR op_gtI (pv 3) pe_int (nomark _)) (pw_and1 (pt_cmpR op_gtI (pe_op op_modP (pv 2) pe_int) pe_int (nomark _))))) (pss_one (ps_ret (pe_tup (pa_cons (pe_ix ix_list (pe_lst (pa_cons pe_str (pa_cons pe_str pa_nil))) (pe_op op_modP (pv 2) pe_int) (fun _ _ => rfl)) pa_nil)))) pss_nil)
    (pss_one (ps_ret (pe_tup (pa_cons pe_str (pa_cons (pcal c_l_tree r_l_tree (by rfl) pass0 (pa_cons (pv 0) (pa_cons (pv 1) (pa_cons pe_int (pa_cons (pv 4) pa_nil))))) pa_nil))))))
theorem sc_l_loop : FnScope n_l_loop ["_law_script", "_law_at", "_law_more", "_law_deep", "_law_loops", "_law_count"] (defScope s_l_loop) := ⟨rfl, rfl, rfl, by decide +kernel, rfl, by decide +kernel, by decide +kernel⟩
theorem vac_l_loop (T : Tx Z) {sp : Sp} (no : ∀ vs H Q E, ¬ sp vs H Q E) : Cal Z CX0 n "_law_loop" ["_law_script", "_law_at", "_law_more", "_law_deep", "_law_loops", "_law_count"] sp := by
  obtain ⟨fd, F⟩ := fx_l_loop T
  have B : L2.Binds Z.K fd ["_law_script", "_law_at", "_law_more", "_law_deep", "_law_loops", "_law_count"] [] := F.binds fun _ _ _ _ _ _ us hl => match us, hl with | [_, _, _, _, _, _], _ => rfl
  exact ⟨⟨_, fd, g_l_loop T, kp_l_loop T, B, FnR.vac no⟩⟩
theorem dv_l_loop (T : Tx Z) {k_l_tree : Nat} {ps_l_tree : List Str} {sp_l_tree : Sp} (c_l_tree : Cal Z CX0 k_l_tree "_law_tree" ps_l_tree sp_l_tree) (h_l_tree : k_l_tree ≤ n) {k_l_block : Nat} {ps_l_block : List Str} {sp_l_block : Sp} (c_l_block : Cal Z CX0 k_l_block "_law_block" ps_l_block sp_l_block) (h_l_block : k_l_block ≤ n) {k_l_next : Nat} {ps_l_next : List Str} {sp_l_next : Sp} (c_l_next : Cal Z CX0 k_l_next "_law_next" ps_l_next sp_l_next) (h_l_next : k_l_next ≤ n) {sp : Sp} (len : ∀ vs H Q E, sp vs H Q E → vs.length = 6)
    (pure : ∀ (vs : List V) (H : Hp) (Q : VK) (E : XK), sp vs H Q E → t_l_loop Z.K sp_l_tree sp_l_block sp_l_next { nx := fun _ H' => Q .non H', rt := Q } (L2.start n_l_loop vs) H) : Cal Z CX0 (n + 1) "_law_loop" ["_law_script", "_law_at", "_law_more", "_law_deep", "_law_loops", "_law_count"] sp := by
  obtain ⟨fd, F⟩ := fx_l_loop T
  have B : L2.Binds Z.K fd ["_law_script", "_law_at", "_law_more", "_law_deep", "_law_loops", "_law_count"] [] := F.binds fun _ _ _ _ _ _ us hl => match us, hl with | [_, _, _, _, _, _], _ => rfl
  refine ⟨⟨_, fd, g_l_loop T, kp_l_loop T, B, mkR (tb := t_l_loop Z.K sp_l_tree sp_l_block sp_l_next) F sc_l_loop len (fun cdv A outer s H E hr => ?_) pure⟩⟩
  have r_l_tree := hr.mono h_l_tree
  have r_l_block := hr.mono h_l_block
  have r_l_next := hr.mono h_l_next
  exact (pss_cons (ps_if (pt_cmpR op_eq (pe_op op_modP (pv 2) pe_int) pe_int (nomark _)) (pss_cons (ps_set (i := 6) sc_l_loop.nd rfl (Or.inl rfl) (pcal c_l_tree r_l_tree (by rfl) pass0 (pa_cons (pv 0) (pa_cons (pv 1) (pa_cons pe_int (pa_cons (pv 5) pa_nil))))))
    (pss_one (ps_ret (pe_tup (pa_cons pe_str (pa_cons (pv 6) (pa_cons (pcal c_l_block r_l_block (by rfl) pass0 (pa_cons (pv 0) (pa_cons (pv 1) (pa_cons (pe_op op_addI (pv 3) pe_int) (pa_cons (pe_op op_addI (pv 4) pe_int) (pa_cons (pv 5) pa_nil)))))) pa_nil))))))) pss_nil)
    (pss_cons (ps_set (i := 7) sc_l_loop.nd rfl (Or.inl rfl) (pe_op op_modP (pe_op op_fdC (pv 2) pe_int) pe_int))
    (pss_cons (ps_set (i := 6) sc_l_loop.nd rfl (Or.inl rfl) (pe_tup (pa_cons pe_str (pa_cons (pe_tup (pa_cons pe_str (pa_cons (pv 7) pa_nil))) (pa_cons (pe_tup (pa_cons pe_str (pa_cons (pe_op op_addI pe_int (pe_op op_modP (pe_op op_fdC (pv 2) pe_int) pe_int)) pa_nil))) pa_nil)))))
    (pss_cons (ps_set (i := 8) sc_l_loop.nd rfl (Or.inl rfl) (pe_op op_cat (pe_lst (pa_cons (pe_tup (pa_cons pe_str (pa_cons (pv 7) (pa_cons (pe_tup (pa_cons pe_str (pa_cons (pe_tup (pa_cons pe_str (pa_cons (pv 7) pa_nil))) (pa_cons (pe_tup (pa_cons pe_str (pa_cons pe_int pa_nil))) pa_nil)))) pa_nil)))) pa_nil)) (pcal c_l_block r_l_block (by rfl) pass0 (pa_cons (pv 0) (pa_cons (pv 1) (pa_cons (pe_op op_addI (pv 3) pe_int) (pa_cons (pe_op op_addI (pv 4) pe_int) (pa_cons (pv 5) pa_nil))))))))
    (pss_cons (ps_set (i := 9) sc_l_loop.nd rfl (Or.inl rfl) (pcal c_l_next r_l_next (by rfl) pass0 (pa_cons (pv 0) (pa_cons (pv 1) pa_nil))))
    (pss_cons (ps_if (PW.pt (pw_and (pt_cmpR op_ltI (pv 3) pe_int (nomark _)) (pw_and1 (pt_cmpR op_gtI (pe_op op_modP (pv 9) pe_int) pe_int (nomark _))))) (pss_cons (ps_set (i := 10) sc_l_loop.nd rfl (Or.inl rfl) (pe_lst (pa_cons (pe_tup (pa_cons pe_str pa_nil)) (pa_cons (pe_tup (pa_cons pe_str pa_nil)) pa_nil))))
    (pss_cons (ps_set (i := 11) sc_l_loop.nd rfl (Or.inl rfl) (pe_tup (pa_cons pe_str (pa_cons (pe_tup (pa_cons pe_str (pa_cons (pe_tup (pa_cons pe_str (pa_cons (pv 7) pa_nil))) (pa_cons (pe_tup (pa_cons pe_str (pa_cons (pe_op op_modP (pe_op op_fdC (pv 9) pe_int) pe_int) pa_nil))) pa_nil)))) (pa_cons (pe_lst (pa_cons (pe_ix ix_list (pv 10) (pe_op op_modP (pe_op op_fdC (pv 9) pe_int) pe_int) (fun _ _ => rfl)) pa_nil)) (pa_cons (pe_lst (pa_cons (pe_ix ix_list (pv 10) (pe_op op_subI pe_int (pe_op op_modP (pe_op op_fdC (pv 9) pe_int) pe_int)) (fun _ _ => rfl)) pa_nil)) pa_nil))))))
    (pss_one (ps_expr (pe_bm PySem.F.plainAttrs_list PySem.F.slot_list_append PySem.F.type_list_append mt_append (pv 8) (pa_cons (pe_tup (pa_cons pe_str (pa_cons (pe_lst (pa_cons (pv 11) pa_nil)) (pa_cons (pe_lst (pa_cons (pe_tup (pa_cons pe_str (pa_cons (pe_tup (pa_cons pe_str (pa_cons (pv 7) pa_nil))) pa_nil))) pa_nil)) pa_nil)))) pa_nil)))))) pss_nil)
    (pss_one (ps_ret (pe_tup (pa_cons pe_str (pa_cons (pv 6) (pa_cons (pv 8) pa_nil))))))))))))
theorem sc_l_catch : FnScope n_l_catch ["_law_script", "_law_at", "_law_more", "_law_deep", "_law_loops", "_law_count"] (defScope s_l_catch) := ⟨rfl, rfl, rfl, by decide +kernel, rfl, by decide +kernel, by decide +kernel⟩
theorem vac_l_catch (T : Tx Z) {sp : Sp} (no : ∀ vs H Q E, ¬ sp vs H Q E) : Cal Z CX0 n "_law_catch" ["_law_script", "_law_at", "_law_more", "_law_deep", "_law_loops", "_law_count"] sp := by
  obtain ⟨fd, F⟩ := fx_l_catch T
  have B : L2.Binds Z.K fd ["_law_script", "_law_at", "_law_more", "_law_deep", "_law_loops", "_law_count"] [] := F.binds fun _ _ _ _ _ _ us hl => match us, hl with | [_, _, _, _, _, _], _ => rfl
  exact ⟨⟨_, fd, g_l_catch T, kp_l_catch T, B, FnR.vac no⟩⟩
theorem dv_l_catch (T : Tx Z) {k_l_number : Nat} {ps_l_number : List Str} {sp_l_number : Sp} (c_l_number : Cal Z CX0 k_l_number "_law_number" ps_l_number sp_l_number) (h_l_number : k_l_number ≤ n) {k_l_block : Nat} {ps_l_block : List Str} {sp_l_block : Sp} (c_l_block : Cal Z CX0 k_l_block "_law_block" ps_l_block sp_l_block) (h_l_block : k_l_block ≤ n) {k_l_next : Nat} {ps_l_next : List Str} {sp_l_next : Sp} (c_l_next : Cal Z CX0 k_l_next "_law_next" ps_l_next sp_l_next) (h_l_next : k_l_next ≤ n) {sp : Sp} (len : ∀ vs H Q E, sp vs H Q E → vs.length = 6)
    (pure : ∀ (vs : List V) (H : Hp) (Q : VK) (E : XK), sp vs H Q E → t_l_catch Z.K sp_l_number sp_l_block sp_l_next { nx := fun _ H' => Q .non H', rt := Q } (L2.start n_l_catch vs) H) : Cal Z CX0 (n + 1) "_law_catch" ["_law_script", "_law_at", "_law_more", "_law_deep", "_law_loops", "_law_count"] sp := by
  obtain ⟨fd, F⟩ := fx_l_catch T
  have B : L2.Binds Z.K fd ["_law_script", "_law_at", "_law_more", "_law_deep", "_law_loops", "_law_count"] [] := F.binds fun _ _ _ _ _ _ us hl => match us, hl with | [_, _, _, _, _, _], _ => rfl
  refine ⟨⟨_, fd, g_l_catch T, kp_l_catch T, B, mkR (tb := t_l_catch Z.K sp_l_number sp_l_block sp_l_next) F sc_l_catch len (fun cdv A outer s H E hr => ?_) pure⟩⟩
  have r_l_number := hr.mono h_l_number
  have r_l_block := hr.mono h_l_block
  have r_l_next := hr.mono h_l_next
  exact (pss_cons (ps_set (i := 6) sc_l_catch.nd rfl (Or.inl rfl) (pe_ix ix_list (pe_lst (pa_cons pe_non (pa_cons (pe_op op_addI pe_int (pe_op op_modP (pe_op op_fdC (pv 2) pe_int) pe_int)) (pa_cons (pcal c_l_number r_l_number (by rfl) pass0 (pa_cons (pe_op op_fdC (pv 2) pe_int) pa_nil)) pa_nil)))) (pe_op op_modP (pv 2) pe_int) (fun _ _ => rfl)))
    (pss_cons (ps_set (i := 7) sc_l_catch.nd rfl (Or.inl rfl) (pe_op op_modP (pe_op op_fdC (pv 2) pe_int) pe_int))
    (pss_cons (ps_set (i := 8) sc_l_catch.nd rfl (Or.inl rfl) (pcal c_l_block r_l_block (by rfl) pass0 (pa_cons (pv 0) (pa_cons (pv 1) (pa_cons (pe_op op_addI (pv 3) pe_int) (pa_cons (pv 4) (pa_cons (pv 5) pa_nil)))))))
    (pss_cons (ps_set (i := 9) sc_l_catch.nd rfl (Or.inl rfl) (pcal c_l_next r_l_next (by rfl) pass0 (pa_cons (pv 0) (pa_cons (pv 1) pa_nil))))
    (pss_cons (ps_if (PW.pt (pw_and (pt_cmpR op_eq (pe_op op_modP (pv 9) pe_int) pe_int (nomark _)) (pw_and1 (pt_cmpR op_isNotNo (pv 6) pe_non (nomark _))))) (pss_one (ps_expr (pe_bm PySem.F.plainAttrs_list PySem.F.slot_list_append PySem.F.type_list_append mt_append (pv 8) (pa_cons (pe_tup (pa_cons pe_str (pa_cons (pe_tup (pa_cons pe_str (pa_cons (pv 6) pa_nil))) pa_nil))) pa_nil)))) (pss_one (ps_if (pt_cmpR op_eq (pe_op op_modP (pv 9) pe_int) pe_int (nomark _)) (pss_one (ps_expr (pe_bm PySem.F.plainAttrs_list PySem.F.slot_list_append PySem.F.type_list_append mt_append (pv 8) (pa_cons (pe_tup (pa_cons pe_str (pa_cons (pe_tup (pa_cons pe_str (pa_cons (pe_op op_addI pe_int (pe_op op_modP (pe_op op_fdC (pv 9) pe_int) pe_int)) pa_nil))) pa_nil))) pa_nil)))) pss_nil)))
    (pss_one (ps_ret (pe_tup (pa_cons pe_str (pa_cons (pv 8) (pa_cons (pv 6) (pa_cons (pv 7) (pa_cons (pe_op op_cat (pe_lst (pa_cons (pe_tup (pa_cons pe_str (pa_cons (pe_tup (pa_cons pe_str (pa_cons (pv 7) pa_nil))) pa_nil))) pa_nil)) (pcal c_l_block r_l_block (by rfl) pass0 (pa_cons (pv 0) (pa_cons (pv 1) (pa_cons (pe_op op_addI (pv 3) pe_int) (pa_cons (pv 4) (pa_cons (pv 5) pa_nil))))))) pa_nil)))))))))))))
theorem sc_l_ends : FnScope n_l_ends ["_law_script", "_law_at", "_law_more", "_law_deep", "_law_loops", "_law_count"] (defScope s_l_ends) := ⟨rfl, rfl, rfl, by decide +kernel, rfl, by decide +kernel, by decide +kernel⟩
theorem vac_l_ends (T : Tx Z) {sp : Sp} (no : ∀ vs H Q E, ¬ sp vs H Q E) : Cal Z CX0 n "_law_ends" ["_law_script", "_law_at", "_law_more", "_law_deep", "_law_loops", "_law_count"] sp := by
  obtain ⟨fd, F⟩ := fx_l_ends T
  have B : L2.Binds Z.K fd ["_law_script", "_law_at", "_law_more", "_law_deep", "_law_loops", "_law_count"] [] := F.binds fun _ _ _ _ _ _ us hl => match us, hl with | [_, _, _, _, _, _], _ => rfl
  exact ⟨⟨_, fd, g_l_ends T, kp_l_ends T, B, FnR.vac no⟩⟩
theorem dv_l_ends (T : Tx Z) {k_l_block : Nat} {ps_l_block : List Str} {sp_l_block : Sp} (c_l_block : Cal Z CX0 k_l_block "_law_block" ps_l_block sp_l_block) (h_l_block : k_l_block ≤ n) {k_l_out : Nat} {ps_l_out : List Str} {sp_l_out : Sp} (c_l_out : Cal Z CX0 k_l_out "_law_out" ps_l_out sp_l_out) (h_l_out : k_l_out ≤ n) {sp : Sp} (len : ∀ vs H Q E, sp vs H Q E → vs.length = 6)
    (pure : ∀ (vs : List V) (H : Hp) (Q : VK) (E : XK), sp vs H Q E → t_l_ends Z.K sp_l_block sp_l_out { nx := fun _ H' => Q .non H', rt := Q } (L2.start n_l_ends vs) H) : Cal Z CX0 (n + 1) "_law_ends" ["_law_script", "_law_at", "_law_more", "_law_deep", "_law_loops", "_law_count"] sp := by
  obtain ⟨fd, F⟩ := fx_l_ends T
  have B : L2.Binds Z.K fd ["_law_script", "_law_at", "_law_more", "_law_deep", "_law_loops", "_law_count"] [] := F.binds fun _ _ _ _ _ _ us hl => match us, hl with | [_, _, _, _, _, _], _ => rfl
  refine ⟨⟨_, fd, g_l_ends T, kp_l_ends T, B, mkR (tb := t_l_ends Z.K sp_l_block sp_l_out) F sc_l_ends len (fun cdv A outer s H E hr => ?_) pure⟩⟩
  have r_l_block := hr.mono h_l_block
  have r_l_out := hr.mono h_l_out
  exact (pss_cons (ps_set (i := 6) sc_l_ends.nd rfl (Or.inl rfl) (pcal c_l_block r_l_block (by rfl) pass0 (pa_cons (pv 0) (pa_cons (pv 1) (pa_cons (pe_op op_addI (pv 3) pe_int) (pa_cons (pv 4) (pa_cons (pv 5) pa_nil)))))))
    (pss_cons (ps_if (pt_cmpR op_gtI (pe_op op_modP (pv 2) pe_int) pe_int (nomark _)) (pss_one (ps_expr (pe_bm PySem.F.plainAttrs_list PySem.F.slot_list_append PySem.F.type_list_append mt_append (pv 6) (pa_cons (pcal c_l_out r_l_out (by rfl) pass0 (pa_cons (pv 0) (pa_cons (pv 1) (pa_cons (pe_op op_fdC (pv 2) pe_int) (pa_cons (pv 4) (pa_cons (pv 5) pa_nil)))))) pa_nil)))) pss_nil)
    (pss_cons (ps_set (i := 7) sc_l_ends.nd rfl (Or.inl rfl) (pe_tup (pa_cons pe_str (pa_cons (pv 6) (pa_cons (pe_lst (pa_cons (pe_tup (pa_cons pe_str (pa_cons (pe_tup (pa_cons pe_str (pa_cons (pe_op op_modP (pe_op op_fdC (pv 2) pe_int) pe_int) pa_nil))) pa_nil))) pa_nil)) pa_nil)))))
    (pss_cons (ps_set (i := 8) sc_l_ends.nd rfl (Or.inl rfl) (pe_lst (pa_cons (pe_tup (pa_cons pe_str (pa_cons (pe_tup (pa_cons pe_str (pa_cons (pe_op op_addI pe_int (pe_op op_modP (pe_op op_fdC (pv 2) pe_int) pe_int)) pa_nil))) pa_nil))) pa_nil)))
    (pss_one (ps_ret (pe_tup (pa_cons pe_str (pa_cons (pe_lst (pa_cons (pv 7) pa_nil)) (pa_cons (pe_op op_cat (pv 8) (pcal c_l_block r_l_block (by rfl) pass0 (pa_cons (pv 0) (pa_cons (pv 1) (pa_cons (pe_op op_addI (pv 3) pe_int) (pa_cons (pv 4) (pa_cons (pv 5) pa_nil))))))) pa_nil))))))))))
theorem sc_l_row : FnScope n_l_row ["_law_script", "_law_at", "_law_deep", "_law_loops", "_law_count"] (defScope s_l_row) := ⟨rfl, rfl, rfl, by decide +kernel, rfl, by decide +kernel, by decide +kernel⟩
theorem vac_l_row (T : Tx Z) {sp : Sp} (no : ∀ vs H Q E, ¬ sp vs H Q E) : Cal Z CX0 n "_law_row" ["_law_script", "_law_at", "_law_deep", "_law_loops", "_law_count"] sp := by
  obtain ⟨fd, F⟩ := fx_l_row T
  have B : L2.Binds Z.K fd ["_law_script", "_law_at", "_law_deep", "_law_loops", "_law_count"] [] := F.binds fun _ _ _ _ _ _ us hl => match us, hl with | [_, _, _, _, _], _ => rfl
  exact ⟨⟨_, fd, g_l_row T, kp_l_row T, B, FnR.vac no⟩⟩
theorem dv_l_row (T : Tx Z) {k_l_next : Nat} {ps_l_next : List Str} {sp_l_next : Sp} (c_l_next : Cal Z CX0 k_l_next "_law_next" ps_l_next sp_l_next) (h_l_next : k_l_next ≤ n) {k_l_tree : Nat} {ps_l_tree : List Str} {sp_l_tree : Sp} (c_l_tree : Cal Z CX0 k_l_tree "_law_tree" ps_l_tree sp_l_tree) (h_l_tree : k_l_tree ≤ n) {k_l_out : Nat} {ps_l_out : List Str} {sp_l_out : Sp} (c_l_out : Cal Z CX0 k_l_out "_law_out" ps_l_out sp_l_out) (h_l_out : k_l_out ≤ n) {k_l_loop : Nat} {ps_l_loop : List Str} {sp_l_loop : Sp} (c_l_loop : Cal Z CX0 k_l_loop "_law_loop" ps_l_loop sp_l_loop) (h_l_loop : k_l_loop ≤ n) {k_l_block : Nat} {ps_l_block : List Str} {sp_l_block : Sp} (c_l_block : Cal Z CX0 k_l_block "_law_block" ps_l_block sp_l_block) (h_l_block : k_l_block ≤ n) {k_l_catch : Nat} {ps_l_catch : List Str} {sp_l_catch : Sp} (c_l_catch : Cal Z CX0 k_l_catch "_law_catch" ps_l_catch sp_l_catch) (h_l_catch : k_l_catch ≤ n) {k_l_ends : Nat} {ps_l_ends : List Str} {sp_l_ends : Sp} (c_l_ends : Cal Z CX0 k_l_ends "_law_ends" ps_l_ends sp_l_ends) (h_l_ends : k_l_ends ≤ n) {sp : Sp} (len : ∀ vs H Q E, sp vs H Q E → vs.length = 5)
    (pure : ∀ (vs : List V) (H : Hp) (Q : VK) (E : XK), sp vs H Q E → t_l_row Z.K sp_l_next sp_l_tree sp_l_out sp_l_loop sp_l_block sp_l_catch sp_l_ends { nx := fun _ H' => Q .non H', rt := Q } (L2.start n_l_row vs) H) : Cal Z CX0 (n + 1) "_law_row" ["_law_script", "_law_at", "_law_deep", "_law_loops", "_law_count"] sp := by
  obtain ⟨fd, F⟩ := fx_l_row T
  have B : L2.Binds Z.K fd ["_law_script", "_law_at", "_law_deep", "_law_loops", "_law_count"] [] := F.binds fun _ _ _ _ _ _ us hl => match us, hl with | [_, _, _, _, _], _ => rfl
  refine ⟨⟨_, fd, g_l_row T, kp_l_row T, B, mkR (tb := t_l_row Z.K sp_l_next sp_l_tree sp_l_out sp_l_loop sp_l_block sp_l_catch sp_l_ends) F sc_l_row len (fun cdv A outer s H E hr => ?_) pure⟩⟩
  have r_l_next := hr.mono h_l_next
  have r_l_tree := hr.mono h_l_tree
  have r_l_out := hr.mono h_l_out
  have r_l_loop := hr.mono h_l_loop
  have r_l_block := hr.mono h_l_block
  have r_l_catch := hr.mono h_l_catch
  have r_l_ends := hr.mono h_l_ends
  exact (pss_cons (ps_set (i := 5) sc_l_row.nd rfl (Or.inl rfl) (pcal c_l_next r_l_next (by rfl) pass0 (pa_cons (pv 0) (pa_cons (pv 1) pa_nil))))
    (pss_cons (ps_set (i := 6) sc_l_row.nd rfl (Or.inl rfl) (pe_op op_fdC (pv 5) pe_int))
    (pss_cons (ps_set (i := 7) sc_l_row.nd rfl (Or.inl rfl) (pe_op op_modP (pv 5) pe_int))
    (pss_cons (ps_if (pt_cmpR op_gtI (pv 2) pe_int (nomark _)) (pss_one (ps_set (i := 7) sc_l_row.nd rfl (Or.inl rfl) (pe_op op_modP (pv 7) pe_int))) pss_nil)
    (pss_cons (ps_if (pt_cmpR op_eq (pv 7) pe_int (nomark _)) (pss_one (ps_ret (pe_tup (pa_cons pe_str (pa_cons (pe_op op_modP (pv 6) pe_int) (pa_cons (pcal c_l_tree r_l_tree (by rfl) pass0 (pa_cons (pv 0) (pa_cons (pv 1) (pa_cons pe_int (pa_cons (pv 4) pa_nil))))) pa_nil)))))) pss_nil)
    (pss_cons (ps_if (pt_cmpR op_ltI (pv 7) pe_int (nomark _)) (pss_one (ps_ret (pe_tup (pa_cons pe_str (pa_cons (pcal c_l_tree r_l_tree (by rfl) pass0 (pa_cons (pv 0) (pa_cons (pv 1) (pa_cons pe_int (pa_cons (pv 4) pa_nil))))) pa_nil))))) pss_nil)
    (pss_cons (ps_if (pt_cmpR op_eq (pv 7) pe_int (nomark _)) (pss_one (ps_ret (pcal c_l_out r_l_out (by rfl) pass0 (pa_cons (pv 0) (pa_cons (pv 1) (pa_cons (pv 6) (pa_cons (pv 3) (pa_cons (pv 4) pa_nil)))))))) pss_nil)
    (pss_cons (ps_if (pt_cmpR op_eq (pv 7) pe_int (nomark _)) (pss_one (ps_ret (pe_tup (pa_cons pe_str (pa_cons (pe_ix ix_list (pe_lst (pa_cons (pe_tup (pa_cons pe_str (pa_cons (pe_op op_addI pe_int (pe_op op_modP (pe_op op_fdC (pv 6) pe_int) pe_int)) pa_nil))) (pa_cons (pcal c_l_tree r_l_tree (by rfl) pass0 (pa_cons (pv 0) (pa_cons (pv 1) (pa_cons pe_int (pa_cons (pv 4) pa_nil))))) pa_nil))) (pe_callTy call_intB (by rfl) (g_int T) (by decide +kernel) (pa_cons (pe_cmpR op_eq (pe_op op_modP (pv 6) pe_int) pe_int (nomark _)) pa_nil)) (fun _ _ => rfl)) pa_nil))))) pss_nil)
    (pss_cons (ps_if (pt_cmpR op_ltI (pv 7) pe_int (nomark _)) (pss_one (ps_ret (pcal c_l_loop r_l_loop (by rfl) pass0 (pa_cons (pv 0) (pa_cons (pv 1) (pa_cons (pv 6) (pa_cons (pv 2) (pa_cons (pv 3) (pa_cons (pv 4) pa_nil))))))))) pss_nil)
    (pss_cons (ps_if (pt_cmpR op_eq (pv 7) pe_int (nomark _)) (pss_cons (ps_set (i := 8) sc_l_row.nd rfl (Or.inl rfl) (pcal c_l_tree r_l_tree (by rfl) pass0 (pa_cons (pv 0) (pa_cons (pv 1) (pa_cons pe_int (pa_cons (pv 4) pa_nil))))))
    (pss_cons (ps_set (i := 9) sc_l_row.nd rfl (Or.inl rfl) (pcal c_l_block r_l_block (by rfl) pass0 (pa_cons (pv 0) (pa_cons (pv 1) (pa_cons (pe_op op_addI (pv 2) pe_int) (pa_cons (pv 3) (pa_cons (pv 4) pa_nil)))))))
    (pss_one (ps_ret (pe_tup (pa_cons pe_str (pa_cons (pv 8) (pa_cons (pv 9) (pa_cons (pcal c_l_block r_l_block (by rfl) pass0 (pa_cons (pv 0) (pa_cons (pv 1) (pa_cons (pe_op op_addI (pv 2) pe_int) (pa_cons (pv 3) (pa_cons (pv 4) pa_nil)))))) pa_nil))))))))) pss_nil)
    (pss_cons (ps_if (pt_cmpR op_ltI (pv 7) pe_int (nomark _)) (pss_one (ps_ret (pcal c_l_catch r_l_catch (by rfl) pass0 (pa_cons (pv 0) (pa_cons (pv 1) (pa_cons (pv 6) (pa_cons (pv 2) (pa_cons (pv 3) (pa_cons (pv 4) pa_nil))))))))) pss_nil)
    (pss_cons (ps_if (PW.pt (pw_and (pt_cmpR op_eq (pv 7) pe_int (nomark _)) (pw_and1 (pt_cmpR op_ltI (pv 2) pe_int (nomark _))))) (pss_one (ps_ret (pcal c_l_ends r_l_ends (by rfl) pass0 (pa_cons (pv 0) (pa_cons (pv 1) (pa_cons (pv 6) (pa_cons (pv 2) (pa_cons (pv 3) (pa_cons (pv 4) pa_nil))))))))) pss_nil)
    (pss_cons (ps_set (i := 10) sc_l_row.nd rfl (Or.inl rfl) (pcal c_l_block r_l_block (by rfl) pass0 (pa_cons (pv 0) (pa_cons (pv 1) (pa_cons (pe_op op_addI (pv 2) pe_int) (pa_cons (pv 3) (pa_cons (pv 4) pa_nil)))))))
    (pss_one (ps_ret (pe_tup (pa_cons pe_str (pa_cons (pv 10) (pa_cons (pcal c_l_block r_l_block (by rfl) pass0 (pa_cons (pv 0) (pa_cons (pv 1) (pa_cons (pe_op op_addI (pv 2) pe_int) (pa_cons (pv 3) (pa_cons (pv 4) pa_nil)))))) pa_nil)))))))))))))))))))
theorem sc_l_block : FnScope n_l_block ["_law_script", "_law_at", "_law_deep", "_law_loops", "_law_count"] (defScope s_l_block) := ⟨rfl, rfl, rfl, by decide +kernel, rfl, by decide +kernel, by decide +kernel⟩
theorem vac_l_block (T : Tx Z) {sp : Sp} (no : ∀ vs H Q E, ¬ sp vs H Q E) : Cal Z CX0 n "_law_block" ["_law_script", "_law_at", "_law_deep", "_law_loops", "_law_count"] sp := by
  obtain ⟨fd, F⟩ := fx_l_block T
  have B : L2.Binds Z.K fd ["_law_script", "_law_at", "_law_deep", "_law_loops", "_law_count"] [] := F.binds fun _ _ _ _ _ _ us hl => match us, hl with | [_, _, _, _, _], _ => rfl
  exact ⟨⟨_, fd, g_l_block T, kp_l_block T, B, FnR.vac no⟩⟩
theorem dv_l_block (T : Tx Z) {k_l_next : Nat} {ps_l_next : List Str} {sp_l_next : Sp} (c_l_next : Cal Z CX0 k_l_next "_law_next" ps_l_next sp_l_next) (h_l_next : k_l_next ≤ n) {k_l_row : Nat} {ps_l_row : List Str} {sp_l_row : Sp} (c_l_row : Cal Z CX0 k_l_row "_law_row" ps_l_row sp_l_row) (h_l_row : k_l_row ≤ n) {sp : Sp} (len : ∀ vs H Q E, sp vs H Q E → vs.length = 5)
    (pure : ∀ (vs : List V) (H : Hp) (Q : VK) (E : XK), sp vs H Q E → t_l_block Z.K sp_l_next sp_l_row { nx := fun _ H' => Q .non H', rt := Q } (L2.start n_l_block vs) H) : Cal Z CX0 (n + 1) "_law_block" ["_law_script", "_law_at", "_law_deep", "_law_loops", "_law_count"] sp := by
  obtain ⟨fd, F⟩ := fx_l_block T
  have B : L2.Binds Z.K fd ["_law_script", "_law_at", "_law_deep", "_law_loops", "_law_count"] [] := F.binds fun _ _ _ _ _ _ us hl => match us, hl with | [_, _, _, _, _], _ => rfl
  refine ⟨⟨_, fd, g_l_block T, kp_l_block T, B, mkR (tb := t_l_block Z.K sp_l_next sp_l_row) F sc_l_block len (fun cdv A outer s H E hr => ?_) pure⟩⟩
  have r_l_next := hr.mono h_l_next
  have r_l_row := hr.mono h_l_row
  exact (pss_cons (ps_set (i := 5) sc_l_block.nd rfl (Or.inl rfl) (pe_op op_modP (pcal c_l_next r_l_next (by rfl) pass0 (pa_cons (pv 0) (pa_cons (pv 1) pa_nil))) pe_int))
    (pss_cons (ps_if (pt_cmpR op_eq (pv 2) pe_int (nomark _)) (pss_one (ps_set (i := 5) sc_l_block.nd rfl (Or.inl rfl) (pe_op op_addI (pv 5) pe_int))) pss_nil)
    (pss_cons (ps_set (i := 6) sc_l_block.nd rfl (Or.inl rfl) (pe_lst pa_nil))
    (pss_cons (ps_for PassesOwn.never rfl (pi_range1 (by rfl) (g_range T) (pa_cons (pv 5) pa_nil)) (pg_name (i := 7) sc_l_block.nd rfl (Or.inl rfl)) (pss_one (ps_expr (pe_bm PySem.F.plainAttrs_list PySem.F.slot_list_append PySem.F.type_list_append mt_append (pv 6) (pa_cons (pcal c_l_row r_l_row (by rfl) pass0 (pa_cons (pv 0) (pa_cons (pv 1) (pa_cons (pv 2) (pa_cons (pv 3) (pa_cons (pv 4) pa_nil)))))) pa_nil)))))
    (pss_one (ps_ret (pv 6)))))))
theorem sc_l_program : FnScope n_l_program ["_law_script", "_law_at"] (defScope s_l_program) := ⟨rfl, rfl, rfl, by decide +kernel, rfl, by decide +kernel, by decide +kernel⟩
theorem dv_l_program (T : Tx Z) {k_l_next : Nat} {ps_l_next : List Str} {sp_l_next : Sp} (c_l_next : Cal Z CX0 k_l_next "_law_next" ps_l_next sp_l_next) (h_l_next : k_l_next ≤ n) {k_l_block : Nat} {ps_l_block : List Str} {sp_l_block : Sp} (c_l_block : Cal Z CX0 k_l_block "_law_block" ps_l_block sp_l_block) (h_l_block : k_l_block ≤ n) {sp : Sp} (len : ∀ vs H Q E, sp vs H Q E → vs.length = 2)
    (pure : ∀ (vs : List V) (H : Hp) (Q : VK) (E : XK), sp vs H Q E → t_l_program Z.K sp_l_next sp_l_block { nx := fun _ H' => Q .non H', rt := Q } (L2.start n_l_program vs) H) : Cal Z CX0 (n + 1) "_law_program" ["_law_script", "_law_at"] sp := by
  obtain ⟨fd, F⟩ := fx_l_program T
  have B : L2.Binds Z.K fd ["_law_script", "_law_at"] [] := F.binds fun _ _ _ _ _ _ us hl => match us, hl with | [_, _], _ => rfl
  refine ⟨⟨_, fd, g_l_program T, kp_l_program T, B, mkR (tb := t_l_program Z.K sp_l_next sp_l_block) F sc_l_program len (fun cdv A outer s H E hr => ?_) pure⟩⟩
  have r_l_next := hr.mono h_l_next
  have r_l_block := hr.mono h_l_block
  exact (pss_cons (ps_set (i := 2) sc_l_program.nd rfl (Or.inl rfl) (pcal c_l_next r_l_next (by rfl) pass0 (pa_cons (pv 0) (pa_cons (pv 1) pa_nil))))
    (pss_cons (ps_set (i := 3) sc_l_program.nd rfl (Or.inl rfl) (pe_ix ix_list (pe_lst (pa_cons (pe_op op_addI pe_int (pe_op op_modP (pv 2) pe_int)) (pa_cons pe_int pa_nil))) (pe_callTy call_intB (by rfl) (g_int T) (by decide +kernel) (pa_cons (pe_cmpR op_eq (pe_op op_modP (pe_op op_fdC (pv 2) pe_int) pe_int) pe_int (nomark _)) pa_nil)) (fun _ _ => rfl)))
    (pss_cons (ps_set (i := 4) sc_l_program.nd rfl (Or.inl rfl) (pe_lst pa_nil))
    (pss_cons (ps_for PassesOwn.never rfl (pi_range1 (by rfl) (g_range T) (pa_cons (pe_op op_subI (pv 3) pe_int) pa_nil)) (pg_name (i := 5) sc_l_program.nd rfl (Or.inl rfl)) (pss_one (ps_expr (pe_bm PySem.F.plainAttrs_list PySem.F.slot_list_append PySem.F.type_list_append mt_append (pv 4) (pa_cons (pcal c_l_block r_l_block (by rfl) pass0 (pa_cons (pv 0) (pa_cons (pv 1) (pa_cons pe_int (pa_cons pe_int (pa_cons (pv 3) pa_nil)))))) pa_nil)))))
    (pss_one (ps_ret (pe_op op_cat (pe_lst (pa_cons (pcal c_l_block r_l_block (by rfl) pass0 (pa_cons (pv 0) (pa_cons (pv 1) (pa_cons pe_int (pa_cons pe_int (pa_cons (pv 3) pa_nil)))))) pa_nil)) (pv 4))))))))
theorem sc_l_is : FnScope n_l_is ["_law_found"] (defScope s_l_is) := ⟨rfl, rfl, rfl, by decide +kernel, rfl, by decide +kernel, by decide +kernel⟩
theorem dv_l_is (T : Tx Z) {k_l_whole : Nat} {ps_l_whole : List Str} {sp_l_whole : Sp} (c_l_whole : Cal Z CX0 k_l_whole "_law_whole" ps_l_whole sp_l_whole) (h_l_whole : k_l_whole ≤ n) {sp : Sp} (len : ∀ vs H Q E, sp vs H Q E → vs.length = 1)
    (pure : ∀ (vs : List V) (H : Hp) (Q : VK) (E : XK), sp vs H Q E → t_l_is Z.K sp_l_whole { nx := fun _ H' => Q .non H', rt := Q } (L2.start n_l_is vs) H) : Cal Z CX0 (n + 1) "_law_is" ["_law_found"] sp := by
  obtain ⟨fd, F⟩ := fx_l_is T
  have B : L2.Binds Z.K fd ["_law_found"] [] := F.binds fun _ _ _ _ _ _ us hl => match us, hl with | [_], _ => rfl
  refine ⟨⟨_, fd, g_l_is T, kp_l_is T, B, mkR (tb := t_l_is Z.K sp_l_whole) F sc_l_is len (fun cdv A outer s H E hr => ?_) pure⟩⟩
  have r_l_whole := hr.mono h_l_whole
  exact (pss_cons (ps_if (PW.pt (pw_or (pt_not (pt_val (pe_callB call_isi (by rfl) (g_isinstance T) (by decide +kernel) (pa_cons (pv 0) (pa_cons (pe_bltn (v := .ty "tuple") (by rfl) (g_tuple T) (by decide +kernel) rfl) pa_nil))))) (pw_or (pt_cmpR op_ne (pe_callB call_lenQ (by rfl) (g_len T) PySem.boot_len (pa_cons (pv 0) pa_nil)) pe_int (nomark _)) (pw_or1 (pt_not (pt_val (pe_callB call_isi (by rfl) (g_isinstance T) (by decide +kernel) (pa_cons (pe_ix ix_tup (pv 0) pe_int (fun _ _ => rfl)) (pa_cons (pe_bltn (v := .ty "list") (by rfl) (g_list T) (by decide +kernel) rfl) pa_nil))))))))) (pss_one (ps_ret pe_bl)) pss_nil)
    (pss_cons (ps_if (PW.pt (pw_or (pt_cmpR op_gtI (pe_callB call_lenQ (by rfl) (g_len T) PySem.boot_len (pa_cons (pe_lc (own := [("_law_x", 1)]) (g := gName 1) (tt := (tNot (tB (tCall sp_l_whole [] E0 (tCons (tVar 1) tNil))))) rfl sc_l_is.nd (pi_list (pe_ix ix_tup (pv 0) pe_int (fun _ _ => rfl))) (blkOk_by (N := ["_law_found", "_law_x"]) (sc := defScope s_l_is) (by decide +kernel)) (fun _ _ _ _ _ => pg_name (i := 1) sc_l_is.nd rfl (Or.inl rfl)) (fun _ _ _ _ _ => pts_one (pt_not (pt_val (pcal c_l_whole r_l_whole (by rfl) pass0 (pa_cons (pv 1) pa_nil))))) (fun _ _ _ _ _ => (pv 1))) pa_nil)) pe_int (nomark _)) (pw_or1 (pt_not (pt_val (pcal c_l_whole r_l_whole (by rfl) pass0 (pa_cons (pe_ix ix_tup (pv 0) pe_int (fun _ _ => rfl)) pa_nil))))))) (pss_one (ps_ret pe_bl)) pss_nil)
    (pss_one (ps_ret (pe_and (pe_callB call_isi (by rfl) (g_isinstance T) (by decide +kernel) (pa_cons (pe_ix ix_tup (pv 0) pe_int (fun _ _ => rfl)) (pa_cons (pe_bltn (v := .ty "str") (by rfl) (g_str T) (by decide +kernel) rfl) pa_nil))) (pe_one (pe_or (pe_cmpR op_in_seq (pe_ix ix_tup (pv 0) pe_int (fun _ _ => rfl)) (pe_tup (pa_cons pe_str (pa_cons pe_str pa_nil))) (by rfl)) (pe_one (pe_and (pe_cmpR op_eq (pe_ix ix_tup (pv 0) pe_int (fun _ _ => rfl)) pe_str (nomark _)) (pe_one (pe_cmpR op_eq (pe_ix ix_tup (pv 0) pe_int (fun _ _ => rfl)) pe_int (nomark _))))))))))))
theorem sc_l_value : FnScope n_l_value ["_law_tree_here", "_law_boxes", "_law_world"] (defScope s_l_value) := ⟨rfl, rfl, rfl, by decide +kernel, rfl, by decide +kernel, by decide +kernel⟩
theorem vac_l_value (T : Tx Z) {sp : Sp} (no : ∀ vs H Q E, ¬ sp vs H Q E) : Cal Z CX0 n "_law_value" ["_law_tree_here", "_law_boxes", "_law_world"] sp := by
  obtain ⟨fd, F⟩ := fx_l_value T
  have B : L2.Binds Z.K fd ["_law_tree_here", "_law_boxes", "_law_world"] [] := F.binds fun _ _ _ _ _ _ us hl => match us, hl with | [_, _, _], _ => rfl
  exact ⟨⟨_, fd, g_l_value T, kp_l_value T, B, FnR.vac no⟩⟩
theorem dv_l_value (T : Tx Z) {k_l_value : Nat} {ps_l_value : List Str} {sp_l_value : Sp} (c_l_value : Cal Z CX0 k_l_value "_law_value" ps_l_value sp_l_value) (h_l_value : k_l_value ≤ n) {k_l_call : Nat} {ps_l_call : List Str} {sp_l_call : Sp} (c_l_call : Cal Z CX0 k_l_call "_law_call" ps_l_call sp_l_call) (h_l_call : k_l_call ≤ n) {sp : Sp} (len : ∀ vs H Q E, sp vs H Q E → vs.length = 3)
    (pure : ∀ (vs : List V) (H : Hp) (Q : VK) (E : XK), sp vs H Q E → t_l_value Z.K sp_l_value sp_l_call { nx := fun _ H' => Q .non H', rt := Q } (L2.start n_l_value vs) H) : Cal Z CX0 (n + 1) "_law_value" ["_law_tree_here", "_law_boxes", "_law_world"] sp := by
  obtain ⟨fd, F⟩ := fx_l_value T
  have B : L2.Binds Z.K fd ["_law_tree_here", "_law_boxes", "_law_world"] [] := F.binds fun _ _ _ _ _ _ us hl => match us, hl with | [_, _, _], _ => rfl
  refine ⟨⟨_, fd, g_l_value T, kp_l_value T, B, mkR (tb := t_l_value Z.K sp_l_value sp_l_call) F sc_l_value len (fun cdv A outer s H E hr => ?_) pure⟩⟩
  have r_l_value := hr.mono h_l_value
  have r_l_call := hr.mono h_l_call
  exact (pss_cons (ps_if (pt_cmpR op_eq (pe_ix ix_tup (pv 0) pe_int (fun _ _ => rfl)) pe_str (nomark _)) (pss_one (ps_ret (pe_tup (pa_cons pe_str (pa_cons (pe_ix ix_tup (pv 0) pe_int (fun _ _ => rfl)) pa_nil))))) pss_nil)
    (pss_cons (ps_if (pt_cmpR op_eq (pe_ix ix_tup (pv 0) pe_int (fun _ _ => rfl)) pe_str (nomark _)) (pss_one (ps_ret (pe_tup (pa_cons pe_str (pa_cons (pe_ix ix_list (pv 1) (pe_ix ix_tup (pv 0) pe_int (fun _ _ => rfl)) (fun _ _ => rfl)) pa_nil))))) pss_nil)
    (pss_cons (ps_set (i := 3) sc_l_value.nd rfl (Or.inl rfl) (pe_lst pa_nil))
    (pss_cons (ps_for PassesOwn.never rfl (pi_tup (pe_slice sl_tup (pv 0) (po_some pe_int) po_none)) (pg_name (i := 4) sc_l_value.nd rfl (Or.inl rfl)) (pss_one (ps_if (pt_val (pe_callB call_isi (by rfl) (g_isinstance T) (by decide +kernel) (pa_cons (pv 4) (pa_cons (pe_bltn (v := .ty "tuple") (by rfl) (g_tuple T) (by decide +kernel) rfl) pa_nil)))) (pss_cons (ps_set (i := 5) sc_l_value.nd rfl (Or.inl rfl) (pcal c_l_value r_l_value (by rfl) pass0 (pa_cons (pv 4) (pa_cons (pv 1) (pa_cons (pv 2) pa_nil)))))
    (pss_cons (ps_if (pt_cmpR op_ne (pe_ix ix_tup (pv 5) pe_int (fun _ _ => rfl)) pe_str (nomark _)) (pss_one (ps_ret (pv 5))) pss_nil)
    (pss_one (ps_expr (pe_bm PySem.F.plainAttrs_list PySem.F.slot_list_append PySem.F.type_list_append mt_append (pv 3) (pa_cons (pe_ix ix_tup (pv 5) pe_int (fun _ _ => rfl)) pa_nil)))))) pss_nil)))
    (pss_cons (ps_if (pt_cmpR op_eq (pe_ix ix_tup (pv 0) pe_int (fun _ _ => rfl)) pe_str (nomark _)) (pss_one (ps_ret (pcal c_l_call r_l_call (by rfl) pass0 (pa_cons (pe_ix ix_tup (pv 0) pe_int (fun _ _ => rfl)) (pa_cons (pe_ix ix_list (pv 3) pe_int (fun _ _ => rfl)) (pa_cons (pv 2) pa_nil)))))) pss_nil)
    (pss_cons (ps_if (PW.pt (pw_and (pt_cmpR op_eq (pe_ix ix_tup (pv 0) pe_int (fun _ _ => rfl)) pe_str (nomark _)) (pw_and1 (pt_cmpR op_eq (pe_ix ix_list (pv 3) pe_int (fun _ _ => rfl)) pe_int (nomark _))))) (pss_one (ps_ret (pe_tup (pa_cons pe_str (pa_cons pe_int pa_nil))))) pss_nil)
    (pss_cons (ps_if (pt_cmpR op_eq (pe_ix ix_tup (pv 0) pe_int (fun _ _ => rfl)) pe_str (nomark _)) (pss_one (ps_ret (pe_tup (pa_cons pe_str (pa_cons (pe_op (op_fdZ T.seer T.tree rfl rfl rfl hr) (pe_ix ix_list (pv 3) pe_int (fun _ _ => rfl)) (pe_ix ix_list (pv 3) pe_int (fun _ _ => rfl))) pa_nil))))) pss_nil)
    (pss_cons (ps_if (pt_cmpR op_eq (pe_ix ix_tup (pv 0) pe_int (fun _ _ => rfl)) pe_str (nomark _)) (pss_one (ps_ret (pe_tup (pa_cons pe_str (pa_cons (pe_callTy call_intB (by rfl) (g_int T) (by decide +kernel) (pa_cons (pe_cmpR op_ltI (pe_ix ix_list (pv 3) pe_int (fun _ _ => rfl)) (pe_ix ix_list (pv 3) pe_int (fun _ _ => rfl)) (nomark _)) pa_nil)) pa_nil))))) pss_nil)
    (pss_one (ps_ret (pe_tup (pa_cons pe_str (pa_cons (pe_op op_addI (pe_ix ix_list (pv 3) pe_int (fun _ _ => rfl)) (pe_op op_mulI (pe_ix ix_list (pv 3) pe_int (fun _ _ => rfl)) (pe_op op_subI pe_int (pe_op op_mulI pe_int (pe_callTy call_intB (by rfl) (g_int T) (by decide +kernel) (pa_cons (pe_cmpR op_eq (pe_ix ix_tup (pv 0) pe_int (fun _ _ => rfl)) pe_str (nomark _)) pa_nil)))))) pa_nil)))))))))))))
theorem sc_l_call : FnScope n_l_call ["_law_number_here", "_law_given", "_law_world"] (defScope s_l_call) := ⟨rfl, rfl, rfl, by decide +kernel, rfl, by decide +kernel, by decide +kernel⟩
theorem vac_l_call (T : Tx Z) {sp : Sp} (no : ∀ vs H Q E, ¬ sp vs H Q E) : Cal Z CX0 n "_law_call" ["_law_number_here", "_law_given", "_law_world"] sp := by
  obtain ⟨fd, F⟩ := fx_l_call T
  have B : L2.Binds Z.K fd ["_law_number_here", "_law_given", "_law_world"] [] := F.binds fun _ _ _ _ _ _ us hl => match us, hl with | [_, _, _], _ => rfl
  exact ⟨⟨_, fd, g_l_call T, kp_l_call T, B, FnR.vac no⟩⟩
theorem dv_l_call (T : Tx Z) {k_l_function : Nat} {ps_l_function : List Str} {sp_l_function : Sp} (c_l_function : Cal Z CX0 k_l_function "_law_function" ps_l_function sp_l_function) (h_l_function : k_l_function ≤ n) {sp : Sp} (len : ∀ vs H Q E, sp vs H Q E → vs.length = 3)
    (pure : ∀ (vs : List V) (H : Hp) (Q : VK) (E : XK), sp vs H Q E → t_l_call Z.K sp_l_function { nx := fun _ H' => Q .non H', rt := Q } (L2.start n_l_call vs) H) : Cal Z CX0 (n + 1) "_law_call" ["_law_number_here", "_law_given", "_law_world"] sp := by
  obtain ⟨fd, F⟩ := fx_l_call T
  have B : L2.Binds Z.K fd ["_law_number_here", "_law_given", "_law_world"] [] := F.binds fun _ _ _ _ _ _ us hl => match us, hl with | [_, _, _], _ => rfl
  refine ⟨⟨_, fd, g_l_call T, kp_l_call T, B, mkR (tb := t_l_call Z.K sp_l_function) F sc_l_call len (fun cdv A outer s H E hr => ?_) pure⟩⟩
  have r_l_function := hr.mono h_l_function
  exact (pss_cons (ps_if (pt_cmpR op_eq (pe_dget hr.du (pv 2) pe_str (fun _ _ => rfl)) pe_int (nomark _)) (pss_one (ps_ret (pe_tup (pa_cons pe_str (pa_cons pe_int pa_nil))))) pss_nil)
    (pss_cons (ps_asg (pe_op op_subI (pe_dget hr.du (pv 2) pe_str (fun _ _ => rfl)) pe_int) (pg_sub (pv 2) pe_str (set_dict hr.du)))
    (pss_cons (ps_if (pt_cmpR op_eq (pe_dget hr.du (pv 2) pe_str (fun _ _ => rfl)) pe_int (nomark _)) (pss_one (ps_ret (pe_tup (pa_cons pe_str (pa_cons pe_int pa_nil))))) pss_nil)
    (pss_one (ps_ret (pcal c_l_function r_l_function (by rfl) pass0 (pa_cons (pv 0) (pa_cons (pv 1) (pa_cons (pv 2) pa_nil)))))))))
theorem sc_l_function : FnScope n_l_function ["_law_number_here", "_law_given", "_law_world"] (defScope s_l_function) := ⟨rfl, rfl, rfl, by decide +kernel, rfl, by decide +kernel, by decide +kernel⟩
theorem vac_l_function (T : Tx Z) {sp : Sp} (no : ∀ vs H Q E, ¬ sp vs H Q E) : Cal Z CX0 n "_law_function" ["_law_number_here", "_law_given", "_law_world"] sp := by
  obtain ⟨fd, F⟩ := fx_l_function T
  have B : L2.Binds Z.K fd ["_law_number_here", "_law_given", "_law_world"] [] := F.binds fun _ _ _ _ _ _ us hl => match us, hl with | [_, _, _], _ => rfl
  exact ⟨⟨_, fd, g_l_function T, kp_l_function T, B, FnR.vac no⟩⟩
theorem dv_l_function (T : Tx Z) {k_l_done : Nat} {ps_l_done : List Str} {sp_l_done : Sp} (c_l_done : Cal Z CX0 k_l_done "_law_done" ps_l_done sp_l_done) (h_l_done : k_l_done ≤ n) {sp : Sp} (len : ∀ vs H Q E, sp vs H Q E → vs.length = 3)
    (pure : ∀ (vs : List V) (H : Hp) (Q : VK) (E : XK), sp vs H Q E → t_l_function Z.K sp_l_done { nx := fun _ H' => Q .non H', rt := Q } (L2.start n_l_function vs) H) : Cal Z CX0 (n + 1) "_law_function" ["_law_number_here", "_law_given", "_law_world"] sp := by
  obtain ⟨fd, F⟩ := fx_l_function T
  have B : L2.Binds Z.K fd ["_law_number_here", "_law_given", "_law_world"] [] := F.binds fun _ _ _ _ _ _ us hl => match us, hl with | [_, _, _], _ => rfl
  refine ⟨⟨_, fd, g_l_function T, kp_l_function T, B, mkR (tb := t_l_function Z.K sp_l_done) F sc_l_function len (fun cdv A outer s H E hr => ?_) pure⟩⟩
  have r_l_done := hr.mono h_l_done
  exact (pss_cons (ps_asg (pe_op op_addI (pe_dget hr.du (pv 2) pe_str (fun _ _ => rfl)) pe_int) (pg_sub (pv 2) pe_str (set_dict hr.du)))
    (pss_cons (ps_set (i := 3) sc_l_function.nd rfl (Or.inl rfl) (pcal c_l_done r_l_done (by rfl) pass0 (pa_cons (pe_ix ix_list (pe_dget hr.du (pv 2) pe_str (fun _ _ => rfl)) (pv 0) (fun _ _ => rfl)) (pa_cons (pe_lst (pa_cons (pv 1) (pa_cons pe_int (pa_cons pe_int (pa_cons pe_int pa_nil))))) (pa_cons (pv 2) pa_nil)))))
    (pss_cons (ps_asg (pe_op op_subI (pe_dget hr.du (pv 2) pe_str (fun _ _ => rfl)) pe_int) (pg_sub (pv 2) pe_str (set_dict hr.du)))
    (pss_cons (ps_if (pt_cmpR op_isNo (pv 3) pe_non (nomark _)) (pss_one (ps_ret (pe_tup (pa_cons pe_str (pa_cons pe_int pa_nil))))) pss_nil)
    (pss_one (ps_ret (pe_ifExp (pt_cmpR op_eq (pe_ix ix_tup (pv 3) pe_int (fun _ _ => rfl)) pe_str (nomark _)) (pe_tup (pa_cons pe_str (pa_cons (pe_ix ix_tup (pv 3) pe_int (fun _ _ => rfl)) pa_nil))) (pv 3))))))))
theorem sc_l_done : FnScope n_l_done ["_law_block_here", "_law_boxes", "_law_world"] (defScope s_l_done) := ⟨rfl, rfl, rfl, by decide +kernel, rfl, by decide +kernel, by decide +kernel⟩
theorem vac_l_done (T : Tx Z) {sp : Sp} (no : ∀ vs H Q E, ¬ sp vs H Q E) : Cal Z CX0 n "_law_done" ["_law_block_here", "_law_boxes", "_law_world"] sp := by
  obtain ⟨fd, F⟩ := fx_l_done T
  have B : L2.Binds Z.K fd ["_law_block_here", "_law_boxes", "_law_world"] [] := F.binds fun _ _ _ _ _ _ us hl => match us, hl with | [_, _, _], _ => rfl
  exact ⟨⟨_, fd, g_l_done T, kp_l_done T, B, FnR.vac no⟩⟩
theorem dv_l_done (T : Tx Z) {k_l_row_done : Nat} {ps_l_row_done : List Str} {sp_l_row_done : Sp} (c_l_row_done : Cal Z CX0 k_l_row_done "_law_row_done" ps_l_row_done sp_l_row_done) (h_l_row_done : k_l_row_done ≤ n) {sp : Sp} (len : ∀ vs H Q E, sp vs H Q E → vs.length = 3)
    (pure : ∀ (vs : List V) (H : Hp) (Q : VK) (E : XK), sp vs H Q E → t_l_done Z.K sp_l_row_done { nx := fun _ H' => Q .non H', rt := Q } (L2.start n_l_done vs) H) : Cal Z CX0 (n + 1) "_law_done" ["_law_block_here", "_law_boxes", "_law_world"] sp := by
  obtain ⟨fd, F⟩ := fx_l_done T
  have B : L2.Binds Z.K fd ["_law_block_here", "_law_boxes", "_law_world"] [] := F.binds fun _ _ _ _ _ _ us hl => match us, hl with | [_, _, _], _ => rfl
  refine ⟨⟨_, fd, g_l_done T, kp_l_done T, B, mkR (tb := t_l_done Z.K sp_l_row_done) F sc_l_done len (fun cdv A outer s H E hr => ?_) pure⟩⟩
  have r_l_row_done := hr.mono h_l_row_done
  exact (pss_cons (ps_for PassesOwn.never rfl (pi_list (pv 0)) (pg_name (i := 3) sc_l_done.nd rfl (Or.inl rfl)) (pss_cons (ps_set (i := 4) sc_l_done.nd rfl (Or.inl rfl) (pcal c_l_row_done r_l_row_done (by rfl) pass0 (pa_cons (pv 3) (pa_cons (pv 1) (pa_cons (pv 2) pa_nil)))))
    (pss_one (ps_if (pt_cmpR op_isNotNo (pv 4) pe_non (nomark _)) (pss_one (ps_ret (pv 4))) pss_nil))))
    (pss_one (ps_ret pe_non)))
theorem sc_l_row_done : FnScope n_l_row_done ["_law_row_here", "_law_boxes", "_law_world"] (defScope s_l_row_done) := ⟨rfl, rfl, rfl, by decide +kernel, rfl, by decide +kernel, by decide +kernel⟩
theorem vac_l_row_done (T : Tx Z) {sp : Sp} (no : ∀ vs H Q E, ¬ sp vs H Q E) : Cal Z CX0 n "_law_row_done" ["_law_row_here", "_law_boxes", "_law_world"] sp := by
  obtain ⟨fd, F⟩ := fx_l_row_done T
  have B : L2.Binds Z.K fd ["_law_row_here", "_law_boxes", "_law_world"] [] := F.binds fun _ _ _ _ _ _ us hl => match us, hl with | [_, _, _], _ => rfl
  exact ⟨⟨_, fd, g_l_row_done T, kp_l_row_done T, B, FnR.vac no⟩⟩
theorem dv_l_row_done (T : Tx Z) {k_l_done : Nat} {ps_l_done : List Str} {sp_l_done : Sp} (c_l_done : Cal Z CX0 k_l_done "_law_done" ps_l_done sp_l_done) (h_l_done : k_l_done ≤ n) {k_l_looped : Nat} {ps_l_looped : List Str} {sp_l_looped : Sp} (c_l_looped : Cal Z CX0 k_l_looped "_law_looped" ps_l_looped sp_l_looped) (h_l_looped : k_l_looped ≤ n) {k_l_value : Nat} {ps_l_value : List Str} {sp_l_value : Sp} (c_l_value : Cal Z CX0 k_l_value "_law_value" ps_l_value sp_l_value) (h_l_value : k_l_value ≤ n) {sp : Sp} (len : ∀ vs H Q E, sp vs H Q E → vs.length = 3)
    (pure : ∀ (vs : List V) (H : Hp) (Q : VK) (E : XK), sp vs H Q E → t_l_row_done Z.K sp_l_done sp_l_looped sp_l_value { nx := fun _ H' => Q .non H', rt := Q } (L2.start n_l_row_done vs) H) : Cal Z CX0 (n + 1) "_law_row_done" ["_law_row_here", "_law_boxes", "_law_world"] sp := by
  obtain ⟨fd, F⟩ := fx_l_row_done T
  have B : L2.Binds Z.K fd ["_law_row_here", "_law_boxes", "_law_world"] [] := F.binds fun _ _ _ _ _ _ us hl => match us, hl with | [_, _, _], _ => rfl
  refine ⟨⟨_, fd, g_l_row_done T, kp_l_row_done T, B, mkR (tb := t_l_row_done Z.K sp_l_done sp_l_looped sp_l_value) F sc_l_row_done len (fun cdv A outer s H E hr => ?_) pure⟩⟩
  have r_l_done := hr.mono h_l_done
  have r_l_looped := hr.mono h_l_looped
  have r_l_value := hr.mono h_l_value
  exact (pss_cons (ps_if (PW.pt (pw_or (pt_cmpR op_eq (pe_ix ix_tup (pv 0) pe_int (fun _ _ => rfl)) pe_str (nomark _)) (pw_or1 (pt_cmpR op_eq (pe_ix ix_tup (pv 0) pe_int (fun _ _ => rfl)) pe_str (nomark _))))) (pss_one (ps_ret (pv 0))) pss_nil)
    (pss_cons (ps_if (pt_cmpR op_eq (pe_ix ix_tup (pv 0) pe_int (fun _ _ => rfl)) pe_str (nomark _)) (pss_cons (ps_set (i := 3) sc_l_row_done.nd rfl (Or.inl rfl) (pcal c_l_done r_l_done (by rfl) pass0 (pa_cons (pe_ix ix_tup (pv 0) pe_int (fun _ _ => rfl)) (pa_cons (pv 1) (pa_cons (pv 2) pa_nil)))))
    (pss_cons (ps_set (i := 4) sc_l_row_done.nd rfl (Or.inl rfl) pe_non)
    (pss_cons (ps_if (PW.pt (pw_or (pt_cmpR op_isNo (pv 3) pe_non (nomark _)) (pw_or1 (pt_cmpR op_ne (pe_ix ix_tup (pv 3) pe_int (fun _ _ => rfl)) pe_str (nomark _))))) (pss_one (ps_set (i := 4) sc_l_row_done.nd rfl (Or.inl rfl) (pcal c_l_done r_l_done (by rfl) pass0 (pa_cons (pe_ix ix_tup (pv 0) pe_int (fun _ _ => rfl)) (pa_cons (pv 1) (pa_cons (pv 2) pa_nil)))))) pss_nil)
    (pss_one (ps_ret (pe_ifExp (pt_cmpR op_isNo (pv 4) pe_non (nomark _)) (pv 3) (pv 4))))))) pss_nil)
    (pss_cons (ps_if (pt_cmpR op_eq (pe_ix ix_tup (pv 0) pe_int (fun _ _ => rfl)) pe_str (nomark _)) (pss_cons (ps_set (i := 3) sc_l_row_done.nd rfl (Or.inl rfl) (pcal c_l_done r_l_done (by rfl) pass0 (pa_cons (pe_ix ix_tup (pv 0) pe_int (fun _ _ => rfl)) (pa_cons (pv 1) (pa_cons (pv 2) pa_nil)))))
    (pss_cons (ps_if (PW.pt (pw_or (pt_cmpR op_isNo (pv 3) pe_non (nomark _)) (pw_or (pt_cmpR op_ne (pe_ix ix_tup (pv 3) pe_int (fun _ _ => rfl)) pe_str (nomark _)) (pw_or1 (PW.pt (pw_and (pt_cmpR op_isNotNo (pe_ix ix_tup (pv 0) pe_int (fun _ _ => rfl)) pe_non (nomark _)) (pw_and1 (pt_cmpR op_ne (pe_ix ix_tup (pv 0) pe_int (fun _ _ => rfl)) (pe_ix ix_tup (pv 3) pe_int (fun _ _ => rfl)) (nomark _))))))))) (pss_one (ps_ret (pv 3))) pss_nil)
    (pss_cons (ps_asg (pe_ix ix_tup (pv 3) pe_int (fun _ _ => rfl)) (pg_sub (pv 1) (pe_ix ix_tup (pv 0) pe_int (fun _ _ => rfl)) set_list))
    (pss_one (ps_ret (pcal c_l_done r_l_done (by rfl) pass0 (pa_cons (pe_ix ix_tup (pv 0) pe_int (fun _ _ => rfl)) (pa_cons (pv 1) (pa_cons (pv 2) pa_nil))))))))) pss_nil)
    (pss_cons (ps_if (pt_cmpR op_eq (pe_ix ix_tup (pv 0) pe_int (fun _ _ => rfl)) pe_str (nomark _)) (pss_one (ps_ret (pcal c_l_looped r_l_looped (by rfl) pass0 (pa_cons (pv 0) (pa_cons (pv 1) (pa_cons (pv 2) pa_nil)))))) pss_nil)
    (pss_cons (ps_set (i := 3) sc_l_row_done.nd rfl (Or.inl rfl) (pcal c_l_value r_l_value (by rfl) pass0 (pa_cons (pe_ix ix_tup (pv 0) (pe_op op_addI pe_int (pe_callTy call_intB (by rfl) (g_int T) (by decide +kernel) (pa_cons (pe_cmpR op_eq (pe_ix ix_tup (pv 0) pe_int (fun _ _ => rfl)) pe_str (nomark _)) pa_nil))) (fun _ _ => rfl)) (pa_cons (pv 1) (pa_cons (pv 2) pa_nil)))))
    (pss_cons (ps_if (pt_cmpR op_ne (pe_ix ix_tup (pv 3) pe_int (fun _ _ => rfl)) pe_str (nomark _)) (pss_one (ps_ret (pv 3))) pss_nil)
    (pss_cons (ps_if (pt_cmpR op_eq (pe_ix ix_tup (pv 0) pe_int (fun _ _ => rfl)) pe_str (nomark _)) (pss_one (ps_ret (pcal c_l_done r_l_done (by rfl) pass0 (pa_cons (pe_ix ix_tup (pv 0) (pe_op op_addI pe_int (pe_callTy call_intB (by rfl) (g_int T) (by decide +kernel) (pa_cons (pe_cmpR op_eq (pe_ix ix_tup (pv 3) pe_int (fun _ _ => rfl)) pe_int (nomark _)) pa_nil))) (fun _ _ => rfl)) (pa_cons (pv 1) (pa_cons (pv 2) pa_nil)))))) pss_nil)
    (pss_cons (ps_if (pt_cmpR op_eq (pe_ix ix_tup (pv 0) pe_int (fun _ _ => rfl)) pe_str (nomark _)) (pss_one (ps_ret (pe_tup (pa_cons pe_str (pa_cons (pe_ix ix_tup (pv 3) pe_int (fun _ _ => rfl)) pa_nil))))) pss_nil)
    (pss_cons (ps_if (pt_cmpR op_eq (pe_ix ix_tup (pv 0) pe_int (fun _ _ => rfl)) pe_str (nomark _)) (pss_one (ps_ret (pe_tup (pa_cons pe_str (pa_cons (pe_ix ix_tup (pv 3) pe_int (fun _ _ => rfl)) pa_nil))))) pss_nil)
    (pss_cons (ps_if (pt_cmpR op_eq (pe_ix ix_tup (pv 0) pe_int (fun _ _ => rfl)) pe_str (nomark _)) (pss_one (ps_asg (pe_ix ix_tup (pv 3) pe_int (fun _ _ => rfl)) (pg_sub (pv 1) (pe_ix ix_tup (pv 0) pe_int (fun _ _ => rfl)) set_list))) (pss_one (ps_expr (pe_bm PySem.F.plainAttrs_list PySem.F.slot_list_append PySem.F.type_list_append mt_append (pe_dget hr.du (pv 2) pe_str (fun _ _ => rfl)) (pa_cons (pe_ix ix_tup (pv 3) pe_int (fun _ _ => rfl)) pa_nil)))))
    (pss_one (ps_ret pe_non))))))))))))
theorem sc_l_looped : FnScope n_l_looped ["_law_row_here", "_law_boxes", "_law_world"] (defScope s_l_looped) := ⟨rfl, rfl, rfl, by decide +kernel, rfl, by decide +kernel, by decide +kernel⟩
theorem vac_l_looped (T : Tx Z) {sp : Sp} (no : ∀ vs H Q E, ¬ sp vs H Q E) : Cal Z CX0 n "_law_looped" ["_law_row_here", "_law_boxes", "_law_world"] sp := by
  obtain ⟨fd, F⟩ := fx_l_looped T
  have B : L2.Binds Z.K fd ["_law_row_here", "_law_boxes", "_law_world"] [] := F.binds fun _ _ _ _ _ _ us hl => match us, hl with | [_, _, _], _ => rfl
  exact ⟨⟨_, fd, g_l_looped T, kp_l_looped T, B, FnR.vac no⟩⟩
theorem dv_l_looped (T : Tx Z) {k_l_value : Nat} {ps_l_value : List Str} {sp_l_value : Sp} (c_l_value : Cal Z CX0 k_l_value "_law_value" ps_l_value sp_l_value) (h_l_value : k_l_value ≤ n) {k_l_done : Nat} {ps_l_done : List Str} {sp_l_done : Sp} (c_l_done : Cal Z CX0 k_l_done "_law_done" ps_l_done sp_l_done) (h_l_done : k_l_done ≤ n) {sp : Sp} (len : ∀ vs H Q E, sp vs H Q E → vs.length = 3)
    (pure : ∀ (vs : List V) (H : Hp) (Q : VK) (E : XK), sp vs H Q E → t_l_looped Z.K sp_l_value sp_l_done { nx := fun _ H' => Q .non H', rt := Q } (L2.start n_l_looped vs) H) : Cal Z CX0 (n + 1) "_law_looped" ["_law_row_here", "_law_boxes", "_law_world"] sp := by
  obtain ⟨fd, F⟩ := fx_l_looped T
  have B : L2.Binds Z.K fd ["_law_row_here", "_law_boxes", "_law_world"] [] := F.binds fun _ _ _ _ _ _ us hl => match us, hl with | [_, _, _], _ => rfl
  refine ⟨⟨_, fd, g_l_looped T, kp_l_looped T, B, mkR (tb := t_l_looped Z.K sp_l_value sp_l_done) F sc_l_looped len (fun cdv A outer s H E hr => ?_) pure⟩⟩
  have r_l_value := hr.mono h_l_value
  have r_l_done := hr.mono h_l_done
  exact (pss_cons (ps_while PassesOwn.never (pt_cmpR op_gtI (pe_dget hr.du (pv 2) pe_str (fun _ _ => rfl)) pe_int (nomark _)) (pss_cons (ps_asg (pe_op op_subI (pe_dget hr.du (pv 2) pe_str (fun _ _ => rfl)) pe_int) (pg_sub (pv 2) pe_str (set_dict hr.du)))
    (pss_cons (ps_set (i := 3) sc_l_looped.nd rfl (Or.inl rfl) (pcal c_l_value r_l_value (by rfl) pass0 (pa_cons (pe_ix ix_tup (pv 0) pe_int (fun _ _ => rfl)) (pa_cons (pv 1) (pa_cons (pv 2) pa_nil)))))
    (pss_cons (ps_if (pt_cmpR op_ne (pe_ix ix_tup (pv 3) pe_int (fun _ _ => rfl)) pe_str (nomark _)) (pss_one (ps_ret (pv 3))) pss_nil)
    (pss_cons (ps_if (pt_cmpR op_eq (pe_ix ix_tup (pv 3) pe_int (fun _ _ => rfl)) pe_int (nomark _)) (pss_one (ps_ret pe_non)) pss_nil)
    (pss_cons (ps_set (i := 3) sc_l_looped.nd rfl (Or.inl rfl) (pcal c_l_done r_l_done (by rfl) pass0 (pa_cons (pe_ix ix_tup (pv 0) pe_int (fun _ _ => rfl)) (pa_cons (pv 1) (pa_cons (pv 2) pa_nil)))))
    (pss_cons (ps_if (PW.pt (pw_and (pt_cmpR op_isNotNo (pv 3) pe_non (nomark _)) (pw_and1 (pt_cmpR op_eq (pe_ix ix_tup (pv 3) pe_int (fun _ _ => rfl)) pe_str (nomark _))))) (pss_one (ps_ret pe_non)) pss_nil)
    (pss_one (ps_if (PW.pt (pw_and (pt_cmpR op_isNotNo (pv 3) pe_non (nomark _)) (pw_and1 (pt_cmpR op_ne (pe_ix ix_tup (pv 3) pe_int (fun _ _ => rfl)) pe_str (nomark _))))) (pss_one (ps_ret (pv 3))) pss_nil)))))))))
    (pss_one (ps_ret (pe_tup (pa_cons pe_str (pa_cons pe_int pa_nil))))))
theorem sc_l_long : FnScope n_l_long ["_law_cell"] (defScope s_l_long) := ⟨rfl, rfl, rfl, by decide +kernel, rfl, by decide +kernel, by decide +kernel⟩
theorem dv_l_long (T : Tx Z) {sp : Sp} (len : ∀ vs H Q E, sp vs H Q E → vs.length = 1)
    (pure : ∀ (vs : List V) (H : Hp) (Q : VK) (E : XK), sp vs H Q E → t_l_long Z.K { nx := fun _ H' => Q .non H', rt := Q } (L2.start n_l_long vs) H) : Cal Z CX0 (n + 1) "_law_long" ["_law_cell"] sp := by
  obtain ⟨fd, F⟩ := fx_l_long T
  have B : L2.Binds Z.K fd ["_law_cell"] [] := F.binds fun _ _ _ _ _ _ us hl => match us, hl with | [_], _ => rfl
  refine ⟨⟨_, fd, g_l_long T, kp_l_long T, B, mkR (tb := t_l_long Z.K) F sc_l_long len (fun cdv A outer s H E hr => ?_) pure⟩⟩
  skip
  exact (pss_cons (ps_set (i := 1) sc_l_long.nd rfl (Or.inl rfl) (pe_lst pa_nil))
    (pss_cons (ps_for PassesOwn.never rfl (pi_range1 (by rfl) (g_range T) (pa_cons (pe_op op_addI pe_int (pe_op op_modP (pv 0) pe_int)) pa_nil)) (pg_name (i := 2) sc_l_long.nd rfl (Or.inl rfl)) (pss_cons (ps_expr (pe_bm PySem.F.plainAttrs_list PySem.F.slot_list_append PySem.F.type_list_append mt_append (pv 1) (pa_cons (pe_tup (pa_cons pe_str (pa_cons (pe_op op_modP (pv 2) pe_int) (pa_cons (pe_tup (pa_cons pe_str (pa_cons (pe_tup (pa_cons pe_str (pa_cons (pe_op op_modP (pe_op op_addI (pv 2) pe_int) pe_int) pa_nil))) (pa_cons (pe_tup (pa_cons pe_str (pa_cons (pv 2) pa_nil))) pa_nil)))) pa_nil)))) pa_nil)))
    (pss_one (ps_expr (pe_bm PySem.F.plainAttrs_list PySem.F.slot_list_append PySem.F.type_list_append mt_append (pv 1) (pa_cons (pe_tup (pa_cons pe_str (pa_cons (pe_tup (pa_cons pe_str (pa_cons (pe_op op_modP (pv 2) pe_int) pa_nil))) pa_nil))) pa_nil))))))
    (pss_cons (ps_set (i := 3) sc_l_long.nd rfl (Or.inl rfl) (pe_op op_modP (pe_op op_fdC (pv 0) pe_int) (pe_callB call_lenQ (by rfl) (g_len T) PySem.boot_len (pa_cons (pv 1) pa_nil))))
    (pss_cons (ps_set (i := 4) sc_l_long.nd rfl (Or.inl rfl) (pe_ix ix_list (pe_lst (pa_cons (pe_tup (pa_cons pe_str (pa_cons (pe_tup (pa_cons pe_str (pa_cons pe_int pa_nil))) pa_nil))) (pa_cons (pe_tup (pa_cons pe_str (pa_cons (pe_tup (pa_cons pe_str (pa_cons (pv 3) pa_nil))) pa_nil))) (pa_cons (pe_tup (pa_cons pe_str (pa_cons (pe_tup (pa_cons pe_str (pa_cons (pv 3) pa_nil))) pa_nil))) pa_nil)))) (pe_op op_modP (pe_op op_fdC (pv 0) pe_int) pe_int) (fun _ _ => rfl)))
    (pss_one (ps_ret (pe_op op_cat (pe_op op_cat (pe_slice sl_list (pv 1) po_none (po_some (pv 3))) (pe_lst (pa_cons (pv 4) pa_nil))) (pe_slice sl_list (pv 1) (po_some (pv 3)) po_none))))))))
theorem sc_l_tower : FnScope n_l_tower ["_law_block_here", "_law_cell"] (defScope s_l_tower) := ⟨rfl, rfl, rfl, by decide +kernel, rfl, by decide +kernel, by decide +kernel⟩
theorem dv_l_tower (T : Tx Z) {sp : Sp} (len : ∀ vs H Q E, sp vs H Q E → vs.length = 2)
    (pure : ∀ (vs : List V) (H : Hp) (Q : VK) (E : XK), sp vs H Q E → t_l_tower Z.K { nx := fun _ H' => Q .non H', rt := Q } (L2.start n_l_tower vs) H) : Cal Z CX0 (n + 1) "_law_tower" ["_law_block_here", "_law_cell"] sp := by
  obtain ⟨fd, F⟩ := fx_l_tower T
  have B : L2.Binds Z.K fd ["_law_block_here", "_law_cell"] [] := F.binds fun _ _ _ _ _ _ us hl => match us, hl with | [_, _], _ => rfl
  refine ⟨⟨_, fd, g_l_tower T, kp_l_tower T, B, mkR (tb := t_l_tower Z.K) F sc_l_tower len (fun cdv A outer s H E hr => ?_) pure⟩⟩
  skip
  exact (pss_cons (ps_for PassesOwn.never rfl (pi_range1 (by rfl) (g_range T) (pa_cons pe_int pa_nil)) (pg_name (i := 2) sc_l_tower.nd rfl (Or.inl rfl)) (pss_cons (ps_set (i := 3) sc_l_tower.nd rfl (Or.inl rfl) (pe_op op_modP (pv 1) pe_int))
    (pss_cons (ps_set (i := 1) sc_l_tower.nd rfl (Or.inl rfl) (pe_op op_fdC (pv 1) pe_int))
    (pss_one (ps_if (pt_cmpR op_eq (pv 3) pe_int (nomark _)) (pss_one (ps_set (i := 0) sc_l_tower.nd rfl (Or.inl rfl) (pe_lst (pa_cons (pe_tup (pa_cons pe_str (pa_cons (pv 0) (pa_cons (pe_lst (pa_cons (pe_tup (pa_cons pe_str (pa_cons (pe_tup (pa_cons pe_str (pa_cons (pe_op op_addI pe_int (pv 2)) pa_nil))) pa_nil))) pa_nil)) pa_nil)))) pa_nil)))) (pss_one (ps_if (pt_cmpR op_eq (pv 3) pe_int (nomark _)) (pss_one (ps_set (i := 0) sc_l_tower.nd rfl (Or.inl rfl) (pe_lst (pa_cons (pe_tup (pa_cons pe_str (pa_cons (pe_tup (pa_cons pe_str (pa_cons (pv 2) pa_nil))) pa_nil))) (pa_cons (pe_tup (pa_cons pe_str (pa_cons (pe_lst (pa_cons (pe_tup (pa_cons pe_str (pa_cons (pe_op op_modP (pv 2) pe_int) (pa_cons (pe_tup (pa_cons pe_str (pa_cons pe_int pa_nil))) pa_nil)))) pa_nil)) (pa_cons (pv 0) pa_nil)))) pa_nil))))) (pss_one (ps_if (pt_cmpR op_eq (pv 3) pe_int (nomark _)) (pss_one (ps_set (i := 0) sc_l_tower.nd rfl (Or.inl rfl) (pe_lst (pa_cons (pe_tup (pa_cons pe_str (pa_cons (pv 0) (pa_cons (pe_ix ix_list (pe_lst (pa_cons pe_non (pa_cons pe_int pa_nil))) (pe_op op_modP (pv 2) pe_int) (fun _ _ => rfl)) (pa_cons (pe_op op_modP (pv 2) pe_int) (pa_cons (pe_lst (pa_cons (pe_tup (pa_cons pe_str (pa_cons (pe_tup (pa_cons pe_str (pa_cons (pe_op op_modP (pv 2) pe_int) pa_nil))) pa_nil))) pa_nil)) pa_nil)))))) pa_nil)))) (pss_one (ps_if (pt_cmpR op_eq (pv 3) pe_int (nomark _)) (pss_one (ps_set (i := 0) sc_l_tower.nd rfl (Or.inl rfl) (pe_lst (pa_cons (pe_tup (pa_cons pe_str (pa_cons (pe_tup (pa_cons pe_str (pa_cons pe_int pa_nil))) (pa_cons (pe_op op_cat (pv 0) (pe_lst (pa_cons (pe_tup (pa_cons pe_str pa_nil)) pa_nil))) pa_nil)))) (pa_cons (pe_tup (pa_cons pe_str (pa_cons (pe_tup (pa_cons pe_str (pa_cons (pe_op op_modP (pv 2) pe_int) pa_nil))) pa_nil))) pa_nil))))) (pss_one (ps_set (i := 0) sc_l_tower.nd rfl (Or.inl rfl) (pe_lst (pa_cons (pe_tup (pa_cons pe_str (pa_cons (pe_tup (pa_cons pe_str (pa_cons (pe_tup (pa_cons pe_str (pa_cons (pv 2) pa_nil))) (pa_cons (pe_tup (pa_cons pe_str (pa_cons pe_int pa_nil))) pa_nil)))) (pa_cons (pv 0) (pa_cons (pe_lst pa_nil) pa_nil))))) (pa_cons (pe_tup (pa_cons pe_str (pa_cons (pe_op op_modP (pv 2) pe_int) (pa_cons (pe_tup (pa_cons pe_str (pa_cons (pv 2) pa_nil))) pa_nil)))) pa_nil))))))))))))))))
    (pss_one (ps_ret (pv 0))))
theorem sc_l_drawn : FnScope n_l_drawn ["_law_script", "_law_at", "_law_more"] (defScope s_l_drawn) := ⟨rfl, rfl, rfl, by decide +kernel, rfl, by decide +kernel, by decide +kernel⟩
theorem dv_l_drawn (T : Tx Z) {k_l_program : Nat} {ps_l_program : List Str} {sp_l_program : Sp} (c_l_program : Cal Z CX0 k_l_program "_law_program" ps_l_program sp_l_program) (h_l_program : k_l_program ≤ n) {k_l_row : Nat} {ps_l_row : List Str} {sp_l_row : Sp} (c_l_row : Cal Z CX0 k_l_row "_law_row" ps_l_row sp_l_row) (h_l_row : k_l_row ≤ n) {k_l_tower : Nat} {ps_l_tower : List Str} {sp_l_tower : Sp} (c_l_tower : Cal Z CX0 k_l_tower "_law_tower" ps_l_tower sp_l_tower) (h_l_tower : k_l_tower ≤ n) {k_l_long : Nat} {ps_l_long : List Str} {sp_l_long : Sp} (c_l_long : Cal Z CX0 k_l_long "_law_long" ps_l_long sp_l_long) (h_l_long : k_l_long ≤ n) {sp : Sp} (len : ∀ vs H Q E, sp vs H Q E → vs.length = 3)
    (pure : ∀ (vs : List V) (H : Hp) (Q : VK) (E : XK), sp vs H Q E → t_l_drawn Z.K sp_l_program sp_l_row sp_l_tower sp_l_long { nx := fun _ H' => Q .non H', rt := Q } (L2.start n_l_drawn vs) H) : Cal Z CX0 (n + 1) "_law_drawn" ["_law_script", "_law_at", "_law_more"] sp := by
  obtain ⟨fd, F⟩ := fx_l_drawn T
  have B : L2.Binds Z.K fd ["_law_script", "_law_at", "_law_more"] [] := F.binds fun _ _ _ _ _ _ us hl => match us, hl with | [_, _, _], _ => rfl
  refine ⟨⟨_, fd, g_l_drawn T, kp_l_drawn T, B, mkR (tb := t_l_drawn Z.K sp_l_program sp_l_row sp_l_tower sp_l_long) F sc_l_drawn len (fun cdv A outer s H E hr => ?_) pure⟩⟩
  have r_l_program := hr.mono h_l_program
  have r_l_row := hr.mono h_l_row
  have r_l_tower := hr.mono h_l_tower
  have r_l_long := hr.mono h_l_long
  exact (pss_cons (ps_set (i := 3) sc_l_drawn.nd rfl (Or.inl rfl) (pcal c_l_program r_l_program (by rfl) pass0 (pa_cons (pv 0) (pa_cons (pv 1) pa_nil))))
    (pss_cons (ps_if (pt_cmpR op_eq (pe_op op_modP (pv 2) pe_int) pe_int (nomark _)) (pss_cons (ps_set (i := 4) sc_l_drawn.nd rfl (Or.inl rfl) (pcal c_l_row r_l_row (by rfl) pass0 (pa_cons (pv 0) (pa_cons (pv 1) (pa_cons pe_int (pa_cons pe_int (pa_cons (pe_callB call_lenQ (by rfl) (g_len T) PySem.boot_len (pa_cons (pv 3) pa_nil)) pa_nil)))))))
    (pss_one (ps_asg (pcal c_l_tower r_l_tower (by rfl) pass0 (pa_cons (pe_lst (pa_cons (pe_tup (pa_cons pe_str (pa_cons pe_int (pa_cons (pe_tup (pa_cons pe_str (pa_cons (pe_tup (pa_cons pe_str (pa_cons pe_int pa_nil))) (pa_cons (pe_tup (pa_cons pe_str (pa_cons pe_int pa_nil))) pa_nil)))) pa_nil)))) (pa_cons (pv 4) pa_nil))) (pa_cons (pe_op op_fdC (pv 2) pe_int) pa_nil))) (pg_sub (pv 3) pe_int set_list)))) pss_nil)
    (pss_cons (ps_if (pt_cmpR op_eq (pe_op op_modP (pv 2) pe_int) pe_int (nomark _)) (pss_one (ps_asg (pe_op op_cat (pcal c_l_long r_l_long (by rfl) pass0 (pa_cons (pe_op op_fdC (pv 2) pe_int) pa_nil)) (pe_ix ix_list (pv 3) pe_int (fun _ _ => rfl))) (pg_sub (pv 3) pe_int set_list))) pss_nil)
    (pss_one (ps_ret (pv 3))))))
theorem sc_law : FnScope n_law ["_law_script"] (defScope s_law) := ⟨rfl, rfl, rfl, by decide +kernel, rfl, by decide +kernel, by decide +kernel⟩
theorem dv_law (T : Tx Z) {k_l_next : Nat} {ps_l_next : List Str} {sp_l_next : Sp} (c_l_next : Cal Z CX0 k_l_next "_law_next" ps_l_next sp_l_next) (h_l_next : k_l_next ≤ n) {k_l_number : Nat} {ps_l_number : List Str} {sp_l_number : Sp} (c_l_number : Cal Z CX0 k_l_number "_law_number" ps_l_number sp_l_number) (h_l_number : k_l_number ≤ n) {k_l_drawn : Nat} {ps_l_drawn : List Str} {sp_l_drawn : Sp} (c_l_drawn : Cal Z CX0 k_l_drawn "_law_drawn" ps_l_drawn sp_l_drawn) (h_l_drawn : k_l_drawn ≤ n) {k_l_function : Nat} {ps_l_function : List Str} {sp_l_function : Sp} (c_l_function : Cal Z CX0 k_l_function "_law_function" ps_l_function sp_l_function) (h_l_function : k_l_function ≤ n) {k_told : Nat} {ps_told : List Str} {sp_told : Sp} (c_told : Cal Z CX0 k_told "told" ps_told sp_told) (h_told : k_told ≤ n) {k_l_is : Nat} {ps_l_is : List Str} {sp_l_is : Sp} (c_l_is : Cal Z CX0 k_l_is "_law_is" ps_l_is sp_l_is) (h_l_is : k_l_is ≤ n) {sp : Sp} {fd : FuncData} (F : FunE Z.K "law" "law" s_law (He.fAd Z.K ("law", none)) fd) (len : ∀ vs H Q E, sp vs H Q E → vs.length = 1)
    (pure : ∀ (vs : List V) (H : Hp) (Q : VK) (E : XK), sp vs H Q E → t_law Z.K sp_l_next sp_l_number sp_l_drawn sp_l_function sp_told sp_l_is { nx := fun _ H' => Q .non H', rt := Q } (L2.start n_law vs) H) : FnR Z CX0 (n + 1) (He.ga Z.K "law") fd ["_law_script"] sp := by
  refine mkR (tb := t_law Z.K sp_l_next sp_l_number sp_l_drawn sp_l_function sp_told sp_l_is) F sc_law len (fun cdv A outer s H E hr => ?_) pure
  have r_l_next := hr.mono h_l_next
  have r_l_number := hr.mono h_l_number
  have r_l_drawn := hr.mono h_l_drawn
  have r_l_function := hr.mono h_l_function
  have r_told := hr.mono h_told
  have r_l_is := hr.mono h_l_is
  exact (pss_cons (ps_set (i := 1) sc_law.nd rfl (Or.inl rfl) (pe_lst (pa_cons pe_int pa_nil)))
    (pss_cons (ps_set (i := 2) sc_law.nd rfl (Or.inl rfl) (pe_op op_modP (pcal c_l_next r_l_next (by rfl) pass0 (pa_cons (pv 0) (pa_cons (pv 1) pa_nil))) pe_int))
    (pss_cons (ps_set (i := 3) sc_law.nd rfl (Or.inl rfl) (pcal c_l_number r_l_number (by rfl) pass0 (pa_cons (pcal c_l_next r_l_next (by rfl) pass0 (pa_cons (pv 0) (pa_cons (pv 1) pa_nil))) pa_nil)))
    (pss_cons (ps_set (i := 4) sc_law.nd rfl (Or.inl rfl) (pe_op op_modP (pe_op op_mulI (pcal c_l_next r_l_next (by rfl) pass0 (pa_cons (pv 0) (pa_cons (pv 1) pa_nil))) pe_int) pe_int))
    (pss_cons (ps_set (i := 5) sc_law.nd rfl (Or.inl rfl) (pcal c_l_drawn r_l_drawn (by rfl) pass0 (pa_cons (pv 0) (pa_cons (pv 1) (pa_cons (pv 4) pa_nil)))))
    (pss_cons (ps_set (i := 6) sc_law.nd rfl (Or.inl rfl) (pcal c_l_drawn r_l_drawn (by rfl) pass0 (pa_cons (pv 0) (pa_cons (pe_lst (pa_cons pe_int pa_nil)) (pa_cons (pv 4) pa_nil)))))
    (pss_cons (ps_set (i := 7) sc_law.nd rfl (Or.inl rfl) (pe_disp (pps_cons pe_str (pe_lst pa_nil) (pps_cons pe_str (pv 2) (pps_cons pe_str pe_int (pps_cons pe_str (pv 5) pps_nil)))) rfl rfl (by decide) (by decide)))
    (pss_cons (ps_set (i := 8) sc_law.nd rfl (Or.inl rfl) (pcal c_l_function r_l_function (by rfl) pass0 (pa_cons pe_int (pa_cons (pv 3) (pa_cons (pv 7) pa_nil)))))
    (pss_cons (ps_set (i := 9) sc_law.nd rfl (Or.inl rfl) (pcal c_told r_told (by rfl) pass0 (pa_cons (pv 5) (pa_cons (pv 3) (pa_cons (pv 2) pa_nil)))))
    (pss_cons (ps_if (PW.pt (pw_or (pt_not (pt_val (pcal c_l_is r_l_is (by rfl) pass0 (pa_cons (pv 9) pa_nil)))) (pw_or1 (pt_cmpR (op_neD hr.hu) (pv 5) (pv 6) (nomark _))))) (pss_one (ps_ret pe_bl)) pss_nil)
    (pss_one (ps_ret (pe_cmpR (op_eqD hr.hu) (pv 9) (pe_tup (pa_cons (pe_dget hr.du (pv 7) pe_str (fun _ _ => rfl)) (pa_cons (pe_ifExp (pt_cmpR op_eq (pe_ix ix_tup (pv 8) pe_int (fun _ _ => rfl)) pe_str (nomark _)) pe_str (pe_ix ix_tup (pv 8) pe_int (fun _ _ => rfl))) (pa_cons (pe_ix ix_tup (pv 8) pe_int (fun _ _ => rfl)) pa_nil)))) (nomark _))))))))))))))
end
section
variable {Z : Zt}
structure OwnOk (Z : Zt) (n : Nat) : Prop where
  value : Cal Z CX0 (n + 3) "_law_value" ["_law_tree_here", "_law_boxes", "_law_world"] (sp_l_value Z.K n)
  call : Cal Z CX0 (n + 3) "_law_call" ["_law_number_here", "_law_given", "_law_world"] (sp_l_call Z.K n)
  function : Cal Z CX0 (n + 3) "_law_function" ["_law_number_here", "_law_given", "_law_world"] (sp_l_function Z.K n)
  done : Cal Z CX0 (n + 3) "_law_done" ["_law_block_here", "_law_boxes", "_law_world"] (sp_l_done Z.K n)
  row_done : Cal Z CX0 (n + 3) "_law_row_done" ["_law_row_here", "_law_boxes", "_law_world"] (sp_l_row_done Z.K n)
  looped : Cal Z CX0 (n + 3) "_law_looped" ["_law_row_here", "_law_boxes", "_law_world"] (sp_l_looped Z.K n)
theorem own_ok (T : Tx Z) : ∀ n, OwnOk Z n
  | 0 => ⟨vac_l_value T no_l_value, vac_l_call T no_l_call, vac_l_function T no_l_function, vac_l_done T no_l_done, vac_l_row_done T no_l_row_done, vac_l_looped T no_l_looped⟩
  | n + 1 =>
    have I := own_ok T n
    ⟨dv_l_value T I.value (Nat.le_refl _) I.call (Nat.le_refl _) (by walk_at "len") (p_l_value n),
      dv_l_call T I.function (Nat.le_refl _) (by walk_at "len") (p_l_call n),
      dv_l_function T I.done (Nat.le_refl _) (by walk_at "len") (p_l_function n),
      dv_l_done T I.row_done (Nat.le_refl _) (by walk_at "len") (p_l_done n),
      dv_l_row_done T I.done (Nat.le_refl _) I.looped (Nat.le_refl _) I.value (Nat.le_refl _) (by walk_at "len") (p_l_row_done n),
      dv_l_looped T I.value (Nat.le_refl _) I.done (Nat.le_refl _) (by walk_at "len") (p_l_looped n)⟩
theorem ok_l_function (T : Tx Z) : Cal Z CX0 259 "_law_function" ["_law_number_here", "_law_given", "_law_world"] (sp_l_function Z.K 256) := (own_ok T 256).function
theorem ok_check_box (T : Tx Z) : Cal Z CX0 1 "check_box" ["number"] (sp_check_box Z.K) := dv_check_box (n := 0) T (by walk_at "len") p_check_box
theorem cal_check_tree (T : Tx Z) : ∀ n, Cal Z CX0 (n + 2) "check_tree" ["tree", "count", "deep"] (sp_check_tree Z.K n)
  | 0 => vac_check_tree T fun _ _ _ _ h => h
  | n + 1 => dv_check_tree T (ok_check_box T) (by omega) (cal_check_tree T n) (Nat.le_refl _) (by walk_at "len") (p_check_tree n)
theorem ok_check_tree (T : Tx Z) : Cal Z CX0 9 "check_tree" ["tree", "count", "deep"] (sp_check_tree Z.K 7) := cal_check_tree T 7
theorem cal_check_block (T : Tx Z) : ∀ n, Cal Z CX0 (2 * n + 9) "check_block" ["block", "count", "loops", "deep"] (sp_check_block Z.K n)
  | 0 => vac_check_block T fun _ _ _ _ h => h
  | n + 1 => dv_check_block T (dv_check_row T (ok_check_box T) (by omega) (ok_check_tree T) (by omega) (cal_check_block T n) (Nat.le_refl _) (by walk_at "len") (p_check_row n)) (by omega : 2 * n + 9 + 1 ≤ 2 * n + 10) (by walk_at "len") (p_check_block n)
theorem ok_check_block (T : Tx Z) : Cal Z CX0 25 "check_block" ["block", "count", "loops", "deep"] (sp_check_block Z.K 8) := cal_check_block T 8
theorem ok_checked (T : Tx Z) : Cal Z CX0 26 "checked" ["program"] (sp_checked Z.K) := dv_checked (n := 25) T (ok_check_block T) (by decide) (by walk_at "len") p_checked
theorem ok_World___init__ (T : Tx Z) : CalN Z CX0 1 "World" (He.ga Z.K "World") ["self", "program", "turns"] (sp_World___init__ Z.K) := dv_World___init__ (n := 0) T (by walk_at "len") p_World___init__
theorem ok_World_taken (T : Tx Z) : CalM Z CX0 1 (He.ga Z.K "World") "taken" ["self"] (sp_World_taken Z.K) := dv_World_taken (n := 0) T (by walk_at "len") p_World_taken
theorem ok_joined (T : Tx Z) : Cal Z CX0 1 "joined" ["word", "one", "other"] (sp_joined Z.K) := dv_joined (n := 0) T (by walk_at "len") p_joined
structure TreesOk (Z : Zt) (n : Nat) : Prop where
  tree : Cal Z CX0 (n + 3) "reckoned" ["tree", "boxes", "world"] (sp_tree Z.K n)
  call : Cal Z CX0 (n + 3) "called" ["number", "given", "world"] (sp_call Z.K n)
  enter : Cal Z CX0 (n + 3) "entered" ["number", "given", "world"] (sp_enter Z.K n)
  block : Cal Z CX0 (n + 3) "block_done" ["block", "boxes", "world"] (sp_block Z.K n)
  row : Cal Z CX0 (n + 3) "row_done" ["row", "boxes", "world"] (sp_row Z.K n)
  loop : Cal Z CX0 (n + 3) "loop_done" ["row", "boxes", "world"] (sp_loop Z.K n)
  ctch : Cal Z CX0 (n + 3) "catch_done" ["row", "boxes", "world"] (sp_ctch Z.K n)
  endd : Cal Z CX0 (n + 3) "end_done" ["row", "boxes", "world"] (sp_endd Z.K n)
theorem trees_ok (T : Tx Z) : ∀ n, TreesOk Z n
  | 0 => ⟨vac_reckoned T no_tree, vac_called T no_call, vac_entered T no_enter, vac_block_done T no_block, vac_row_done T no_row, vac_loop_done T no_loop, vac_catch_done T no_ctch, vac_end_done T no_endd⟩
  | n + 1 =>
    have I := trees_ok T n
    ⟨dv_reckoned T I.tree (Nat.le_refl _) I.call (Nat.le_refl _) (ok_joined T) (by omega) (by walk_at "len") (p_reckoned n),
      dv_called T (ok_World_taken T) (by omega) I.enter (Nat.le_refl _) (by walk_at "len") (p_called n),
      dv_entered T I.block (Nat.le_refl _) (by walk_at "len") (p_entered n),
      dv_block_done T I.row (Nat.le_refl _) (by walk_at "len") (p_block_done n),
      dv_row_done T I.loop (Nat.le_refl _) I.ctch (Nat.le_refl _) I.endd (Nat.le_refl _) I.tree (Nat.le_refl _) I.block (Nat.le_refl _) (by walk_at "len") (p_row_done n),
      dv_loop_done T (ok_World_taken T) (by omega) I.tree (Nat.le_refl _) I.block (Nat.le_refl _) (by walk_at "len") (p_loop_done n),
      dv_catch_done T I.block (Nat.le_refl _) (by walk_at "len") (p_catch_done n),
      dv_end_done T I.block (Nat.le_refl _) (by walk_at "len") (p_end_done n)⟩
theorem ok_told (T : Tx Z) : Cal Z CX0 260 "told" ["program", "number", "turns"] (sp_told Z.K 256) := dv_told (n := 259) T (ok_checked T) (by decide) (ok_World___init__ T) (by decide) (trees_ok T 256).enter (by decide) (by walk_at "len") (p_told 256)
theorem ok_l_whole (T : Tx Z) : Cal Z CX0 1 "_law_whole" ["_law_found"] (sp_l_whole Z.K) := dv_l_whole (n := 0) T (by walk_at "len") p_l_whole
theorem ok_l_next (T : Tx Z) : Cal Z CX0 1 "_law_next" ["_law_script", "_law_at"] (sp_l_next Z.K) := dv_l_next (n := 0) T (by walk_at "len") p_l_next
theorem ok_l_number (T : Tx Z) : Cal Z CX0 1 "_law_number" ["_law_cell"] (sp_l_number Z.K) := dv_l_number (n := 0) T (by walk_at "len") p_l_number
theorem cal_l_tree (T : Tx Z) : ∀ n, Cal Z CX0 (n + 2) "_law_tree" ["_law_script", "_law_at", "_law_deep", "_law_count"] (sp_l_tree Z.K n)
  | 0 => vac_l_tree T no_l_tree
  | n + 1 => dv_l_tree T (ok_l_next T) (by omega) (ok_l_number T) (by omega) (cal_l_tree T n) (Nat.le_refl _) (by walk_at "len") (p_l_tree n)
theorem ok_l_tree (T : Tx Z) : Cal Z CX0 8 "_law_tree" ["_law_script", "_law_at", "_law_deep", "_law_count"] (sp_l_tree Z.K 6) := cal_l_tree T 6
theorem ok_l_out (T : Tx Z) : Cal Z CX0 9 "_law_out" ["_law_script", "_law_at", "_law_more", "_law_loops", "_law_count"] (sp_l_out Z.K) := dv_l_out (n := 8) T (ok_l_tree T) (by decide) (by walk_at "len") p_l_out
theorem cal_l_row (T : Tx Z) {n : Nat} (b : Cal Z CX0 (3 * n + 9) "_law_block" ["_law_script", "_law_at", "_law_deep", "_law_loops", "_law_count"] (sp_l_block Z.K n)) : Cal Z CX0 (3 * n + 11) "_law_row" ["_law_script", "_law_at", "_law_deep", "_law_loops", "_law_count"] (sp_l_row Z.K (n + 1)) :=
  have lo := dv_l_loop (n := 3 * n + 9) T (ok_l_tree T) (by omega) b (Nat.le_refl _) (ok_l_next T) (by omega) (by walk_at "len") (p_l_loop n)
  have ca := dv_l_catch (n := 3 * n + 9) T (ok_l_number T) (by omega) b (Nat.le_refl _) (ok_l_next T) (by omega) (by walk_at "len") (p_l_catch n)
  have en := dv_l_ends (n := 3 * n + 9) T b (Nat.le_refl _) (ok_l_out T) (by omega) (by walk_at "len") (p_l_ends n)
  dv_l_row (n := 3 * n + 10) T (ok_l_next T) (by omega) (ok_l_tree T) (by omega) (ok_l_out T) (by omega) lo (Nat.le_refl _) b (by omega) ca (Nat.le_refl _) en (Nat.le_refl _) (by walk_at "len") (p_l_row n)
theorem cal_l_block (T : Tx Z) : ∀ n, Cal Z CX0 (3 * n + 9) "_law_block" ["_law_script", "_law_at", "_law_deep", "_law_loops", "_law_count"] (sp_l_block Z.K n)
  | 0 => vac_l_block T no_l_block
  | n + 1 => dv_l_block (n := 3 * n + 11) T (ok_l_next T) (by omega) (cal_l_row T (cal_l_block T n)) (Nat.le_refl _) (by walk_at "len") (p_l_block (n + 1))
theorem ok_l_block (T : Tx Z) : Cal Z CX0 30 "_law_block" ["_law_script", "_law_at", "_law_deep", "_law_loops", "_law_count"] (sp_l_block Z.K 7) := cal_l_block T 7
theorem ok_l_row (T : Tx Z) : Cal Z CX0 11 "_law_row" ["_law_script", "_law_at", "_law_deep", "_law_loops", "_law_count"] (sp_l_row Z.K 1) := cal_l_row T (cal_l_block T 0)
theorem ok_l_program (T : Tx Z) : Cal Z CX0 31 "_law_program" ["_law_script", "_law_at"] (sp_l_program Z.K) := dv_l_program (n := 30) T (ok_l_next T) (by decide) (ok_l_block T) (by decide) (by walk_at "len") p_l_program
theorem ok_l_is (T : Tx Z) : Cal Z CX0 2 "_law_is" ["_law_found"] (sp_l_is Z.K) := dv_l_is (n := 1) T (ok_l_whole T) (by decide) (by walk_at "len") p_l_is
theorem ok_l_long (T : Tx Z) : Cal Z CX0 1 "_law_long" ["_law_cell"] (sp_l_long Z.K) := dv_l_long (n := 0) T (by walk_at "len") p_l_long
theorem ok_l_tower (T : Tx Z) : Cal Z CX0 1 "_law_tower" ["_law_block_here", "_law_cell"] (sp_l_tower Z.K) := dv_l_tower (n := 0) T (by walk_at "len") p_l_tower
theorem ok_l_drawn (T : Tx Z) : Cal Z CX0 32 "_law_drawn" ["_law_script", "_law_at", "_law_more"] (sp_l_drawn Z.K) := dv_l_drawn (n := 31) T (ok_l_program T) (by decide) (ok_l_row T) (by decide) (ok_l_tower T) (by decide) (ok_l_long T) (by decide) (by walk_at "len") p_l_drawn
theorem ok_law (T : Tx Z) {fd : FuncData} (F : FunE Z.K "law" "law" s_law (He.fAd Z.K ("law", none)) fd) : FnR Z CX0 261 (He.ga Z.K "law") fd ["_law_script"] (spLaw Z.K) := dv_law (n := 260) T (ok_l_next T) (by decide) (ok_l_number T) (by decide) (ok_l_drawn T) (by decide) (ok_l_function T) (by decide) (ok_told T) (by decide) (ok_l_is T) (by decide) F (by walk_at "len") p_law
end

theorem g_law0 {K : PySem.W.Frag} {h : Heap} {mg : Str → Option Value} (KX : K.In h) (G : h.Ns mainGlobals mg) (c : He.SaysE fa fn K) : mg "law" = some (.ref (He.ga K "law")) := He.glo_ok KX G (c.fact 91 (f := .glo "law") rfl)


theorem fin {w : World} {K : PySem.W.Frag} {h : Heap} {mg : Str → Option Value} (KX : K.In h) (G : h.Ns mainGlobals mg) (c : He.SaysE fa fn K) {fl : Addr} (hmg : mg "law" = some (.ref fl)) :
    ∃ (K : PySem.W.Frag) (fd : FuncData) (sp : Sp), K.In h ∧ (∀ (s : Shared) (u : Value), BindsTo s fd ⟨[u], []⟩ [("_law_script", u)]) ∧
      (∀ (H : Hp) (a : Addr) (ns : List Int), ns.length ≤ 63 → Only H → SqL K H a (ns.map V.int) → sp [.ref a] H (fun v _ => v = .bl true) fun _ _ _ => False) ∧
      ∀ base : Heap, K.In base → base.Ns mainGlobals mg → base.NoSeer → U.FnR ⟨(PySem.Challenge.rw_unwind_k08_told_by_hand).prog, w, K, mg, base⟩ CX0 261 fl fd ["_law_script"] sp := by
  have e0 := hmg.symm.trans (g_law0 KX G c)
  cases e0
  obtain ⟨fd, F⟩ := fun_of (Z := ⟨PySem.Challenge.pw_unwind_k08_told_by_hand, w, K, mg, h⟩) (f := He.fAd K ("law", none)) (x := "law") (qual := "law") (st := s_law) (c.def_ 38 (d := d_law) rfl)
  refine ⟨K, fd, spLaw K, KX, fun s u => ?_, fun H a ns hl _ hS => ⟨a, ns, rfl, hS, hl, fun _ => rfl⟩, fun base KB GB NB => ?_⟩
  · obtain ⟨oc, od, kV, doc, pm, an, cdv, ct, osl, rfl, _, _⟩ := F.ex
    exact .of_eq rfl
  · have T : Tx ⟨(PySem.Challenge.rw_unwind_k08_told_by_hand).prog, w, K, mg, base⟩ := ⟨c, KB, GB, NB, rfl⟩
    exact ok_law T F


end Lw
open PySem PySem.W PySem.Calls PyProof.Rows
set_option maxRecDepth 100000 in
set_option maxHeartbeats 0 in
theorem PySem.Challenge.cw_unwind_k08_told_by_hand_holds : PySem.Challenge.rw_unwind_k08_told_by_hand.Holds := by
  w_on; o_law
  refine HandSHeadRun.head_any (r := OpenLaw.row PySem.Challenge.rw_unwind_k08_told_by_hand) (q := view (OpenLaw.row PySem.Challenge.rw_unwind_k08_told_by_hand).prog [52]) (H := Lw.hk) (ob := Lw.ob) (M := 30000) (loose := Lw.loose) (d := HandSHeadRun.topDef (OpenLaw.row PySem.Challenge.rw_unwind_k08_told_by_hand).prog 52) (kwd := []) Lw.ob_eq
    (by kernel_rfl) (fun s => by kernel_rfl) Lw.run (by kernel_rfl) (by kernel_rfl) (by kernel_rfl) (by rfl) (by first | assumption | decide +kernel) (by decide +kernel) ⟨rfl, rfl, rfl, rfl, rfl, by decide +kernel⟩ ?hw ?hc
  case hw => w_witness2
  case hc =>
    refine U.walkU (l := PySem.Challenge.rw_unwind_k08_told_by_hand) (n := 261) (x := "_law_script") rfl (by kernel_rfl) (by decide +kernel) (by decide) ?F
    intro w mg fa h Y G hmg0
    obtain ⟨K, KX, c⟩ := Y
    have e : (HandSHeadRun.topDef (OpenLaw.row PySem.Challenge.rw_unwind_k08_told_by_hand).prog 52).name = ("law" : PySem.Str) := by kernel_rfl
    have hmg : mg ("law" : PySem.Str) = some (.ref fa) := by
      rw [← e]
      exact hmg0
    exact Lw.fin (w := w) KX G c hmg


