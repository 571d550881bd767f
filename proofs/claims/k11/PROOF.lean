import PyProof.Rows.All
import Wide.All
import OpenK.AllK
import Wide.FinOn
import HandS.ForMost
import HandS.Exc
import HandS.ExcOwn
import HandS.ExcInit
import HandS.TryOnly
import HandS.WordsExc
import HandS.IsInst
import HandS.Deep
import HandS.Evl
import HandS.Strs
import HandS.Flow
import HandS.Style
import HandS.Zip
import HandS.Remove
import HandS.ExcIs
import HandS.ExcField
import HandS.ClsMeth
import HandS.Walk
import HandS.Codes
import KE.KExcIs
import KE.DataFind
import HandS.Small
import PyProof.SumAny
import HandS.ExcValue
import KE.KDictZip
import HandS.Iter
import HandS.Set
import HandS.SetFor
import PyProof.Rows.SortStr
import HandS.TupSets
import PySem.Challenge.RW_leanrow_k11_whole_ways_between_rows
set_option Elab.async false
set_option linter.all false
set_option maxRecDepth 100000
set_option maxHeartbeats 4000000
/-! Rules that the layer lacks: a caught error that is kept by a name, asked by isinstance, its field; Base.__init__(self, ..) of an own base; list.remove of data. -/
namespace Lr
open PySem PySem.Spec PyProof.Rows L2

/-- at a: an exception object of the class cls, its dict d -/
def EXV (cls : Value) (d : Option Addr) (a : Addr) : HO :=
  .ext fun h => ∃ (oe : Obj) (vs : Array Value), h.get? a = some oe ∧ Zc cls d oe ∧ oe.data = .fields vs

section
variable {X : Cx} {pins : List (Addr × Obj)} {σ : L2.St} {H : Hp} {s : Shared}

theorem exv_at {P : Program} {w : World} {h : Heap} {cls : Value} {d : Option Addr} {a : Addr} (hok : HOk P w H h) (e : H a = some (EXV cls d a)) :
    ∃ (oe : Obj) (vs : Array Value), h.get? a = some oe ∧ Zc cls d oe ∧ oe.data = .fields vs := by
  have z : ObjOk P w H h a (EXV cls d a) := hok a _ e
  exact z.1

/-- an exception object that stands in the heap, unknown so far, is tracked from now on -/
theorem track_exc {a : Addr} {oe : Obj} {vs : Array Value} {cls : Value} {d : Option Addr} (I : Inv X pins σ H s)
    (ha : s.heap.get? a = some oe) (hz : Zc cls d oe) (hd : oe.data = .fields vs) (na : H a = none)
    (n0 : X.s_0.heap.get? a = none) (nP : ∀ p ∈ X.pn ++ pins, p.1 ≠ a) : Inv X pins σ (upd H a (EXV cls d a)) s := by
  have keepH : ∀ {b : Addr} {o : HO}, H b = some o → (upd H a (EXV cls d a)) b = some o := fun {b o} e => by
    rw [upd_ne (ne_of_none e na)]; exact e
  have ne0 : ∀ {b : Addr} {o : Obj}, X.s_0.heap.get? b = some o → b ≠ a := fun {b o} e z => by
    rw [z, n0] at e; cases e
  refine { ok := I.ok, os := I.os, bare := I.bare, base := ?_, loc := I.loc, cell := I.cell, free := ?_, freeC := ?_, pin := ?_, hok := ?_, len := I.len }
  · exact { keep := I.base.keep, slot := I.base.slot, there := I.base.there
            free := fun b o e n hx => by rw [upd_ne (ne0 e)]; exact I.base.free b o e n hx
            tups := fun b xs e => keepH (I.base.tups b xs e)
            frzs := fun b o u e => keepH (I.base.frzs b o u e)
            tbls := fun b ps e => by
              obtain ⟨m, z⟩ := I.base.tbls b ps e
              exact ⟨m, keepH z⟩ }
  · have nl : X.env.locals ≠ a := fun z => by
      obtain ⟨m, ⟨o, es, ep, ho, hdd, _⟩, _⟩ := I.loc
      rw [z, ha] at ho
      cases ho
      first
        | (rw [hd] at hdd; cases hdd)
        | (have := hdd.2; simp_all)
    rw [upd_ne nl]; exact I.free
  · intro x c e
    have nc : c ≠ a := fun z => by
      obtain ⟨v, o, ho, hc⟩ := I.cell x c e
      rw [z, ha] at ho
      cases ho
      rw [hd] at hc; cases hc
    rw [upd_ne nc]; exact I.freeC x c e
  · intro p hp
    obtain ⟨h1, h2, h3, h4, h5⟩ := I.pin p hp
    exact ⟨h1, by rw [upd_ne (nP p hp)]; exact h2, h3, h4, h5⟩
  · intro b o e
    by_cases hb : b = a
    · subst hb
      rw [upd_same] at e
      cases e
      exact ⟨⟨oe, vs, ha, hz, hd⟩, ⟨oe, ha⟩, fun h1 h2 ⟨o1, v1, q1, q2⟩ k => ⟨o1, v1, k _ q1, q2⟩⟩
    · rw [upd_ne hb] at e
      exact (I.hok b o e).stay (fun _ _ _ q => q) (fun _ q => keepH q) fun _ _ q => keepH q
end

/-- what «except x as n: suite» wishes of an exception of the body, where the suite lets the exception go to a name: behind it the object is tracked -/
def wKeep (K : PySem.W.Frag) (c : Value) (i : Nat) (ts : Addr → Value → Option Addr → TS) (Wout : WX) (D : Ends) : WX := fun cls d σ H =>
  ∃ b, PySem.W.exmOne K cls c = some b ∧
    (b = true → ∀ a, H a = none → ts a cls d { nx := fun σ' H' => D.nx (σ'.set i none) (upd H' a (EXV cls d a)), rt := fun _ _ => False, bk := fun _ _ => False, ct := fun _ _ => False } (σ.set i (some (.ref a))) H) ∧
    (b = false → Wout cls d σ H)

section
variable {X : Cx} {x n : Str} {c : Value} {i : Nat} {body suite : List Stmt} {b₀ : Stmt} {np pos pos' : Pos} {tb : WX → TS} {ts : Addr → Value → Option Addr → TS} {Wout : WX}
theorem ps_try_keep (hs : X.stack = X.env :: X.outer) (hf : X.env.frame = some X.env.locals) (hex : X.ex = []) (hN : X.N.Nodup) (hi : X.N[i]? = some n)
    (hln : X.env.kindOf n = some .local) (hc : Names X x c) (tk : Takes X Wout)
    (hb : ∀ (W : WX) (pn : List (Addr × Obj)) (xe : Value → Shared → Prop), Takes (X.tr pn xe) W → PassesOwn (model X.prog X.w) X.A X.env xe → PSs (X.tr pn xe) body (tb W))
    (hsu : ∀ (a : Addr) (oe : Obj) (cls : Value) (d : Option Addr) (pn : List (Addr × Obj)), Zc cls d oe → (∃ vs, oe.data = .fields vs) → PSs (X.suite a ((a, oe) :: pn)) (b₀ :: suite) (ts a cls d)) :
    PS X (.Try body [.ExceptHandler (some (.Name x np)) (some n) (b₀ :: suite) pos'] [] [] pos) (fun D σ H => tb (wKeep X.K c i ts Wout D) D σ H) := by
  constructor
  intro pins s σ H D I h
  have ok := I.ok
  have frames_eq : X.A.frames = some (X.env :: X.outer) := ok.frames.trans (congrArg some hs)
  apply wpAny_Try_except
  have body_run := (hb (wKeep X.K c i ts Wout D) (X.pn ++ pins)
      (fun e s₁ => wpAny (model X.prog X.w) X.A (noteFrame e X.env) (fun _ s₂ => wpAny (model X.prog X.w) X.A (setFlight e none)
        (fun _ s₃ => wpAny (model X.prog X.w) X.A (handleBy e X.env [.ExceptHandler (some (.Name x np)) (some n) (b₀ :: suite) pos']) (SP X pins D) X.xe s₃) X.xe s₂) X.xe s₁)
      ?caught PassesOwn.looking).run [] s σ H D (I.toTry _) h
  case caught =>
    rintro u s' ⟨a, B, sI, pins', σ', H', cls, d, rfl, J0, nb, up, sky, na, hos, hag, b, hb1, hyes, hno⟩
    have J : Inv X pins σ' H' sI := J0.ofTry ok
    rw [hs] at sky
    have Bn : B.get? a = none := by
      rcases sky with q | q | q
      · exact q.2.1
      · exact q.2.1
      · exact q.2.1
    apply Sky.land Zc.steady frames_eq hf sky
    intro h3 fl3 up3
    have J3 : Inv X pins σ' H' { s' with heap := h3 } := J.landed nb fl3.1 (up.trans up3) hos hag
    obtain ⟨oe3, vs3, he3, hz3, hd3⟩ := fl3.there
    have nfr : a ∉ frs (X.env :: X.outer) := by
      intro hm
      obtain ⟨_, o', e', hnf⟩ := fl3.2.2.1.mem hm
      rw [he3] at e'
      cases e'
      exact hnf _ hd3
    have sIn : sI.heap.get? a = none := by
      cases q : sI.heap.get? a with
      | none => rfl
      | some o =>
        have z := nb a o q (by rw [hs]; exact nfr)
        rw [Bn] at z; cases z
    have s0n : X.s_0.heap.get? a = none := by
      cases q : X.s_0.heap.get? a with
      | none => rfl
      | some o =>
        obtain ⟨o', z⟩ := J.base.there a o q (by rw [hex]; exact fun y => nomatch y)
        rw [sIn] at z; cases z
    have pinN : ∀ p ∈ X.pn ++ pins, p.1 ≠ a := fun p hp z => by
      have q := (J.pin p hp).1
      rw [z, sIn] at q; cases q
    have nL : a ≠ X.env.locals := fun z => nfr (List.mem_filterMap.mpr ⟨X.env, List.mem_cons_self, by rw [hf, z]⟩)
    have nF : a ∉ X.fs := fun hm => by
      obtain ⟨e, he, q⟩ := List.mem_filterMap.mp hm
      exact nfr (List.mem_filterMap.mpr ⟨e, List.mem_cons_of_mem _ he, q⟩)
    have S3 := J3.suite he3 hd3 na nL nF
    refine wpAny_handleBy_cons (codeAny_handlers_test ?_) (by intro q; cases q)
    have LT : PySem.W.Looks (model X.prog X.w) h3 (typeOf (.ref a)) cls := by
      intro A Q E s k q
      exact wpAny_typeOf_ref (k _ _ he3) (by rw [hz3.1]; exact q)
    have LM := PySem.W.exm_one (M := model X.prog X.w) J3.kIn LT hb1
    have named : ∀ {Q : Value → Shared → Prop} {E : Value → Shared → Prop}, Q c { s' with heap := h3 } →
        wpAny (model X.prog X.w) (X.A.mark (some (.ref a))) (eval (.Name x np) X.env) Q E { s' with heap := h3 } := by
      intro Q E q
      obtain ⟨hg, hdbg, hm | ⟨hm, hv, hnn⟩⟩ := hc
      · exact ld_glob (X := X.suite a ((a, oe3) :: (X.pn ++ pins))) S3 hg hm q hdbg
      · exact ld_blt (X := X.suite a ((a, oe3) :: (X.pn ++ pins))) S3 hg hm hv q hnn hdbg
    apply named
    apply LM.here
    cases b with
    | true =>
      apply codeAny_handlers_suite_as
      apply HandSPX.lands_againZ fl3
      intro h4 fl4 up4
      have J4 : Inv X pins σ' H' { s' with heap := h4 } := J.landed nb fl4.1 ((up.trans up3).trans up4) hos hag
      obtain ⟨oe4, vs4, he4, hz4, hd4⟩ := fl4.there
      have S4 := J4.suite he4 hd4 na nL nF
      refine store_ok (X := X.suite a ((a, oe4) :: (X.pn ++ pins))) (v := .ref a) S4 hN hi (.inl hln) rfl (fun s5 S5 => ?_) (.inr hln)
      refine wpAny_mono ((hsu a oe4 cls d (X.pn ++ pins) hz4 ⟨_, hd4⟩).run [] s5 _ H' _ S5 (hyes rfl a na)) (fun f s6 hsp => ?_) fun _ _ z => z.elim
      cases f with
      | next =>
        obtain ⟨σ6, H6, S6, q6⟩ := hsp
        have pa := S6.pin (a, oe4) (List.mem_append_left _ List.mem_cons_self)
        have U6 : Inv X pins σ6 H6 s6 := S6.unsuite ok
        have T6 : Inv X pins σ6 (upd H6 a (EXV cls d a)) s6 := track_exc U6 pa.1 hz4 hd4 pa.2.1 s0n pinN
        exact gone_ok T6 hN hi hln fun s7 J7 => ⟨_, _, J7, q6⟩
      | brk =>
        obtain ⟨_, _, _, q6⟩ := hsp
        exact q6.elim
      | cont =>
        obtain ⟨_, _, _, q6⟩ := hsp
        exact q6.elim
      | ret u =>
        obtain ⟨_, _, _, _, _, q6⟩ := hsp
        exact q6.elim
    | false =>
      show wpAny _ X.A (handleBy (.ref a) X.env []) _ _ _
      apply wpAny_handleBy_nil
      obtain ⟨k1, k2, k3, oe, vs, T, oT, ts', he, hz, hd, h1, hr⟩ := id fl3
      unfold PySem.passOn
      refine wpAny_bind (wpAny_field he hd h1 ?_)
      rw [if_neg (show ¬ ((Value.ref T == Value.none) = true) from by simp)]
      have fin : wpAny (model X.prog X.w) X.A (setFlight (.ref a) X.env.frame)
          (fun _ s4 => wpAny (model X.prog X.w) X.A (throw (.ref a) : Sem Flow) (SP X pins D) X.xe s4) X.xe { s' with heap := h3 } := by
        rw [hf]
        refine HandSPX.setFlight_upZ fl3 fun h4 hh4 up4 => wpAny_throw (tk _ _ ?_)
        exact ⟨a, B, sI, pins, σ', H', cls, d, rfl, J, nb, (up.trans up3).trans up4, .inr (.inr (by rw [hs]; exact hh4)), na, hos, hag, hno rfl⟩
      first
        | exact wpAny_bind (wpAny_pure (wpAny_bind fin))
        | exact wpAny_bind fin
  refine wpAny_mono body_run (fun f s1 hsp => ?_) fun e s1 he => he
  cases f with
  | next =>
    obtain ⟨σ', H', J', q⟩ := hsp
    exact wpAny_execs_nil ⟨σ', H', J'.ofTry ok, q⟩
  | brk =>
    obtain ⟨σ', H', J', q⟩ := hsp
    exact ⟨σ', H', J'.ofTry ok, q⟩
  | cont =>
    obtain ⟨σ', H', J', q⟩ := hsp
    exact ⟨σ', H', J'.ofTry ok, q⟩
  | ret u =>
    obtain ⟨v, σ', H', J', r, q⟩ := hsp
    exact ⟨v, σ', H', J'.ofTry ok, r, q⟩
end
end Lr

set_option Elab.async false
set_option linter.all false
set_option maxRecDepth 100000
set_option maxHeartbeats 4000000
namespace Lr
open PySem PySem.Spec PyProof.Rows L2

/-- the dict of a tracked exception, where it has one, is tracked, too -/
def DOk (H : Hp) (d : Option Addr) : Prop := d = none ∨ ∃ dd fs, d = some dd ∧ H dd = some (.xd fs)

section
variable {X : Cx} {pins : List (Addr × Obj)} {σ : L2.St} {H : Hp} {s : Shared}
theorem exv_inst {a D : Addr} {d : Option Addr} (I : Inv X pins σ H s) (e : H a = some (EXV (.ref D) d a)) (hd : DOk H d) :
    ∃ ox od, PySem.W.InstAt s.heap a ox D od := by
  obtain ⟨oe, vs, ho, hz, hf⟩ := exv_at I.hok e
  rcases hd with rfl | ⟨dd, fs, rfl, hx⟩
  · exact ⟨oe, none, ho, hz.1, by unfold PySem.W.notCls; rw [hf] <;> rfl, by rw [hz.2]; trivial⟩
  · have q : ObjOk X.prog X.w H s.heap dd (.xd fs) := I.hok dd _ hx
    obtain ⟨mA, hns, _⟩ := q
    obtain ⟨od, hod, _⟩ := lookIn_ns hns
    exact ⟨oe, some od, ho, hz.1, by unfold PySem.W.notCls; rw [hf] <;> rfl, by rw [hz.2]; exact hod⟩
end

/-- isinstance(e, c), e a name's value: a tracked exception -/
def rIsV (K : PySem.W.Frag) : List V → Hp → VK → Prop := fun xs H Q =>
  ∃ (a D : Addr) (d : Option Addr) (c : V) (cv : Value) (b : Bool), xs = [.ref a, c] ∧ H a = some (EXV (.ref D) d a) ∧ DOk H d ∧ ExcC K D ∧
    ClsV c cv ∧ PySem.W.kitOne K (.ref D) cv = some b ∧ Q (.bl b) H
section
variable {X : Cx}
theorem call_isV : CallR X (.builtin "isinstance") (rIsV X.K) := by
  intro pins s σ H xs us Q I r h
  obtain ⟨a, D, d, c, cv, b, rfl, ea, hd, C, hcv, e, q⟩ := h
  obtain ⟨u1, u2, rfl, r1, r2⟩ := vals2 r
  obtain rfl : u1 = Value.ref a := r1
  have e2 := hcv.eq r2
  subst e2
  obtain ⟨ox, od, J⟩ := exv_inst I ea hd
  have hcl : (PySem.W.clsIn X.K D).isSome = true := by
    obtain ⟨cd, hc, _⟩ := PySem.W.any_some C.hd
    rw [hc] <;> rfl
  exact PySem.W.kia_one (PySem.W.kitx_exc hcl C.hg C.hk C.hs C.ha C.hn C.ht C.hm) I.kIn J e (fun z => nomatch z)
    fun tk => ⟨.bl b, H, I.tok tk, rfl, q⟩

/-- e.f, e a name's value: a tracked exception of the class at C, f a field in its dict -/
def tXfv (K : PySem.W.Frag) (C : Addr) (f : Str) (te : TE) : TE := fun σ H Q => te σ H fun x H1 =>
  ∃ (a dd : Addr) (fs : List (Str × V)) (v : V), x = .ref a ∧ H1 a = some (EXV (.ref C) (some dd) a) ∧ H1 dd = some (.xd fs) ∧ fs.lookup f = some v ∧ Q v H1
theorem pe_xfv {C : Addr} {e : Expr} {te : TE} {pos : Pos} {n : Str} (T : XfC X.K C) (hno : PySem.W.findIn X.K (.ref C) n = some none)
    (he : PE X e te) (hb : attributeBase e n X.env (eval e X.env) = eval e X.env := by rfl) : PE X (.Attribute e n pos) (tXfv X.K C n te) := by
  constructor
  intro pins s σ H Q I h
  apply attr_of hb
  refine thn (he.run pins s σ H _ I h) fun u s1 hh => ?_
  obtain ⟨x, H1, I1, rx, a, dd, fs, v, rfl, ea, ed, l, q⟩ := hh
  obtain rfl : u = Value.ref a := rx
  obtain ⟨oe, vs, ho, hz, hf⟩ := exv_at I1.hok ea
  have hx : ObjOk X.prog X.w H1 s1.heap dd (.xd fs) := I1.hok dd _ ed
  obtain ⟨mA, hns, hr⟩ := hx
  obtain ⟨od, hod, hl⟩ := lookIn_ns hns
  obtain ⟨u, hu, ru⟩ := RelO.some_of (v := v) (o := mA n) (by rw [← l]; exact hr n)
  have J : PySem.W.InstAt s1.heap a oe C (some od) :=
    ⟨ho, hz.1, by unfold PySem.W.notCls; rw [hf] <;> rfl, by rw [hz.2]; exact hod⟩
  exact HandSPX.exc_get I1.kIn J T.ga T.gg T.exC (PySem.W.findObj_own T.hdC hno rfl (by rw [hl, hu])) (handed_of ru)
    ⟨v, H1, I1.tok _, ru, q⟩

/-- Base.__init__(self, ..), Base an own class over ValueError without an __init__ of its own: nothing of it is told -/
def tBaseI (K : PySem.W.Frag) (ta : TA) : TE := fun σ H Q => ta σ H fun vs H1 =>
  ∃ (a C : Addr) (ws : List V), vs = .ref a :: ws ∧ ws.length ≤ 1000 ∧ OexC K C ∧ H1 a = some (exo a C none) ∧ Q .non H1
theorem pe_baseinit {B : Addr} {mc : Value} {x : Str} {e : Expr} {es : List Expr} {ta : TA} {p1 p2 pos : Pos} {pl : Sem Bool} (hg : Gl X x) (hm : X.mg x = some (.ref B)) (rd : ClX.CRead X.K B mc)
    (vV : PySem.W.findCls X.K (.ref B) mc "__init__" = some (.val (.builtin "ValueError.__init__"))) (ha : PA X (e :: es) ta)
    (hc : eval (.Call (.Attribute (.Name x p1) "__init__" p2) (e :: es) [] pos) X.env = (do
      let ov ← eval (.Name x p1) X.env
      standAt p2.atName
      let (f, first) ← holding [ov] (getMethod ov "__init__" pl)
      callWith pos f first (backTo pos (starEach (e :: es) X.env)) (backToKw pos (keywordEach [] X.env))) := by rfl)
    (he : starEach (e :: es) X.env = (false, eval e X.env) :: starEach es X.env := by rfl) (hpl : (backTo pos (starEach es X.env)).any (·.1) = false := by rfl)
    (hdb : (x == ("__debug__" : Str)) = false := by decide) :
    PE X (.Call (.Attribute (.Name x p1) "__init__" p2) (e :: es) [] pos) (tBaseI X.K ta) := by
  constructor
  intro pins s σ H Q I h
  refine PySem.W.methodCall_KW (ld_glob I hg hm ?_ hdb) hc
  refine PySem.W.method_cls I.kIn rd.ga (PySem.W.cls_value I.kIn rd.rd vV (show PySem.W.handedIn (.builtin "ValueError.__init__") = true by decide +kernel) ?_)
  show wpAny _ _ (callWith pos (Value.builtin "ValueError.__init__") [] (backTo pos (starEach (e :: es) X.env)) []) _ _ _
  refine PyProof.Rows.callWith_method1 (thn (ha.run pos pins _ σ H _ (I.tok _) h) fun us s1 hh => ?_) he hpl
  obtain ⟨vs, H1, I1, r1, a, C, ws, ev, hl, T, ea, q⟩ := hh
  subst ev
  cases r1 with
  | @cons _ u0 _ ur ra rw' =>
    obtain rfl : u0 = Value.ref a := ra
    have hlen : ur.length ≤ sizeLine := by
      have z := Paired.length rw'
      rw [sizeLine_eq]
      omega
    exact oinit_ok T I1 ea hlen fun s' J => ⟨.non, H1, J, rfl, q⟩
end
end Lr

set_option Elab.async false
set_option linter.all false
set_option maxRecDepth 100000
set_option maxHeartbeats 4000000
namespace Lr
open PySem PySem.Spec PyProof.Rows L2

/-- l.remove(x), data: the first item equal to x is at j -/
def rRemD (K : PySem.W.Frag) : V → List V → Hp → VK → Prop := fun x xs H Q =>
  ∃ (l : Addr) (zs : List V) (y : V) (d : PyData) (ds : List PyData) (j : Nat), x = .ref l ∧ xs = [y] ∧ H l = some (.lst zs) ∧ DpAll K H zs ds ∧ Dp K H y d ∧
    PyData.plainAll ds = true ∧ d.plain = true ∧ min (PyData.depthAll ds) d.depth ≤ 60 ∧ SeqAt.dataPlace ds d = some j ∧ Q .non (upd H l (.lst (zs.eraseIdx j)))
section
variable {X : Cx}
theorem mt_remD (hu : X.A.units + 65 < cLine) : MtR X "list.remove" (rRemD X.K) := by
  intro pins s σ H x xs v us Q I rx rxs h
  obtain ⟨l, zs, y, d, ds, j, rfl, rfl, hl, ha, hy, hp, hd, hroom, hj, q⟩ := h
  cases rx
  cases rxs with
  | cons ry rt =>
    rename_i uy ut
    cases rt
    obtain ⟨bs, r1⟩ := Dp.reads I d y uy hy ry
    obtain ⟨zlen, its, n, rv, elen, e0⟩ := I.lstM hl
    obtain ⟨as, r2⟩ := Dp.readsAll I ds _ its ha rv
    have r2' : ReadsAll s.heap its.toArray.toList ds as := r2
    have hsz : its.toArray.size ≤ sizeLine := by rw [List.size_toArray, ← elen]; exact zlen
    refine SeqAt.remove_list_data (vs := its.toArray) ⟨_, e0, rfl, n, rfl⟩ r2' r1 hp hd (by omega) hj hsz ?_
    have hjl : j < its.length := by
      obtain ⟨hj', _⟩ := SeqAt.hit_at r2' hp hj
      rw [List.size_toArray] at hj'
      exact hj'
    refine ⟨.non, _, I.lset (its' := its.eraseIdx j) hl e0 ?_ (rv.eraseIdx j) ?_, rfl, q⟩
    · show its.toArray.eraseIdxIfInBounds j = (its.eraseIdx j).toArray
      rw [List.eraseIdxIfInBounds_toArray]
    · have := List.length_eraseIdx_le zs j
      omega

/-- o.m(e, ..) where what is raised is wished for at the caller's slots (in a try's body) -/
def tMethS (C : Addr) (m : Str) (sp : Sp) (E : L2.St → XK) (ta : TE) (t : TA) : TE := fun σ H Q => ta σ H fun x H1 =>
  ∃ a dx fs, x = .ref a ∧ H1 a = some (.ins C dx fs) ∧ fs.lookup m = none ∧ t σ H1 fun vs H2 => sp (x :: vs) H2 Q (E σ)
theorem pe_methA {CX : CXT} {k : Nat} {f C : Addr} {fd : FuncData} {ps : List Str} {sp : Sp} {E : L2.St → XK} {m : Str} {pos apos : Pos} {e o : Expr} {es : List Expr} {ta : TE} {t : TA}
    {pl : Sem Bool} (he : PE X o ta) (c : Cls X.K C) (hm : Meth X.K C m f) (F : FnOk X.prog X.w X.K X.mg X.base CX k f fd ps sp) (hr : Room k X.A) (hb : Binds X.K fd ps [])
    (hx : ∀ σ, PassesAt CX X σ (E σ)) (ha : PA X (e :: es) t)
    (hst : starEach (e :: es) X.env = (false, eval e X.env) :: starEach es X.env := by rfl) (hpl : (backTo pos (starEach es X.env)).any (·.1) = false := by rfl)
    (ht : eval (.Call (.Attribute o m apos) (e :: es) [] pos) X.env = (do
      let ov ← eval o X.env
      standAt apos.atName
      let (f, first) ← holding [ov] (getMethod ov m pl)
      callWith pos f first (backTo pos (starEach (e :: es) X.env)) (backToKw pos (keywordEach [] X.env))) := by rfl) :
    PE X (.Call (.Attribute o m apos) (e :: es) [] pos) (tMethS C m sp E ta t) := by
  constructor
  intro pins s σ H Q I h
  apply PySem.W.methodCall_KW (pl := pl) _ ht
  refine thn (he.run pins s σ H _ I h) fun u s1 hh => ?_
  obtain ⟨x, H1, I1, rx, a, dx, fs, ex, ea, l, q⟩ := hh
  subst ex
  obtain rfl : u = Value.ref a := rx
  apply getmeth_ok I1 ea c hm l
  refine PySem.W.callWith_K (first := [.ref a]) (h₀ := X.base) I.ok.mod.kin hm.kp (thn (ha.run pos pins s1 σ H1 _ I1 q) fun us s2 hh => ?_) hst hpl
  obtain ⟨vs, H2, I2, r, q2⟩ := hh
  exact ⟨I2.kIn, run_fnS (us := .ref a :: us) (vs := .ref a :: vs) F hr hb (hx σ) I2 (.cons rfl r) q2⟩
/-- == and != of data without dicts -/
def rEqP (K : PySem.W.Frag) : R2 := fun x y H Q => ∃ d e, Dp K H x d ∧ Dp K H y e ∧ d.plain = true ∧ e.plain = true ∧ min d.depth e.depth ≤ 60 ∧ Q (.bl (PyData.eqv d e)) H
def rNeP (K : PySem.W.Frag) : R2 := fun x y H Q => ∃ d e, Dp K H x d ∧ Dp K H y e ∧ d.plain = true ∧ e.plain = true ∧ min d.depth e.depth ≤ 60 ∧ Q (.bl (!PyData.eqv d e)) H
theorem op_eqP (hu : X.A.units + 65 < cLine) : OpR X (compareOp .Eq) (rEqP X.K) := by
  intro pins s σ H x y v u Q I rx ry h
  obtain ⟨d, e, hd, he, sd, se, hm, q⟩ := h
  obtain ⟨as, r1⟩ := Dp.reads I d x v hd rx
  obtain ⟨bs, r2⟩ := Dp.reads I e y u he ry
  exact SeqAt.eq_plain r1 r2 sd se (by omega) ⟨.bl _, H, I, rfl, q⟩
theorem op_neP (hu : X.A.units + 65 < cLine) : OpR X (compareOp .NotEq) (rNeP X.K) := by
  intro pins s σ H x y v u Q I rx ry h
  obtain ⟨d, e, hd, he, sd, se, hm, q⟩ := h
  obtain ⟨as, r1⟩ := Dp.reads I d x v hd rx
  obtain ⟨bs, r2⟩ := Dp.reads I e y u he ry
  exact SeqAt.ne_plain r1 r2 sd se (by omega) ⟨.bl _, H, I, rfl, q⟩
/-- x in l, x not in l: data without dicts -/
def rInP (K : PySem.W.Frag) : R2 := fun x y H Q => ∃ d ds, Dp K H x d ∧ Dp K H y (.list ds) ∧ d.plain = true ∧ PyData.plainAll ds = true ∧ min (PyData.depthAll ds) d.depth ≤ 60 ∧ Q (.bl (ds.any fun z => PyData.eqv z d)) H
def rNinP (K : PySem.W.Frag) : R2 := fun x y H Q => ∃ d ds, Dp K H x d ∧ Dp K H y (.list ds) ∧ d.plain = true ∧ PyData.plainAll ds = true ∧ min (PyData.depthAll ds) d.depth ≤ 60 ∧ Q (.bl (!ds.any fun z => PyData.eqv z d)) H
theorem op_inP (hu : X.A.units + 65 < cLine) : OpR X (compareOp .In) (rInP X.K) := by
  intro pins s σ H x y v u Q I rx ry h
  obtain ⟨d, ds, hd, he, sd, se, hm, q⟩ := h
  obtain ⟨as, r1⟩ := Dp.reads I d x v hd rx
  obtain ⟨bs, r2⟩ := Dp.reads I (.list ds) y u he ry
  exact SeqAt.in_list_data r2 r1 se sd (by omega) ⟨.bl _, H, I, rfl, q⟩
theorem op_ninP (hu : X.A.units + 65 < cLine) : OpR X (compareOp .NotIn) (rNinP X.K) := by
  intro pins s σ H x y v u Q I rx ry h
  obtain ⟨d, ds, hd, he, sd, se, hm, q⟩ := h
  obtain ⟨as, r1⟩ := Dp.reads I d x v hd rx
  obtain ⟨bs, r2⟩ := Dp.reads I (.list ds) y u he ry
  exact SeqAt.notIn_list_data r2 r1 se sd (by omega) ⟨.bl _, H, I, rfl, q⟩
end
/-! KVARIANTS: rules whose readings name the written part, with K a letter of its own (a comprehension's context hides it) -/
section
variable {X : Cx} {K : PySem.W.Frag}
theorem op_in_seqK (h : X.K = K := by rfl) : OpR X (compareOp .In) (rIn K false) := h ▸ op_in_seq
theorem op_notIn_seqK (h : X.K = K := by rfl) : OpR X (compareOp .NotIn) (rIn K true) := h ▸ op_notIn_seq
theorem op_eqPK (hu : X.A.units + 65 < cLine) (h : X.K = K := by rfl) : OpR X (compareOp .Eq) (rEqP K) := h ▸ op_eqP hu
theorem op_nePK (hu : X.A.units + 65 < cLine) (h : X.K = K := by rfl) : OpR X (compareOp .NotEq) (rNeP K) := h ▸ op_neP hu
theorem op_inPK (hu : X.A.units + 65 < cLine) (h : X.K = K := by rfl) : OpR X (compareOp .In) (rInP K) := h ▸ op_inP hu
theorem op_ninPK (hu : X.A.units + 65 < cLine) (h : X.K = K := by rfl) : OpR X (compareOp .NotIn) (rNinP K) := h ▸ op_ninP hu
theorem ix_listK (h : X.K = K := by rfl) : IxR X (rIxL K) := h ▸ ix_list
theorem ix_tupK (h : X.K = K := by rfl) : IxR X (rIxT K) := h ▸ ix_tup
theorem sl_listK (h : X.K = K := by rfl) : SlR X (rSlL K) := h ▸ sl_list
theorem sl_tupK (h : X.K = K := by rfl) : SlR X (rSlT K) := h ▸ sl_tup
def rLenK (K : PySem.W.Frag) : List V → Hp → VK → Prop := fun xs H Q => ∃ p ys, xs = [.ref p] ∧ (SqL K H p ys ∨ SqT K H p ys) ∧ Q (.int ys.length) H
def rListK (K : PySem.W.Frag) : List V → Hp → VK → Prop := fun xs H Q => ∃ p ys, xs = [.ref p] ∧ (SqL K H p ys ∨ SqT K H p ys) ∧ ∀ l, H l = none → Q (.ref l) (upd H l (.lst ys))
theorem call_lenK (h : X.K = K := by rfl) : CallR X (.builtin "len") (rLenK K) := h ▸ call_len_seq
theorem call_listK (h : X.K = K := by rfl) : CallR X (.type "list") (rListK K) := h ▸ call_list_of
theorem call_isiK' (h : X.K = K := by rfl) : CallR X (.builtin "isinstance") (rIsi K) := h ▸ call_isi
theorem call_isVK (h : X.K = K := by rfl) : CallR X (.builtin "isinstance") (rIsV K) := h ▸ call_isV
theorem mt_indexK (h : X.K = K := by rfl) : MtR X "list.index" (rIndex K) := h ▸ mt_index
theorem mt_remDK (hu : X.A.units + 65 < cLine) (h : X.K = K := by rfl) : MtR X "list.remove" (rRemD K) := h ▸ mt_remD hu
theorem cr_allK (hc : X.calm = true) (h : X.K = K := by rfl) : CallR X (.builtin "all") (rAll K) := h ▸ cr_all hc
theorem cr_maxK (hc : X.calm = true) (h : X.K = K := by rfl) : CallR X (.builtin "max") (rMax K) := h ▸ cr_max hc
theorem cr_sumK (hc : X.calm = true) (h : X.K = K := by rfl) : CallR X (.builtin "sum") (rSum K) := h ▸ cr_sum hc
theorem cr_sortedSK (h : X.K = K := by rfl) : CallR X (.builtin "sorted") (rSortedS K) := h ▸ cr_sortedS
theorem pe_fldK {e : Expr} {f : Str} {pos : Pos} {ta : TE} (he : PE X e ta) (hb : attributeBase e f X.env (eval e X.env) = eval e X.env) (h : X.K = K := by rfl) : PE X (.Attribute e f pos) (tFld K ta f) := h ▸ pe_fld he hb
theorem pi_listK {tg l : Expr} {tl : TE} (hl : PE X l tl) (h : X.K = K := by rfl) : PI X tg l (iList K tl) := h ▸ pi_list hl
theorem pe_bmK {o e : Expr} {es : List Expr} {to : TE} {t : TA} {name : Str} {apos cpos : Pos} {Ty id : String} {r : V → List V → Hp → VK → Prop} (pa : PlainAttrs Ty) (sl : Slot Ty name id)
    (ty : typeOf (.builtin id) = pure (.type "method_descriptor")) (hr : MtR X id r) (ho : PE X o to) (ha : PA X (e :: es) t)
    (hb : attributeBase o name X.env (eval o X.env) = eval o X.env := by rfl)
    (hf : (((backTo cpos (starEach (e :: es) X.env)).all (fun x => !x.1) && (backToKw cpos (keywordEach [] X.env)).all (fun x => x.1.isSome)) && decide ((e :: es).length + ([] : List Keyword).length + (if ([] : List Keyword).isEmpty = true then 0 else 1) < 30)) = true := by rfl)
    (hl : (apos.endLine == cpos.line) = true := by rfl) (hs : starEach (e :: es) X.env = (false, eval e X.env) :: starEach es X.env := by rfl)
    (hp : ((backTo cpos (starEach es X.env)).any fun x => x.1) = false := by rfl) (h : X.K = K := by rfl) : PE X (.Call (.Attribute o name apos) (e :: es) [] cpos) (tBM K Ty r to t) :=
  h ▸ pe_bm pa sl ty hr ho ha hb hf hl hs hp
end
end Lr

set_option Elab.async false
set_option linter.all false
set_option maxRecDepth 100000
set_option maxHeartbeats 4000000
namespace Lr
open PySem PySem.Spec PyProof.Rows L2

/-! ### heaps: what may change, what is new -/
/-- all that is tracked stands, but at g; no tuple changes -/
def Fr (g : List Addr) (H H' : Hp) : Prop := (∀ b o, H b = some o → b ∉ g → H' b = some o) ∧ ∀ b xs, H b = some (.tup xs) → H' b = some (.tup xs)
def Nw (g : List Addr) (H : Hp) (g' : List Addr) : Prop := ∀ b ∈ g', b ∈ g ∨ H b = none
def Apart (g g' : List Addr) : Prop := ∀ b ∈ g, b ∉ g'

theorem Fr.of_same {g : List Addr} {H H' : Hp} (e : Same H H') : Fr g H H' := ⟨fun b o h _ => e b o h, fun b xs h => e b _ h⟩
theorem Fr.same {H H' : Hp} (e : Fr [] H H') : Same H H' := fun b o h => e.1 b o h (fun z => nomatch z)
theorem Fr.refl (g : List Addr) (H : Hp) : Fr g H H := Fr.of_same (Same.refl H)
theorem Fr.trans {g : List Addr} {H H1 H2 : Hp} (a : Fr g H H1) (b : Fr g H1 H2) : Fr g H H2 :=
  ⟨fun c o h n => b.1 c o (a.1 c o h n) n, fun c xs h => b.2 c xs (a.2 c xs h)⟩
theorem Fr.then_same {g : List Addr} {H H1 H2 : Hp} (a : Fr g H H1) (b : Same H1 H2) : Fr g H H2 := a.trans (Fr.of_same b)
theorem Fr.after_same {g : List Addr} {H H1 H2 : Hp} (a : Same H H1) (b : Fr g H1 H2) : Fr g H H2 := (Fr.of_same a).trans b
/-- further addresses that are new -/
theorem Fr.widen {g g' : List Addr} {H H' : Hp} (a : Fr g' H H') (h : ∀ b ∈ g', b ∈ g ∨ H b = none) : Fr g H H' :=
  ⟨fun b o e n => a.1 b o e (fun z => (h b z).elim n (fun q => by rw [q] at e; cases e)), a.2⟩
theorem Fr.new {g : List Addr} {H : Hp} {p : Addr} {o : HO} (h : H p = none) : Fr g H (upd H p o) :=
  ⟨fun b u e _ => by rw [upd_ne (ne_of_none e h)]; exact e, fun b xs e => by rw [upd_ne (ne_of_none e h)]; exact e⟩
theorem Fr.put {g : List Addr} {H : Hp} {p : Addr} {o : HO} (h : p ∈ g) (nt : ∀ xs, H p ≠ some (.tup xs)) : Fr g H (upd H p o) :=
  ⟨fun b u e n => by
      have : b ≠ p := fun z => n (by rw [z]; exact h)
      rw [upd_ne this]; exact e,
    fun b xs e => by
      have : b ≠ p := fun z => nt xs (by rw [← z]; exact e)
      rw [upd_ne this]; exact e⟩
theorem Fr.free {g : List Addr} {H H' : Hp} (e : Fr g H H') {b : Addr} (n : b ∉ g) (h : H' b = none) : H b = none := by
  cases q : H b with
  | none => rfl
  | some o =>
    rw [e.1 b o q n] at h
    cases h
theorem Same.new {H : Hp} {p : Addr} {o : HO} (h : H p = none) : Same H (upd H p o) := fun b u e => by rw [upd_ne (ne_of_none e h)]; exact e
/-- an object that H does not know changes -/
theorem Same.mut {H H' : Hp} {p : Addr} {o : HO} (e : Same H H') (h : H p = none) : Same H (upd H' p o) := fun b u q => by
  rw [upd_ne (ne_of_none q h)]; exact e b u q
theorem Same.none {H H' : Hp} (e : Same H H') {p : Addr} (h : H' p = none) : H p = none := e.free h
theorem upd_none {H : Hp} {a p : Addr} {o : HO} (h : upd H a o p = none) : p ≠ a ∧ H p = none := by
  have n : p ≠ a := fun z => by rw [z, upd_same] at h; cases h
  exact ⟨n, by rw [upd_ne n] at h; exact h⟩
theorem lst_ntup {H : Hp} {p : Addr} {ys : List V} (h : H p = some (.lst ys)) : ∀ xs, H p ≠ some (.tup xs) := fun xs z => by rw [h] at z; cases z
theorem ins_ntup {H : Hp} {p C dx : Addr} {fs : List (Str × V)} (h : H p = some (.ins C dx fs)) : ∀ xs, H p ≠ some (.tup xs) := fun xs z => by rw [h] at z; cases z
theorem dk_ntup {H : Hp} {p : Addr} {kvs : List (Key × V)} (h : H p = some (.dK kvs)) : ∀ xs, H p ≠ some (.tup xs) := fun xs z => by rw [h] at z; cases z

/-! ### pairs of names that stand as tuples -/
abbrev Ps := List (Addr × Str × Str)
def pd (P : Ps) : List (Str × Str) := P.map (·.2)
structure PL (H : Hp) (l : Addr) (P : Ps) : Prop where
  lst : H l = some (.lst (P.map fun q => V.ref q.1))
  tup : ∀ q ∈ P, H q.1 = some (.tup [.str q.2.1, .str q.2.2])
theorem PL.fr {g : List Addr} {H H' : Hp} {l : Addr} {P : Ps} (h : PL H l P) (e : Fr g H H') (n : l ∉ g) : PL H' l P :=
  ⟨e.1 _ _ h.lst n, fun q hq => e.2 _ _ (h.tup q hq)⟩
theorem PL.same {H H' : Hp} {l : Addr} {P : Ps} (h : PL H l P) (e : Same H H') : PL H' l P := ⟨e _ _ h.lst, fun q hq => e _ _ (h.tup q hq)⟩

/-! ### texts and pairs of texts as data -/
def sD (z : Str) : PyData := .str z
def pD (p : Str × Str) : PyData := .tuple [.str p.1, .str p.2]
theorem dpAll_str {K : PySem.W.Frag} {H : Hp} : ∀ ns : List Str, DpAll K H (ns.map V.str) (ns.map sD)
  | [] => .nil
  | n :: ns => .cons (.str n) (dpAll_str ns)
theorem dp_strs {K : PySem.W.Frag} {H : Hp} {l : Addr} {ns : List Str} (h : SqL K H l (ns.map V.str)) : Dp K H (.ref l) (.list (ns.map sD)) := .lst h (dpAll_str ns)
theorem dp_pair {K : PySem.W.Frag} {H : Hp} {t : Addr} {a b : Str} (h : SqT K H t [.str a, .str b]) : Dp K H (.ref t) (pD (a, b)) := .tup h (.cons (.str a) (.cons (.str b) .nil))
theorem dpAll_pairs {K : PySem.W.Frag} {H : Hp} : ∀ P : Ps, (∀ q ∈ P, H q.1 = some (.tup [.str q.2.1, .str q.2.2])) → DpAll K H (P.map fun q => V.ref q.1) ((pd P).map pD)
  | [], _ => .nil
  | q :: P, h => .cons (dp_pair (SqT.of (h q List.mem_cons_self))) (dpAll_pairs P fun q' hq => h q' (List.mem_cons_of_mem _ hq))
theorem dp_pairs {K : PySem.W.Frag} {H : Hp} {l : Addr} {P : Ps} (h : PL H l P) : Dp K H (.ref l) (.list ((pd P).map pD)) := .lst (SqL.of h.lst) (dpAll_pairs P h.tup)

theorem eqv_str (a b : Str) : PyData.eqv (sD a) (sD b) = decide (a = b) := by
  by_cases h : a = b
  · subst h; simp [sD, PyData.eqv]
  · simp [sD, PyData.eqv, h]
theorem eqv_pair (p q : Str × Str) : PyData.eqv (pD p) (pD q) = decide (p = q) := by
  obtain ⟨a, b⟩ := p
  obtain ⟨c, d⟩ := q
  simp only [pD, PyData.eqv, PyData.eqvAll]
  by_cases h1 : a = c <;> by_cases h2 : b = d <;> simp [h1, h2]
theorem eqvAll_of {α : Type} [DecidableEq α] (D : α → PyData) (hD : ∀ a b, PyData.eqv (D a) (D b) = decide (a = b)) : ∀ xs ys : List α, PyData.eqvAll (xs.map D) (ys.map D) = decide (xs = ys)
  | [], [] => by simp [PyData.eqvAll]
  | [], y :: ys => by simp [PyData.eqvAll]
  | x :: xs, [] => by simp [PyData.eqvAll]
  | x :: xs, y :: ys => by
    simp only [List.map_cons, PyData.eqvAll, hD, eqvAll_of D hD xs ys]
    by_cases h1 : x = y <;> by_cases h2 : xs = ys <;> simp [h1, h2]
theorem eqv_list {α : Type} [DecidableEq α] (D : α → PyData) (hD : ∀ a b, PyData.eqv (D a) (D b) = decide (a = b)) (xs ys : List α) : PyData.eqv (.list (xs.map D)) (.list (ys.map D)) = decide (xs = ys) := by
  simp only [PyData.eqv, eqvAll_of D hD]
theorem eqv_strs (ns ms : List Str) : PyData.eqv (.list (ns.map sD)) (.list (ms.map sD)) = decide (ns = ms) := eqv_list sD eqv_str ns ms
theorem eqv_pairs (ps qs : List (Str × Str)) : PyData.eqv (.list (ps.map pD)) (.list (qs.map pD)) = decide (ps = qs) := eqv_list pD eqv_pair ps qs

theorem depth_of {α : Type} (D : α → PyData) (m : Nat) (hD : ∀ a, (D a).depth ≤ m) : ∀ xs : List α, PyData.depthAll (xs.map D) ≤ m
  | [] => by simp [PyData.depthAll]
  | x :: xs => by
    have h1 := hD x
    have h2 := depth_of D m hD xs
    simp only [List.map_cons, PyData.depthAll]
    omega
theorem sD_depth (a : Str) : (sD a).depth ≤ 2 := by simp [sD, PyData.depth]
theorem pD_depth (p : Str × Str) : (pD p).depth ≤ 2 := by simp [pD, PyData.depth, PyData.depthAll]
theorem strs_depth (ns : List Str) : PyData.depth (.list (ns.map sD)) ≤ 3 := by
  have := depth_of sD 2 sD_depth ns
  simp only [PyData.depth]
  omega
theorem pairs_depth (ps : List (Str × Str)) : PyData.depth (.list (ps.map pD)) ≤ 3 := by
  have := depth_of pD 2 pD_depth ps
  simp only [PyData.depth]
  omega
theorem any_str (ns : List Str) (a : Str) : ((ns.map sD).any fun z => PyData.eqv z (sD a)) = decide (a ∈ ns) := by
  rw [List.any_map]
  induction ns with
  | nil => simp
  | cons n ns ih =>
    rw [List.any_cons, ih]
    simp only [Function.comp, eqv_str, List.mem_cons]
    by_cases h : n = a
    · subst h; simp
    · have h' : ¬ a = n := fun z => h z.symm
      simp [h, h']
theorem any_pair (ps : List (Str × Str)) (p : Str × Str) : ((ps.map pD).any fun z => PyData.eqv z (pD p)) = decide (p ∈ ps) := by
  rw [List.any_map]
  induction ps with
  | nil => simp
  | cons n ns ih =>
    rw [List.any_cons, ih]
    simp only [Function.comp, eqv_pair, List.mem_cons]
    by_cases h : n = p
    · subst h; simp
    · have h' : ¬ p = n := fun z => h z.symm
      simp [h, h']
/-- flat membership of a text -/
theorem inV_str (ns : List Str) (a : Str) : inV (.str a) (ns.map V.str) = decide (a ∈ ns) := by
  unfold inV
  rw [List.any_map]
  induction ns with
  | nil => simp
  | cons n ns ih =>
    rw [List.any_cons, ih]
    simp only [Function.comp, eqV, List.mem_cons]
    by_cases h : n = a
    · subst h; simp
    · have h' : ¬ a = n := fun z => h z.symm
      simp [h, h']
theorem flat_strs (ns : List Str) : (ns.map V.str).all flatV = true := by
  rw [List.all_map, List.all_eq_true]
  intro a _
  rfl
theorem plain_of {α : Type} (D : α → PyData) (hD : ∀ a, (D a).plain = true) : ∀ xs : List α, PyData.plainAll (xs.map D) = true
  | [] => by simp [PyData.plainAll]
  | x :: xs => by simp [PyData.plainAll, hD x, plain_of D hD xs]
theorem sD_plain (a : Str) : (sD a).plain = true := by simp [sD, PyData.plain]
theorem pD_plain (p : Str × Str) : (pD p).plain = true := by simp [pD, PyData.plain, PyData.plainAll]
theorem strs_plain (ns : List Str) : PyData.plain (.list (ns.map sD)) = true := by simp only [PyData.plain]; exact plain_of sD sD_plain ns
theorem pairs_plain (ps : List (Str × Str)) : PyData.plain (.list (ps.map pD)) = true := by simp only [PyData.plain]; exact plain_of pD pD_plain ps
/-- where the first one stands -/
theorem place_of {α : Type} [BEq α] [LawfulBEq α] [DecidableEq α] (D : α → PyData) (hD : ∀ a b, PyData.eqv (D a) (D b) = decide (a = b)) {xs : List α} {x : α} (h : x ∈ xs) : SeqAt.dataPlace (xs.map D) (D x) = some (xs.idxOf x) := by
  unfold SeqAt.dataPlace
  induction xs with
  | nil => cases h
  | cons y ys ih =>
    rw [List.map_cons, List.findIdx?_cons, hD]
    by_cases e : y = x
    · subst e; simp
    · have hx : x ∈ ys := by
        rcases List.mem_cons.mp h with q | q
        · exact absurd q.symm e
        · exact q
      have e' : (y == x) = false := by simpa using e
      rw [decide_eq_false e, ih hx, List.idxOf_cons, e']
      simp
theorem erase_ix {α : Type} [BEq α] [LawfulBEq α] : ∀ (xs : List α) (x : α), xs.eraseIdx (xs.idxOf x) = xs.erase x
  | [], x => rfl
  | y :: ys, x => by
    rw [List.idxOf_cons, List.erase_cons]
    by_cases e : y = x
    · subst e; simp
    · have e' : (y == x) = false := by simpa using e
      rw [e']
      simp [erase_ix ys x]
theorem map_erase_ix {α β : Type} (f : α → β) : ∀ (xs : List α) (j : Nat), (xs.map f).eraseIdx j = (xs.eraseIdx j).map f
  | [], _ => by simp
  | _ :: _, 0 => rfl
  | x :: xs, j + 1 => by simp [map_erase_ix f xs j]
end Lr

set_option Elab.async false
set_option linter.all false
set_option maxRecDepth 100000
set_option maxHeartbeats 4000000
namespace Lr
open PySem PySem.Spec PyProof.Rows L2

inductive Er where
  | BadName | Twice | TooMany | NoThing | NoLeaning | BadRow | NothingDone | Ring
  deriving DecidableEq

/-- a def of the text stands at f -/
structure DefAt (K : PySem.W.Frag) (x qual : Str) (st : Stmt) (ps : List Str) (f : Addr) : Prop where
  ex : ∃ fd, Fun K x qual st f fd ∧ Binds K fd ps [] ∧ ∀ (s : Shared) (us : List Value), us.length = ps.length → BindsTo s fd ⟨us, []⟩ (ps.zip us)
noncomputable def DefAt.fd {K : PySem.W.Frag} {x qual : Str} {st : Stmt} {ps : List Str} {f : Addr} (D : DefAt K x qual st ps f) : FuncData := Classical.choose D.ex
theorem DefAt.F {K : PySem.W.Frag} {x qual : Str} {st : Stmt} {ps : List Str} {f : Addr} (D : DefAt K x qual st ps f) : Fun K x qual st f D.fd := (Classical.choose_spec D.ex).1
theorem DefAt.b {K : PySem.W.Frag} {x qual : Str} {st : Stmt} {ps : List Str} {f : Addr} (D : DefAt K x qual st ps f) : Binds K D.fd ps [] := (Classical.choose_spec D.ex).2.1
theorem DefAt.bt {K : PySem.W.Frag} {x qual : Str} {st : Stmt} {ps : List Str} {f : Addr} (D : DefAt K x qual st ps f) : ∀ (s : Shared) (us : List Value), us.length = ps.length → BindsTo s D.fd ⟨us, []⟩ (ps.zip us) := (Classical.choose_spec D.ex).2.2
theorem DefAt.mk' {K : PySem.W.Frag} {x qual : Str} {st : Stmt} {ps : List Str} {f : Addr} {oc : Value} {od an : Option Addr} {osl : Array (Option Value)} {kV doc pm cdv ct : Value}
    (l : K.lookup f = some ⟨oc, od, .func (PySem.W.fnOf x qual (defArgs st) (defBody st) (defScope st) .none kV doc pm an cdv ct), osl⟩)
    (c : PySem.W.codeIn K cdv qual = true) (k : PySem.W.keepIn K (.ref f) = true)
    (h : ∀ (kV doc pm : Value) (an : Option Addr) (cdv ct : Value) (us : List Value), us.length = ps.length → bindArgs (PySem.W.fnOf x qual (defArgs st) (defBody st) (defScope st) .none kV doc pm an cdv ct) ⟨us, []⟩ = pure (ps.zip us)) : DefAt K x qual st ps f :=
  ⟨⟨_, fun_mk l c k, (fun_mk l c k).binds h, fun s us hl => .of_eq (h kV doc pm an cdv ct us hl)⟩⟩
def ceOf (b t m n l r d g : Addr) : Er → Addr
  | .BadName => b | .Twice => t | .TooMany => m | .NoThing => n | .NoLeaning => l | .BadRow => r | .NothingDone => d | .Ring => g
theorem forE {p : Er → Prop} (h1 : p .BadName) (h2 : p .Twice) (h3 : p .TooMany) (h4 : p .NoThing) (h5 : p .NoLeaning) (h6 : p .BadRow) (h7 : p .NothingDone) (h8 : p .Ring) : ∀ e, p e
  | .BadName => h1 | .Twice => h2 | .TooMany => h3 | .NoThing => h4 | .NoLeaning => h5 | .BadRow => h6 | .NothingDone => h7 | .Ring => h8
theorem mg_str {K : PySem.W.Frag} {h : Heap} {mg : Str → Option Value} {n x : Str} {t : Tok} (X : K.In h) (G : h.Ns mainGlobals mg) (e : PySem.W.nsIn K mainGlobals n = some (some (.str x t))) : ∃ u, mg n = some u ∧ RelV (.str x) u :=
  ⟨_, PySem.W.mg_of X G e, ⟨t, rfl⟩⟩
theorem mg_int {K : PySem.W.Frag} {h : Heap} {mg : Str → Option Value} {n : Str} {i : Int} {t : Tok} (X : K.In h) (G : h.Ns mainGlobals mg) (e : PySem.W.nsIn K mainGlobals n = some (some (.int i t))) : ∃ u, mg n = some u ∧ RelV (.int i) u :=
  ⟨_, PySem.W.mg_of X G e, ⟨t, rfl⟩⟩
theorem oexc_mk {K : PySem.W.Frag} {C L : Addr} {nm q : Str} {N : Addr} {bs : List Value} {sn : List Str} {sub : List Value} {ab : Bool} {col : Option Bool} {dd : Option Addr} {k0 k1 k2 k3 k5 : Option Value}
    (l : K.lookup C = some (excClassObj nm q C N bs [.ref L, .type "ValueError", .type "Exception", .type "BaseException", .type "object"] true sn sub ab col dd k0 k1 k2 k3 k5 "ValueError.__new__"))
    (sa : PySem.W.findIn K (.ref C) "__setattr__" = some (some (.builtin "object.__setattr__"))) (ex : PySem.W.subIn K (.ref C) (.type "BaseException") = some true)
    (ty : PySem.W.typeIn K (.ref C) = some (.type "type")) (kp : PySem.W.keepIn K (.ref C) = true) : OexC K C :=
  ⟨⟨nm, q, N, bs, _, sn, sub, ab, col, dd, k0, k1, k2, k3, k5, l, rfl⟩, sa, ex, ty, kp⟩
def erName : Er → Str
  | .BadName => "BadName" | .Twice => "Twice" | .TooMany => "TooMany" | .NoThing => "NoThing" | .NoLeaning => "NoLeaning" | .BadRow => "BadRow" | .NothingDone => "NothingDone" | .Ring => "Ring"
/-- the errors of the program -/
structure ErrT (K : PySem.W.Frag) (mg : Str → Option Value) (st : Stmt) : Type where
  CL : Addr
  g_LeanError : mg "LeanError" = some (.ref CL)
  lrd : ClX.CRead K CL (.type "type")
  linit : PySem.W.findCls K (.ref CL) (.type "type") "__init__" = some (.val (.builtin "ValueError.__init__"))
  ce : Er → Addr
  g : ∀ e, mg (erName e) = some (.ref (ce e))
  k : ∀ e, PySem.W.keepIn K (.ref (ce e)) = true
  x : ∀ e, e = .Ring ∨ PySem.W.excIn K (ce e) [.type "ValueError", .type "Exception", .type "BaseException", .type "object"] "ValueError.__new__" = true
  e : ∀ e, PySem.W.subIn K (.ref (ce e)) (.type "BaseException") = some true
  t : ∀ e, PySem.W.typeIn K (.ref (ce e)) = some (.type "type")
  c : ∀ e, ExcC K (ce e)
  kit : ∀ e e', PySem.W.kitOne K (.ref (ce e)) (.ref (ce e')) = some (decide (e = e'))
  kitV : ∀ e, PySem.W.kitOne K (.ref (ce e)) (.type "ValueError") = some true
  exm : ∀ e, PySem.W.exmOne K (.ref (ce e)) (.ref CL) = some true
  oRing : OexC K (ce .Ring)
  xfRing : XfC K (ce .Ring)
  noRing : PySem.W.findIn K (.ref (ce .Ring)) "ring" = some none
  fRi : Addr
  iRing : PySem.W.findIn K (.ref (ce .Ring)) "__init__" = some (some (.ref fRi))
  tyRing : PySem.W.typeIn K (.ref fRi) = some (.type "function")
  D : DefAt K "__init__" "Ring.__init__" st ["self", "ring"] fRi
def errT {K : PySem.W.Frag} {h : Heap} {mg : Str → Option Value} {CL aBadName aTwice aTooMany aNoThing aNoLeaning aBadRow aNothingDone aRing L fRi : Addr} {st : Stmt} {oc : Value} {od an : Option Addr} {osl : Array (Option Value)} {kV doc pm cdv ct : Value} {nm q : Str} {N : Addr} {bs : List Value} {sn : List Str} {sub : List Value} {ab : Bool} {col : Option Bool} {dd : Option Addr} {k0 k1 k2 k3 k5 : Option Value}
    (KX : K.In h) (G : h.Ns mainGlobals mg)
    (g_LeanError : PySem.W.nsIn K mainGlobals "LeanError" = some (some (.ref CL)))
    (lrd1 : PySem.W.readsIn K CL (.type "type") = true)
    (lrd2 : PySem.W.specialIn K (.ref CL) "__getattribute__" = some (some (.builtin "type.__getattribute__")))
    (linit : PySem.W.findCls K (.ref CL) (.type "type") "__init__" = some (.val (.builtin "ValueError.__init__")))
    (xl1 : PySem.W.subIn K (.ref CL) (.type "BaseException") = some true)
    (xl2 : PySem.W.hasDictIn K CL = true)
    (xl3 : PySem.W.typeIn K (.ref CL) = some (.type "type"))
    (hn : PySem.W.specialIn K (.builtin "object.__class__") "__get__" = some (some (.builtin "getset_descriptor.__get__")))
    (ht : PySem.W.takesIn K (.builtin "object.__class__") = some true)
    (g_BadName : PySem.W.nsIn K mainGlobals "BadName" = some (some (.ref aBadName)))
    (k_BadName : PySem.W.keepIn K (.ref aBadName) = true)
    (x_BadName : PySem.W.excIn K aBadName [.type "ValueError", .type "Exception", .type "BaseException", .type "object"] "ValueError.__new__" = true)
    (e_BadName : PySem.W.subIn K (.ref aBadName) (.type "BaseException") = some true)
    (t_BadName : PySem.W.typeIn K (.ref aBadName) = some (.type "type"))
    (cg_BadName : PySem.W.findIn K (.ref aBadName) "__getattribute__" = some (some (.builtin "BaseException.__getattribute__")))
    (ck_BadName : PySem.W.findIn K (.ref aBadName) "__getattr__" = some none)
    (cd_BadName : PySem.W.hasDictIn K aBadName = true)
    (ca_BadName : PySem.W.findIn K (.ref aBadName) "__class__" = some (some (.builtin "object.__class__")))
    (cm_BadName : PySem.W.mroIn K aBadName (.type "object") = some true)
    (kv_BadName : PySem.W.kitOne K (.ref aBadName) (.type "ValueError") = some true)
    (xm_BadName : PySem.W.subIn K (.ref aBadName) (.ref CL) = some true)
    (g_Twice : PySem.W.nsIn K mainGlobals "Twice" = some (some (.ref aTwice)))
    (k_Twice : PySem.W.keepIn K (.ref aTwice) = true)
    (x_Twice : PySem.W.excIn K aTwice [.type "ValueError", .type "Exception", .type "BaseException", .type "object"] "ValueError.__new__" = true)
    (e_Twice : PySem.W.subIn K (.ref aTwice) (.type "BaseException") = some true)
    (t_Twice : PySem.W.typeIn K (.ref aTwice) = some (.type "type"))
    (cg_Twice : PySem.W.findIn K (.ref aTwice) "__getattribute__" = some (some (.builtin "BaseException.__getattribute__")))
    (ck_Twice : PySem.W.findIn K (.ref aTwice) "__getattr__" = some none)
    (cd_Twice : PySem.W.hasDictIn K aTwice = true)
    (ca_Twice : PySem.W.findIn K (.ref aTwice) "__class__" = some (some (.builtin "object.__class__")))
    (cm_Twice : PySem.W.mroIn K aTwice (.type "object") = some true)
    (kv_Twice : PySem.W.kitOne K (.ref aTwice) (.type "ValueError") = some true)
    (xm_Twice : PySem.W.subIn K (.ref aTwice) (.ref CL) = some true)
    (g_TooMany : PySem.W.nsIn K mainGlobals "TooMany" = some (some (.ref aTooMany)))
    (k_TooMany : PySem.W.keepIn K (.ref aTooMany) = true)
    (x_TooMany : PySem.W.excIn K aTooMany [.type "ValueError", .type "Exception", .type "BaseException", .type "object"] "ValueError.__new__" = true)
    (e_TooMany : PySem.W.subIn K (.ref aTooMany) (.type "BaseException") = some true)
    (t_TooMany : PySem.W.typeIn K (.ref aTooMany) = some (.type "type"))
    (cg_TooMany : PySem.W.findIn K (.ref aTooMany) "__getattribute__" = some (some (.builtin "BaseException.__getattribute__")))
    (ck_TooMany : PySem.W.findIn K (.ref aTooMany) "__getattr__" = some none)
    (cd_TooMany : PySem.W.hasDictIn K aTooMany = true)
    (ca_TooMany : PySem.W.findIn K (.ref aTooMany) "__class__" = some (some (.builtin "object.__class__")))
    (cm_TooMany : PySem.W.mroIn K aTooMany (.type "object") = some true)
    (kv_TooMany : PySem.W.kitOne K (.ref aTooMany) (.type "ValueError") = some true)
    (xm_TooMany : PySem.W.subIn K (.ref aTooMany) (.ref CL) = some true)
    (g_NoThing : PySem.W.nsIn K mainGlobals "NoThing" = some (some (.ref aNoThing)))
    (k_NoThing : PySem.W.keepIn K (.ref aNoThing) = true)
    (x_NoThing : PySem.W.excIn K aNoThing [.type "ValueError", .type "Exception", .type "BaseException", .type "object"] "ValueError.__new__" = true)
    (e_NoThing : PySem.W.subIn K (.ref aNoThing) (.type "BaseException") = some true)
    (t_NoThing : PySem.W.typeIn K (.ref aNoThing) = some (.type "type"))
    (cg_NoThing : PySem.W.findIn K (.ref aNoThing) "__getattribute__" = some (some (.builtin "BaseException.__getattribute__")))
    (ck_NoThing : PySem.W.findIn K (.ref aNoThing) "__getattr__" = some none)
    (cd_NoThing : PySem.W.hasDictIn K aNoThing = true)
    (ca_NoThing : PySem.W.findIn K (.ref aNoThing) "__class__" = some (some (.builtin "object.__class__")))
    (cm_NoThing : PySem.W.mroIn K aNoThing (.type "object") = some true)
    (kv_NoThing : PySem.W.kitOne K (.ref aNoThing) (.type "ValueError") = some true)
    (xm_NoThing : PySem.W.subIn K (.ref aNoThing) (.ref CL) = some true)
    (g_NoLeaning : PySem.W.nsIn K mainGlobals "NoLeaning" = some (some (.ref aNoLeaning)))
    (k_NoLeaning : PySem.W.keepIn K (.ref aNoLeaning) = true)
    (x_NoLeaning : PySem.W.excIn K aNoLeaning [.type "ValueError", .type "Exception", .type "BaseException", .type "object"] "ValueError.__new__" = true)
    (e_NoLeaning : PySem.W.subIn K (.ref aNoLeaning) (.type "BaseException") = some true)
    (t_NoLeaning : PySem.W.typeIn K (.ref aNoLeaning) = some (.type "type"))
    (cg_NoLeaning : PySem.W.findIn K (.ref aNoLeaning) "__getattribute__" = some (some (.builtin "BaseException.__getattribute__")))
    (ck_NoLeaning : PySem.W.findIn K (.ref aNoLeaning) "__getattr__" = some none)
    (cd_NoLeaning : PySem.W.hasDictIn K aNoLeaning = true)
    (ca_NoLeaning : PySem.W.findIn K (.ref aNoLeaning) "__class__" = some (some (.builtin "object.__class__")))
    (cm_NoLeaning : PySem.W.mroIn K aNoLeaning (.type "object") = some true)
    (kv_NoLeaning : PySem.W.kitOne K (.ref aNoLeaning) (.type "ValueError") = some true)
    (xm_NoLeaning : PySem.W.subIn K (.ref aNoLeaning) (.ref CL) = some true)
    (g_BadRow : PySem.W.nsIn K mainGlobals "BadRow" = some (some (.ref aBadRow)))
    (k_BadRow : PySem.W.keepIn K (.ref aBadRow) = true)
    (x_BadRow : PySem.W.excIn K aBadRow [.type "ValueError", .type "Exception", .type "BaseException", .type "object"] "ValueError.__new__" = true)
    (e_BadRow : PySem.W.subIn K (.ref aBadRow) (.type "BaseException") = some true)
    (t_BadRow : PySem.W.typeIn K (.ref aBadRow) = some (.type "type"))
    (cg_BadRow : PySem.W.findIn K (.ref aBadRow) "__getattribute__" = some (some (.builtin "BaseException.__getattribute__")))
    (ck_BadRow : PySem.W.findIn K (.ref aBadRow) "__getattr__" = some none)
    (cd_BadRow : PySem.W.hasDictIn K aBadRow = true)
    (ca_BadRow : PySem.W.findIn K (.ref aBadRow) "__class__" = some (some (.builtin "object.__class__")))
    (cm_BadRow : PySem.W.mroIn K aBadRow (.type "object") = some true)
    (kv_BadRow : PySem.W.kitOne K (.ref aBadRow) (.type "ValueError") = some true)
    (xm_BadRow : PySem.W.subIn K (.ref aBadRow) (.ref CL) = some true)
    (g_NothingDone : PySem.W.nsIn K mainGlobals "NothingDone" = some (some (.ref aNothingDone)))
    (k_NothingDone : PySem.W.keepIn K (.ref aNothingDone) = true)
    (x_NothingDone : PySem.W.excIn K aNothingDone [.type "ValueError", .type "Exception", .type "BaseException", .type "object"] "ValueError.__new__" = true)
    (e_NothingDone : PySem.W.subIn K (.ref aNothingDone) (.type "BaseException") = some true)
    (t_NothingDone : PySem.W.typeIn K (.ref aNothingDone) = some (.type "type"))
    (cg_NothingDone : PySem.W.findIn K (.ref aNothingDone) "__getattribute__" = some (some (.builtin "BaseException.__getattribute__")))
    (ck_NothingDone : PySem.W.findIn K (.ref aNothingDone) "__getattr__" = some none)
    (cd_NothingDone : PySem.W.hasDictIn K aNothingDone = true)
    (ca_NothingDone : PySem.W.findIn K (.ref aNothingDone) "__class__" = some (some (.builtin "object.__class__")))
    (cm_NothingDone : PySem.W.mroIn K aNothingDone (.type "object") = some true)
    (kv_NothingDone : PySem.W.kitOne K (.ref aNothingDone) (.type "ValueError") = some true)
    (xm_NothingDone : PySem.W.subIn K (.ref aNothingDone) (.ref CL) = some true)
    (g_Ring : PySem.W.nsIn K mainGlobals "Ring" = some (some (.ref aRing)))
    (k_Ring : PySem.W.keepIn K (.ref aRing) = true)
    (e_Ring : PySem.W.subIn K (.ref aRing) (.type "BaseException") = some true)
    (t_Ring : PySem.W.typeIn K (.ref aRing) = some (.type "type"))
    (cg_Ring : PySem.W.findIn K (.ref aRing) "__getattribute__" = some (some (.builtin "BaseException.__getattribute__")))
    (ck_Ring : PySem.W.findIn K (.ref aRing) "__getattr__" = some none)
    (cd_Ring : PySem.W.hasDictIn K aRing = true)
    (ca_Ring : PySem.W.findIn K (.ref aRing) "__class__" = some (some (.builtin "object.__class__")))
    (cm_Ring : PySem.W.mroIn K aRing (.type "object") = some true)
    (kv_Ring : PySem.W.kitOne K (.ref aRing) (.type "ValueError") = some true)
    (xm_Ring : PySem.W.subIn K (.ref aRing) (.ref CL) = some true)
    (q_BadName_BadName : PySem.W.kitOne K (.ref aBadName) (.ref aBadName) = some true)
    (q_BadName_Twice : PySem.W.kitOne K (.ref aBadName) (.ref aTwice) = some false)
    (q_BadName_TooMany : PySem.W.kitOne K (.ref aBadName) (.ref aTooMany) = some false)
    (q_BadName_NoThing : PySem.W.kitOne K (.ref aBadName) (.ref aNoThing) = some false)
    (q_BadName_NoLeaning : PySem.W.kitOne K (.ref aBadName) (.ref aNoLeaning) = some false)
    (q_BadName_BadRow : PySem.W.kitOne K (.ref aBadName) (.ref aBadRow) = some false)
    (q_BadName_NothingDone : PySem.W.kitOne K (.ref aBadName) (.ref aNothingDone) = some false)
    (q_BadName_Ring : PySem.W.kitOne K (.ref aBadName) (.ref aRing) = some false)
    (q_Twice_BadName : PySem.W.kitOne K (.ref aTwice) (.ref aBadName) = some false)
    (q_Twice_Twice : PySem.W.kitOne K (.ref aTwice) (.ref aTwice) = some true)
    (q_Twice_TooMany : PySem.W.kitOne K (.ref aTwice) (.ref aTooMany) = some false)
    (q_Twice_NoThing : PySem.W.kitOne K (.ref aTwice) (.ref aNoThing) = some false)
    (q_Twice_NoLeaning : PySem.W.kitOne K (.ref aTwice) (.ref aNoLeaning) = some false)
    (q_Twice_BadRow : PySem.W.kitOne K (.ref aTwice) (.ref aBadRow) = some false)
    (q_Twice_NothingDone : PySem.W.kitOne K (.ref aTwice) (.ref aNothingDone) = some false)
    (q_Twice_Ring : PySem.W.kitOne K (.ref aTwice) (.ref aRing) = some false)
    (q_TooMany_BadName : PySem.W.kitOne K (.ref aTooMany) (.ref aBadName) = some false)
    (q_TooMany_Twice : PySem.W.kitOne K (.ref aTooMany) (.ref aTwice) = some false)
    (q_TooMany_TooMany : PySem.W.kitOne K (.ref aTooMany) (.ref aTooMany) = some true)
    (q_TooMany_NoThing : PySem.W.kitOne K (.ref aTooMany) (.ref aNoThing) = some false)
    (q_TooMany_NoLeaning : PySem.W.kitOne K (.ref aTooMany) (.ref aNoLeaning) = some false)
    (q_TooMany_BadRow : PySem.W.kitOne K (.ref aTooMany) (.ref aBadRow) = some false)
    (q_TooMany_NothingDone : PySem.W.kitOne K (.ref aTooMany) (.ref aNothingDone) = some false)
    (q_TooMany_Ring : PySem.W.kitOne K (.ref aTooMany) (.ref aRing) = some false)
    (q_NoThing_BadName : PySem.W.kitOne K (.ref aNoThing) (.ref aBadName) = some false)
    (q_NoThing_Twice : PySem.W.kitOne K (.ref aNoThing) (.ref aTwice) = some false)
    (q_NoThing_TooMany : PySem.W.kitOne K (.ref aNoThing) (.ref aTooMany) = some false)
    (q_NoThing_NoThing : PySem.W.kitOne K (.ref aNoThing) (.ref aNoThing) = some true)
    (q_NoThing_NoLeaning : PySem.W.kitOne K (.ref aNoThing) (.ref aNoLeaning) = some false)
    (q_NoThing_BadRow : PySem.W.kitOne K (.ref aNoThing) (.ref aBadRow) = some false)
    (q_NoThing_NothingDone : PySem.W.kitOne K (.ref aNoThing) (.ref aNothingDone) = some false)
    (q_NoThing_Ring : PySem.W.kitOne K (.ref aNoThing) (.ref aRing) = some false)
    (q_NoLeaning_BadName : PySem.W.kitOne K (.ref aNoLeaning) (.ref aBadName) = some false)
    (q_NoLeaning_Twice : PySem.W.kitOne K (.ref aNoLeaning) (.ref aTwice) = some false)
    (q_NoLeaning_TooMany : PySem.W.kitOne K (.ref aNoLeaning) (.ref aTooMany) = some false)
    (q_NoLeaning_NoThing : PySem.W.kitOne K (.ref aNoLeaning) (.ref aNoThing) = some false)
    (q_NoLeaning_NoLeaning : PySem.W.kitOne K (.ref aNoLeaning) (.ref aNoLeaning) = some true)
    (q_NoLeaning_BadRow : PySem.W.kitOne K (.ref aNoLeaning) (.ref aBadRow) = some false)
    (q_NoLeaning_NothingDone : PySem.W.kitOne K (.ref aNoLeaning) (.ref aNothingDone) = some false)
    (q_NoLeaning_Ring : PySem.W.kitOne K (.ref aNoLeaning) (.ref aRing) = some false)
    (q_BadRow_BadName : PySem.W.kitOne K (.ref aBadRow) (.ref aBadName) = some false)
    (q_BadRow_Twice : PySem.W.kitOne K (.ref aBadRow) (.ref aTwice) = some false)
    (q_BadRow_TooMany : PySem.W.kitOne K (.ref aBadRow) (.ref aTooMany) = some false)
    (q_BadRow_NoThing : PySem.W.kitOne K (.ref aBadRow) (.ref aNoThing) = some false)
    (q_BadRow_NoLeaning : PySem.W.kitOne K (.ref aBadRow) (.ref aNoLeaning) = some false)
    (q_BadRow_BadRow : PySem.W.kitOne K (.ref aBadRow) (.ref aBadRow) = some true)
    (q_BadRow_NothingDone : PySem.W.kitOne K (.ref aBadRow) (.ref aNothingDone) = some false)
    (q_BadRow_Ring : PySem.W.kitOne K (.ref aBadRow) (.ref aRing) = some false)
    (q_NothingDone_BadName : PySem.W.kitOne K (.ref aNothingDone) (.ref aBadName) = some false)
    (q_NothingDone_Twice : PySem.W.kitOne K (.ref aNothingDone) (.ref aTwice) = some false)
    (q_NothingDone_TooMany : PySem.W.kitOne K (.ref aNothingDone) (.ref aTooMany) = some false)
    (q_NothingDone_NoThing : PySem.W.kitOne K (.ref aNothingDone) (.ref aNoThing) = some false)
    (q_NothingDone_NoLeaning : PySem.W.kitOne K (.ref aNothingDone) (.ref aNoLeaning) = some false)
    (q_NothingDone_BadRow : PySem.W.kitOne K (.ref aNothingDone) (.ref aBadRow) = some false)
    (q_NothingDone_NothingDone : PySem.W.kitOne K (.ref aNothingDone) (.ref aNothingDone) = some true)
    (q_NothingDone_Ring : PySem.W.kitOne K (.ref aNothingDone) (.ref aRing) = some false)
    (q_Ring_BadName : PySem.W.kitOne K (.ref aRing) (.ref aBadName) = some false)
    (q_Ring_Twice : PySem.W.kitOne K (.ref aRing) (.ref aTwice) = some false)
    (q_Ring_TooMany : PySem.W.kitOne K (.ref aRing) (.ref aTooMany) = some false)
    (q_Ring_NoThing : PySem.W.kitOne K (.ref aRing) (.ref aNoThing) = some false)
    (q_Ring_NoLeaning : PySem.W.kitOne K (.ref aRing) (.ref aNoLeaning) = some false)
    (q_Ring_BadRow : PySem.W.kitOne K (.ref aRing) (.ref aBadRow) = some false)
    (q_Ring_NothingDone : PySem.W.kitOne K (.ref aRing) (.ref aNothingDone) = some false)
    (q_Ring_Ring : PySem.W.kitOne K (.ref aRing) (.ref aRing) = some true)
    (rl : K.lookup aRing = some (excClassObj nm q aRing N bs [.ref L, .type "ValueError", .type "Exception", .type "BaseException", .type "object"] true sn sub ab col dd k0 k1 k2 k3 k5 "ValueError.__new__"))
    (rsa : PySem.W.findIn K (.ref aRing) "__setattr__" = some (some (.builtin "object.__setattr__")))
    (noRing : PySem.W.findIn K (.ref aRing) "ring" = some none)
    (iRing : PySem.W.findIn K (.ref aRing) "__init__" = some (some (.ref fRi)))
    (tyRing : PySem.W.typeIn K (.ref fRi) = some (.type "function"))
    (lRi : K.lookup fRi = some ⟨oc, od, .func (PySem.W.fnOf "__init__" "Ring.__init__" (defArgs st) (defBody st) (defScope st) .none kV doc pm an cdv ct), osl⟩)
    (cRi : PySem.W.codeIn K cdv "Ring.__init__" = true) (kRi : PySem.W.keepIn K (.ref fRi) = true)
    (h : ∀ (kV doc pm : Value) (an : Option Addr) (cdv ct : Value) (us : List Value), us.length = (["self", "ring"] : List Str).length → bindArgs (PySem.W.fnOf "__init__" "Ring.__init__" (defArgs st) (defBody st) (defScope st) .none kV doc pm an cdv ct) ⟨us, []⟩ = pure ((["self", "ring"] : List Str).zip us)) : ErrT K mg st where
  CL := CL
  g_LeanError := PySem.W.mg_of KX G g_LeanError
  lrd := ⟨lrd1, lrd2⟩
  linit := linit
  ce := ceOf aBadName aTwice aTooMany aNoThing aNoLeaning aBadRow aNothingDone aRing
  g := forE (PySem.W.mg_of KX G g_BadName) (PySem.W.mg_of KX G g_Twice) (PySem.W.mg_of KX G g_TooMany) (PySem.W.mg_of KX G g_NoThing) (PySem.W.mg_of KX G g_NoLeaning) (PySem.W.mg_of KX G g_BadRow) (PySem.W.mg_of KX G g_NothingDone) (PySem.W.mg_of KX G g_Ring)
  k := forE (k_BadName) (k_Twice) (k_TooMany) (k_NoThing) (k_NoLeaning) (k_BadRow) (k_NothingDone) (k_Ring)
  x := forE (.inr x_BadName) (.inr x_Twice) (.inr x_TooMany) (.inr x_NoThing) (.inr x_NoLeaning) (.inr x_BadRow) (.inr x_NothingDone) (.inl rfl)
  e := forE (e_BadName) (e_Twice) (e_TooMany) (e_NoThing) (e_NoLeaning) (e_BadRow) (e_NothingDone) (e_Ring)
  t := forE (t_BadName) (t_Twice) (t_TooMany) (t_NoThing) (t_NoLeaning) (t_BadRow) (t_NothingDone) (t_Ring)
  c := forE (⟨cg_BadName, ck_BadName, e_BadName, cd_BadName, ca_BadName, hn, ht, cm_BadName⟩) (⟨cg_Twice, ck_Twice, e_Twice, cd_Twice, ca_Twice, hn, ht, cm_Twice⟩) (⟨cg_TooMany, ck_TooMany, e_TooMany, cd_TooMany, ca_TooMany, hn, ht, cm_TooMany⟩) (⟨cg_NoThing, ck_NoThing, e_NoThing, cd_NoThing, ca_NoThing, hn, ht, cm_NoThing⟩) (⟨cg_NoLeaning, ck_NoLeaning, e_NoLeaning, cd_NoLeaning, ca_NoLeaning, hn, ht, cm_NoLeaning⟩) (⟨cg_BadRow, ck_BadRow, e_BadRow, cd_BadRow, ca_BadRow, hn, ht, cm_BadRow⟩) (⟨cg_NothingDone, ck_NothingDone, e_NothingDone, cd_NothingDone, ca_NothingDone, hn, ht, cm_NothingDone⟩) (⟨cg_Ring, ck_Ring, e_Ring, cd_Ring, ca_Ring, hn, ht, cm_Ring⟩)
  kit := forE (forE q_BadName_BadName q_BadName_Twice q_BadName_TooMany q_BadName_NoThing q_BadName_NoLeaning q_BadName_BadRow q_BadName_NothingDone q_BadName_Ring) (forE q_Twice_BadName q_Twice_Twice q_Twice_TooMany q_Twice_NoThing q_Twice_NoLeaning q_Twice_BadRow q_Twice_NothingDone q_Twice_Ring) (forE q_TooMany_BadName q_TooMany_Twice q_TooMany_TooMany q_TooMany_NoThing q_TooMany_NoLeaning q_TooMany_BadRow q_TooMany_NothingDone q_TooMany_Ring) (forE q_NoThing_BadName q_NoThing_Twice q_NoThing_TooMany q_NoThing_NoThing q_NoThing_NoLeaning q_NoThing_BadRow q_NoThing_NothingDone q_NoThing_Ring) (forE q_NoLeaning_BadName q_NoLeaning_Twice q_NoLeaning_TooMany q_NoLeaning_NoThing q_NoLeaning_NoLeaning q_NoLeaning_BadRow q_NoLeaning_NothingDone q_NoLeaning_Ring) (forE q_BadRow_BadName q_BadRow_Twice q_BadRow_TooMany q_BadRow_NoThing q_BadRow_NoLeaning q_BadRow_BadRow q_BadRow_NothingDone q_BadRow_Ring) (forE q_NothingDone_BadName q_NothingDone_Twice q_NothingDone_TooMany q_NothingDone_NoThing q_NothingDone_NoLeaning q_NothingDone_BadRow q_NothingDone_NothingDone q_NothingDone_Ring) (forE q_Ring_BadName q_Ring_Twice q_Ring_TooMany q_Ring_NoThing q_Ring_NoLeaning q_Ring_BadRow q_Ring_NothingDone q_Ring_Ring)
  kitV := forE (kv_BadName) (kv_Twice) (kv_TooMany) (kv_NoThing) (kv_NoLeaning) (kv_BadRow) (kv_NothingDone) (kv_Ring)
  exm := forE (PySem.W.exm_ref xl1 xl2 xl3 xm_BadName) (PySem.W.exm_ref xl1 xl2 xl3 xm_Twice) (PySem.W.exm_ref xl1 xl2 xl3 xm_TooMany) (PySem.W.exm_ref xl1 xl2 xl3 xm_NoThing) (PySem.W.exm_ref xl1 xl2 xl3 xm_NoLeaning) (PySem.W.exm_ref xl1 xl2 xl3 xm_BadRow) (PySem.W.exm_ref xl1 xl2 xl3 xm_NothingDone) (PySem.W.exm_ref xl1 xl2 xl3 xm_Ring)
  oRing := oexc_mk rl rsa e_Ring t_Ring k_Ring
  xfRing := ⟨cg_Ring, ck_Ring, e_Ring, cd_Ring⟩
  noRing := noRing
  fRi := fRi
  iRing := iRing
  tyRing := tyRing
  D := .mk' lRi cRi kRi h
theorem ErrT.xx {K : PySem.W.Frag} {mg : Str → Option Value} {st : Stmt} (R : ErrT K mg st) {e : Er} (h : e ≠ .Ring) : PySem.W.excIn K (R.ce e) [.type "ValueError", .type "Exception", .type "BaseException", .type "object"] "ValueError.__new__" = true :=
  (R.x e).resolve_left h
end Lr

set_option Elab.async false
set_option linter.all false
set_option maxRecDepth 100000
set_option maxHeartbeats 4000000
namespace Lr
open PySem PySem.Spec PyProof.Rows L2

/-! ### values that are a name or no text -/
def NonS (K : PySem.W.Frag) (H : Hp) (x : V) : Prop := ∃ t, TyX K H x t ∧ PySem.W.kitOne K t (.type "str") = some false
def NmV (K : PySem.W.Frag) (H : Hp) (x : V) : Option Str → Prop
  | some n => x = .str n
  | none => NonS K H x
theorem tyOf_same {K : PySem.W.Frag} {H H' : Hp} {x : V} {t : Value} (e : Same H H') (h : TyOf K H x t) : TyOf K H' x t := by
  cases h with
  | non => exact .non
  | bl b => exact .bl b
  | int i => exact .int i
  | str z => exact .str z
  | flt f => exact .flt f
  | lst q => exact .lst (e _ _ q)
  | frz q => exact .frz (e _ _ q)
  | tup q => exact .tup (e _ _ q)
  | dK q => exact .dK (e _ _ q)
  | dT q => exact .dT (e _ _ q)
  | ins q a b c d f => exact .ins (e _ _ q) a b c d f
theorem tyX_same {K : PySem.W.Frag} {H H' : Hp} {x : V} {t : Value} (e : Same H H') (h : TyX K H x t) : TyX K H' x t := by
  cases h with
  | base q => exact .base (tyOf_same e q)
  | byt b => exact .byt b
  | set q => exact .set (e _ _ q)
  | kList a b => exact .kList a b
  | kTuple a b => exact .kTuple a b
  | kDict a b => exact .kDict a b
  | fTuple q => exact .fTuple (e _ _ q)
  | fDict q => exact .fDict (e _ _ q)
theorem NmV.same {K : PySem.W.Frag} {H H' : Hp} {x : V} {nm : Option Str} (e : Same H H') (h : NmV K H x nm) : NmV K H' x nm := by
  cases nm with
  | some n => exact h
  | none => obtain ⟨t, a, b⟩ := h; exact ⟨t, tyX_same e a, b⟩
/-- what isinstance(x, str) tells -/
theorem NmV.isStr {K : PySem.W.Frag} {H : Hp} {x : V} {nm : Option Str} (h : NmV K H x nm) : ∃ t, TyX K H x t ∧ PySem.W.kitOne K t (.type "str") = some nm.isSome := by
  cases nm with
  | some n =>
    cases h
    exact ⟨_, .base (.str n), kit_ty (a := "str") (b := "str") (r := true) (by decide +kernel)⟩
  | none => exact h

/-! ### the fields -/
theorem look1 {f : Str} {v : V} {r : List (Str × V)} : List.lookup f ((f, v) :: r) = some v := by simp [List.lookup]
theorem look2 {f g : Str} {v : V} {r : List (Str × V)} (h : ¬ f = g) : List.lookup f ((g, v) :: r) = List.lookup f r := by
  have e : (f == g) = false := by simpa using h
  simp [List.lookup, e]
theorem putF1 {f : Str} {u v : V} {r : List (Str × V)} : putF f v ((f, u) :: r) = (f, v) :: r := by
  show (if f = f then (f, v) :: r else (f, u) :: putF f v r) = (f, v) :: r
  rw [if_pos rfl]
theorem putF2 {f g : Str} {u v : V} {r : List (Str × V)} (h : ¬ g = f) : putF f v ((g, u) :: r) = (g, u) :: putF f v r := by
  show (if g = f then (g, v) :: r else (g, u) :: putF f v r) = _
  rw [if_neg h]
theorem putF0 {f : Str} {v : V} : putF f v [] = [(f, v)] := rfl

def wF (a b : Addr) : List (Str × V) := [("put_ones", .ref a), ("pairs", .ref b)]
theorem wF_1 {a b : Addr} : (wF a b).lookup ("put_ones" : Str) = some (V.ref a) := look1
theorem wF_2 {a b : Addr} : (wF a b).lookup ("pairs" : Str) = some (V.ref b) := by unfold wF; rw [look2 (by decide +kernel)]; exact look1
theorem wF_no {a b : Addr} {m : Str} (h1 : ¬ m = "put_ones") (h2 : ¬ m = "pairs") : (wF a b).lookup m = none := by unfold wF; rw [look2 h1, look2 h2]; rfl
theorem wF_p1 {a b c : Addr} : putF ("put_ones" : Str) (V.ref c) (wF a b) = wF c b := putF1
theorem wF_p2 {a b c : Addr} : putF ("pairs" : Str) (V.ref c) (wF a b) = wF a c := by unfold wF; rw [putF2 (by decide +kernel), putF1]
theorem wF_0 {a b : Addr} : putF ("pairs" : Str) (V.ref b) (putF ("put_ones" : Str) (V.ref a) []) = wF a b := by rw [putF0, putF2 (by decide +kernel)]; rfl
def rF (a b : Addr) : List (Str × V) := [("web", .ref a), ("order", .ref b)]
theorem rF_1 {a b : Addr} : (rF a b).lookup ("web" : Str) = some (V.ref a) := look1
theorem rF_2 {a b : Addr} : (rF a b).lookup ("order" : Str) = some (V.ref b) := by unfold rF; rw [look2 (by decide +kernel)]; exact look1
theorem rF_no {a b : Addr} {m : Str} (h1 : ¬ m = "web") (h2 : ¬ m = "order") : (rF a b).lookup m = none := by unfold rF; rw [look2 h1, look2 h2]; rfl
theorem rF_p1 {a b c : Addr} : putF ("web" : Str) (V.ref c) (rF a b) = rF c b := putF1
theorem rF_p2 {a b c : Addr} : putF ("order" : Str) (V.ref c) (rF a b) = rF a c := by unfold rF; rw [putF2 (by decide +kernel), putF1]
theorem rF_0 {a b : Addr} : putF ("order" : Str) (V.ref b) (putF ("web" : Str) (V.ref a) []) = rF a b := by rw [putF0, putF2 (by decide +kernel)]; rfl
def lF (a b c : Addr) : List (Str × V) := [("own_row", .ref a), ("past", .ref b), ("coming", .ref c)]
theorem lF_1 {a b c : Addr} : (lF a b c).lookup ("own_row" : Str) = some (V.ref a) := look1
theorem lF_2 {a b c : Addr} : (lF a b c).lookup ("past" : Str) = some (V.ref b) := by unfold lF; rw [look2 (by decide +kernel)]; exact look1
theorem lF_3 {a b c : Addr} : (lF a b c).lookup ("coming" : Str) = some (V.ref c) := by unfold lF; rw [look2 (by decide +kernel), look2 (by decide +kernel)]; exact look1
theorem lF_no {a b c : Addr} {m : Str} (h1 : ¬ m = "own_row") (h2 : ¬ m = "past") (h3 : ¬ m = "coming") : (lF a b c).lookup m = none := by unfold lF; rw [look2 h1, look2 h2, look2 h3]; rfl
theorem lF_p3 {a b c d : Addr} : putF ("coming" : Str) (V.ref d) (lF a b c) = lF a b d := by unfold lF; rw [putF2 (by decide +kernel), putF2 (by decide +kernel), putF1]
theorem lF_0 {a b c : Addr} : putF ("coming" : Str) (V.ref c) (putF ("past" : Str) (V.ref b) (putF ("own_row" : Str) (V.ref a) [])) = lF a b c := by
  rw [putF0, putF2 (by decide +kernel), putF0, putF2 (by decide +kernel), putF2 (by decide +kernel)]; rfl

/-! ### a web, a row -/
structure WebAt (C : Addr) (H : Hp) (w lp lq : Addr) (ns : List Str) (P : Ps) : Prop where
  ob : ∃ dx, H w = some (.ins C dx (wF lp lq))
  pn : H lp = some (.lst (ns.map V.str))
  pq : PL H lq P
  ne : lp ≠ lq
theorem WebAt.nwp {C : Addr} {H : Hp} {w lp lq : Addr} {ns : List Str} {P : Ps} (h : WebAt C H w lp lq ns P) : w ≠ lp := by
  obtain ⟨dx, e⟩ := h.ob
  exact ne_of e h.pn (by intro z; cases z)
theorem WebAt.nwq {C : Addr} {H : Hp} {w lp lq : Addr} {ns : List Str} {P : Ps} (h : WebAt C H w lp lq ns P) : w ≠ lq := by
  obtain ⟨dx, e⟩ := h.ob
  exact ne_of e h.pq.lst (by intro z; cases z)
theorem WebAt.fr {C : Addr} {H H' : Hp} {w lp lq : Addr} {ns : List Str} {P : Ps} {g : List Addr} (h : WebAt C H w lp lq ns P) (e : Fr g H H') (n1 : w ∉ g) (n2 : lp ∉ g) (n3 : lq ∉ g) : WebAt C H' w lp lq ns P := by
  obtain ⟨dx, z⟩ := h.ob
  exact ⟨⟨dx, e.1 _ _ z n1⟩, e.1 _ _ h.pn n2, h.pq.fr e n3, h.ne⟩
theorem WebAt.same {C : Addr} {H H' : Hp} {w lp lq : Addr} {ns : List Str} {P : Ps} (h : WebAt C H w lp lq ns P) (e : Same H H') : WebAt C H' w lp lq ns P :=
  h.fr (g := []) (Fr.of_same e) (fun z => nomatch z) (fun z => nomatch z) (fun z => nomatch z)

/-- a web at w, its own places fp, its names as they were put, its pairs as they were told -/
def WebS (C : Addr) (H : Hp) (w : Addr) (fp : List Addr) (ns : List Str) (ps : List (Str × Str)) : Prop :=
  ∃ lp lq P, fp = [w, lp, lq] ∧ WebAt C H w lp lq ns P ∧ pd P = ps
def RowS (CR CW : Addr) (H : Hp) (r : Addr) (fp : List Addr) (ns : List Str) (ps : List (Str × Str)) (os : List Str) : Prop :=
  ∃ w lo fw dx, fp = r :: lo :: fw ∧ H r = some (.ins CR dx (rF w lo)) ∧ H lo = some (.lst (os.map V.str)) ∧ WebS CW H w fw ns ps ∧ r ∉ fw ∧ lo ∉ fw

section
variable {C CR CW : Addr} {H H' : Hp} {w r : Addr} {fp g : List Addr} {ns os : List Str} {ps : List (Str × Str)}
theorem WebS.fr (h : WebS C H w fp ns ps) (e : Fr g H H') (n : Apart fp g) : WebS C H' w fp ns ps := by
  obtain ⟨lp, lq, P, rfl, a, b⟩ := h
  exact ⟨lp, lq, P, rfl, a.fr e (n w (by simp)) (n lp (by simp)) (n lq (by simp)), b⟩
theorem WebS.same (h : WebS C H w fp ns ps) (e : Same H H') : WebS C H' w fp ns ps := h.fr (g := []) (Fr.of_same e) (fun _ _ z => nomatch z)
theorem WebS.there (h : WebS C H w fp ns ps) {b : Addr} (hb : b ∈ fp) : ∃ o, H b = some o ∧ (∀ xs, o ≠ .tup xs) := by
  obtain ⟨lp, lq, P, rfl, a, _⟩ := h
  obtain ⟨dx, z⟩ := a.ob
  simp only [List.mem_cons, List.not_mem_nil, or_false] at hb
  rcases hb with rfl | rfl | rfl
  · exact ⟨_, z, fun _ q => by cases q⟩
  · exact ⟨_, a.pn, fun _ q => by cases q⟩
  · exact ⟨_, a.pq.lst, fun _ q => by cases q⟩
theorem WebS.old (h : WebS C H w fp ns ps) {b : Addr} (hb : b ∈ fp) : H b ≠ none := by
  obtain ⟨o, e, _⟩ := h.there hb
  rw [e]; exact fun z => nomatch z
theorem RowS.fr (h : RowS CR CW H r fp ns ps os) (e : Fr g H H') (n : Apart fp g) : RowS CR CW H' r fp ns ps os := by
  obtain ⟨w, lo, fw, dx, rfl, a, b, c, d, f⟩ := h
  exact ⟨w, lo, fw, dx, rfl, e.1 _ _ a (n r (by simp)), e.1 _ _ b (n lo (by simp)), c.fr e (fun x hx => n x (by simp [hx])), d, f⟩
theorem RowS.same (h : RowS CR CW H r fp ns ps os) (e : Same H H') : RowS CR CW H' r fp ns ps os := h.fr (g := []) (Fr.of_same e) (fun _ _ z => nomatch z)
theorem RowS.old (h : RowS CR CW H r fp ns ps os) {b : Addr} (hb : b ∈ fp) : H b ≠ none := by
  obtain ⟨w, lo, fw, dx, rfl, a, b', c, d, f⟩ := h
  simp only [List.mem_cons] at hb
  rcases hb with rfl | rfl | hb
  · rw [a]; exact fun z => nomatch z
  · rw [b']; exact fun z => nomatch z
  · exact c.old hb
end
theorem WebS.obj {C : Addr} {H : Hp} {w : Addr} {fp : List Addr} {ns : List Str} {ps : List (Str × Str)} (h : WebS C H w fp ns ps) : ∃ dx lp lq, H w = some (.ins C dx (wF lp lq)) := by
  obtain ⟨lp, lq, P, _, a, _⟩ := h
  obtain ⟨dx, z⟩ := a.ob
  exact ⟨dx, lp, lq, z⟩
theorem RowS.obj {CR CW : Addr} {H : Hp} {r : Addr} {fp : List Addr} {ns os : List Str} {ps : List (Str × Str)} (h : RowS CR CW H r fp ns ps os) : ∃ dx w lo, H r = some (.ins CR dx (rF w lo)) := by
  obtain ⟨w, lo, fw, dx, _, a, _⟩ := h
  exact ⟨dx, w, lo, a⟩
/-- what one changes and makes new stays apart from another's -/
theorem Apart.step {H : Hp} {g g' k : List Addr} (h : Apart g k) (n : Nw g H g') (o : ∀ b ∈ k, H b ≠ none) : Apart g' k := fun b hb hk => by
  rcases n b hb with q | q
  · exact h b q hk
  · exact o b hk q
theorem Apart.symm {g k : List Addr} (h : Apart g k) : Apart k g := fun b hb hk => h b hk hb
theorem Nw.trans {H H1 : Hp} {g g1 g2 : List Addr} (a : Nw g H g1) (b : Nw g1 H1 g2) (e : Fr g H H1) : Nw g H g2 := fun x hx => by
  rcases b x hx with q | q
  · exact a x q
  · by_cases hg : x ∈ g
    · exact .inl hg
    · exact .inr (e.free hg q)
theorem Nw.refl (H : Hp) (g : List Addr) : Nw g H g := fun _ hb => .inl hb
/-! ### names -/
def letters : Str := "abcdefghijklmnopqrstuvwxyz"
def isNm (z : Str) : Bool := decide (1 ≤ z.length) && decide (z.length ≤ 8) && z.cps.toList.all fun c => decide (c ∈ letters.cps.toList)
def inN (nm : Option Str) (ns : List Str) : Bool := match nm with
  | some n => decide (n ∈ ns)
  | none => false
def shortN (nm : Option Str) : Prop := ∀ n, nm = some n → n.length ≤ 1000
/-- why a put is refused -/
def putE (ns : List Str) (nm : Option Str) : Option Er := match nm with
  | none => some .BadName
  | some n => if isNm n = false then some .BadName else if n ∈ ns then some .Twice else if 30 ≤ ns.length then some .TooMany else none
/-- what stays where n is taken -/
def dropP (n : Str) (ps : List (Str × Str)) : List (Str × Str) := ps.filter fun p => decide (n ≠ p.1) && decide (n ≠ p.2)
theorem inV_pair (n a b : Str) : inV (.str n) [V.str a, V.str b] = (decide (n = a) || decide (n = b)) := by
  have h : ([V.str a, V.str b] : List V) = [a, b].map V.str := rfl
  rw [h, inV_str]
  by_cases h1 : n = a <;> by_cases h2 : n = b <;> simp [h1, h2]
theorem hu65_of {A : Around} {k : Nat} (hr : Room k A) : A.units + 65 < cLine := by
  have := hr.un
  omega
end Lr

set_option Elab.async false
set_option linter.all false
set_option maxRecDepth 100000
set_option maxHeartbeats 4000000
namespace Lr
open PySem PySem.Spec PyProof.Rows L2

/-! ### comprehensions whose turns change nothing that stood -/
def gvn (n : Nat) (f : Nat → Bool) (v : Nat → V) : List V := ((List.range n).filter f).map v
theorem gvn_yes {n : Nat} {f : Nat → Bool} {v : Nat → V} (h : f n = true) : gvn (n + 1) f v = gvn n f v ++ [v n] := by
  simp [gvn, List.range_succ, List.filter_append, h]
theorem gvn_no {n : Nat} {f : Nat → Bool} {v : Nat → V} (h : f n = false) : gvn (n + 1) f v = gvn n f v := by
  simp [gvn, List.range_succ, List.filter_append, h]
theorem gvn_len (n : Nat) (f : Nat → Bool) (v : Nat → V) : (gvn n f v).length ≤ n := by
  unfold gvn
  rw [List.length_map]
  have h := List.length_filter_le f (List.range n)
  rw [List.length_range] at h
  exact h
/-- the turn of such a comprehension: what is said of it for any two wishes -/
def LcTurn (g : TG) (tt : TT) (te : TE) (vs : List Nat) (σ : L2.St) (x : V) (H : Hp) (b : Bool) (y : V) : Prop :=
  ∀ (Kn : Hp → Prop) (Ky : V → Hp → Prop), (∀ H2, Same H H2 → b = false → Kn H2) → (∀ H2, Same H H2 → b = true → Ky y H2) →
    g x (wipe σ vs) H fun σ2 H2 => wipe σ2 vs = wipe σ vs ∧ tt σ2 H2 fun c H3 => if c = true then te σ2 H3 Ky else Kn H3
theorem lcW {J : It} {n : Nat} {G : Hp → Prop} {Y : Nat → Hp → V → Hp → Prop} (w : Walk J n G Y) {g : TG} {tt : TT} {te : TE} {vs : List Nat} {σ : L2.St} {H1 : Hp} {D : Addr} {Qd : Hp → Prop}
    (f : Nat → Bool) (v : Nat → V) (hD : H1 D = none) (hn : n ≤ 100000) (hG : ∀ H, Same H1 H → G H)
    (ht : ∀ i x H H', i < n → Same H1 H → Y i H x H' → Same H H' ∧ LcTurn g tt te vs σ x H' (f i) (v i))
    (hd : ∀ H', Same H1 H' → H' D = some (.lst (gvn n f v)) → Qd H') :
    ∃ W : Nat → Nat → Hp → Prop, (∃ m, W 0 m (upd H1 D (.lst []))) ∧ ∀ i m H, W i m H →
      (J.stop i H ∧ Qd H) ∨ (J.go i H ∧ ∃ Nx : Hp → Prop, (∀ H', Nx H' → ∃ m', m' < m ∧ W (i + 1) m' H') ∧ ∀ x H', J.yld i H x H' → g x (wipe σ vs) H' fun σ2 H2 => wipe σ2 vs = wipe σ vs ∧ tt σ2 H2 fun b H3 =>
        if b = true then te σ2 H3 fun y H4 => ∃ acc, H4 D = some (.lst acc) ∧ acc.length < sizeLine ∧ Nx (upd H4 D (.lst (acc ++ [y]))) else Nx H3) := by
  refine lc_it w (fun i H => Same H1 H ∧ H D = some (.lst (gvn i f v))) ⟨Same.new hD, upd_same⟩ (fun i H _ p => hG H p.1) ?_ fun H p => hd H p.1 p.2
  intro i x H H' hi p y
  obtain ⟨e, t⟩ := ht i x H H' hi p.1 y
  refine t (fun H2 => Same H1 H2 ∧ H2 D = some (.lst (gvn (i + 1) f v))) (fun y H4 => ∃ acc, H4 D = some (.lst acc) ∧ acc.length < sizeLine ∧ Same H1 (upd H4 D (.lst (acc ++ [y]))) ∧ upd H4 D (.lst (acc ++ [y])) D = some (.lst (gvn (i + 1) f v))) ?_ ?_
  · intro H2 e2 hb
    exact ⟨(p.1.trans e).trans e2, by rw [gvn_no hb]; exact e2 _ _ (e _ _ p.2)⟩
  · intro H2 e2 hb
    refine ⟨gvn i f v, e2 _ _ (e _ _ p.2), ?_, Same.mut ((p.1.trans e).trans e2) hD, by rw [upd_same, gvn_yes hb]⟩
    have := gvn_len i f v
    exact Nat.lt_of_le_of_lt (Nat.le_trans this (Nat.le_trans (Nat.le_of_lt hi) hn)) (by decide)

theorem gvn_list {α : Type} (F : α → Bool) (Gv : α → V) : ∀ L : List α, gvn L.length (fun i => (L[i]?).elim false F) (fun i => (L[i]?).elim .non Gv) = (L.filter F).map Gv := by
  intro L
  have key : ∀ k, k ≤ L.length → gvn k (fun i => (L[i]?).elim false F) (fun i => (L[i]?).elim .non Gv) = ((L.take k).filter F).map Gv := by
    intro k
    induction k with
    | zero => intro _; simp [gvn]
    | succ k ih =>
      intro hk
      have hlt : k < L.length := hk
      have e : L[k]? = some L[k] := List.getElem?_eq_getElem hlt
      have et : L.take (k + 1) = L.take k ++ [L[k]] := by rw [List.take_succ, e]; rfl
      rw [et, List.filter_append, List.map_append]
      cases hb : F L[k] with
      | true =>
        rw [gvn_yes (by simp [e, hb]), ih (Nat.le_of_lt hlt)]
        simp [e, hb]
      | false =>
        rw [gvn_no (by simp [e, hb]), ih (Nat.le_of_lt hlt)]
        simp [hb]
  have := key L.length (Nat.le_refl _)
  rw [List.take_length] at this
  exact this

/-- over a list of things of one kind -/
theorem lcL {α : Type} (L : List α) (rep : α → V) (F : α → Bool) (Gv : α → V) {Kf : PySem.W.Frag} {a : Addr} {g : TG} {tt : TT} {te : TE} {vs : List Nat} {σ : L2.St} {H1 : Hp} {D : Addr} {Qd : Hp → Prop}
    (src : SqL Kf H1 a (L.map rep)) (hn : L.length ≤ 100000) (hD : H1 D = none)
    (ht : ∀ x ∈ L, ∀ H, Same H1 H → LcTurn g tt te vs σ (rep x) H (F x) (Gv x))
    (hd : ∀ H', Same H1 H' → H' D = some (.lst ((L.filter F).map Gv)) → Qd H') :
    ∃ W : Nat → Nat → Hp → Prop, (∃ m, W 0 m (upd H1 D (.lst []))) ∧ ∀ i m H, W i m H →
      ((Itl Kf a).stop i H ∧ Qd H) ∨ ((Itl Kf a).go i H ∧ ∃ Nx : Hp → Prop, (∀ H', Nx H' → ∃ m', m' < m ∧ W (i + 1) m' H') ∧ ∀ x H', (Itl Kf a).yld i H x H' → g x (wipe σ vs) H' fun σ2 H2 => wipe σ2 vs = wipe σ vs ∧ tt σ2 H2 fun b H3 =>
        if b = true then te σ2 H3 fun y H4 => ∃ acc, H4 D = some (.lst acc) ∧ acc.length < sizeLine ∧ Nx (upd H4 D (.lst (acc ++ [y]))) else Nx H3) := by
  have hl : (L.map rep).length = L.length := by simp
  refine lcW (walk_list (xs := L.map rep)) (fun i => (L[i]?).elim false F) (fun i => (L[i]?).elim .non Gv) hD (by rw [hl]; exact hn) (fun H e => e.seq src) ?_ (fun H' e h => hd H' e (by rw [← gvn_list F Gv L]; rw [hl] at h; exact h))
  intro i x H H' hi e y
  obtain ⟨rfl, hx⟩ := y
  refine ⟨Same.refl _, ?_⟩
  rw [List.getElem?_map] at hx
  cases q : L[i]? with
  | none => rw [q] at hx; cases hx
  | some z =>
    rw [q] at hx
    cases hx
    exact ht z (List.mem_of_getElem? q) _ e
/-- over the signs of a text -/
theorem lcS (z : Str) (F : Nat → Bool) (Gv : Nat → V) {g : TG} {tt : TT} {te : TE} {vs : List Nat} {σ : L2.St} {H1 : Hp} {D : Addr} {Qd : Hp → Prop}
    (hn : z.length ≤ 100000) (hD : H1 D = none)
    (ht : ∀ c ∈ z.cps.toList, ∀ H, Same H1 H → LcTurn g tt te vs σ (.str ⟨#[c]⟩) H (F c) (Gv c))
    (hd : ∀ H', Same H1 H' → H' D = some (.lst ((z.cps.toList.filter F).map Gv)) → Qd H') :
    ∃ W : Nat → Nat → Hp → Prop, (∃ m, W 0 m (upd H1 D (.lst []))) ∧ ∀ i m H, W i m H →
      ((Its z).stop i H ∧ Qd H) ∨ ((Its z).go i H ∧ ∃ Nx : Hp → Prop, (∀ H', Nx H' → ∃ m', m' < m ∧ W (i + 1) m' H') ∧ ∀ x H', (Its z).yld i H x H' → g x (wipe σ vs) H' fun σ2 H2 => wipe σ2 vs = wipe σ vs ∧ tt σ2 H2 fun b H3 =>
        if b = true then te σ2 H3 fun y H4 => ∃ acc, H4 D = some (.lst acc) ∧ acc.length < sizeLine ∧ Nx (upd H4 D (.lst (acc ++ [y]))) else Nx H3) := by
  have hl : z.cps.size = z.cps.toList.length := by simp
  refine lcW (walk_str (z := z)) (fun i => (z.cps.toList[i]?).elim false F) (fun i => (z.cps.toList[i]?).elim .non Gv) hD hn (fun H _ => trivial) ?_ (fun H' e h => hd H' e (by rw [← gvn_list F Gv z.cps.toList]; rw [hl] at h; exact h))
  intro i x H H' hi e y
  obtain ⟨rfl, c, hx, rfl⟩ := y
  refine ⟨Same.refl _, ?_⟩
  have q : z.cps.toList[i]? = some c := by rw [Array.getElem?_toList]; exact hx
  show LcTurn g tt te vs σ (.str ⟨#[c]⟩) _ ((z.cps.toList[i]?).elim false F) ((z.cps.toList[i]?).elim .non Gv)
  rw [q]
  exact ht c (List.mem_of_getElem? q) _ e
/-- over range(n) -/
theorem lcR {n : Nat} (F : Nat → Bool) (Gv : Nat → V) {g : TG} {tt : TT} {te : TE} {vs : List Nat} {σ : L2.St} {H1 : Hp} {D : Addr} {Qd : Hp → Prop}
    (hn : n ≤ 100000) (hD : H1 D = none)
    (ht : ∀ i, i < n → ∀ H, Same H1 H → LcTurn g tt te vs σ (.int (i : Int)) H (F i) (Gv i))
    (hd : ∀ H', Same H1 H' → H' D = some (.lst (((List.range n).filter F).map Gv)) → Qd H') :
    ∃ W : Nat → Nat → Hp → Prop, (∃ m, W 0 m (upd H1 D (.lst []))) ∧ ∀ i m H, W i m H →
      ((Itr 0 n).stop i H ∧ Qd H) ∨ ((Itr 0 n).go i H ∧ ∃ Nx : Hp → Prop, (∀ H', Nx H' → ∃ m', m' < m ∧ W (i + 1) m' H') ∧ ∀ x H', (Itr 0 n).yld i H x H' → g x (wipe σ vs) H' fun σ2 H2 => wipe σ2 vs = wipe σ vs ∧ tt σ2 H2 fun b H3 =>
        if b = true then te σ2 H3 fun y H4 => ∃ acc, H4 D = some (.lst acc) ∧ acc.length < sizeLine ∧ Nx (upd H4 D (.lst (acc ++ [y]))) else Nx H3) := by
  refine lcW (walk_range (lo := 0) (n := n)) F Gv hD hn (fun H _ => trivial) ?_ hd
  intro i x H H' hi e y
  obtain ⟨rfl, hx⟩ := y
  have hx' : x = .int (i : Int) := by rw [hx]; simp
  subst hx'
  exact ⟨Same.refl _, ht i hi _ e⟩
/-- no test -/
theorem filter_true {α : Type} (L : List α) : L.filter (fun _ => true) = L := by simp
end Lr

set_option Elab.async false
set_option linter.all false
set_option maxRecDepth 100000
set_option maxHeartbeats 4000000
namespace Lr
open PySem PySem.Spec PyProof.Rows L2
abbrev Pr := Str × Str
/-! ### a chain, breadth first -/
def cst (x : Str) (path : List Str) (sw : List Str × List (List Str)) (p : Pr) : List Str × List (List Str) :=
  if p.1 = x ∧ p.2 ∉ sw.1 then (sw.1 ++ [p.2], sw.2 ++ [path ++ [p.2]]) else sw
def lst1 (path : List Str) : Str := path.getLastD ""
def cgo (ps : List Pr) (b : Str) : Nat → List Str → List (List Str) → Option (List Str)
  | _, _, [] => none
  | 0, _, _ => none
  | n + 1, seen, path :: rest => if lst1 path = b then some path else
    cgo ps b n (ps.foldl (cst (lst1 path) path) (seen, rest)).1 (ps.foldl (cst (lst1 path) path) (seen, rest)).2
def chainF (ps : List Pr) (a b : Str) : Option (List Str) := cgo ps b (ps.length + 1) [a] [[a]]
/-- pairs whose lower one is not seen yet -/
def unseen (ps : List Pr) (seen : List Str) : Nat := (ps.filter fun p => decide (p.2 ∉ seen)).length
theorem cnt_le {α : Type} (f g : α → Bool) : ∀ (l : List α), (∀ x ∈ l, g x = true → f x = true) → (l.filter g).length ≤ (l.filter f).length
  | [], _ => by simp
  | x :: l, h => by
    have ih := cnt_le f g l fun y hy => h y (List.mem_cons_of_mem _ hy)
    have hx := h x List.mem_cons_self
    rw [List.filter_cons, List.filter_cons]
    cases hg : g x with
    | true =>
      rw [hx hg]
      simp only [if_true, List.length_cons]
      omega
    | false =>
      cases f x <;> simp only [if_true, if_false, Bool.false_eq_true, List.length_cons] <;> omega
theorem cnt_lt {α : Type} (f g : α → Bool) : ∀ (l : List α), (∀ x ∈ l, g x = true → f x = true) → (∃ x ∈ l, f x = true ∧ g x = false) → (l.filter g).length + 1 ≤ (l.filter f).length
  | [], _, ⟨x, hx, _⟩ => by cases hx
  | x :: l, h, ⟨y, hy, h1, h2⟩ => by
    have hl := fun z hz => h z (List.mem_cons_of_mem _ hz)
    have le := cnt_le f g l hl
    rw [List.filter_cons, List.filter_cons]
    rcases List.mem_cons.mp hy with e | e
    · subst e
      rw [h1, h2]
      simp only [if_true, if_false, Bool.false_eq_true, List.length_cons]
      omega
    · have ih := cnt_lt f g l hl ⟨y, e, h1, h2⟩
      have hx := h x List.mem_cons_self
      cases hg : g x with
      | true =>
        rw [hx hg]
        simp only [if_true, List.length_cons]
        omega
      | false =>
        cases f x <;> simp only [if_true, if_false, Bool.false_eq_true, List.length_cons] <;> omega
theorem unseen_push {ps : List Pr} {seen : List Str} {h x : Str} (hp : (h, x) ∈ ps) (hx : x ∉ seen) : unseen ps (seen ++ [x]) + 1 ≤ unseen ps seen := by
  refine cnt_lt _ _ ps (fun p _ hq => ?_) ⟨(h, x), hp, decide_eq_true hx, ?_⟩
  · have hq' := of_decide_eq_true hq
    exact decide_eq_true fun z => hq' (List.mem_append_left _ z)
  · exact decide_eq_false fun z => z (List.mem_append_right _ (List.mem_singleton.mpr rfl))
/-- what holds at each turn of the search -/
structure CI (ps : List Pr) (fuel : Nat) (seen : List Str) (ws : List (List Str)) : Prop where
  m : ws.length + unseen ps seen ≤ fuel
  f : fuel ≤ ps.length + 1
  s : seen.length + unseen ps seen ≤ ps.length + 1
  w : ∀ p ∈ ws, p ≠ [] ∧ p.length ≤ seen.length
theorem CI.start (ps : List Pr) (a : Str) : CI ps (ps.length + 1) [a] [[a]] := by
  have h : unseen ps [a] ≤ ps.length := List.length_filter_le _ _
  refine ⟨by simp only [List.length_cons, List.length_nil]; omega, Nat.le_refl _, by simp only [List.length_cons, List.length_nil]; omega, fun p hp => ?_⟩
  rw [List.mem_singleton] at hp
  subst hp
  exact ⟨by simp, by simp⟩
/-- one pair of the inner loop -/
theorem CI.step {ps : List Pr} {fuel : Nat} {sw : List Str × List (List Str)} {path : List Str} {x : Str} {p : Pr} (h : CI ps fuel sw.1 sw.2) (hp : p ∈ ps) (hl : path.length ≤ sw.1.length) :
    CI ps fuel (cst x path sw p).1 (cst x path sw p).2 ∧ path.length ≤ (cst x path sw p).1.length := by
  unfold cst
  by_cases c : p.1 = x ∧ p.2 ∉ sw.1
  · rw [if_pos c]
    have q := unseen_push (h := p.1) (x := p.2) hp c.2
    obtain ⟨h1, h2, h3, h4⟩ := h
    refine ⟨⟨by simp only [List.length_append, List.length_singleton]; omega, h2, by simp only [List.length_append, List.length_singleton]; omega, fun z hz => ?_⟩, by simp only [List.length_append, List.length_singleton]; omega⟩
    rcases List.mem_append.mp hz with hz | hz
    · exact ⟨(h4 z hz).1, by have := (h4 z hz).2; simp only [List.length_append, List.length_singleton]; omega⟩
    · rw [List.mem_singleton] at hz
      subst hz
      exact ⟨by simp, by simp only [List.length_append, List.length_singleton]; omega⟩
  · rw [if_neg c]
    exact ⟨h, hl⟩
theorem CI.pop {ps : List Pr} {fuel : Nat} {seen : List Str} {path : List Str} {ws : List (List Str)} (h : CI ps fuel seen (path :: ws)) : 1 ≤ fuel ∧ CI ps (fuel - 1) seen ws := by
  obtain ⟨h1, h2, h3, h4⟩ := h
  simp only [List.length_cons] at h1
  exact ⟨by omega, ⟨by omega, by omega, h3, fun p hp => h4 p (List.mem_cons_of_mem _ hp)⟩⟩
theorem cgo_turn {ps : List Pr} {b : Str} {fuel : Nat} {seen : List Str} {path : List Str} {ws : List (List Str)} (hf : 1 ≤ fuel) :
    cgo ps b fuel seen (path :: ws) = if lst1 path = b then some path else cgo ps b (fuel - 1) (ps.foldl (cst (lst1 path) path) (seen, ws)).1 (ps.foldl (cst (lst1 path) path) (seen, ws)).2 := by
  cases fuel with
  | zero => omega
  | succ k => rfl
theorem cgo_nil {ps : List Pr} {b : Str} {fuel : Nat} {seen : List Str} : cgo ps b fuel seen [] = none := by
  cases fuel <;> rfl
theorem take_step {α β : Type} (f : β → α → β) (b : β) {xs : List α} {i : Nat} {x : α} (h : xs[i]? = some x) : (xs.take (i + 1)).foldl f b = f ((xs.take i).foldl f b) x := by
  have hlt := (List.getElem?_eq_some_iff.mp h).1
  rw [List.take_succ, h]
  simp [List.foldl_append]

/-! ### a list of lists of texts; a dict of the seen -/
abbrev Ls := List (Addr × List Str)
structure LL (H : Hp) (l : Addr) (W : Ls) : Prop where
  lst : H l = some (.lst (W.map fun q => V.ref q.1))
  each : ∀ q ∈ W, H q.1 = some (.lst (q.2.map V.str))
def kSeen (seen : List Str) : List (Key × V) := seen.map fun z => ((Sum.inr z : Key), V.bl true)
theorem valV_seen (seen : List Str) (x : Str) : valV (kSeen seen) (Sum.inr x : Key) = if x ∈ seen then some (.bl true) else none := by
  unfold valV kSeen
  induction seen with
  | nil => simp
  | cons s seen ih =>
    rw [List.map_cons, List.find?_cons]
    by_cases h : s = x
    · subst h; simp
    · have h1 : decide (((Sum.inr s : Key)) = Sum.inr x) = false := decide_eq_false (fun z => h (Sum.inr.inj z))
      have h2 : ¬ x = s := fun z => h z.symm
      simp only [h1]
      rw [ih]
      simp [h2]
theorem put_seen {seen : List Str} {x : Str} (h : x ∉ seen) : putK (kSeen seen) (Sum.inr x : Key) (.bl true) = kSeen (seen ++ [x]) := by
  rw [putK_new _ (by rw [valV_seen, if_neg h])]
  simp [kSeen]
def lD (xs : List Str) : PyData := .list (xs.map sD)
theorem dpAll_lists {K : PySem.W.Frag} {H : Hp} : ∀ W : Ls, (∀ q ∈ W, H q.1 = some (.lst (q.2.map V.str))) → DpAll K H (W.map fun q => V.ref q.1) (W.map fun q => lD q.2)
  | [], _ => .nil
  | q :: W, h => .cons (dp_strs (SqL.of (h q List.mem_cons_self))) (dpAll_lists W fun q' hq => h q' (List.mem_cons_of_mem _ hq))
theorem dp_lists {K : PySem.W.Frag} {H : Hp} {l : Addr} {W : Ls} (h : LL H l W) : Dp K H (.ref l) (.list (W.map fun q => lD q.2)) := .lst (SqL.of h.lst) (dpAll_lists W h.each)
theorem dp_empty {K : PySem.W.Frag} {H : Hp} {l : Addr} (h : H l = some (.lst [])) : Dp K H (.ref l) (.list []) := .lst (SqL.of h) .nil
theorem lists_plain (W : Ls) : PyData.plain (.list (W.map fun q => lD q.2)) = true := by
  simp only [PyData.plain]
  exact plain_of (fun q : Addr × List Str => lD q.2) (fun q => strs_plain q.2) W
theorem eqv_empty (xs : List PyData) : PyData.eqv (.list xs) (.list []) = xs.isEmpty := by
  cases xs <;> simp [PyData.eqv, PyData.eqvAll]
theorem empty_plain : PyData.plain (.list []) = true := by simp [PyData.plain, PyData.plainAll]
theorem empty_depth : PyData.depth (.list []) ≤ 1 := by simp [PyData.depth, PyData.depthAll]
theorem atI_lastD {path : List Str} (h : path ≠ []) : atI (path.map V.str) (-1) = some (.str (lst1 path)) := by
  have hl : 0 < path.length := List.length_pos_iff.mpr h
  unfold atI ixN
  rw [if_neg (by omega), if_pos (by rw [List.length_map]; omega)]
  simp only [List.length_map, Option.bind_some]
  have e : ((-1 : Int) + (path.length : Int)).toNat = path.length - 1 := by omega
  rw [e, List.getElem?_map, lst1]
  rw [List.getLastD_eq_getLast?, List.getLast?_eq_getElem?]
  cases q : path[path.length - 1]? with
  | none => rw [List.getElem?_eq_none_iff] at q; omega
  | some z => rfl
theorem cut_last (xs : List Str) : cutV (xs.map V.str) none (some (-1)) = (xs.dropLast).map V.str := by
  unfold cutV
  rw [List.dropLast_eq_take]
  have e0 : HT.sIx (xs.map V.str).length 0 none = 0 := by simp [HT.sIx]
  have e1 : HT.sIx (xs.map V.str).length (xs.map V.str).length (some (-1)) = (xs.map V.str).length - 1 := by
    simp [HT.sIx]
    omega
  rw [e0, e1]
  simp
theorem cgo_len {ps : List Pr} {b : Str} : ∀ (fuel : Nat) (seen : List Str) (ws : List (List Str)) (c : List Str), CI ps fuel seen ws → cgo ps b fuel seen ws = some c → c.length ≤ ps.length + 1
  | fuel, seen, [], c, _, h => by rw [cgo_nil] at h; cases h
  | 0, seen, path :: ws, c, ci, h => by cases h
  | fuel + 1, seen, path :: ws, c, ci, h => by
    have h' : (if lst1 path = b then some path else cgo ps b fuel (ps.foldl (cst (lst1 path) path) (seen, ws)).1 (ps.foldl (cst (lst1 path) path) (seen, ws)).2) = some c := h
    have hp := ci.w path List.mem_cons_self
    have hs := ci.s
    by_cases e : lst1 path = b
    · rw [if_pos e] at h'
      cases h'
      omega
    · rw [if_neg e] at h'
      have key : ∀ k, k ≤ ps.length → CI ps fuel ((ps.take k).foldl (cst (lst1 path) path) (seen, ws)).1 ((ps.take k).foldl (cst (lst1 path) path) (seen, ws)).2 ∧ path.length ≤ ((ps.take k).foldl (cst (lst1 path) path) (seen, ws)).1.length := by
        intro k
        induction k with
        | zero => intro _; exact ⟨ci.pop.2, hp.2⟩
        | succ k ih =>
          intro hk
          obtain ⟨i1, i2⟩ := ih (by omega)
          have hx : ps[k]? = some ps[k] := List.getElem?_eq_getElem (by omega)
          rw [take_step _ _ hx]
          exact CI.step i1 (List.mem_of_getElem? hx) i2
      have z := (key ps.length (Nat.le_refl _)).1
      rw [List.take_length] at z
      exact cgo_len fuel _ _ c z h'
theorem chainF_len {ps : List Pr} {a b : Str} {c : List Str} (hp : ps.length ≤ 10000) (h : chainF ps a b = some c) : c.length ≤ 20000 := by
  have := cgo_len _ _ _ c (CI.start ps a) h
  omega
end Lr

set_option Elab.async false
set_option linter.all false
set_option maxRecDepth 100000
set_option maxHeartbeats 4000000
namespace Lr
open PySem PySem.Spec PyProof.Rows L2
/-! ### where a text stands in a list -/
theorem idx_lt {ns : List Str} {n : Str} (h : n ∈ ns) : ns.idxOf n < ns.length := List.idxOf_lt_length_iff.mpr h
theorem idx_at {ns : List Str} {n : Str} (h : n ∈ ns) : (ns.map V.str)[ns.idxOf n]? = some (V.str n) := by
  rw [List.getElem?_map, List.getElem?_eq_getElem (idx_lt h), List.getElem_idxOf]
  rfl
theorem idx_first {n : Str} : ∀ (ns : List Str) (m : Nat), m < ns.idxOf n → ns[m]? ≠ some n
  | [], m, h => by simp at h
  | y :: ys, m, h => by
    rw [List.idxOf_cons] at h
    by_cases e : y = n
    · subst e; simp at h
    · have e' : (y == n) = false := by simpa using e
      rw [e'] at h
      cases m with
      | zero => intro z; exact e (Option.some.inj z)
      | succ m =>
        have h' : m < ys.idxOf n := by simpa using h
        intro z
        exact idx_first ys m h' z
theorem idx_no {ns : List Str} {n : Str} : ∀ (m : Nat) (z : V), m < ns.idxOf n → (ns.map V.str)[m]? = some z → eqV z (.str n) = false := by
  intro m z hm hz
  rw [List.getElem?_map] at hz
  cases q : ns[m]? with
  | none => rw [q] at hz; cases hz
  | some y =>
    rw [q] at hz
    cases hz
    show (y == n) = false
    rw [beq_eq_false_iff_ne]
    intro e
    subst e
    exact idx_first ns m hm q
theorem eqV_self (n : Str) : eqV (.str n) (.str n) = true := by show (n == n) = true; simp

/-! ### the row behind a leaning -/
def cutS (os : List Str) (f l : Nat) : List Str := (os.drop f).take (l + 1 - f)
theorem cut_cutS {os : List Str} {f l : Nat} (hf : f ≤ os.length) (hl : l < os.length) : cutV (os.map V.str) (some (f : Int)) (some ((l : Int) + 1)) = (cutS os f l).map V.str := by
  unfold cutV cutS
  have e1 : HT.sIx (os.map V.str).length 0 (some (f : Int)) = f := by rw [HT.sIx_nat, List.length_map]; omega
  have e2 : HT.sIx (os.map V.str).length (os.map V.str).length (some ((l : Int) + 1)) = l + 1 := by
    have : ((l : Int) + 1) = ((l + 1 : Nat) : Int) := by omega
    rw [this, HT.sIx_nat, List.length_map]; omega
  rw [e1, e2]
  simp
def leadersF (ps : List Pr) (st : List Str) (m : Str) : List Str := st.filter fun o => (chainF ps m o).isSome
def followersF (ps : List Pr) (st : List Str) (n : Str) : List Str := st.filter fun o => (chainF ps o n).isSome
def placesF (os moved : List Str) : List Nat := (List.range os.length).filter fun i => decide (os.getD i "" ∈ moved)
def fillF (os moved : List Str) : List Str := ((placesF os moved).zip moved).foldl (fun acc p => acc.set p.1 p.2) os
/-- those that moved, the row behind it: n is told to lean on m, ps with the new leaning -/
def rowLean (ps : List Pr) (os : List Str) (n m : Str) : List Str × List Str :=
  if os.idxOf m < os.idxOf n then ([], os) else
  (leadersF ps (cutS os (os.idxOf n) (os.idxOf m)) m ++ followersF ps (cutS os (os.idxOf n) (os.idxOf m)) n,
    fillF os (leadersF ps (cutS os (os.idxOf n) (os.idxOf m)) m ++ followersF ps (cutS os (os.idxOf n) (os.idxOf m)) n))
theorem cutS_mem {os : List Str} {f l : Nat} {o : Str} (h : o ∈ cutS os f l) : o ∈ os := List.mem_of_mem_drop (List.mem_of_mem_take h)
theorem zip_getElem? {α β : Type} {xs : List α} {ys : List β} {i : Nat} {x : α} {y : β} (hx : xs[i]? = some x) (hy : ys[i]? = some y) : (xs.zip ys)[i]? = some (x, y) := by
  rw [List.getElem?_zip_eq_some]
  exact ⟨hx, hy⟩
theorem set_str (os : List Str) (i : Nat) (z : Str) : (os.map V.str).set i (.str z) = (os.set i z).map V.str := by rw [List.map_set]
theorem fold_set_length (l : List (Nat × Str)) (os : List Str) : (l.foldl (fun acc p => acc.set p.1 p.2) os).length = os.length := by
  induction l generalizing os with
  | nil => rfl
  | cons p l ih => rw [List.foldl_cons, ih, List.length_set]
theorem ixN_nat' {n j : Nat} (hj : j < n) : ixN n (j : Int) = some j := by
  unfold ixN
  rw [if_pos (by omega), if_pos (by omega)]
  simp
end Lr

set_option Elab.async false
set_option linter.all false
set_option maxRecDepth 100000
set_option maxHeartbeats 4000000
namespace Lr
open PySem PySem.Spec PyProof.Rows L2
/-! ### what is kept of a row, a log -/
def KeptAt (H : Hp) (t : Addr) (ls : List Addr) (ns : List Str) (ps : List (Str × Str)) (os : List Str) : Prop :=
  ∃ l1 l2 l3 P, ls = [t, l1, l2, l3] ∧ H t = some (.tup [.ref l1, .ref l2, .ref l3]) ∧ H l1 = some (.lst (ns.map V.str)) ∧ PL H l2 P ∧ pd P = ps ∧ H l3 = some (.lst (os.map V.str))
theorem KeptAt.fr {H H' : Hp} {t : Addr} {ls g : List Addr} {ns os : List Str} {ps : List (Str × Str)} (h : KeptAt H t ls ns ps os) (e : Fr g H H') (n : Apart ls g) : KeptAt H' t ls ns ps os := by
  obtain ⟨l1, l2, l3, P, rfl, a, b, c, d, f⟩ := h
  exact ⟨l1, l2, l3, P, rfl, e.2 _ _ a, e.1 _ _ b (n l1 (by simp)), c.fr e (n l2 (by simp)), d, e.1 _ _ f (n l3 (by simp))⟩
theorem KeptAt.same {H H' : Hp} {t : Addr} {ls : List Addr} {ns os : List Str} {ps : List (Str × Str)} (h : KeptAt H t ls ns ps os) (e : Same H H') : KeptAt H' t ls ns ps os := h.fr (g := []) (Fr.of_same e) (fun _ _ z => nomatch z)
/-- a log at a: its row, the values kept in past and coming -/
def LogS (CL CR CW : Addr) (H : Hp) (a : Addr) (fp : List Addr) (ns : List Str) (ps : List (Str × Str)) (os : List Str) (kp kc : List V) : Prop :=
  ∃ r lp lc fr dx, fp = a :: lp :: lc :: fr ∧ H a = some (.ins CL dx (lF r lp lc)) ∧ H lp = some (.lst kp) ∧ H lc = some (.lst kc) ∧ RowS CR CW H r fr ns ps os ∧ a ∉ fr ∧ lp ∉ fr ∧ lc ∉ fr ∧ lp ≠ lc
section
variable {CL CR CW : Addr} {H H' : Hp} {a : Addr} {fp g : List Addr} {ns os : List Str} {ps : List (Str × Str)} {kp kc : List V}
theorem LogS.fr (h : LogS CL CR CW H a fp ns ps os kp kc) (e : Fr g H H') (n : Apart fp g) : LogS CL CR CW H' a fp ns ps os kp kc := by
  obtain ⟨r, lp, lc, fr, dx, rfl, x, b, c, d, f⟩ := h
  exact ⟨r, lp, lc, fr, dx, rfl, e.1 _ _ x (n a (by simp)), e.1 _ _ b (n lp (by simp)), e.1 _ _ c (n lc (by simp)), d.fr e (fun x hx => n x (by simp [hx])), f⟩
theorem LogS.same (h : LogS CL CR CW H a fp ns ps os kp kc) (e : Same H H') : LogS CL CR CW H' a fp ns ps os kp kc := h.fr (g := []) (Fr.of_same e) (fun _ _ z => nomatch z)
theorem LogS.old (h : LogS CL CR CW H a fp ns ps os kp kc) {b : Addr} (hb : b ∈ fp) : H b ≠ none := by
  obtain ⟨r, lp, lc, fr, dx, rfl, x, y, c, d, f⟩ := h
  simp only [List.mem_cons] at hb
  rcases hb with rfl | rfl | rfl | hb
  · rw [x]; exact fun z => nomatch z
  · rw [y]; exact fun z => nomatch z
  · rw [c]; exact fun z => nomatch z
  · exact d.old hb
theorem LogS.obj (h : LogS CL CR CW H a fp ns ps os kp kc) : ∃ dx r lp lc, H a = some (.ins CL dx (lF r lp lc)) := by
  obtain ⟨r, lp, lc, fr, dx, rfl, x, _⟩ := h
  exact ⟨dx, r, lp, lc, x⟩
end
end Lr

set_option Elab.async false
set_option linter.all false
set_option maxRecDepth 100000
set_option maxHeartbeats 4000000
namespace Lr
open PySem PySem.Spec PyProof.Rows L2
/-! ### texts of letters -/
abbrev lets : List Nat := letters.cps.toList
theorem lets_len : lets.length = 26 := by decide +kernel
theorem let_at {i : Int} (h0 : 0 ≤ i) (h1 : i < 26) : ∃ c, letters.cps[i.toNat]? = some c ∧ c ∈ lets := by
  have hl : i.toNat < letters.cps.size := by
    have : letters.cps.size = 26 := by decide +kernel
    omega
  exact ⟨letters.cps[i.toNat], by simp [hl], by simp [lets]⟩
/-- the letter at a place -/
def letC (i : Int) : Nat := (letters.cps[(i % 26).toNat]?).getD 0
theorem letC_at (i : Int) : letters.cps[(i % 26).toNat]? = some (letC i) ∧ letC i ∈ lets := by
  obtain ⟨c, a, b⟩ := let_at (i := i % 26) (by omega) (by omega)
  unfold letC
  rw [a]
  exact ⟨rfl, b⟩
def AllL (z : Str) : Prop := ∀ c ∈ z.cps.toList, c ∈ lets
theorem isNm_of {z : Str} (h : AllL z) (h1 : 1 ≤ z.length) (h8 : z.length ≤ 8) : isNm z = true := by
  unfold isNm
  rw [decide_eq_true h1, decide_eq_true h8]
  simp only [Bool.true_and, List.all_eq_true]
  intro c hc
  exact decide_eq_true (h c hc)
theorem isNm_len {z : Str} (h : isNm z = true) : z.length ≤ 8 := by
  unfold isNm at h
  simp only [Bool.and_eq_true, decide_eq_true_eq] at h
  exact h.1.2
theorem allL_one (i : Int) : AllL ⟨#[letC i]⟩ := fun c hc => by
  have : c = letC i := by simpa using hc
  rw [this]; exact (letC_at i).2
theorem allL_cut {z : Str} {lo hi : Option Int} (h : AllL z) : AllL (L2.cutS z lo hi) := fun c hc => by
  have : c ∈ (z.cps.toList.drop (HT.sIx z.length 0 lo)).take (HT.sIx z.length z.length hi - HT.sIx z.length 0 lo) := by
    simpa [L2.cutS] using hc
  exact h c (List.mem_of_mem_drop (List.mem_of_mem_take this))
theorem allL_cat {y z : Str} (hy : AllL y) (hz : AllL z) : AllL (y ++ z) := fun c hc => by
  have e : (y ++ z).cps.toList = y.cps.toList ++ z.cps.toList := TL.tl_append y z
  rw [e, List.mem_append] at hc
  exact hc.elim (hy c) (hz c)
theorem len_cat (y z : Str) : (y ++ z).length = y.length + z.length := by
  have e : (y ++ z).cps.toList = y.cps.toList ++ z.cps.toList := TL.tl_append y z
  have := congrArg List.length e
  rw [List.length_append, Array.length_toList, Array.length_toList, Array.length_toList] at this
  exact this
theorem len_cut {z : Str} {lo hi : Option Int} : (L2.cutS z lo hi).length = min (HT.sIx z.length z.length hi - HT.sIx z.length 0 lo) (z.length - HT.sIx z.length 0 lo) := by
  show (((z.cps.toList.drop (HT.sIx z.length 0 lo)).take (HT.sIx z.length z.length hi - HT.sIx z.length 0 lo)).toArray).size = _
  rw [List.size_toArray, List.length_take, List.length_drop, Array.length_toList]
  rfl
theorem joinL_nil : ∀ ys : List (List Nat), TL.joinL [] ys = ys.flatten
  | [] => rfl
  | [p] => by simp [TL.joinL]
  | p :: q :: r => by
    show p ++ ([] ++ TL.joinL [] (q :: r)) = _
    rw [joinL_nil (q :: r)]; simp
theorem flat_ones : ∀ cs : List Nat, (cs.map fun c => [c]).flatten = cs
  | [] => rfl
  | c :: r => by
    show [c] ++ (r.map fun c => [c]).flatten = c :: r
    rw [flat_ones r]; rfl
theorem join_ones (cs : List Nat) : Txt.join "" (cs.map fun c => (⟨#[c]⟩ : Str)) = (⟨cs.toArray⟩ : Str) := by
  have h := SX.join_S [] (cs.map fun c => [c])
  rw [joinL_nil] at h
  have e1 : (cs.map fun c => [c]).map SX.S = cs.map fun c => (⟨#[c]⟩ : Str) := by rw [List.map_map]; rfl
  have e2 : (cs.map fun c => [c]).flatten = cs := flat_ones cs
  rw [e1, e2] at h
  exact h
/-- the row of eight letters -/
def row8 (num : Int) : Str := ⟨((List.range 8).map fun j : Nat => letC (num / 8 + 5 * (j : Int))).toArray⟩
theorem row8_len (num : Int) : (row8 num).length = 8 := rfl
theorem row8_all (num : Int) : AllL (row8 num) := fun c hc => by
  have h : c ∈ (List.range 8).map fun j : Nat => letC (num / 8 + 5 * (j : Int)) := by simpa [row8] using hc
  obtain ⟨j, _, rfl⟩ := List.mem_map.mp h
  exact (letC_at _).2
theorem row8_join (num : Int) : Txt.join "" ((List.range 8).map fun j : Nat => (⟨#[letC (num / 8 + 5 * (j : Int))]⟩ : Str)) = row8 num := by
  have h := join_ones ((List.range 8).map fun j : Nat => letC (num / 8 + 5 * (j : Int)))
  rw [List.map_map] at h
  exact h
theorem row8_fit (num : Int) : ((((List.range 8).map fun j : Nat => (⟨#[letC (num / 8 + 5 * (j : Int))]⟩ : Str)).map (·.length)).sum + ((List.range 8).map fun j : Nat => (⟨#[letC (num / 8 + 5 * (j : Int))]⟩ : Str)).length * ("" : Str).length) ≤ 16777216 := by
  show 8 + 8 * 0 ≤ 16777216
  decide
/-- no name of the law's is one of its odd words -/
def oddFree (n : Str) : Prop := n ≠ "nothing" ∧ n ≠ "zzzzzzz"
theorem letC_val (i : Int) : letC i = 97 + (i % 26).toNat := by
  have key : ∀ k : Nat, k < 26 → (letters.cps[k]?).getD 0 = 97 + k := by decide +kernel
  exact key _ (by omega)
theorem odd_of {n : Str} {i : Int} {k : Nat} (hk : k = 0 ∨ k = 5) (h1 : n.cps.toList[k]? = some (letC i)) (h2 : n.cps.toList[k + 1]? = some (letC (i + 5))) : oddFree n := by
  rw [letC_val] at h1 h2
  constructor
  · rintro rfl
    have e : ("nothing" : Str).cps.toList = [110, 111, 116, 104, 105, 110, 103] := by decide +kernel
    rw [e] at h1 h2
    rcases hk with rfl | rfl <;> simp at h1 h2 <;> omega
  · rintro rfl
    have e : ("zzzzzzz" : Str).cps.toList = [122, 122, 122, 122, 122, 122, 122] := by decide +kernel
    rw [e] at h1 h2
    rcases hk with rfl | rfl <;> simp at h1 h2 <;> omega
theorem odd_len {n : Str} (h : n.length ≠ 7) : oddFree n := by
  constructor
  · rintro rfl; exact h (by decide +kernel)
  · rintro rfl; exact h (by decide +kernel)
theorem cut_tl (z : Str) (lo hi : Option Int) : (L2.cutS z lo hi).cps.toList = (z.cps.toList.drop (HT.sIx z.length 0 lo)).take (HT.sIx z.length z.length hi - HT.sIx z.length 0 lo) := by
  simp [L2.cutS]
theorem cut_at {z : Str} {lo hi : Option Int} {k : Nat} (h : k < HT.sIx z.length z.length hi - HT.sIx z.length 0 lo) : (L2.cutS z lo hi).cps.toList[k]? = z.cps.toList[HT.sIx z.length 0 lo + k]? := by
  rw [cut_tl, List.getElem?_take, if_pos h, List.getElem?_drop]
theorem row8_at (num : Int) {j : Nat} (h : j < 8) : (row8 num).cps.toList[j]? = some (letC (num / 8 + 5 * (j : Int))) := by
  have e : (row8 num).cps.toList = (List.range 8).map fun j : Nat => letC (num / 8 + 5 * (j : Int)) := by simp [row8]
  rw [e, List.getElem?_map, List.getElem?_range h]; rfl
theorem row8_at' (num : Int) {j : Nat} (h : j + 1 < 8) : (row8 num).cps.toList[j + 1]? = some (letC (num / 8 + 5 * (j : Int) + 5)) := by
  rw [row8_at num h]
  congr 2
  push_cast
  omega
theorem cat_tl (y z : Str) : (y ++ z).cps.toList = y.cps.toList ++ z.cps.toList := TL.tl_append y z
/-- names as the law makes them -/
def NsOk (ns : List Str) (many : Nat) : Prop := ns.length = many ∧ (∀ n ∈ ns, isNm n = true) ∧ ∀ n ∈ ns, oddFree n
theorem nsPre (num : Int) {many : Nat} (h : many < 9) : NsOk ((List.range many).map fun k : Nat => L2.cutS (row8 num) none (some ((k : Int) + 1))) many := by
  have key : ∀ k : Nat, k < many → (L2.cutS (row8 num) none (some ((k : Int) + 1))).length = k + 1 := fun k hk' => by
    have e : ((k : Int) + 1) = ((k + 1 : Nat) : Int) := by omega
    rw [len_cut, row8_len, e, HT.sIx_nat, HT.sIx_none]; omega
  refine ⟨by simp, fun n hn => ?_, fun n hn => ?_⟩
  · obtain ⟨k, hk, rfl⟩ := List.mem_map.mp hn
    have hk' : k < many := List.mem_range.mp hk
    have hl := key k hk'
    exact isNm_of (allL_cut (row8_all num)) (by omega) (by omega)
  · obtain ⟨k, hk, rfl⟩ := List.mem_map.mp hn
    have hk' : k < many := List.mem_range.mp hk
    have hl := key k hk'
    by_cases c : k = 6
    · subst c
      have e : (((6 : Nat) : Int) + 1) = ((7 : Nat) : Int) := rfl
      have q : ∀ j, j < 7 → (L2.cutS (row8 num) none (some (((6 : Nat) : Int) + 1))).cps.toList[j]? = (row8 num).cps.toList[j]? := fun j hj => by
        rw [cut_at (by rw [row8_len, e, HT.sIx_nat, HT.sIx_none]; omega), HT.sIx_none, Nat.zero_add]
      exact odd_of (i := num / 8 + 5 * ((5 : Nat) : Int)) (.inr rfl) (by rw [q 5 (by decide), row8_at num (by decide)]) (by rw [q 6 (by decide), row8_at' num (by decide)])
    · exact odd_len (by omega)
theorem nsMid (num : Int) {at' size : Int} (h0 : 0 ≤ at') (h1 : at' ≤ size) (h2 : size < 8) (signs : List Str) (hs : ∀ z ∈ signs, AllL z ∧ z.length = 1) :
    NsOk (signs.map fun z => L2.cutS (row8 num) none (some at') ++ z ++ L2.cutS (row8 num) (some at') (some size)) signs.length := by
  obtain ⟨i, rfl⟩ : ∃ i : Nat, at' = (i : Int) := ⟨at'.toNat, by omega⟩
  obtain ⟨j, rfl⟩ : ∃ j : Nat, size = (j : Int) := ⟨size.toNat, by omega⟩
  have e1 : (L2.cutS (row8 num) none (some (i : Int))).length = i := by
    rw [len_cut, row8_len, HT.sIx_nat, HT.sIx_none]; omega
  have e2 : (L2.cutS (row8 num) (some (i : Int)) (some (j : Int))).length = j - i := by
    rw [len_cut, row8_len, HT.sIx_nat, HT.sIx_nat]; omega
  refine ⟨by simp, fun n hn => ?_, fun n hn => ?_⟩
  · obtain ⟨z, hz, rfl⟩ := List.mem_map.mp hn
    obtain ⟨hz1, hz2⟩ := hs z hz
    refine isNm_of (allL_cat (allL_cat (allL_cut (row8_all num)) hz1) (allL_cut (row8_all num))) ?_ ?_ <;> rw [len_cat, len_cat, e1, e2, hz2] <;> omega
  · obtain ⟨z, hz, rfl⟩ := List.mem_map.mp hn
    obtain ⟨hz1, hz2⟩ := hs z hz
    have hl : (L2.cutS (row8 num) none (some (i : Int)) ++ z ++ L2.cutS (row8 num) (some (i : Int)) (some (j : Int))).length = i + 1 + (j - i) := by rw [len_cat, len_cat, e1, e2, hz2]
    by_cases c : j = 6
    · subst c
      have l1 : (L2.cutS (row8 num) none (some (i : Int))).cps.toList.length = i := by rw [Array.length_toList]; exact e1
      have l2 : z.cps.toList.length = 1 := by rw [Array.length_toList]; exact hz2
      by_cases d : 2 ≤ i
      · have q : ∀ k, k < 2 → (L2.cutS (row8 num) none (some (i : Int)) ++ z ++ L2.cutS (row8 num) (some (i : Int)) (some ((6 : Nat) : Int))).cps.toList[k]? = (row8 num).cps.toList[k]? := fun k hk => by
          rw [cat_tl, cat_tl, List.append_assoc, List.getElem?_append_left (by omega), cut_at (by rw [row8_len, HT.sIx_nat, HT.sIx_none]; omega), HT.sIx_none, Nat.zero_add]
        exact odd_of (i := num / 8 + 5 * ((0 : Nat) : Int)) (.inl rfl) (by rw [q 0 (by decide), row8_at num (by decide)]) (by rw [q 1 (by decide), row8_at' num (by decide)])
      · have q : ∀ k, 4 ≤ k → k < 6 → (L2.cutS (row8 num) none (some (i : Int)) ++ z ++ L2.cutS (row8 num) (some (i : Int)) (some ((6 : Nat) : Int))).cps.toList[k + 1]? = (row8 num).cps.toList[k]? := fun k hk hk2 => by
          have m : min i 8 = i := by omega
          rw [cat_tl, cat_tl, List.getElem?_append_right (by rw [List.length_append]; omega), cut_at (by rw [List.length_append, l1, l2, row8_len, HT.sIx_nat, HT.sIx_nat]; omega), List.length_append, l1, l2, row8_len, HT.sIx_nat, m]
          congr 1
          omega
        exact odd_of (i := num / 8 + 5 * ((4 : Nat) : Int)) (.inr rfl) (by rw [q 4 (by decide) (by decide), row8_at num (by decide)]) (by rw [q 5 (by decide) (by decide), row8_at' num (by decide)])
    · exact odd_len (by rw [hl]; omega)

/-! ### what the law keeps: names as they stand, leanings as they were told -/
def oF (a b : Addr) : List (Key × V) := [(Sum.inr "order", .ref a), (Sum.inr "pairs", .ref b)]
theorem oF_1 {a b : Addr} : valV (oF a b) (Sum.inr ("order" : Str) : Key) = some (V.ref a) := by
  unfold valV oF
  rw [List.find?_cons_of_pos (by simp)]; rfl
theorem oF_2 {a b : Addr} : valV (oF a b) (Sum.inr ("pairs" : Str) : Key) = some (V.ref b) := by
  unfold valV oF
  have h : ¬ ((Sum.inr ("order" : Str) : Key) = Sum.inr ("pairs" : Str)) := fun z => absurd (Sum.inr.inj z) (by decide +kernel)
  rw [List.find?_cons_of_neg (by simp [h]), List.find?_cons_of_pos (by simp)]; rfl
theorem oF_p1 {a b c : Addr} : putK (oF a b) (Sum.inr ("order" : Str) : Key) (V.ref c) = oF c b := by
  have h : ¬ ((Sum.inr ("pairs" : Str) : Key) = Sum.inr ("order" : Str)) := fun z => absurd (Sum.inr.inj z) (by decide +kernel)
  unfold putK oF
  rw [if_pos (by simp)]
  simp [h]
theorem oF_p2 {a b c : Addr} : putK (oF a b) (Sum.inr ("pairs" : Str) : Key) (V.ref c) = oF a c := by
  have h : ¬ ((Sum.inr ("order" : Str) : Key) = Sum.inr ("pairs" : Str)) := fun z => absurd (Sum.inr.inj z) (by decide +kernel)
  unfold putK oF
  rw [if_pos (by simp)]
  simp [h]
theorem oF_0 {a b : Addr} : mergeK [] [((Sum.inr ("order" : Str) : Key), V.ref a), ((Sum.inr ("pairs" : Str) : Key), V.ref b)] = oF a b := by
  have h : ¬ ((Sum.inr ("order" : Str) : Key) = Sum.inr ("pairs" : Str)) := fun z => absurd (Sum.inr.inj z) (by decide +kernel)
  unfold mergeK oF
  simp [putK, h]
structure OwnAt (H : Hp) (d lo lq : Addr) (os : List Str) (P : Ps) : Prop where
  ob : H d = some (.dK (oF lo lq))
  pn : H lo = some (.lst (os.map V.str))
  pq : PL H lq P
  ne : lo ≠ lq
def OwnS (H : Hp) (d : Addr) (fp : List Addr) (os : List Str) (ps : List (Str × Str)) : Prop :=
  ∃ lo lq P, fp = [d, lo, lq] ∧ OwnAt H d lo lq os P ∧ pd P = ps
theorem OwnAt.ndo {H : Hp} {d lo lq : Addr} {os : List Str} {P : Ps} (h : OwnAt H d lo lq os P) : d ≠ lo := ne_of h.ob h.pn (by intro z; cases z)
theorem OwnAt.ndq {H : Hp} {d lo lq : Addr} {os : List Str} {P : Ps} (h : OwnAt H d lo lq os P) : d ≠ lq := ne_of h.ob h.pq.lst (by intro z; cases z)
theorem OwnAt.g1 {H : Hp} {d lo lq : Addr} {os : List Str} {P : Ps} (h : OwnAt H d lo lq os P) : DGet H d (.str "order") (some (.ref lo)) := oF_1 (a := lo) (b := lq) ▸ DGet.k (k := (Sum.inr ("order" : Str) : Key)) h.ob
theorem OwnAt.g2 {H : Hp} {d lo lq : Addr} {os : List Str} {P : Ps} (h : OwnAt H d lo lq os P) : DGet H d (.str "pairs") (some (.ref lq)) := oF_2 (a := lo) (b := lq) ▸ DGet.k (k := (Sum.inr ("pairs" : Str) : Key)) h.ob
theorem OwnAt.fr {H H' : Hp} {d lo lq : Addr} {os : List Str} {P : Ps} {g : List Addr} (h : OwnAt H d lo lq os P) (e : Fr g H H') (n1 : d ∉ g) (n2 : lo ∉ g) (n3 : lq ∉ g) : OwnAt H' d lo lq os P :=
  ⟨e.1 _ _ h.ob n1, e.1 _ _ h.pn n2, h.pq.fr e n3, h.ne⟩
theorem OwnAt.same {H H' : Hp} {d lo lq : Addr} {os : List Str} {P : Ps} (h : OwnAt H d lo lq os P) (e : Same H H') : OwnAt H' d lo lq os P :=
  h.fr (g := []) (Fr.of_same e) (fun z => nomatch z) (fun z => nomatch z) (fun z => nomatch z)
theorem OwnS.fr {H H' : Hp} {d : Addr} {fp g : List Addr} {os : List Str} {ps : List (Str × Str)} (h : OwnS H d fp os ps) (e : Fr g H H') (n : Apart fp g) : OwnS H' d fp os ps := by
  obtain ⟨lo, lq, P, rfl, a, b⟩ := h
  exact ⟨lo, lq, P, rfl, a.fr e (n d (by simp)) (n lo (by simp)) (n lq (by simp)), b⟩
theorem OwnS.same {H H' : Hp} {d : Addr} {fp : List Addr} {os : List Str} {ps : List (Str × Str)} (h : OwnS H d fp os ps) (e : Same H H') : OwnS H' d fp os ps := h.fr (g := []) (Fr.of_same e) (fun _ _ z => nomatch z)
theorem OwnS.old {H : Hp} {d : Addr} {fp : List Addr} {os : List Str} {ps : List (Str × Str)} (h : OwnS H d fp os ps) {b : Addr} (hb : b ∈ fp) : H b ≠ none := by
  obtain ⟨lo, lq, P, rfl, a, _⟩ := h
  simp only [List.mem_cons, List.not_mem_nil, or_false] at hb
  rcases hb with rfl | rfl | rfl
  · rw [a.ob]; exact fun z => nomatch z
  · rw [a.pn]; exact fun z => nomatch z
  · rw [a.pq.lst]; exact fun z => nomatch z

/-! ### deeds -/
inductive Deed where
  | put (n : Str)
  | take (n : Str)
  | loosen (n m : Str)
  | lean (n m : Str)
def Deed.strs : Deed → List Str
  | .put n => ["put", n]
  | .take n => ["take", n]
  | .loosen n m => ["loosen", n, m]
  | .lean n m => ["lean", n, m]
def pickS (xs : List Str) (a : Int) : Str := xs.getD (a % (xs.length : Int)).toNat ""
def pickP (xs : List (Str × Str)) (a : Int) : Str × Str := xs.getD (a % (xs.length : Int)).toNat ("", "")
theorem pick_lt {n : Nat} (h : 0 < n) (a : Int) : ∃ k : Nat, a % (n : Int) = (k : Int) ∧ k < n := by
  have h1 := Int.emod_nonneg a (b := (n : Int)) (by omega)
  have h2 := Int.emod_lt_of_pos a (b := (n : Int)) (by omega)
  exact ⟨(a % (n : Int)).toNat, by omega, by omega⟩
theorem pickS_at {xs : List Str} (h : xs ≠ []) (a : Int) : atI (xs.map V.str) (a % (xs.length : Int)) = some (.str (pickS xs a)) := by
  obtain ⟨k, e, hk⟩ := pick_lt (List.length_pos_iff.mpr h) a
  unfold pickS
  rw [e]
  refine atI_nat ?_
  rw [List.getElem?_map, List.getElem?_eq_getElem hk]
  simp [List.getD_eq_getElem?_getD, hk]
theorem pickS_mem {xs : List Str} (h : xs ≠ []) (a : Int) : pickS xs a ∈ xs := by
  obtain ⟨k, e, hk⟩ := pick_lt (List.length_pos_iff.mpr h) a
  unfold pickS
  rw [e]
  simp [List.getD_eq_getElem?_getD, hk]
theorem pickP_at {P : Ps} (h : P ≠ []) (a : Int) : ∃ q, q ∈ P ∧ atI (P.map fun q => V.ref q.1) (a % (P.length : Int)) = some (.ref q.1) ∧ q.2 = pickP (pd P) a := by
  obtain ⟨k, e, hk⟩ := pick_lt (List.length_pos_iff.mpr h) a
  refine ⟨P[k], List.getElem_mem hk, ?_, ?_⟩
  · rw [e]
    refine atI_nat ?_
    rw [List.getElem?_map, List.getElem?_eq_getElem hk]; rfl
  · unfold pickP pd
    rw [List.length_map, e]
    simp [List.getD_eq_getElem?_getD, hk]
theorem pickP_mem {ps : List (Str × Str)} (h : ps ≠ []) (a : Int) : pickP ps a ∈ ps := by
  obtain ⟨k, e, hk⟩ := pick_lt (List.length_pos_iff.mpr h) a
  unfold pickP
  rw [e]
  simp [List.getD_eq_getElem?_getD, hk]
def freeF (os names : List Str) : List Str := names.filter fun n => decide (n ∉ os)
def deedF (os : List Str) (ps : List (Str × Str)) (names : List Str) (num : Int) : Deed :=
  if freeF os names ≠ [] ∧ (num % 10 < 3 ∨ os.length < 2) then .put (pickS (freeF os names) (num / 10))
  else if num % 10 = 3 then .take (pickS os (num / 10))
  else if num % 10 = 4 ∧ ps ≠ [] then .loosen (pickP ps (num / 10)).1 (pickP ps (num / 10)).2
  else .lean (pickS os (num / 10)) (pickS os (num / 10 / 40))
theorem os_ne {os names : List Str} {z : Int} (hn : names ≠ []) (h : ¬ (freeF os names ≠ [] ∧ (z < 3 ∨ os.length < 2))) : os ≠ [] := by
  intro e
  subst e
  apply h
  refine ⟨?_, .inr (by simp)⟩
  intro y
  have : freeF [] names = names := by simp [freeF]
  rw [this] at y
  exact hn y
end Lr

set_option Elab.async false
set_option linter.all false
set_option maxRecDepth 100000
set_option maxHeartbeats 4000000
namespace Lr
open PySem PySem.Spec PyProof.Rows L2
/-! ### what is reached by leanings -/
inductive Rch (ps : List (Str × Str)) (a : Str) : Str → Prop where
  | refl : Rch ps a a
  | step {b c : Str} : Rch ps a b → (b, c) ∈ ps → Rch ps a c
theorem nodup_len {α : Type} [DecidableEq α] : ∀ (l m : List α), l.Nodup → (∀ x ∈ l, x ∈ m) → l.length ≤ m.length
  | [], m, _, _ => Nat.zero_le _
  | x :: l, m, h, s => by
    have hx : x ∈ m := s x List.mem_cons_self
    have h' := List.nodup_cons.mp h
    have ih := nodup_len l (m.erase x) h'.2 (fun y hy => by
      have hne : y ≠ x := fun z => h'.1 (z ▸ hy)
      exact (List.mem_erase_of_ne hne).mpr (s y (List.mem_cons_of_mem _ hy)))
    rw [List.length_erase_of_mem hx] at ih
    have : 0 < m.length := List.length_pos_of_mem hx
    show l.length + 1 ≤ m.length
    omega
/-! ### the law's closure -/
def uStep (ps : List (Str × Str)) (x : Str) (fs : List Str) : List Str := (ps.filter fun p => decide (p.1 = x) && decide (p.2 ∉ fs)).map (·.2)
theorem uStep_mem {ps : List (Str × Str)} {x y : Str} {fs : List Str} : y ∈ uStep ps x fs ↔ (x, y) ∈ ps ∧ y ∉ fs := by
  unfold uStep
  rw [List.mem_map]
  constructor
  · rintro ⟨p, hp, rfl⟩
    obtain ⟨h1, h2⟩ := List.mem_filter.mp hp
    simp only [Bool.and_eq_true, decide_eq_true_eq] at h2
    exact ⟨by rw [← h2.1]; exact h1, h2.2⟩
  · rintro ⟨h1, h2⟩
    exact ⟨(x, y), List.mem_filter.mpr ⟨h1, by simp [h2]⟩, rfl⟩
theorem uStep_nodup {x : Str} {fs : List Str} : ∀ {ps : List (Str × Str)}, ps.Nodup → (uStep ps x fs).Nodup
  | [], _ => List.nodup_nil
  | p :: r, h => by
    have h' := List.nodup_cons.mp h
    have ih := uStep_nodup (x := x) (fs := fs) h'.2
    unfold uStep at ih ⊢
    by_cases c : (decide (p.1 = x) && decide (p.2 ∉ fs)) = true
    · rw [List.filter_cons, if_pos c, List.map_cons]
      refine List.nodup_cons.mpr ⟨fun z => ?_, ih⟩
      have hm : p.2 ∈ uStep r x fs := z
      have hm' := (uStep_mem.mp hm).1
      simp only [Bool.and_eq_true, decide_eq_true_eq] at c
      rw [← c.1] at hm'
      exact h'.1 hm'
    · rw [List.filter_cons, if_neg c]; exact ih
theorem uStep_pd (P : Ps) (x : Str) (fs : List Str) : ((P.filter fun q => decide (q.2.1 = x) && decide (q.2.2 ∉ fs)).map fun q => V.str q.2.2) = (uStep (pd P) x fs).map V.str := by
  unfold uStep pd
  rw [List.filter_map, List.map_map, List.map_map]
  rfl
structure UI (ps : List (Str × Str)) (a : Str) (k : Nat) (fs : List Str) : Prop where
  nd : fs.Nodup
  so : ∀ x ∈ fs, Rch ps a x
  st : a ∈ fs
  le : k ≤ fs.length
  cl : ∀ i x y, i < k → fs[i]? = some x → (x, y) ∈ ps → y ∈ fs
theorem UI.start (ps : List (Str × Str)) (a : Str) : UI ps a 0 [a] :=
  ⟨by simp, fun x hx => by rw [List.mem_singleton] at hx; rw [hx]; exact .refl, by simp, Nat.zero_le _, fun i x y hi => by omega⟩
theorem UI.len {ps : List (Str × Str)} {a : Str} {k : Nat} {fs : List Str} (h : UI ps a k fs) : fs.length ≤ ps.length + 1 := by
  have q := nodup_len fs (a :: ps.map (·.2)) h.nd (fun x hx => by
    cases h.so x hx with
    | refl => simp
    | step _ hp => exact List.mem_cons_of_mem _ (List.mem_map.mpr ⟨_, hp, rfl⟩))
  rw [List.length_cons, List.length_map] at q
  exact q
theorem UI.step {ps : List (Str × Str)} {a : Str} {k : Nat} {fs : List Str} {x : Str} (h : UI ps a k fs) (hp : ps.Nodup) (hx : fs[k]? = some x) : UI ps a (k + 1) (fs ++ uStep ps x fs) := by
  have hk : k < fs.length := by
    by_cases q : k < fs.length
    · exact q
    · rw [List.getElem?_eq_none (by omega)] at hx; cases hx
  have hxm : x ∈ fs := List.mem_of_getElem? hx
  refine ⟨?_, ?_, List.mem_append_left _ h.st, by rw [List.length_append]; omega, ?_⟩
  · rw [List.nodup_append]
    exact ⟨h.nd, uStep_nodup hp, fun y hy z hz e => (uStep_mem.mp hz).2 (e ▸ hy)⟩
  · intro y hy
    rcases List.mem_append.mp hy with q | q
    · exact h.so y q
    · exact .step (h.so x hxm) (uStep_mem.mp q).1
  · intro i u y hi hu hy
    have hi' : i < fs.length := by omega
    rw [List.getElem?_append_left hi'] at hu
    by_cases c : y ∈ fs
    · exact List.mem_append_left _ c
    · by_cases e : i = k
      · subst e
        rw [hx] at hu
        cases hu
        exact List.mem_append_right _ (uStep_mem.mpr ⟨hy, c⟩)
      · exact absurd (h.cl i u y (by omega) hu hy) c
theorem UI.done {ps : List (Str × Str)} {a : Str} {fs : List Str} (h : UI ps a fs.length fs) (x : Str) : x ∈ fs ↔ Rch ps a x := by
  refine ⟨h.so x, fun r => ?_⟩
  induction r with
  | refl => exact h.st
  | @step b c _ hp ih =>
    obtain ⟨i, hi, e⟩ := List.mem_iff_getElem.mp ih
    exact h.cl i b c hi (by rw [List.getElem?_eq_getElem hi, e]) hp

/-! ### the web's chain -/
structure BI (ps : List (Str × Str)) (a b : Str) (seen : List Str) (ws : List (List Str)) : Prop where
  st : a ∈ seen
  so : ∀ w ∈ ws, Rch ps a (lst1 w)
  dn : ∀ x ∈ seen, (∃ w ∈ ws, lst1 w = x) ∨ (x ≠ b ∧ ∀ y, (x, y) ∈ ps → y ∈ seen)
theorem lst1_snoc (w : List Str) (x : Str) : lst1 (w ++ [x]) = x := by simp [lst1]
theorem cst_seen {x : Str} {path : List Str} : ∀ (l : List (Str × Str)) (sw : List Str × List (List Str)) (y : Str),
    (y ∈ (l.foldl (cst x path) sw).1 ↔ y ∈ sw.1 ∨ (x, y) ∈ l)
  | [], sw, y => by simp
  | p :: l, sw, y => by
    rw [List.foldl_cons, cst_seen l _ y]
    unfold cst
    by_cases c : p.1 = x ∧ p.2 ∉ sw.1
    · rw [if_pos c]
      obtain ⟨c1, c2⟩ := c
      have hp : p = (x, p.2) := by rw [← c1]
      constructor
      · rintro (h | h)
        · rcases List.mem_append.mp h with h | h
          · exact .inl h
          · rw [List.mem_singleton] at h
            subst h
            exact .inr (by rw [← hp]; simp)
        · exact .inr (List.mem_cons_of_mem _ h)
      · rintro (h | h)
        · exact .inl (List.mem_append_left _ h)
        · rcases List.mem_cons.mp h with h | h
          · refine .inl (List.mem_append_right _ ?_)
            rw [List.mem_singleton, ← h]
          · exact .inr h
    · rw [if_neg c]
      constructor
      · rintro (h | h)
        · exact .inl h
        · exact .inr (List.mem_cons_of_mem _ h)
      · rintro (h | h)
        · exact .inl h
        · rcases List.mem_cons.mp h with h | h
          · refine .inl ?_
            have h1 : p.1 = x := by rw [← h]
            have h2 : p.2 = y := by rw [← h]
            by_cases q : p.2 ∈ sw.1
            · rw [h2] at q; exact q
            · exact absurd ⟨h1, q⟩ c
          · exact .inr h
theorem cst_ws {x : Str} {path : List Str} : ∀ (l : List (Str × Str)) (sw : List Str × List (List Str)) (w : List Str),
    (w ∈ (l.foldl (cst x path) sw).2 → w ∈ sw.2 ∨ ∃ y, (x, y) ∈ l ∧ lst1 w = y) ∧ (w ∈ sw.2 → w ∈ (l.foldl (cst x path) sw).2)
  | [], sw, w => ⟨fun h => .inl h, fun h => h⟩
  | p :: l, sw, w => by
    rw [List.foldl_cons]
    have ih := cst_ws (x := x) (path := path) l (cst x path sw p) w
    by_cases c : p.1 = x ∧ p.2 ∉ sw.1
    · have e : cst x path sw p = (sw.1 ++ [p.2], sw.2 ++ [path ++ [p.2]]) := if_pos c
      rw [e] at ih ⊢
      refine ⟨fun h => ?_, fun h => ih.2 (List.mem_append_left _ h)⟩
      rcases ih.1 h with q | ⟨y, q1, q2⟩
      · rcases List.mem_append.mp q with q | q
        · exact .inl q
        · rw [List.mem_singleton] at q
          refine .inr ⟨p.2, ?_, by rw [q, lst1_snoc]⟩
          have : p = (x, p.2) := by rw [← c.1]
          rw [← this]; simp
      · exact .inr ⟨y, List.mem_cons_of_mem _ q1, q2⟩
    · have e : cst x path sw p = sw := if_neg c
      rw [e] at ih ⊢
      refine ⟨fun h => ?_, ih.2⟩
      rcases ih.1 h with q | ⟨y, q1, q2⟩
      · exact .inl q
      · exact .inr ⟨y, List.mem_cons_of_mem _ q1, q2⟩
theorem cst_new {x : Str} {path : List Str} : ∀ (l : List (Str × Str)) (sw : List Str × List (List Str)) (y : Str),
    y ∈ (l.foldl (cst x path) sw).1 → y ∈ sw.1 ∨ ∃ w ∈ (l.foldl (cst x path) sw).2, lst1 w = y
  | [], sw, y, h => .inl h
  | p :: l, sw, y, h => by
    rw [List.foldl_cons] at h ⊢
    rcases cst_new (x := x) (path := path) l (cst x path sw p) y h with q | q
    · by_cases c : p.1 = x ∧ p.2 ∉ sw.1
      · have e : cst x path sw p = (sw.1 ++ [p.2], sw.2 ++ [path ++ [p.2]]) := if_pos c
        rw [e] at q
        rcases List.mem_append.mp q with q | q
        · exact .inl q
        · rw [List.mem_singleton] at q
          refine .inr ⟨path ++ [p.2], ?_, by rw [q, lst1_snoc]⟩
          refine (cst_ws l _ _).2 ?_
          rw [e]; simp
      · have e : cst x path sw p = sw := if_neg c
        rw [e] at q
        exact .inl q
    · exact .inr q
theorem BI.start (ps : List (Str × Str)) (a b : Str) : BI ps a b [a] [[a]] :=
  ⟨by simp, fun w hw => by rw [List.mem_singleton] at hw; rw [hw]; exact .refl, fun x hx => by
    rw [List.mem_singleton] at hx; exact .inl ⟨[a], by simp, by rw [hx]; rfl⟩⟩
theorem BI.turn {ps : List (Str × Str)} {a b : Str} {seen : List Str} {path : List Str} {ws : List (List Str)} (h : BI ps a b seen (path :: ws)) (hb : lst1 path ≠ b) :
    BI ps a b (ps.foldl (cst (lst1 path) path) (seen, ws)).1 (ps.foldl (cst (lst1 path) path) (seen, ws)).2 := by
  refine ⟨(cst_seen ps _ _).mpr (.inl h.st), fun w hw => ?_, fun x hx => ?_⟩
  · rcases (cst_ws ps _ w).1 hw with q | ⟨y, q1, q2⟩
    · exact h.so w (List.mem_cons_of_mem _ q)
    · rw [q2]; exact .step (h.so path List.mem_cons_self) q1
  · rcases cst_new ps _ x hx with q | q
    · rcases h.dn x q with ⟨w, hw, e⟩ | ⟨q1, q2⟩
      · rcases List.mem_cons.mp hw with hw | hw
        · subst hw
          refine .inr ⟨e ▸ hb, fun y hy => (cst_seen ps _ _).mpr (.inr ?_)⟩
          rw [e]; exact hy
        · exact .inl ⟨w, (cst_ws ps _ w).2 hw, e⟩
      · exact .inr ⟨q1, fun y hy => (cst_seen ps _ _).mpr (.inl (q2 y hy))⟩
    · exact .inl q
theorem cgo_iff {ps : List (Str × Str)} {a b : Str} : ∀ (fuel : Nat) (seen : List Str) (ws : List (List Str)), CI ps fuel seen ws → BI ps a b seen ws → ((cgo ps b fuel seen ws).isSome = true ↔ Rch ps a b) := by
  intro fuel
  induction fuel using Nat.strongRecOn with
  | _ fuel ih =>
    intro seen ws ci h
    cases ws with
    | nil =>
      rw [cgo_nil]
      refine ⟨fun z => (by cases z), fun r => ?_⟩
      have key : ∀ z, Rch ps a z → z ∈ seen := fun z r => by
        induction r with
        | refl => exact h.st
        | @step u v _ hp ih2 =>
          rcases h.dn u ih2 with ⟨w, hw, _⟩ | ⟨_, q⟩
          · cases hw
          · exact q v hp
      rcases h.dn b (key b r) with ⟨w, hw, _⟩ | ⟨q, _⟩
      · cases hw
      · exact absurd rfl q
    | cons path ws =>
      obtain ⟨hf, ci2⟩ := ci.pop
      rw [cgo_turn hf]
      by_cases e : lst1 path = b
      · rw [if_pos e]
        exact ⟨fun _ => e ▸ h.so path List.mem_cons_self, fun _ => rfl⟩
      · rw [if_neg e]
        refine ih (fuel - 1) (by omega) _ _ ?_ (h.turn e)
        have key : ∀ k, k ≤ ps.length → CI ps (fuel - 1) ((ps.take k).foldl (cst (lst1 path) path) (seen, ws)).1 ((ps.take k).foldl (cst (lst1 path) path) (seen, ws)).2 ∧ path.length ≤ ((ps.take k).foldl (cst (lst1 path) path) (seen, ws)).1.length := by
          intro k
          induction k with
          | zero => intro _; exact ⟨ci2, (ci.w path List.mem_cons_self).2⟩
          | succ k ih3 =>
            intro hk
            obtain ⟨i1, i2⟩ := ih3 (by omega)
            have hx : ps[k]? = some ps[k] := List.getElem?_eq_getElem (by omega)
            rw [take_step _ _ hx]
            exact CI.step i1 (List.mem_of_getElem? hx) i2
        have z := (key ps.length (Nat.le_refl _)).1
        rw [List.take_length] at z
        exact z
theorem chainF_iff (ps : List (Str × Str)) (a b : Str) : (chainF ps a b).isSome = true ↔ Rch ps a b := cgo_iff _ _ _ (CI.start ps a) (BI.start ps a b)
end Lr

set_option Elab.async false
set_option linter.all false
set_option maxRecDepth 100000
set_option maxHeartbeats 4000000
namespace Lr
open PySem PySem.Spec PyProof.Rows L2
/-! ### the row filled anew: by places, by taking from the front -/
def popF (mv : List Str) : List Str → List Str → List Str
  | [], _ => []
  | o :: os, left => if o ∈ mv then left.headD "" :: popF mv os left.tail else o :: popF mv os left
theorem popF_cons (mv : List Str) (o : Str) (os left : List Str) : popF mv (o :: os) left = if o ∈ mv then left.headD "" :: popF mv os left.tail else o :: popF mv os left := rfl
def pstep (mv : List Str) (s : List Str × List Str) (o : Str) : List Str × List Str :=
  if o ∈ mv then (s.1 ++ [s.2.headD ""], s.2.tail) else (s.1 ++ [o], s.2)
theorem pstep_pop (mv : List Str) : ∀ (os : List Str) (s : List Str × List Str), (os.foldl (pstep mv) s).1 = s.1 ++ popF mv os s.2
  | [], s => by simp [popF]
  | o :: os, s => by
    rw [List.foldl_cons, pstep_pop mv os]
    rw [popF_cons]
    unfold pstep
    by_cases c : o ∈ mv
    · rw [if_pos c, if_pos c]; show (s.1 ++ [_]) ++ _ = _; rw [List.append_assoc]; rfl
    · rw [if_neg c, if_neg c]; show (s.1 ++ [_]) ++ _ = _; rw [List.append_assoc]; rfl
def cntIn (mv : List Str) (os : List Str) : Nat := (os.filter fun o => decide (o ∈ mv)).length
theorem cntIn_cons_pos {mv os : List Str} {o : Str} (h : o ∈ mv) : cntIn mv (o :: os) = cntIn mv os + 1 := by simp [cntIn, h]
theorem cntIn_cons_neg {mv os : List Str} {o : Str} (h : o ∉ mv) : cntIn mv (o :: os) = cntIn mv os := by simp [cntIn, h]
theorem pstep_left (mv : List Str) : ∀ (os : List Str) (s : List Str × List Str), (os.foldl (pstep mv) s).2 = s.2.drop (cntIn mv os)
  | [], s => by simp [cntIn]
  | o :: os, s => by
    rw [List.foldl_cons, pstep_left mv os]
    unfold pstep
    by_cases c : o ∈ mv
    · rw [if_pos c, cntIn_cons_pos c]
      show s.2.tail.drop _ = _
      rw [List.drop_tail]
    · rw [if_neg c, cntIn_cons_neg c]
theorem cntIn_le {mv os : List Str} (h : os.Nodup) : cntIn mv os ≤ mv.length :=
  nodup_len _ _ (h.filter _) (fun x hx => by simpa using (List.mem_filter.mp hx).2)
theorem cntIn_take {mv os : List Str} {i : Nat} {o : Str} (h : os.Nodup) (hi : os[i]? = some o) (ho : o ∈ mv) : cntIn mv (os.take i) < mv.length := by
  have h1 : os.take (i + 1) = os.take i ++ [o] := by rw [List.take_succ, hi]; rfl
  have h2 : (os.take (i + 1)).Nodup := h.sublist (List.take_sublist _ _)
  have h3 := cntIn_le (mv := mv) h2
  rw [h1] at h3
  unfold cntIn at h3 ⊢
  rw [List.filter_append, List.length_append] at h3
  have : ([o].filter fun o => decide (o ∈ mv)).length = 1 := by simp [ho]
  omega
def plF (mv : List Str) : Nat → List Str → List Nat
  | _, [] => []
  | k, o :: os => if o ∈ mv then k :: plF mv (k + 1) os else plF mv (k + 1) os
theorem plF_eq (mv : List Str) : ∀ (os pre : List Str), (List.range' pre.length os.length).filter (fun i => decide ((pre ++ os).getD i "" ∈ mv)) = plF mv pre.length os
  | [], pre => by simp [plF]
  | o :: os, pre => by
    have ih := plF_eq mv os (pre ++ [o])
    rw [List.append_assoc] at ih
    have e1 : ([o] ++ os : List Str) = o :: os := rfl
    rw [e1, List.length_append, List.length_singleton] at ih
    have e2 : (pre ++ o :: os).getD pre.length "" = o := by
      rw [List.getD_eq_getElem?_getD, List.getElem?_append_right (Nat.le_refl _)]; simp
    rw [List.length_cons, List.range'_succ, List.filter_cons, e2]
    show _ = (if o ∈ mv then pre.length :: plF mv (pre.length + 1) os else plF mv (pre.length + 1) os)
    by_cases c : o ∈ mv
    · rw [if_pos (decide_eq_true c), if_pos c, ih]
    · rw [if_neg (by simp [c]), if_neg c, ih]
theorem places_eq (os mv : List Str) : placesF os mv = plF mv 0 os := by
  have h := plF_eq mv os []
  unfold placesF
  rw [List.range_eq_range']
  exact h
theorem fill_pop (mv : List Str) : ∀ (os pre left : List Str), cntIn mv os ≤ left.length → ((plF mv pre.length os).zip left).foldl (fun acc p => acc.set p.1 p.2) (pre ++ os) = pre ++ popF mv os left
  | [], pre, left, _ => by simp [plF, popF]
  | o :: os, pre, left, h => by
    unfold plF popF
    by_cases c : o ∈ mv
    · rw [if_pos c, if_pos c]
      rw [cntIn_cons_pos c] at h
      cases left with
      | nil => simp at h
      | cons x left =>
        have h' : cntIn mv os ≤ left.length := by simp only [List.length_cons] at h; omega
        have ih := fill_pop mv os (pre ++ [x]) left h'
        rw [List.length_append, List.length_singleton] at ih
        rw [List.zip_cons_cons, List.foldl_cons]
        have e : (pre ++ o :: os).set pre.length x = (pre ++ [x]) ++ os := by
          rw [List.set_append_right _ _ (Nat.le_refl _), Nat.sub_self, List.append_assoc]; rfl
        show List.foldl _ ((pre ++ o :: os).set pre.length x) _ = _
        rw [e, ih, List.append_assoc]
        rfl
    · rw [if_neg c, if_neg c]
      rw [cntIn_cons_neg c] at h
      have ih := fill_pop mv os (pre ++ [o]) left h
      rw [List.length_append, List.length_singleton, List.append_assoc] at ih
      rw [List.append_assoc] at ih
      exact ih
theorem fillF_pop {os mv : List Str} (h : os.Nodup) : fillF os mv = popF mv os mv := by
  unfold fillF
  rw [places_eq]
  exact fill_pop mv os [] mv (cntIn_le h)
theorem popF_perm (mv : List Str) : ∀ (os left : List Str), cntIn mv os ≤ left.length → (popF mv os left).Perm (os.filter (fun o => decide (o ∉ mv)) ++ left.take (cntIn mv os))
  | [], left, _ => by simp [popF, cntIn]
  | o :: os, left, h => by
    unfold popF
    by_cases c : o ∈ mv
    · rw [if_pos c, cntIn_cons_pos c]
      rw [cntIn_cons_pos c] at h
      cases left with
      | nil => simp at h
      | cons x left =>
        have h' : cntIn mv os ≤ left.length := by simp only [List.length_cons] at h; omega
        have ih := popF_perm mv os left h'
        have e : (o :: os).filter (fun o => decide (o ∉ mv)) = os.filter (fun o => decide (o ∉ mv)) := by simp [c]
        rw [e, List.take_succ_cons]
        exact (List.Perm.cons x ih).trans List.perm_middle.symm
    · rw [if_neg c, cntIn_cons_neg c]
      rw [cntIn_cons_neg c] at h
      have ih := popF_perm mv os left h
      have e : (o :: os).filter (fun o => decide (o ∉ mv)) = o :: os.filter (fun o => decide (o ∉ mv)) := by simp [c]
      rw [e]
      exact List.Perm.cons o ih
theorem popF_len (mv : List Str) : ∀ (os left : List Str), (popF mv os left).length = os.length
  | [], _ => rfl
  | o :: os, left => by
    unfold popF
    by_cases c : o ∈ mv
    · rw [if_pos c, List.length_cons, List.length_cons, popF_len mv os]
    · rw [if_neg c, List.length_cons, List.length_cons, popF_len mv os]
/-- filled anew by those that stand there: the same names, each once -/
theorem popF_same {os mv : List Str} (h : os.Nodup) (hm : mv.Nodup) (hs : ∀ o ∈ mv, o ∈ os) : (popF mv os mv).Nodup ∧ ∀ o, o ∈ popF mv os mv ↔ o ∈ os := by
  have hc := cntIn_le (mv := mv) h
  have hc2 : mv.length ≤ cntIn mv os := nodup_len _ _ hm (fun x hx => List.mem_filter.mpr ⟨hs x hx, decide_eq_true hx⟩)
  have p := popF_perm mv os mv hc
  rw [List.take_of_length_le hc2] at p
  have nd : (os.filter (fun o => decide (o ∉ mv)) ++ mv).Nodup := by
    rw [List.nodup_append]
    refine ⟨h.filter _, hm, fun a ha b hb e => ?_⟩
    have := (List.mem_filter.mp ha).2
    simp at this
    exact this (e ▸ hb)
  refine ⟨p.nodup_iff.mpr nd, fun o => ?_⟩
  rw [p.mem_iff, List.mem_append, List.mem_filter]
  constructor
  · rintro (q | q)
    · exact q.1
    · exact hs o q
  · intro q
    by_cases c : o ∈ mv
    · exact .inr c
    · exact .inl ⟨q, decide_eq_true c⟩
/-! ### no ring: leaders are no followers -/
theorem Rch.trans {ps : List (Str × Str)} {a b c : Str} (h : Rch ps a b) (k : Rch ps b c) : Rch ps a c := by
  induction k with
  | refl => exact h
  | step _ hp ih => exact .step ih hp
theorem Rch.cut {ps : List (Str × Str)} {n m x : Str} (h : Rch (ps ++ [(n, m)]) m x) : Rch ps m x := by
  induction h with
  | refl => exact .refl
  | @step b c _ hp ih =>
    rcases List.mem_append.mp hp with q | q
    · exact .step ih q
    · rw [List.mem_singleton] at q
      cases q
      exact .refl
theorem cutS_sub (os : List Str) (f l : Nat) : (cutS os f l).Sublist os := (List.take_sublist _ _).trans (List.drop_sublist _ _)
theorem moved_nodup {ps : List (Str × Str)} {st : List Str} {n m : Str} (hr : ¬ Rch ps m n) (h : st.Nodup) : (leadersF (ps ++ [(n, m)]) st m ++ followersF (ps ++ [(n, m)]) st n).Nodup := by
  rw [List.nodup_append]
  refine ⟨h.filter _, h.filter _, fun a ha b hb e => ?_⟩
  subst e
  have h1 := (chainF_iff _ _ _).mp (List.mem_filter.mp ha).2
  have h2 := (chainF_iff _ _ _).mp (List.mem_filter.mp hb).2
  exact hr (h1.trans h2).cut
theorem rowLean_ok {ps : List (Str × Str)} {os : List Str} {n m : Str} (hr : ¬ Rch ps m n) (h : os.Nodup) :
    (rowLean (ps ++ [(n, m)]) os n m).2.Nodup ∧ (∀ o, o ∈ (rowLean (ps ++ [(n, m)]) os n m).2 ↔ o ∈ os) := by
  unfold rowLean
  by_cases c : os.idxOf m < os.idxOf n
  · rw [if_pos c]; exact ⟨h, fun _ => Iff.rfl⟩
  · rw [if_neg c]
    show (fillF _ _).Nodup ∧ ∀ o, o ∈ fillF _ _ ↔ _
    rw [fillF_pop h]
    refine popF_same h (moved_nodup hr (h.sublist (cutS_sub _ _ _))) (fun o ho => ?_)
    rcases List.mem_append.mp ho with q | q
    · exact cutS_mem (List.mem_filter.mp q).1
    · exact cutS_mem (List.mem_filter.mp q).1
end Lr

set_option Elab.async false
set_option linter.all false
set_option maxRecDepth 100000
set_option maxHeartbeats 4000000
namespace Lr
open PySem PySem.Spec PyProof.Rows L2
/-! ### what a deed does -/
def wordF (ps : List (Str × Str)) : Deed → Str
  | .lean n m => if (n, m) ∈ ps then "twice" else if (chainF ps m n).isSome then "ring" else ""
  | _ => ""
def leansOn (ps : List (Str × Str)) (n m : Str) : Prop := (n, m) ∉ ps ∧ ¬ Rch ps m n
instance (ps : List (Str × Str)) (n m : Str) : Decidable (leansOn ps n m) := decidable_of_iff ((n, m) ∉ ps ∧ ¬ (chainF ps m n).isSome = true) (by unfold leansOn; rw [chainF_iff])
def nsA (ns : List Str) : Deed → List Str
  | .put n => ns ++ [n]
  | .take n => ns.erase n
  | _ => ns
def psA (ps : List (Str × Str)) : Deed → List (Str × Str)
  | .take n => dropP n ps
  | .loosen n m => ps.erase (n, m)
  | .lean n m => if leansOn ps n m then ps ++ [(n, m)] else ps
  | .put _ => ps
def osA (ps : List (Str × Str)) (os : List Str) : Deed → List Str
  | .put n => os ++ [n]
  | .take n => os.erase n
  | .lean n m => if leansOn ps n m then (rowLean (ps ++ [(n, m)]) os n m).2 else os
  | .loosen _ _ => os
def mvA (ps : List (Str × Str)) (os : List Str) : Deed → Option (List Str)
  | .lean n m => if leansOn ps n m then some (rowLean (ps ++ [(n, m)]) os n m).1 else none
  | _ => none
theorem wordF_lean {ps : List (Str × Str)} {n m : Str} : (wordF ps (.lean n m) = "" ↔ leansOn ps n m) := by
  unfold leansOn
  show ((if (n, m) ∈ ps then ("twice" : Str) else if (chainF ps m n).isSome then "ring" else "") = "" ↔ _)
  by_cases c : (n, m) ∈ ps
  · rw [if_pos c]
    exact ⟨fun z => absurd z (by decide +kernel), fun z => absurd c z.1⟩
  · rw [if_neg c]
    by_cases d : (chainF ps m n).isSome = true
    · rw [if_pos d]
      exact ⟨fun z => absurd z (by decide +kernel), fun z => absurd ((chainF_iff _ _ _).mp d) z.2⟩
    · rw [if_neg d]
      exact ⟨fun _ => ⟨c, fun z => d ((chainF_iff _ _ _).mpr z)⟩, fun _ => rfl⟩
/-- what of a deed is as the law draws it -/
def DeedO (names os : List Str) (ps : List (Str × Str)) : Deed → Prop
  | .put n => n ∉ os ∧ n ∈ names
  | .take n => n ∈ os
  | .loosen n m => (n, m) ∈ ps
  | .lean n m => n ∈ os ∧ m ∈ os
theorem freeF_mem {os names : List Str} {n : Str} (h : n ∈ freeF os names) : n ∉ os ∧ n ∈ names := by
  obtain ⟨a, b⟩ := List.mem_filter.mp h
  exact ⟨of_decide_eq_true b, a⟩
theorem deedF_ok {os names : List Str} {ps : List (Str × Str)} {num : Int} (hn : names ≠ []) : DeedO names os ps (deedF os ps names num) := by
  unfold deedF
  by_cases c : freeF os names ≠ [] ∧ (num % 10 < 3 ∨ os.length < 2)
  · rw [if_pos c]
    exact freeF_mem (pickS_mem c.1 _)
  · rw [if_neg c]
    have ho := os_ne hn c
    by_cases c3 : num % 10 = 3
    · rw [if_pos c3]; exact pickS_mem ho _
    · rw [if_neg c3]
      by_cases c4 : num % 10 = 4 ∧ ps ≠ []
      · rw [if_pos c4]; exact pickP_mem c4.2 _
      · rw [if_neg c4]; exact ⟨pickS_mem ho _, pickS_mem ho _⟩
/-- what stands in the law's world: names, leanings -/
structure LSt (names ns os : List Str) (ps : List (Str × Str)) : Prop where
  nn : ns.Nodup
  no : os.Nodup
  np : ps.Nodup
  same : ∀ o, o ∈ os ↔ o ∈ ns
  sub : ∀ n ∈ ns, n ∈ names
  ends : ∀ p ∈ ps, p.1 ∈ ns ∧ p.2 ∈ ns
theorem LSt.start (names : List Str) : LSt names [] [] [] := ⟨List.nodup_nil, List.nodup_nil, List.nodup_nil, fun _ => Iff.rfl, (fun _ z => nomatch z), (fun _ z => nomatch z)⟩
theorem nodup_snoc {α : Type} [DecidableEq α] {xs : List α} {x : α} (h : xs.Nodup) (hx : x ∉ xs) : (xs ++ [x]).Nodup := by
  rw [List.nodup_append]
  exact ⟨h, by simp, fun a ha b hb e => by rw [List.mem_singleton] at hb; exact hx (hb ▸ e ▸ ha)⟩
theorem LSt.deed {names ns os : List Str} {ps : List (Str × Str)} {dd : Deed} (h : LSt names ns os ps) (hd : DeedO names os ps dd) : LSt names (nsA ns dd) (osA ps os dd) (psA ps dd) := by
  obtain ⟨h1, h2, h3, h4, h5, h6⟩ := h
  cases dd with
  | put n =>
    obtain ⟨a, b⟩ := hd
    have a' : n ∉ ns := fun z => a ((h4 n).mpr z)
    refine ⟨nodup_snoc h1 a', nodup_snoc h2 a, h3, fun o => ?_, fun o ho => ?_, fun p hp => ?_⟩
    · show o ∈ os ++ [n] ↔ o ∈ ns ++ [n]
      rw [List.mem_append, List.mem_append, h4]
    · rcases List.mem_append.mp ho with q | q
      · exact h5 o q
      · rw [List.mem_singleton] at q; rw [q]; exact b
    · exact ⟨List.mem_append_left _ (h6 p hp).1, List.mem_append_left _ (h6 p hp).2⟩
  | take n =>
    refine ⟨h1.erase n, h2.erase n, h3.filter _, fun o => ?_, fun o ho => h5 o (List.mem_of_mem_erase ho), fun p hp => ?_⟩
    · show o ∈ os.erase n ↔ o ∈ ns.erase n
      rw [h2.mem_erase_iff, h1.mem_erase_iff, h4]
    · obtain ⟨a, b⟩ := List.mem_filter.mp hp
      simp only [Bool.and_eq_true, decide_eq_true_eq] at b
      obtain ⟨c, d⟩ := h6 p a
      exact ⟨h1.mem_erase_iff.mpr ⟨fun z => b.1 z.symm, c⟩, h1.mem_erase_iff.mpr ⟨fun z => b.2 z.symm, d⟩⟩
  | loosen n m =>
    exact ⟨h1, h2, h3.erase _, h4, h5, fun p hp => h6 p (List.mem_of_mem_erase hp)⟩
  | lean n m =>
    obtain ⟨a, b⟩ := hd
    by_cases c : leansOn ps n m
    · have e1 : osA ps os (.lean n m) = (rowLean (ps ++ [(n, m)]) os n m).2 := if_pos c
      have e2 : psA ps (.lean n m) = ps ++ [(n, m)] := if_pos c
      rw [e1, e2]
      have r := rowLean_ok (ps := ps) (n := n) (m := m) c.2 h2
      refine ⟨h1, r.1, nodup_snoc h3 c.1, fun o => (r.2 o).trans (h4 o), h5, fun p hp => ?_⟩
      rcases List.mem_append.mp hp with q | q
      · exact h6 p q
      · rw [List.mem_singleton] at q; rw [q]; exact ⟨(h4 n).mp a, (h4 m).mp b⟩
    · have e1 : osA ps os (.lean n m) = os := if_neg c
      have e2 : psA ps (.lean n m) = ps := if_neg c
      rw [e1, e2]
      exact ⟨h1, h2, h3, h4, h5, h6⟩
theorem LSt.len {names ns os : List Str} {ps : List (Str × Str)} (h : LSt names ns os ps) : ns.length ≤ names.length ∧ os.length ≤ names.length :=
  ⟨nodup_len _ _ h.nn h.sub, nodup_len _ _ h.no (fun o ho => h.sub o ((h.same o).mp ho))⟩
theorem psA_len {ps : List (Str × Str)} (dd : Deed) : (psA ps dd).length ≤ ps.length + 1 := by
  cases dd with
  | put n => exact Nat.le_succ _
  | take n => exact Nat.le_trans (List.length_filter_le _ _) (Nat.le_succ _)
  | loosen n m => exact Nat.le_trans (List.length_erase_le) (Nat.le_succ _)
  | lean n m =>
    show (if leansOn ps n m then ps ++ [(n, m)] else ps).length ≤ _
    by_cases c : leansOn ps n m
    · rw [if_pos c]; simp
    · rw [if_neg c]; exact Nat.le_succ _
/-- what a deed told: nothing, or those that moved -/
def MvV (H H' : Hp) (fp : List Addr) (v : V) : Option (List Str) → Prop
  | none => v = .non
  | some l => ∃ p, v = .ref p ∧ H' p = some (.lst (l.map V.str)) ∧ H p = none ∧ p ∉ fp
/-! ### words and whether they hold -/
structure KL (H : Hp) (l : Addr) (L : List (Addr × Str × Bool)) : Prop where
  lst : H l = some (.lst (L.map fun q => V.ref q.1))
  each : ∀ q ∈ L, H q.1 = some (.tup [.str q.2.1, .bl q.2.2])
theorem KL.same {H H' : Hp} {l : Addr} {L : List (Addr × Str × Bool)} (h : KL H l L) (e : Same H H') : KL H' l L := ⟨e _ _ h.lst, fun q hq => e _ _ (h.each q hq)⟩
theorem KL.two {H : Hp} {t1 t2 l : Addr} {w1 w2 : Str} {b1 b2 : Bool} (h1 : H t1 = none) (h2 : upd H t1 (.tup [.str w1, .bl b1]) t2 = none) (h3 : upd (upd H t1 (.tup [.str w1, .bl b1])) t2 (.tup [.str w2, .bl b2]) l = none) :
    Same H (upd (upd (upd H t1 (.tup [.str w1, .bl b1])) t2 (.tup [.str w2, .bl b2])) l (.lst [.ref t1, .ref t2])) ∧
    KL (upd (upd (upd H t1 (.tup [.str w1, .bl b1])) t2 (.tup [.str w2, .bl b2])) l (.lst [.ref t1, .ref t2])) l [(t1, w1, b1), (t2, w2, b2)] := by
  have s1 := Same.new (o := .tup [.str w1, .bl b1]) h1
  have s2 := Same.new (o := .tup [.str w2, .bl b2]) h2
  have s3 := Same.new (o := .lst [.ref t1, .ref t2]) h3
  refine ⟨(s1.trans s2).trans s3, upd_same, fun q hq => ?_⟩
  simp only [List.mem_cons, List.not_mem_nil, or_false] at hq
  rcases hq with rfl | rfl
  · exact s3 _ _ (s2 _ _ upd_same)
  · exact s3 _ _ upd_same
theorem KL.one {H : Hp} {t1 l : Addr} {w1 : Str} {b1 : Bool} (h1 : H t1 = none) (h3 : upd H t1 (.tup [.str w1, .bl b1]) l = none) :
    Same H (upd (upd H t1 (.tup [.str w1, .bl b1])) l (.lst [.ref t1])) ∧ KL (upd (upd H t1 (.tup [.str w1, .bl b1])) l (.lst [.ref t1])) l [(t1, w1, b1)] := by
  have s1 := Same.new (o := .tup [.str w1, .bl b1]) h1
  have s3 := Same.new (o := .lst [.ref t1]) h3
  refine ⟨s1.trans s3, upd_same, fun q hq => ?_⟩
  simp only [List.mem_cons, List.not_mem_nil, or_false] at hq
  rcases hq with rfl
  exact s3 _ _ upd_same
theorem KL.cat {H : Hp} {l1 l2 l : Addr} {L1 L2 : List (Addr × Str × Bool)} (a : KL H l1 L1) (b : KL H l2 L2) (h : H l = none) :
    Same H (upd H l (.lst ((L1.map fun q => V.ref q.1) ++ (L2.map fun q => V.ref q.1)))) ∧ KL (upd H l (.lst ((L1.map fun q => V.ref q.1) ++ (L2.map fun q => V.ref q.1)))) l (L1 ++ L2) := by
  refine ⟨Same.new h, ?_⟩
  refine ⟨by rw [upd_same, List.map_append], fun q hq => ?_⟩
  rcases List.mem_append.mp hq with z | z
  · exact Same.new h _ _ (a.each q z)
  · exact Same.new h _ _ (b.each q z)
def wordE : Er → Str
  | .BadName => "name" | .Twice => "twice" | .TooMany => "many" | .NoThing => "thing" | .NoLeaning => "leaning" | .BadRow => "row" | .NothingDone => "done" | .Ring => "ring"
end Lr

set_option Elab.async false
set_option linter.all false
set_option maxRecDepth 100000
set_option maxHeartbeats 4000000
namespace Lr
open PySem PySem.Spec PyProof.Rows L2
/-- one of two rules -/
abbrev tOrE (t u : TE) : TE := fun σ H Q => t σ H Q ∨ u σ H Q
theorem pe_orE {X : Cx} {e : Expr} {t u : TE} (h : PE X e t) (k : PE X e u) : PE X e (tOrE t u) :=
  ⟨fun pins s σ H Q I q => q.elim (h.run pins s σ H Q I) (k.run pins s σ H Q I)⟩
/-! ### cells: what belongs together, apart from one another, new behind H0 -/
structure Cells (H0 H : Hp) (A : Nat → List Addr) : Prop where
  ap : ∀ i j, i < 7 → j < 7 → i ≠ j → Apart (A i) (A j)
  nw : ∀ i, i < 7 → ∀ b ∈ A i, H0 b = none
  old : ∀ i, i < 7 → ∀ b ∈ A i, H b ≠ none
  sm : Same H0 H
theorem Cells.congr {H0 H : Hp} {A B : Nat → List Addr} (h : Cells H0 H A) (e : ∀ i, i < 7 → B i = A i) : Cells H0 H B :=
  ⟨fun i j hi hj n => by rw [e i hi, e j hj]; exact h.ap i j hi hj n, fun i hi => by rw [e i hi]; exact h.nw i hi, fun i hi => by rw [e i hi]; exact h.old i hi, h.sm⟩
theorem Cells.step {H0 H H' : Hp} {A : Nat → List Addr} (h : Cells H0 H A) (k : Nat) (hk : k < 7) {g : List Addr} (f : Fr (A k) H H') (n : Nw (A k) H g) (o : ∀ b ∈ g, H' b ≠ none) :
    Cells H0 H' (fun i => if i = k then g else A i) := by
  have hx : ∀ j, j < 7 → j ≠ k → Apart g (A j) := fun j hj e => (h.ap k j hk hj (fun z => e z.symm)).step n (h.old j hj)
  refine ⟨fun i j hi hj e => ?_, fun i hi b hb => ?_, fun i hi b hb => ?_, ?_⟩
  · by_cases c : i = k
    · have c2 : j ≠ k := fun z => e (c.trans z.symm)
      simp only [if_pos c, if_neg c2]
      exact hx j hj c2
    · by_cases c2 : j = k
      · simp only [if_neg c, if_pos c2]
        exact (hx i hi c).symm
      · simp only [if_neg c, if_neg c2]
        exact h.ap i j hi hj e
  · by_cases c : i = k
    · simp only [if_pos c] at hb
      rcases n b hb with q | q
      · exact h.nw k hk b q
      · exact h.sm.free q
    · simp only [if_neg c] at hb
      exact h.nw i hi b hb
  · by_cases c : i = k
    · simp only [if_pos c] at hb
      exact o b hb
    · simp only [if_neg c] at hb
      have nk : b ∉ A k := h.ap i k hi hk c b hb
      cases q : H b with
      | none => exact absurd q (h.old i hi b hb)
      | some u => rw [f.1 _ _ q nk]; exact fun z => nomatch z
  · exact fun b u e => f.1 b u (h.sm b u e) (fun z => by rw [h.nw k hk b z] at e; cases e)
theorem Cells.same {H0 H H' : Hp} {A : Nat → List Addr} (h : Cells H0 H A) (s : Same H H') : Cells H0 H' A :=
  ⟨h.ap, h.nw, (fun i hi b hb => by
    cases q : H b with
    | none => exact absurd q (h.old i hi b hb)
    | some u => rw [s _ _ q]; exact (fun z => nomatch z)), h.sm.trans s⟩
/-- one address more -/
theorem Cells.add {H0 H : Hp} {A : Nat → List Addr} (h : Cells H0 H A) (k : Nat) (hk : k < 7) {x : Addr} (n : ∀ i, i < 7 → x ∉ A i) (h0 : H0 x = none) (o : H x ≠ none) : Cells H0 H (fun i => if i = k then x :: A k else A i) := by
  refine ⟨fun i j hi hj e => ?_, fun i hi b hb => ?_, fun i hi b hb => ?_, h.sm⟩
  · by_cases c : i = k
    · have c2 : j ≠ k := fun z => e (c.trans z.symm)
      simp only [if_pos c, if_neg c2]
      intro b hb
      rcases List.mem_cons.mp hb with q | q
      · rw [q]; exact n j hj
      · exact h.ap k j hk hj (fun z => c2 z.symm) b q
    · by_cases c2 : j = k
      · simp only [if_neg c, if_pos c2]
        intro b hb hb2
        rcases List.mem_cons.mp hb2 with q | q
        · rw [q] at hb; exact n i hi hb
        · exact h.ap i k hi hk c b hb q
      · simp only [if_neg c, if_neg c2]
        exact h.ap i j hi hj e
  · by_cases c : i = k
    · simp only [if_pos c] at hb
      rcases List.mem_cons.mp hb with q | q
      · rw [q]; exact h0
      · exact h.nw k hk b q
    · simp only [if_neg c] at hb
      exact h.nw i hi b hb
  · by_cases c : i = k
    · simp only [if_pos c] at hb
      rcases List.mem_cons.mp hb with q | q
      · rw [q]; exact o
      · exact h.old k hk b q
    · simp only [if_neg c] at hb
      exact h.old i hi b hb
theorem Cells.out {H0 H : Hp} {A : Nat → List Addr} (h : Cells H0 H A) {x : Addr} (e : H x = none) : ∀ i, i < 7 → x ∉ A i := fun i hi z => h.old i hi x z e
def mk7 (a b c d e f x : List Addr) : Nat → List Addr
  | 0 => a | 1 => b | 2 => c | 3 => d | 4 => e | 5 => f | _ => x
theorem all7 {p : Nat → Prop} (h0 : p 0) (h1 : p 1) (h2 : p 2) (h3 : p 3) (h4 : p 4) (h5 : p 5) (h6 : p 6) : ∀ i, i < 7 → p i := fun i hi => by
  match i, hi with
  | 0, _ => exact h0
  | 1, _ => exact h1
  | 2, _ => exact h2
  | 3, _ => exact h3
  | 4, _ => exact h4
  | 5, _ => exact h5
  | 6, _ => exact h6
theorem out7 {a b c d e f x : List Addr} {p : Addr} (h0 : p ∉ a) (h1 : p ∉ b) (h2 : p ∉ c) (h3 : p ∉ d) (h4 : p ∉ e) (h5 : p ∉ f) (h6 : p ∉ x) : ∀ i, i < 7 → p ∉ mk7 a b c d e f x i := all7 (p := fun i => p ∉ mk7 a b c d e f x i) h0 h1 h2 h3 h4 h5 h6
section
variable {H0 H H' : Hp} {a b c d e f x g : List Addr} {p : Addr}
theorem Cells.start (H : Hp) : Cells H H (mk7 [] [] [] [] [] [] []) := by
  have z : ∀ i, i < 7 → mk7 [] [] [] [] [] [] [] i = [] := all7 (p := fun i => mk7 [] [] [] [] [] [] [] i = []) rfl rfl rfl rfl rfl rfl rfl
  refine ⟨fun i j hi hj n y hy => ?_, fun i hi y hy => ?_, fun i hi y hy => ?_, Same.refl H⟩
  all_goals (rw [z i hi] at hy; cases hy)
theorem Cells.s0 (h : Cells H0 H (mk7 a b c d e f x)) (k : Fr a H H') (n : Nw a H g) (o : ∀ b ∈ g, H' b ≠ none) : Cells H0 H' (mk7 g b c d e f x) := (h.step 0 (by decide) k n o).congr (all7 rfl rfl rfl rfl rfl rfl rfl)
theorem Cells.s1 (h : Cells H0 H (mk7 a b c d e f x)) (k : Fr b H H') (n : Nw b H g) (o : ∀ b ∈ g, H' b ≠ none) : Cells H0 H' (mk7 a g c d e f x) := (h.step 1 (by decide) k n o).congr (all7 rfl rfl rfl rfl rfl rfl rfl)
theorem Cells.s2 (h : Cells H0 H (mk7 a b c d e f x)) (k : Fr c H H') (n : Nw c H g) (o : ∀ b ∈ g, H' b ≠ none) : Cells H0 H' (mk7 a b g d e f x) := (h.step 2 (by decide) k n o).congr (all7 rfl rfl rfl rfl rfl rfl rfl)
theorem Cells.s3 (h : Cells H0 H (mk7 a b c d e f x)) (k : Fr d H H') (n : Nw d H g) (o : ∀ b ∈ g, H' b ≠ none) : Cells H0 H' (mk7 a b c g e f x) := (h.step 3 (by decide) k n o).congr (all7 rfl rfl rfl rfl rfl rfl rfl)
theorem Cells.s4 (h : Cells H0 H (mk7 a b c d e f x)) (k : Fr e H H') (n : Nw e H g) (o : ∀ b ∈ g, H' b ≠ none) : Cells H0 H' (mk7 a b c d g f x) := (h.step 4 (by decide) k n o).congr (all7 rfl rfl rfl rfl rfl rfl rfl)
theorem Cells.s5 (h : Cells H0 H (mk7 a b c d e f x)) (k : Fr f H H') (n : Nw f H g) (o : ∀ b ∈ g, H' b ≠ none) : Cells H0 H' (mk7 a b c d e g x) := (h.step 5 (by decide) k n o).congr (all7 rfl rfl rfl rfl rfl rfl rfl)
theorem Cells.s6 (h : Cells H0 H (mk7 a b c d e f x)) (k : Fr x H H') (n : Nw x H g) (o : ∀ b ∈ g, H' b ≠ none) : Cells H0 H' (mk7 a b c d e f g) := (h.step 6 (by decide) k n o).congr (all7 rfl rfl rfl rfl rfl rfl rfl)
theorem Cells.a5 (h : Cells H0 H (mk7 a b c d e f x)) (n : ∀ i, i < 7 → p ∉ mk7 a b c d e f x i) (h0 : H0 p = none) (o : H p ≠ none) : Cells H0 H (mk7 a b c d e (p :: f) x) := (h.add 5 (by decide) n h0 o).congr (all7 rfl rfl rfl rfl rfl rfl rfl)
theorem Cells.a6 (h : Cells H0 H (mk7 a b c d e f x)) (n : ∀ i, i < 7 → p ∉ mk7 a b c d e f x i) (h0 : H0 p = none) (o : H p ≠ none) : Cells H0 H (mk7 a b c d e f (p :: x)) := (h.add 6 (by decide) n h0 o).congr (all7 rfl rfl rfl rfl rfl rfl rfl)
theorem Cells.drop6 (h : Cells H0 H (mk7 a b c d e f x)) : Cells H0 H (mk7 a b c d e f []) := by
  refine (h.step 6 (by decide) (Fr.refl _ _) (g := []) (fun _ z => nomatch z) (fun _ z => nomatch z)).congr (all7 rfl rfl rfl rfl rfl rfl rfl)
end
/-- an object of an own class made: nothing else changes -/
theorem made {H H1 : Hp} {C we dw : Addr} {fw : List Addr} (nw : H we = none) (ndw : H dw = none) (f1 : Fr [we] (upd (upd H dw (.own we)) we (.ins C dw [])) H1) (n1 : Nw [we] (upd (upd H dw (.own we)) we (.ins C dw [])) fw) :
    Same H H1 ∧ Nw [] H fw := by
  have s0 : Same H (upd (upd H dw (.own we)) we (.ins C dw [])) := fun b o e => by
    rw [upd_ne (ne_of_none e nw), upd_ne (ne_of_none e ndw)]; exact e
  refine ⟨fun b o e => f1.1 b o (s0 b o e) (fun z => by rw [List.mem_singleton] at z; rw [z, nw] at e; cases e), fun b hb => .inr ?_⟩
  rcases n1 b hb with q | q
  · rw [List.mem_singleton] at q
    rw [q]; exact nw
  · exact s0.free q

/-! ### the law's world -/
def MvIn (H : Hp) (ex : List Addr) (v : V) : Option (List Str) → Prop
  | none => v = .non
  | some l => ∃ p, v = .ref p ∧ H p = some (.lst (l.map V.str)) ∧ p ∈ ex
theorem MvIn.fr {H H' : Hp} {ex ex' g : List Addr} {v : V} {mv : Option (List Str)} (h : MvIn H ex v mv) (f : Fr g H H') (n : Apart ex g) (s : ∀ b ∈ ex, b ∈ ex') : MvIn H' ex' v mv := by
  cases mv with
  | none => exact h
  | some l =>
    obtain ⟨p, a, b, c⟩ := h
    exact ⟨p, a, f.1 _ _ b (n p c), s p c⟩
structure Wd (CW CR CL : Addr) (H0 H : Hp) (pn th lp w r g d : Addr) (names : List Str) (fw fr fg fo ex : List Addr) (nW : List Str) (pW : List (Str × Str)) (nR : List Str) (pR : List (Str × Str)) (oR : List Str)
    (nL : List Str) (pL : List (Str × Str)) (oL : List Str) (kp kc : List V) (oO : List Str) (pO : List (Str × Str)) (nP : List Str) : Prop where
  c : Cells H0 H (mk7 fw fr fg fo [lp] [th, pn] ex)
  n : H pn = some (.lst (names.map V.str))
  t : H th = some (.lst [.ref w, .ref r, .ref g])
  p : H lp = some (.lst (nP.map V.str))
  W : WebS CW H w fw nW pW
  R : RowS CR CW H r fr nR pR oR
  L : LogS CL CR CW H g fg nL pL oL kp kc
  O : OwnS H d fo oO pO
section
variable {CW CR CL : Addr} {H0 H H' : Hp} {pn th lp w r g d : Addr} {names : List Str} {fw fr fg fo ex : List Addr} {nW : List Str} {pW : List (Str × Str)} {nR : List Str} {pR : List (Str × Str)} {oR : List Str}
  {nL : List Str} {pL : List (Str × Str)} {oL : List Str} {kp kc : List V} {oO : List Str} {pO : List (Str × Str)} {nP : List Str}
theorem Wd.same (h : Wd CW CR CL H0 H pn th lp w r g d names fw fr fg fo ex nW pW nR pR oR nL pL oL kp kc oO pO nP) (s : Same H H') : Wd CW CR CL H0 H' pn th lp w r g d names fw fr fg fo ex nW pW nR pR oR nL pL oL kp kc oO pO nP :=
  ⟨h.c.same s, s _ _ h.n, s _ _ h.t, s _ _ h.p, h.W.same s, h.R.same s, h.L.same s, h.O.same s⟩
theorem Wd.web {fw' : List Addr} {nW' : List Str} {pW' : List (Str × Str)} (h : Wd CW CR CL H0 H pn th lp w r g d names fw fr fg fo ex nW pW nR pR oR nL pL oL kp kc oO pO nP) (f : Fr fw H H') (n : Nw fw H fw') (W : WebS CW H' w fw' nW' pW') :
    Wd CW CR CL H0 H' pn th lp w r g d names fw' fr fg fo ex nW' pW' nR pR oR nL pL oL kp kc oO pO nP :=
  ⟨h.c.s0 f n (fun b hb => W.old hb), f.1 _ _ h.n (h.c.ap 5 0 (by decide) (by decide) (by decide) _ (by simp [mk7])), f.1 _ _ h.t (h.c.ap 5 0 (by decide) (by decide) (by decide) _ (by simp [mk7])), f.1 _ _ h.p (h.c.ap 4 0 (by decide) (by decide) (by decide) _ (by simp [mk7])),
    W, h.R.fr f (h.c.ap 1 0 (by decide) (by decide) (by decide)), h.L.fr f (h.c.ap 2 0 (by decide) (by decide) (by decide)), h.O.fr f (h.c.ap 3 0 (by decide) (by decide) (by decide))⟩
theorem Wd.row {fr' : List Addr} {nR' : List Str} {pR' : List (Str × Str)} {oR' : List Str} (h : Wd CW CR CL H0 H pn th lp w r g d names fw fr fg fo ex nW pW nR pR oR nL pL oL kp kc oO pO nP) (f : Fr fr H H') (n : Nw fr H fr') (R : RowS CR CW H' r fr' nR' pR' oR') :
    Wd CW CR CL H0 H' pn th lp w r g d names fw fr' fg fo ex nW pW nR' pR' oR' nL pL oL kp kc oO pO nP :=
  ⟨h.c.s1 f n (fun b hb => R.old hb), f.1 _ _ h.n (h.c.ap 5 1 (by decide) (by decide) (by decide) _ (by simp [mk7])), f.1 _ _ h.t (h.c.ap 5 1 (by decide) (by decide) (by decide) _ (by simp [mk7])), f.1 _ _ h.p (h.c.ap 4 1 (by decide) (by decide) (by decide) _ (by simp [mk7])),
    h.W.fr f (h.c.ap 0 1 (by decide) (by decide) (by decide)), R, h.L.fr f (h.c.ap 2 1 (by decide) (by decide) (by decide)), h.O.fr f (h.c.ap 3 1 (by decide) (by decide) (by decide))⟩
theorem Wd.log {fg' : List Addr} {nL' : List Str} {pL' : List (Str × Str)} {oL' : List Str} {kp' kc' : List V} (h : Wd CW CR CL H0 H pn th lp w r g d names fw fr fg fo ex nW pW nR pR oR nL pL oL kp kc oO pO nP) (f : Fr fg H H') (n : Nw fg H fg') (L : LogS CL CR CW H' g fg' nL' pL' oL' kp' kc') :
    Wd CW CR CL H0 H' pn th lp w r g d names fw fr fg' fo ex nW pW nR pR oR nL' pL' oL' kp' kc' oO pO nP :=
  ⟨h.c.s2 f n (fun b hb => L.old hb), f.1 _ _ h.n (h.c.ap 5 2 (by decide) (by decide) (by decide) _ (by simp [mk7])), f.1 _ _ h.t (h.c.ap 5 2 (by decide) (by decide) (by decide) _ (by simp [mk7])), f.1 _ _ h.p (h.c.ap 4 2 (by decide) (by decide) (by decide) _ (by simp [mk7])),
    h.W.fr f (h.c.ap 0 2 (by decide) (by decide) (by decide)), h.R.fr f (h.c.ap 1 2 (by decide) (by decide) (by decide)), L, h.O.fr f (h.c.ap 3 2 (by decide) (by decide) (by decide))⟩
theorem Wd.own {fo' : List Addr} {oO' : List Str} {pO' : List (Str × Str)} (h : Wd CW CR CL H0 H pn th lp w r g d names fw fr fg fo ex nW pW nR pR oR nL pL oL kp kc oO pO nP) (f : Fr fo H H') (n : Nw fo H fo') (O : OwnS H' d fo' oO' pO') :
    Wd CW CR CL H0 H' pn th lp w r g d names fw fr fg fo' ex nW pW nR pR oR nL pL oL kp kc oO' pO' nP :=
  ⟨h.c.s3 f n (fun b hb => O.old hb), f.1 _ _ h.n (h.c.ap 5 3 (by decide) (by decide) (by decide) _ (by simp [mk7])), f.1 _ _ h.t (h.c.ap 5 3 (by decide) (by decide) (by decide) _ (by simp [mk7])), f.1 _ _ h.p (h.c.ap 4 3 (by decide) (by decide) (by decide) _ (by simp [mk7])),
    h.W.fr f (h.c.ap 0 3 (by decide) (by decide) (by decide)), h.R.fr f (h.c.ap 1 3 (by decide) (by decide) (by decide)), h.L.fr f (h.c.ap 2 3 (by decide) (by decide) (by decide)), O⟩
theorem Wd.put {nP' : List Str} (h : Wd CW CR CL H0 H pn th lp w r g d names fw fr fg fo ex nW pW nR pR oR nL pL oL kp kc oO pO nP) (f : Fr [lp] H H') (e : H' lp = some (.lst (nP'.map V.str))) :
    Wd CW CR CL H0 H' pn th lp w r g d names fw fr fg fo ex nW pW nR pR oR nL pL oL kp kc oO pO nP' :=
  ⟨h.c.s4 f (Nw.refl _ _) (fun b hb => by rw [List.mem_singleton] at hb; rw [hb, e]; exact fun z => nomatch z), f.1 _ _ h.n (h.c.ap 5 4 (by decide) (by decide) (by decide) _ (by simp [mk7])), f.1 _ _ h.t (h.c.ap 5 4 (by decide) (by decide) (by decide) _ (by simp [mk7])), e,
    h.W.fr f (h.c.ap 0 4 (by decide) (by decide) (by decide)), h.R.fr f (h.c.ap 1 4 (by decide) (by decide) (by decide)), h.L.fr f (h.c.ap 2 4 (by decide) (by decide) (by decide)), h.O.fr f (h.c.ap 3 4 (by decide) (by decide) (by decide))⟩
theorem Wd.tmp {ex' : List Addr} (h : Wd CW CR CL H0 H pn th lp w r g d names fw fr fg fo ex nW pW nR pR oR nL pL oL kp kc oO pO nP) (f : Fr ex H H') (n : Nw ex H ex') (o : ∀ b ∈ ex', H' b ≠ none) :
    Wd CW CR CL H0 H' pn th lp w r g d names fw fr fg fo ex' nW pW nR pR oR nL pL oL kp kc oO pO nP :=
  ⟨h.c.s6 f n o, f.1 _ _ h.n (h.c.ap 5 6 (by decide) (by decide) (by decide) _ (by simp [mk7])), f.1 _ _ h.t (h.c.ap 5 6 (by decide) (by decide) (by decide) _ (by simp [mk7])), f.1 _ _ h.p (h.c.ap 4 6 (by decide) (by decide) (by decide) _ (by simp [mk7])),
    h.W.fr f (h.c.ap 0 6 (by decide) (by decide) (by decide)), h.R.fr f (h.c.ap 1 6 (by decide) (by decide) (by decide)), h.L.fr f (h.c.ap 2 6 (by decide) (by decide) (by decide)), h.O.fr f (h.c.ap 3 6 (by decide) (by decide) (by decide))⟩
theorem Wd.drop (h : Wd CW CR CL H0 H pn th lp w r g d names fw fr fg fo ex nW pW nR pR oR nL pL oL kp kc oO pO nP) : Wd CW CR CL H0 H pn th lp w r g d names fw fr fg fo [] nW pW nR pR oR nL pL oL kp kc oO pO nP :=
  ⟨h.c.drop6, h.n, h.t, h.p, h.W, h.R, h.L, h.O⟩
theorem Wd.mut {D : Addr} {xs ys : List V} (h : Wd CW CR CL H0 H pn th lp w r g d names fw fr fg fo ex nW pW nR pR oR nL pL oL kp kc oO pO nP) (m : D ∈ ex) (e : H D = some (.lst xs)) :
    Wd CW CR CL H0 (upd H D (.lst ys)) pn th lp w r g d names fw fr fg fo ex nW pW nR pR oR nL pL oL kp kc oO pO nP :=
  h.tmp (Fr.put m (lst_ntup e)) (Nw.refl _ _) (fun b hb => by
    by_cases c : b = D
    · rw [c, upd_same]; exact fun z => nomatch z
    · rw [upd_ne c]; exact h.c.old 6 (by decide) b hb)
theorem Wd.new {D : Addr} {o : HO} (h : Wd CW CR CL H0 H pn th lp w r g d names fw fr fg fo ex nW pW nR pR oR nL pL oL kp kc oO pO nP) (e : H D = none) :
    Wd CW CR CL H0 (upd H D o) pn th lp w r g d names fw fr fg fo (D :: ex) nW pW nR pR oR nL pL oL kp kc oO pO nP :=
  h.tmp (Fr.new e) (fun b hb => by
    rcases List.mem_cons.mp hb with q | q
    · rw [q]; exact .inr e
    · exact .inl q) (fun b hb => by
    by_cases c : b = D
    · rw [c, upd_same]; exact fun z => nomatch z
    · rw [upd_ne c]
      rcases List.mem_cons.mp hb with q | q
      · exact absurd q c
      · exact h.c.old 6 (by decide) b q)
/-- a moved list told by the row joins what is looked at later -/
theorem Wd.rowMv {fr' : List Addr} {nR' : List Str} {pR' : List (Str × Str)} {oR' : List Str} {v : V} {mv : Option (List Str)} (h : Wd CW CR CL H0 H pn th lp w r g d names fw fr fg fo ex nW pW nR pR oR nL pL oL kp kc oO pO nP) (f : Fr fr H H') (n : Nw fr H fr') (R : RowS CR CW H' r fr' nR' pR' oR') (m : MvV H H' fr' v mv) :
    ∃ ex', (∀ b ∈ ex, b ∈ ex') ∧ MvIn H' ex' v mv ∧ Wd CW CR CL H0 H' pn th lp w r g d names fw fr' fg fo ex' nW pW nR' pR' oR' nL pL oL kp kc oO pO nP := by
  have h1 := h.row f n R
  cases mv with
  | none => exact ⟨ex, fun _ z => z, m, h1⟩
  | some l =>
    obtain ⟨p, a, b, c, e⟩ := m
    have o := h.c.out c
    refine ⟨p :: ex, fun _ z => List.mem_cons_of_mem _ z, ⟨p, a, b, List.mem_cons_self⟩, ⟨h1.c.a6 (out7 (o 0 (by decide)) e (o 2 (by decide)) (o 3 (by decide)) (o 4 (by decide)) (o 5 (by decide)) (o 6 (by decide))) (h.c.sm.free c) (by rw [b]; exact fun z => nomatch z), h1.n, h1.t, h1.p, h1.W, h1.R, h1.L, h1.O⟩⟩
theorem Wd.logMv {fg' : List Addr} {nL' : List Str} {pL' : List (Str × Str)} {oL' : List Str} {kp' kc' : List V} {v : V} {mv : Option (List Str)} (h : Wd CW CR CL H0 H pn th lp w r g d names fw fr fg fo ex nW pW nR pR oR nL pL oL kp kc oO pO nP) (f : Fr fg H H') (n : Nw fg H fg') (L : LogS CL CR CW H' g fg' nL' pL' oL' kp' kc') (m : MvV H H' fg' v mv) :
    ∃ ex', (∀ b ∈ ex, b ∈ ex') ∧ MvIn H' ex' v mv ∧ Wd CW CR CL H0 H' pn th lp w r g d names fw fr fg' fo ex' nW pW nR pR oR nL' pL' oL' kp' kc' oO pO nP := by
  have h1 := h.log f n L
  cases mv with
  | none => exact ⟨ex, fun _ z => z, m, h1⟩
  | some l =>
    obtain ⟨p, a, b, c, e⟩ := m
    have o := h.c.out c
    refine ⟨p :: ex, fun _ z => List.mem_cons_of_mem _ z, ⟨p, a, b, List.mem_cons_self⟩, ⟨h1.c.a6 (out7 (o 0 (by decide)) (o 1 (by decide)) e (o 3 (by decide)) (o 4 (by decide)) (o 5 (by decide)) (o 6 (by decide))) (h.c.sm.free c) (by rw [b]; exact fun z => nomatch z), h1.n, h1.t, h1.p, h1.W, h1.R, h1.L, h1.O⟩⟩
theorem Wd.ownMv {fo' : List Addr} {oO' : List Str} {pO' : List (Str × Str)} {v : V} {mv : Option (List Str)} (h : Wd CW CR CL H0 H pn th lp w r g d names fw fr fg fo ex nW pW nR pR oR nL pL oL kp kc oO pO nP) (f : Fr fo H H') (n : Nw fo H fo') (O : OwnS H' d fo' oO' pO') (m : MvV H H' fo' v mv) :
    ∃ ex', (∀ b ∈ ex, b ∈ ex') ∧ MvIn H' ex' v mv ∧ Wd CW CR CL H0 H' pn th lp w r g d names fw fr fg fo' ex' nW pW nR pR oR nL pL oL kp kc oO' pO' nP := by
  have h1 := h.own f n O
  cases mv with
  | none => exact ⟨ex, fun _ z => z, m, h1⟩
  | some l =>
    obtain ⟨p, a, b, c, e⟩ := m
    have o := h.c.out c
    refine ⟨p :: ex, fun _ z => List.mem_cons_of_mem _ z, ⟨p, a, b, List.mem_cons_self⟩, ⟨h1.c.a6 (out7 (o 0 (by decide)) (o 1 (by decide)) (o 2 (by decide)) e (o 4 (by decide)) (o 5 (by decide)) (o 6 (by decide))) (h.c.sm.free c) (by rw [b]; exact fun z => nomatch z), h1.n, h1.t, h1.p, h1.W, h1.R, h1.L, h1.O⟩⟩
end
/-! ### none or those that moved, as data -/
def mD : Option (List Str) → PyData
  | none => .none
  | some l => .list (l.map sD)
theorem eqv_mv : ∀ a b : Option (List Str), PyData.eqv (mD a) (mD b) = decide (a = b)
  | none, none => by simp [mD, PyData.eqv]
  | none, some l => by simp [mD, PyData.eqv]
  | some l, none => by simp [mD, PyData.eqv]
  | some l, some k => by
    show PyData.eqv (.list (l.map sD)) (.list (k.map sD)) = _
    rw [eqv_strs]
    by_cases c : l = k <;> simp [c]
theorem mD_plain (a : Option (List Str)) : (mD a).plain = true := by
  cases a with
  | none => simp [mD, PyData.plain]
  | some l => exact strs_plain l
theorem mD_depth (a : Option (List Str)) : (mD a).depth ≤ 3 := by
  cases a with
  | none => simp [mD, PyData.depth]
  | some l => exact strs_depth l
theorem dp_mv {K : PySem.W.Frag} {H : Hp} {ex : List Addr} {v : V} {mv : Option (List Str)} (h : MvIn H ex v mv) : Dp K H v (mD mv) := by
  cases mv with
  | none => rw [show v = V.non from h]; exact .non
  | some l =>
    obtain ⟨p, a, b, _⟩ := h
    rw [a]; exact dp_strs (SqL.of b)
theorem same_fr {H H1 H2 : Hp} {p : Addr} (s : Same H H1) (f : Fr [p] H1 H2) (h : H p = none) : Same H H2 := fun b o e => f.1 b o (s _ _ e) (fun z => by rw [List.mem_singleton] at z; rw [z, h] at e; cases e)
theorem neD {H : Hp} {D p t : Addr} {xs : List V} {l : List Str} (h : H D = some (.lst (.ref t :: xs))) (k : H p = some (.lst (l.map V.str))) : p ≠ D := fun z => by
  rw [z, h] at k
  injection k with k
  injection k with k
  cases l with
  | nil => cases k
  | cons y l => cases k
theorem MvIn.upd {H : Hp} {ex : List Addr} {v : V} {mv : Option (List Str)} {D t : Addr} {xs : List V} {o : HO} (h : MvIn H ex v mv) (e : H D = some (.lst (.ref t :: xs))) : MvIn (upd H D o) ex v mv := by
  cases mv with
  | none => exact h
  | some l =>
    obtain ⟨p, a, b, c⟩ := h
    exact ⟨p, a, by rw [upd_ne (neD e b)]; exact b, c⟩
theorem MvIn.same {H H' : Hp} {ex : List Addr} {v : V} {mv : Option (List Str)} (h : MvIn H ex v mv) (s : Same H H') : MvIn H' ex v mv := h.fr (g := []) (Fr.of_same s) (fun _ _ z => nomatch z) (fun _ z => z)
theorem mvs_plain (xs : List (Option (List Str))) : PyData.plain (.list (xs.map mD)) = true := by simp only [PyData.plain]; exact plain_of mD mD_plain xs
theorem mvs_depth (xs : List (Option (List Str))) : PyData.depth (.list (xs.map mD)) ≤ 5 := by
  have := depth_of mD 3 mD_depth xs
  simp only [PyData.depth]
  omega
theorem seq_share {P : Hp → Prop} {t u : TS} {D : Ends} {σ : L2.St} {H : Hp} (h2 : ∀ H', P H' → u D σ H') (h1 : (∀ H', P H' → u D σ H') → tSeq t u D σ H) : tSeq t u D σ H := h1 h2
theorem seq_share2 {P : Hp → Prop} {t1 t2 u : TS} {D : Ends} {σ : L2.St} {H : Hp} (h2 : ∀ H', P H' → u D σ H') (h1 : (∀ H', P H' → u D σ H') → tSeq t1 (tSeq t2 u) D σ H) : tSeq t1 (tSeq t2 u) D σ H := h1 h2
def dk : Deed → Str
  | .put _ => "put" | .take _ => "take" | .loosen _ _ => "loosen" | .lean _ _ => "lean"
theorem dk_at (dd : Deed) : atI (dd.strs.map V.str) 0 = some (.str (dk dd)) := by cases dd <;> rfl
theorem dk_put {dd : Deed} (h : dk dd = "put") : ∃ n, dd = .put n := by
  cases dd with
  | put n => exact ⟨n, rfl⟩
  | take n => exact absurd h (by show ¬ (("take" : Str) = "put"); decide +kernel)
  | loosen n m => exact absurd h (by show ¬ (("loosen" : Str) = "put"); decide +kernel)
  | lean n m => exact absurd h (by show ¬ (("lean" : Str) = "put"); decide +kernel)
theorem dk_take {dd : Deed} (h : dk dd = "take") : ∃ n, dd = .take n := by
  cases dd with
  | put n => exact absurd h (by show ¬ (("put" : Str) = "take"); decide +kernel)
  | take n => exact ⟨n, rfl⟩
  | loosen n m => exact absurd h (by show ¬ (("loosen" : Str) = "take"); decide +kernel)
  | lean n m => exact absurd h (by show ¬ (("lean" : Str) = "take"); decide +kernel)
theorem nsA_else {dd : Deed} {ns : List Str} (h1 : dk dd ≠ "put") (h2 : dk dd ≠ "take") : nsA ns dd = ns := by
  cases dd with
  | put n => exact absurd rfl h1
  | take n => exact absurd rfl h2
  | loosen n m => rfl
  | lean n m => rfl
def pLD (ps : List (Str × Str)) : PyData := .list (ps.map pD)
theorem pls_plain (xs : List (List (Str × Str))) : PyData.plain (.list (xs.map pLD)) = true := by simp only [PyData.plain]; exact plain_of pLD pairs_plain xs
theorem pls_depth (xs : List (List (Str × Str))) : PyData.depth (.list (xs.map pLD)) ≤ 5 := by
  have := depth_of pLD 3 pairs_depth xs
  simp only [PyData.depth]
  omega
theorem dpAll_pls {K : PySem.W.Frag} {H : Hp} {ps : List (Str × Str)} : ∀ R : List (Addr × Ps), (∀ q ∈ R, PL H q.1 q.2 ∧ pd q.2 = ps) → DpAll K H (R.map fun q => V.ref q.1) ((List.replicate R.length ps).map pLD)
  | [], _ => .nil
  | q :: R, h => by
    have h1 := h q List.mem_cons_self
    have d : Dp K H (.ref q.1) (pLD ps) := by rw [← h1.2]; exact dp_pairs h1.1
    exact .cons d (dpAll_pls R fun z hz => h z (List.mem_cons_of_mem _ hz))
end Lr

set_option Elab.async false
set_option linter.all false
set_option maxRecDepth 100000
set_option maxHeartbeats 4000000
namespace Lr
open PySem PySem.Spec PyProof.Rows L2
/-! ### a world of cells, each with what holds of it -/
structure Cel where
  fp : List Addr
  P : Hp → Prop
  st : ∀ H H' g, P H → Fr g H H' → Apart fp g → P H'
  old : ∀ H, P H → ∀ b ∈ fp, H b ≠ none
def webC (C : Addr) (w : Addr) (fw : List Addr) (ns : List Str) (ps : List (Str × Str)) : Cel := ⟨fw, fun H => WebS C H w fw ns ps, fun _ _ _ h e n => h.fr e n, fun _ h _ hb => h.old hb⟩
def rowC (CR CW : Addr) (r : Addr) (fr : List Addr) (ns : List Str) (ps : List (Str × Str)) (os : List Str) : Cel := ⟨fr, fun H => RowS CR CW H r fr ns ps os, fun _ _ _ h e n => h.fr e n, fun _ h _ hb => h.old hb⟩
def logC (CL CR CW : Addr) (g : Addr) (fg : List Addr) (ns : List Str) (ps : List (Str × Str)) (os : List Str) (kp kc : List V) : Cel := ⟨fg, fun H => LogS CL CR CW H g fg ns ps os kp kc, fun _ _ _ h e n => h.fr e n, fun _ h _ hb => h.old hb⟩
def ownC (d : Addr) (fo : List Addr) (os : List Str) (ps : List (Str × Str)) : Cel := ⟨fo, fun H => OwnS H d fo os ps, fun _ _ _ h e n => h.fr e n, fun _ h _ hb => h.old hb⟩
def lstC (l : Addr) (xs : List V) : Cel := ⟨[l], fun H => H l = some (.lst xs), fun _ _ _ h e n => e.1 _ _ h (n l (by simp)), fun H h b hb => by rw [List.mem_singleton] at hb; rw [hb, h]; exact fun z => nomatch z⟩
structure Wlt (H0 H : Hp) (cs : List Cel) : Prop where
  at' : ∀ (i : Nat) (c : Cel), cs[i]? = some c → c.P H ∧ ∀ b ∈ c.fp, H0 b = none
  ap : ∀ (i j : Nat) (c e : Cel), cs[i]? = some c → cs[j]? = some e → i ≠ j → Apart c.fp e.fp
  sm : Same H0 H
theorem Wlt.nil (H : Hp) : Wlt H H [] := ⟨(fun i c h => by cases h), (fun i j c e h => by cases h), Same.refl H⟩
section
variable {H0 H H' : Hp} {cs : List Cel} {c e : Cel}
theorem Wlt.get (W : Wlt H0 H cs) (i : Nat) (h : cs[i]? = some c) : c.P H := (W.at' i c h).1
theorem Wlt.same (W : Wlt H0 H cs) (s : Same H H') : Wlt H0 H' cs :=
  ⟨fun i c h => ⟨c.st _ _ [] (W.at' i c h).1 (Fr.of_same s) (fun _ _ z => nomatch z), (W.at' i c h).2⟩, W.ap, W.sm.trans s⟩
/-- one cell changes -/
theorem Wlt.set (W : Wlt H0 H cs) (i : Nat) (h : cs[i]? = some c) (f : Fr c.fp H H') (n : Nw c.fp H e.fp) (p : e.P H') : Wlt H0 H' (cs.set i e) := by
  have hi : i < cs.length := by
    by_cases q : i < cs.length
    · exact q
    · rw [List.getElem?_eq_none (by omega)] at h; cases h
  have key : ∀ j x, (cs.set i e)[j]? = some x → (j = i ∧ x = e) ∨ (j ≠ i ∧ cs[j]? = some x) := fun j x hx => by
    by_cases q : j = i
    · subst q
      rw [List.getElem?_set_self hi] at hx
      exact .inl ⟨rfl, (Option.some.inj hx).symm⟩
    · rw [List.getElem?_set_ne (fun z => q z.symm)] at hx
      exact .inr ⟨q, hx⟩
  have nw : ∀ b ∈ e.fp, H0 b = none := fun b hb => by
    rcases n b hb with q | q
    · exact (W.at' i c h).2 b q
    · exact W.sm.free q
  refine ⟨fun j x hx => ?_, fun j k x y hx hy hjk => ?_, fun b o q => f.1 _ _ (W.sm _ _ q) (fun z => by rw [(W.at' i c h).2 b z] at q; cases q)⟩
  · rcases key j x hx with ⟨rfl, rfl⟩ | ⟨hj, hx'⟩
    · exact ⟨p, nw⟩
    · exact ⟨x.st _ _ _ (W.at' j x hx').1 f (W.ap j i x c hx' h hj), (W.at' j x hx').2⟩
  · rcases key j x hx with ⟨rfl, rfl⟩ | ⟨hj, hx'⟩
    · rcases key k y hy with ⟨rfl, rfl⟩ | ⟨hk, hy'⟩
      · exact absurd rfl hjk
      · exact (W.ap j k c y h hy' hjk).step n (y.old _ (W.at' k y hy').1)
    · rcases key k y hy with ⟨rfl, rfl⟩ | ⟨hk, hy'⟩
      · exact ((W.ap k j c x h hx' (fun z => hjk z.symm)).step n (x.old _ (W.at' j x hx').1)).symm
      · exact W.ap j k x y hx' hy' hjk
/-- a cell more, of addresses that belong to no other -/
theorem Wlt.cons (W : Wlt H0 H cs) (e : Cel) (p : e.P H) (h0 : ∀ b ∈ e.fp, H0 b = none) (n : ∀ (i : Nat) (c : Cel), cs[i]? = some c → Apart e.fp c.fp) : Wlt H0 H (e :: cs) := by
  refine ⟨fun i c h => ?_, fun i j c d hi hj hij => ?_, W.sm⟩
  · cases i with
    | zero => cases h; exact ⟨p, h0⟩
    | succ i => exact W.at' i c h
  · cases i with
    | zero =>
      cases hi
      cases j with
      | zero => exact absurd rfl hij
      | succ j => exact n j d hj
    | succ i =>
      cases j with
      | zero => cases hj; exact (n i c hi).symm
      | succ j => exact W.ap i j c d hi hj (fun z => hij (by rw [z]))
/-- a cell of new addresses -/
theorem Wlt.new (W : Wlt H0 H cs) (s : Same H H') (e : Cel) (p : e.P H') (n : ∀ b ∈ e.fp, H b = none) : Wlt H0 H' (e :: cs) :=
  (W.same s).cons e p (fun b hb => W.sm.free (n b hb)) (fun i c h b hb hc => c.old _ (W.at' i c h).1 b hc (n b hb))
theorem Wlt.tail (W : Wlt H0 H (e :: cs)) : Wlt H0 H cs :=
  ⟨fun i c h => W.at' (i + 1) c h, fun i j c d hi hj hij => W.ap (i + 1) (j + 1) c d hi hj (fun z => hij (by omega)), W.sm⟩
/-- an address that stands in no cell and is not known -/
theorem Wlt.out (W : Wlt H0 H cs) {b : Addr} (h : H b = none) (i : Nat) (hi : cs[i]? = some c) : b ∉ c.fp := fun z => c.old _ (W.at' i c hi).1 b z h
end
/-! ### no ring -/
def Acy (ps : List (Str × Str)) : Prop := ∀ p ∈ ps, ¬ Rch ps p.2 p.1
theorem Rch.mono {ps qs : List (Str × Str)} {a b : Str} (h : Rch ps a b) (s : ∀ p ∈ ps, p ∈ qs) : Rch qs a b := by
  induction h with
  | refl => exact .refl
  | step _ hp ih => exact .step ih (s _ hp)
theorem Rch.split {ps : List (Str × Str)} {n m a b : Str} (h : Rch (ps ++ [(n, m)]) a b) : Rch ps a b ∨ (Rch ps a n ∧ Rch ps m b) := by
  induction h with
  | refl => exact .inl .refl
  | @step b c _ hp ih =>
    rcases List.mem_append.mp hp with q | q
    · rcases ih with z | ⟨z1, z2⟩
      · exact .inl (.step z q)
      · exact .inr ⟨z1, .step z2 q⟩
    · rw [List.mem_singleton] at q
      cases q
      rcases ih with z | ⟨z1, _⟩
      · exact .inr ⟨z, .refl⟩
      · exact .inr ⟨z1, .refl⟩
theorem Acy.nil : Acy [] := fun _ h => nomatch h
theorem Acy.sub {ps qs : List (Str × Str)} (h : Acy qs) (s : ∀ p ∈ ps, p ∈ qs) : Acy ps := fun p hp r => h p (s p hp) (r.mono s)
theorem Acy.add {ps : List (Str × Str)} {n m : Str} (h : Acy ps) (r : ¬ Rch ps m n) : Acy (ps ++ [(n, m)]) := fun p hp z => by
  rcases List.mem_append.mp hp with q | q
  · rcases z.split with y | ⟨y1, y2⟩
    · exact h p q y
    · exact r ((y2.trans (.step .refl (show (p.1, p.2) ∈ ps from q))).trans y1)
  · rw [List.mem_singleton] at q
    subst q
    exact r z.cut
theorem Acy.deed {ps : List (Str × Str)} (h : Acy ps) (dd : Deed) : Acy (psA ps dd) := by
  cases dd with
  | put n => exact h
  | take n => exact h.sub (fun p hp => (List.mem_filter.mp hp).1)
  | loosen n m => exact h.sub (fun p hp => List.mem_of_mem_erase hp)
  | lean n m =>
    show Acy (if leansOn ps n m then ps ++ [(n, m)] else ps)
    by_cases c : leansOn ps n m
    · rw [if_pos c]; exact h.add c.2
    · rw [if_neg c]; exact h
end Lr

set_option Elab.async false
set_option linter.all false
set_option maxRecDepth 100000
set_option maxHeartbeats 4000000
namespace Lr
open PySem PySem.Spec PyProof.Rows L2
/-! ### pairs of lists that are held -/
abbrev Hd := Addr × Addr × Addr × List Str
structure HeldAt (H : Hp) (l : Addr) (hs : List Hd) : Prop where
  lst : H l = some (.lst (hs.map fun h => V.ref h.1))
  tup : ∀ h ∈ hs, H h.1 = some (.tup [.ref h.2.1, .ref h.2.2.1])
  p1 : ∀ h ∈ hs, H h.2.1 = some (.lst (h.2.2.2.map V.str))
  p2 : ∀ h ∈ hs, H h.2.2.1 = some (.lst (h.2.2.2.map V.str))
def hdFp (l : Addr) (hs : List Hd) : List Addr := l :: hs.flatMap fun h => [h.2.1, h.2.2.1]
theorem hdFp_mem {l : Addr} {hs : List Hd} {b : Addr} : b ∈ hdFp l hs ↔ b = l ∨ ∃ h ∈ hs, b = h.2.1 ∨ b = h.2.2.1 := by
  unfold hdFp
  simp only [List.mem_cons, List.mem_flatMap, List.not_mem_nil, or_false]
theorem HeldAt.fr {H H' : Hp} {l : Addr} {hs : List Hd} {g : List Addr} (h : HeldAt H l hs) (e : Fr g H H') (n : Apart (hdFp l hs) g) : HeldAt H' l hs :=
  ⟨e.1 _ _ h.lst (n l (hdFp_mem.mpr (.inl rfl))), fun q hq => e.2 _ _ (h.tup q hq), fun q hq => e.1 _ _ (h.p1 q hq) (n _ (hdFp_mem.mpr (.inr ⟨q, hq, .inl rfl⟩))), fun q hq => e.1 _ _ (h.p2 q hq) (n _ (hdFp_mem.mpr (.inr ⟨q, hq, .inr rfl⟩)))⟩
theorem HeldAt.old {H : Hp} {l : Addr} {hs : List Hd} (h : HeldAt H l hs) : ∀ b ∈ hdFp l hs, H b ≠ none := fun b hb => by
  rcases hdFp_mem.mp hb with q | ⟨x, hx, q | q⟩
  · rw [q, h.lst]; exact fun z => nomatch z
  · rw [q, h.p1 x hx]; exact fun z => nomatch z
  · rw [q, h.p2 x hx]; exact fun z => nomatch z
def heldC (l : Addr) (hs : List Hd) : Cel := ⟨hdFp l hs, fun H => HeldAt H l hs, fun _ _ _ h e n => h.fr e n, fun _ h => h.old⟩
/-- the first cell moves behind the next three -/
theorem Wlt.rot3 {H0 H : Hp} {a b c d : Cel} (W : Wlt H0 H [a, b, c, d]) : Wlt H0 H [b, c, d, a] := by
  have key : ∀ (i : Nat) (x : Cel), [b, c, d, a][i]? = some x → ∃ j, [a, b, c, d][j]? = some x ∧ (i = 0 ∧ j = 1 ∨ i = 1 ∧ j = 2 ∨ i = 2 ∧ j = 3 ∨ i = 3 ∧ j = 0) := fun i x h => by
    match i, h with
    | 0, h => exact ⟨1, h, by omega⟩
    | 1, h => exact ⟨2, h, by omega⟩
    | 2, h => exact ⟨3, h, by omega⟩
    | 3, h => exact ⟨0, h, by omega⟩
    | (n + 4), h => cases h
  refine ⟨fun i x h => ?_, fun i j x y hx hy n => ?_, W.sm⟩
  · obtain ⟨j, hj, _⟩ := key i x h
    exact W.at' j x hj
  · obtain ⟨i', hi', e1⟩ := key i x hx
    obtain ⟨j', hj', e2⟩ := key j y hy
    exact W.ap i' j' x y hi' hj' (by omega)
/-- a told list and its twin join those that are held -/
theorem Wlt.held {H0 H H15 : Hp} {p q t2 lh : Addr} {xs : List Str} {a b c : Cel} {hs : List Hd} (W : Wlt H0 H15 [lstC p (xs.map V.str), a, b, c, heldC lh hs]) (ht : H15 t2 = some (.tup [.ref p, .ref q])) (hq : H15 q = some (.lst (xs.map V.str)))
    (nq : H q = none) (s : Same H H15) (W0 : Wlt H0 H [lstC p (xs.map V.str), a, b, c, heldC lh hs]) :
    Wlt H0 (upd H15 lh (.lst ((hs.map fun h => V.ref h.1) ++ [.ref t2]))) [a, b, c, heldC lh (hs ++ [(t2, p, q, xs)])] := by
  have hh : HeldAt H15 lh hs := W.get 4 rfl
  have hp : H15 p = some (.lst (xs.map V.str)) := W.get 0 rfl
  have nlp : p ≠ lh := fun z => W.ap 0 4 _ _ rfl rfl (by decide) p (show p ∈ [p] by simp) (hdFp_mem.mpr (.inl z))
  have nlq : q ≠ lh := fun z => W0.out nq 4 rfl (hdFp_mem.mpr (.inl z))
  have f : Fr [lh] H15 (upd H15 lh (.lst ((hs.map fun h => V.ref h.1) ++ [.ref t2]))) := Fr.put (by simp) (lst_ntup hh.lst)
  have ntl : t2 ≠ lh := ne_of ht hh.lst (by intro z; cases z)
  have nP : ∀ h ∈ hs, h.2.1 ≠ lh ∧ h.2.2.1 ≠ lh := fun h hm => by
    have hl := hh.lst
    cases hs with
    | nil => cases hm
    | cons h0 r => exact ⟨neD hl (hh.p1 h hm), neD hl (hh.p2 h hm)⟩
  have hh2 : HeldAt (upd H15 lh (.lst ((hs.map fun h => V.ref h.1) ++ [.ref t2]))) lh (hs ++ [(t2, p, q, xs)]) := by
    refine ⟨by rw [upd_same, List.map_append]; rfl, fun h hm => ?_, fun h hm => ?_, fun h hm => ?_⟩
    · rcases List.mem_append.mp hm with z | z
      · have e := hh.tup h z
        rw [upd_ne (ne_of e hh.lst (by intro y; cases y))]; exact e
      · rw [List.mem_singleton] at z; subst z; rw [upd_ne ntl]; exact ht
    · rcases List.mem_append.mp hm with z | z
      · rw [upd_ne (nP h z).1]; exact hh.p1 h z
      · rw [List.mem_singleton] at z; subst z; rw [upd_ne nlp]; exact hp
    · rcases List.mem_append.mp hm with z | z
      · rw [upd_ne (nP h z).2]; exact hh.p2 h z
      · rw [List.mem_singleton] at z; subst z; rw [upd_ne nlq]; exact hq
  have W2 : Wlt H0 H15 [lstC q (xs.map V.str), lstC p (xs.map V.str), a, b, c, heldC lh hs] := W.cons (lstC q (xs.map V.str)) hq (fun z hz => by rw [List.mem_singleton.mp hz]; exact W0.sm.free nq) (fun i x hx z hz hz2 => by
    rw [List.mem_singleton.mp hz] at hz2
    exact W0.out nq i hx hz2)
  have hin : ∀ z ∈ hdFp lh (hs ++ [(t2, p, q, xs)]), z ∈ [q] ∨ z ∈ [p] ∨ z ∈ hdFp lh hs := fun z hz => by
    rcases hdFp_mem.mp hz with y | ⟨h, hm, y⟩
    · exact .inr (.inr (hdFp_mem.mpr (.inl y)))
    · rcases List.mem_append.mp hm with u | u
      · exact .inr (.inr (hdFp_mem.mpr (.inr ⟨h, u, y⟩)))
      · rw [List.mem_singleton] at u
        subst u
        rcases y with y | y
        · exact .inr (.inl (by rw [y]; simp))
        · exact .inl (by rw [y]; simp)
  have apx : ∀ (k : Nat) (x : Cel), [lstC q (xs.map V.str), lstC p (xs.map V.str), a, b, c, heldC lh hs][k]? = some x → 2 ≤ k → k < 5 → Apart (hdFp lh (hs ++ [(t2, p, q, xs)])) x.fp := fun k x hx h2 h5 z hz hz2 => by
    rcases hin z hz with y | y | y
    · exact W2.ap 0 k _ x rfl hx (by omega) z y hz2
    · exact W2.ap 1 k _ x rfl hx (by omega) z y hz2
    · exact W2.ap 5 k _ x rfl hx (by omega) z y hz2
  have hl0 : H0 lh = none := (W.at' 4 _ rfl).2 lh (hdFp_mem.mpr (.inl rfl))
  have key : ∀ (i : Nat) (x : Cel), [a, b, c, heldC lh (hs ++ [(t2, p, q, xs)])][i]? = some x → (i < 3 ∧ [lstC q (xs.map V.str), lstC p (xs.map V.str), a, b, c, heldC lh hs][i + 2]? = some x) ∨ (i = 3 ∧ x = heldC lh (hs ++ [(t2, p, q, xs)])) := fun i x h => by
    match i, h with
    | 0, h => exact .inl ⟨by omega, h⟩
    | 1, h => exact .inl ⟨by omega, h⟩
    | 2, h => exact .inl ⟨by omega, h⟩
    | 3, h => exact .inr ⟨rfl, (Option.some.inj h).symm⟩
    | (n + 4), h => cases h
  refine ⟨fun i x h => ?_, fun i j x y hx hy n => ?_, fun z o e => f.1 _ _ (W.sm _ _ e) (fun y => by rw [List.mem_singleton] at y; rw [y, hl0] at e; cases e)⟩
  · rcases key i x h with ⟨hi, hx⟩ | ⟨_, rfl⟩
    · refine ⟨x.st _ _ _ (W2.at' _ x hx).1 f (fun z hz hz2 => ?_), (W2.at' _ x hx).2⟩
      rw [List.mem_singleton] at hz2
      exact W2.ap (i + 2) 5 x _ hx rfl (by omega) z hz (hdFp_mem.mpr (.inl hz2))
    · refine ⟨hh2, fun z hz => ?_⟩
      rcases hin z hz with y | y | y
      · exact (W2.at' 0 _ rfl).2 z y
      · exact (W2.at' 1 _ rfl).2 z y
      · exact (W2.at' 5 _ rfl).2 z y
  · rcases key i x hx with ⟨hi, hx'⟩ | ⟨hi, rfl⟩
    · rcases key j y hy with ⟨hj, hy'⟩ | ⟨hj, rfl⟩
      · exact W2.ap (i + 2) (j + 2) x y hx' hy' (by omega)
      · exact (apx (i + 2) x hx' (by omega) (by omega)).symm
    · rcases key j y hy with ⟨hj, hy'⟩ | ⟨hj, rfl⟩
      · exact apx (j + 2) y hy' (by omega) (by omega)
      · exact absurd (hi.trans hj.symm) n
theorem seq_shareS {P : L2.St → Hp → Prop} {t u : TS} {D : Ends} {σ : L2.St} {H : Hp} (h2 : ∀ σ' H', P σ' H' → u D σ' H') (h1 : (∀ σ' H', P σ' H' → u D σ' H') → tSeq t u D σ H) : tSeq t u D σ H := h1 h2
theorem dk_lean {dd : Deed} (h : dk dd = "lean") : ∃ n m, dd = .lean n m := by
  cases dd with
  | put n => exact absurd h (by show ¬ (("put" : Str) = "lean"); decide +kernel)
  | take n => exact absurd h (by show ¬ (("take" : Str) = "lean"); decide +kernel)
  | loosen n m => exact absurd h (by show ¬ (("loosen" : Str) = "lean"); decide +kernel)
  | lean n m => exact ⟨n, m, rfl⟩
theorem mvA_else {dd : Deed} {os : List Str} {ps : List (Str × Str)} (h : dk dd ≠ "lean") : mvA ps os dd = none := by
  cases dd with
  | put n => rfl
  | take n => rfl
  | loosen n m => rfl
  | lean n m => exact absurd rfl h
end Lr

set_option Elab.async false
set_option linter.all false
set_option maxRecDepth 100000
set_option maxHeartbeats 4000000
namespace Lr
open PySem PySem.Spec PyProof.Rows L2
/-! ### right rows: l stands ahead of h for each (h, l) -/
def RightS (N : List Str) (ps : List (Str × Str)) : Prop := ∀ p ∈ ps, [p.2, p.1].Sublist N
theorem sub_cross {x y : Str} {u v : List Str} (hx : x ∈ u) (hy : y ∈ v) : [x, y].Sublist (u ++ v) :=
  List.Sublist.append (l₁ := [x]) (l₂ := u) (r₁ := [y]) (r₂ := v) (List.singleton_sublist.mpr hx) (List.singleton_sublist.mpr hy)
theorem sub_split {x y : Str} : ∀ {N : List Str}, [x, y].Sublist N → ∃ u v, N = u ++ y :: v ∧ x ∈ u
  | [], h => by cases h
  | z :: N, h => by
    cases h with
    | cons _ h' =>
      obtain ⟨u, v, e, hx⟩ := sub_split h'
      exact ⟨z :: u, v, by rw [e]; rfl, List.mem_cons_of_mem _ hx⟩
    | cons_cons _ h' =>
      have hy : y ∈ N := List.singleton_sublist.mp h'
      obtain ⟨u, v, e⟩ := List.append_of_mem hy
      exact ⟨x :: u, v, by rw [e]; rfl, List.mem_cons_self⟩
theorem sub_split' {x y : Str} {N : List Str} (h : [x, y].Sublist N) : ∃ u v, N = u ++ x :: v ∧ y ∈ v := by
  induction N with
  | nil => cases h
  | cons z N ih =>
    cases h with
    | cons _ h' =>
      obtain ⟨u, v, e, hy⟩ := ih h'
      exact ⟨z :: u, v, by rw [e]; rfl, hy⟩
    | cons_cons _ h' => exact ⟨[], N, rfl, List.singleton_sublist.mp h'⟩
theorem idx_app_left {u v : List Str} {x : Str} (h : x ∈ u) : (u ++ v).idxOf x = u.idxOf x := by rw [List.idxOf_append, if_pos h]
theorem idx_app_right {u v : List Str} {x : Str} (h : x ∉ u) : (u ++ v).idxOf x = u.length + v.idxOf x := by rw [List.idxOf_append, if_neg h, Nat.add_comm]
/-- the places tell who is ahead -/
theorem sub_idx {x y : Str} {N : List Str} (n : N.Nodup) (h : [x, y].Sublist N) : N.idxOf x < N.idxOf y := by
  obtain ⟨u, v, e, hx⟩ := sub_split h
  subst e
  have hy : y ∉ u := fun z => by
    rw [List.nodup_append] at n
    exact n.2.2 y z y List.mem_cons_self rfl
  rw [idx_app_left hx, idx_app_right hy]
  have := idx_lt hx
  omega
theorem idx_sub {x y : Str} {N : List Str} (hx : x ∈ N) (hy : y ∈ N) (h : N.idxOf x < N.idxOf y) : [x, y].Sublist N := by
  have hlx := idx_lt hx
  have hly := idx_lt hy
  have ex : N[N.idxOf x]? = some x := by rw [List.getElem?_eq_getElem hlx, List.getElem_idxOf]
  have ey : N[N.idxOf y]? = some y := by rw [List.getElem?_eq_getElem hly, List.getElem_idxOf]
  have e := List.take_append_drop (N.idxOf x + 1) N
  rw [← e]
  refine sub_cross ?_ ?_
  · rw [List.take_succ, ex]
    exact List.mem_append_right _ (by simp)
  · refine List.mem_of_getElem? (i := N.idxOf y - (N.idxOf x + 1)) ?_
    rw [List.getElem?_drop]
    have : N.idxOf x + 1 + (N.idxOf y - (N.idxOf x + 1)) = N.idxOf y := by omega
    rw [this]; exact ey
/-! ### the row filled anew keeps who is ahead -/
theorem popF_append (mv : List Str) : ∀ (s1 s2 left : List Str), popF mv (s1 ++ s2) left = popF mv s1 left ++ popF mv s2 (left.drop (cntIn mv s1))
  | [], s2, left => by simp [popF, cntIn]
  | o :: s1, s2, left => by
    rw [List.cons_append, popF_cons, popF_cons]
    by_cases c : o ∈ mv
    · rw [if_pos c, if_pos c, popF_append mv s1 s2, cntIn_cons_pos c, List.drop_tail]; rfl
    · rw [if_neg c, if_neg c, popF_append mv s1 s2, cntIn_cons_neg c]; rfl
theorem popF_none (mv : List Str) : ∀ (s left : List Str), (∀ o ∈ s, o ∉ mv) → popF mv s left = s
  | [], _, _ => rfl
  | o :: s, left, h => by
    rw [popF_cons, if_neg (h o List.mem_cons_self), popF_none mv s left (fun x hx => h x (List.mem_cons_of_mem _ hx))]
theorem cntIn_none {mv : List Str} : ∀ {s : List Str}, (∀ o ∈ s, o ∉ mv) → cntIn mv s = 0
  | [], _ => rfl
  | o :: s, h => by rw [cntIn_cons_neg (h o List.mem_cons_self), cntIn_none (fun x hx => h x (List.mem_cons_of_mem _ hx))]
/-- the taken ones stand in popF, in their order -/
theorem popF_take (mv : List Str) : ∀ (s left : List Str), cntIn mv s ≤ left.length → (left.take (cntIn mv s)).Sublist (popF mv s left)
  | [], left, _ => by simp [cntIn, popF]
  | o :: s, left, h => by
    rw [popF_cons]
    by_cases c : o ∈ mv
    · rw [if_pos c]
      rw [cntIn_cons_pos c] at h ⊢
      cases left with
      | nil => simp at h
      | cons x left =>
        rw [List.take_succ_cons]
        exact List.Sublist.cons_cons x (popF_take mv s left (by simp only [List.length_cons] at h; omega))
    · rw [if_neg c]
      rw [cntIn_cons_neg c] at h ⊢
      exact List.Sublist.cons o (popF_take mv s left h)
theorem popF_keep (mv : List Str) : ∀ (s left : List Str), (s.filter fun o => decide (o ∉ mv)).Sublist (popF mv s left)
  | [], left => by simp [popF]
  | o :: s, left => by
    rw [popF_cons]
    by_cases c : o ∈ mv
    · rw [if_pos c]
      have e : (o :: s).filter (fun o => decide (o ∉ mv)) = s.filter (fun o => decide (o ∉ mv)) := by simp [c]
      rw [e]
      exact List.Sublist.cons _ (popF_keep mv s left.tail)
    · rw [if_neg c]
      have e : (o :: s).filter (fun o => decide (o ∉ mv)) = o :: s.filter (fun o => decide (o ∉ mv)) := by simp [c]
      rw [e]
      exact List.Sublist.cons_cons _ (popF_keep mv s left)
section
variable {st : List Str} {L F : Str → Bool}
theorem cnt_LF (dis : ∀ o ∈ st, ¬ (L o = true ∧ F o = true)) {s : List Str} (hs : ∀ o ∈ s, o ∈ st) : cntIn (st.filter L ++ st.filter F) s = (s.filter L).length + (s.filter F).length := by
  induction s with
  | nil => rfl
  | cons o s ih =>
    have ih' := ih (fun x hx => hs x (List.mem_cons_of_mem _ hx))
    have ho := hs o List.mem_cons_self
    have hd := dis o ho
    by_cases c1 : L o = true
    · have c2 : ¬ F o = true := fun z => hd ⟨c1, z⟩
      rw [cntIn_cons_pos (List.mem_append_left _ (List.mem_filter.mpr ⟨ho, c1⟩)), ih', List.filter_cons, if_pos c1, List.filter_cons, if_neg c2, List.length_cons]; omega
    · by_cases c2 : F o = true
      · rw [cntIn_cons_pos (List.mem_append_right _ (List.mem_filter.mpr ⟨ho, c2⟩)), ih', List.filter_cons, if_neg c1, List.filter_cons, if_pos c2, List.length_cons]; omega
      · have nm : o ∉ st.filter L ++ st.filter F := fun z => by
          rcases List.mem_append.mp z with y | y
          · exact c1 (List.mem_filter.mp y).2
          · exact c2 (List.mem_filter.mp y).2
        rw [cntIn_cons_neg nm, ih', List.filter_cons, if_neg c1, List.filter_cons, if_neg c2]
/-- who is ahead in the stretch filled anew -/
theorem stretch_ahead (dis : ∀ o ∈ st, ¬ (L o = true ∧ F o = true)) {x y : Str} :
    (x ∈ st → y ∈ st → L x = true → F y = true → [x, y].Sublist (popF (st.filter L ++ st.filter F) st (st.filter L ++ st.filter F))) ∧
    ([x, y].Sublist st → ((L x = true ∧ L y = true) ∨ (F x = true ∧ F y = true) ∨ (L x = true ∧ ¬ L y = true ∧ ¬ F y = true) ∨ (¬ L x = true ∧ ¬ F x = true ∧ F y = true) ∨ (¬ L x = true ∧ ¬ F x = true ∧ ¬ L y = true ∧ ¬ F y = true)) →
      [x, y].Sublist (popF (st.filter L ++ st.filter F) st (st.filter L ++ st.filter F))) := by
  have hc : cntIn (st.filter L ++ st.filter F) st = (st.filter L ++ st.filter F).length := by rw [cnt_LF dis (fun _ h => h), List.length_append]
  have htk := popF_take (st.filter L ++ st.filter F) st (st.filter L ++ st.filter F) (Nat.le_of_eq hc)
  rw [hc, List.take_length] at htk
  have hmem : ∀ o, o ∈ st.filter L ++ st.filter F ↔ o ∈ st ∧ (L o = true ∨ F o = true) := fun o => by
    rw [List.mem_append, List.mem_filter, List.mem_filter]
    constructor
    · rintro (h | h)
      · exact ⟨h.1, .inl h.2⟩
      · exact ⟨h.1, .inr h.2⟩
    · rintro ⟨h, q | q⟩
      · exact .inl ⟨h, q⟩
      · exact .inr ⟨h, q⟩
  refine ⟨fun hx hy lx fy => (sub_cross (List.mem_filter.mpr ⟨hx, lx⟩) (List.mem_filter.mpr ⟨hy, fy⟩)).trans htk, fun h c => ?_⟩
  have pair : ∀ G : Str → Bool, G x = true → G y = true → [x, y].Sublist (st.filter G) := fun G gx gy => by
    have z := h.filter G
    rw [List.filter_cons, if_pos gx, List.filter_cons, if_pos gy] at z
    exact z
  rcases c with ⟨a, b⟩ | ⟨a, b⟩ | ⟨a, b, b'⟩ | ⟨a, a', b⟩ | ⟨a, a', b, b'⟩
  · exact ((pair L a b).trans (List.sublist_append_left _ _)).trans htk
  · exact ((pair F a b).trans (List.sublist_append_right _ _)).trans htk
  · obtain ⟨s1, s2, e, hx⟩ := sub_split h
    have ny : y ∉ st.filter L ++ st.filter F := fun z => ((hmem y).mp z).2.elim b b'
    have hs1 : ∀ o ∈ s1, o ∈ st := fun o ho => by rw [e]; exact List.mem_append_left _ ho
    have c1 := cnt_LF dis hs1
    have eL : st.filter L = s1.filter L ++ (y :: s2).filter L := by rw [e, List.filter_append]
    have e2 : popF (st.filter L ++ st.filter F) st (st.filter L ++ st.filter F) = popF (st.filter L ++ st.filter F) s1 (st.filter L ++ st.filter F) ++ popF (st.filter L ++ st.filter F) (y :: s2) ((st.filter L ++ st.filter F).drop (cntIn (st.filter L ++ st.filter F) s1)) := by
      rw [← popF_append, ← e]
    rw [e2]
    refine sub_cross ?_ (by rw [popF_cons, if_neg ny]; exact List.mem_cons_self)
    have hle : cntIn (st.filter L ++ st.filter F) s1 ≤ (st.filter L ++ st.filter F).length := by
      rw [c1, List.length_append]
      have q1 := (List.Sublist.filter L (show s1.Sublist st by rw [e]; exact List.sublist_append_left _ _)).length_le
      have q2 := (List.Sublist.filter F (show s1.Sublist st by rw [e]; exact List.sublist_append_left _ _)).length_le
      omega
    refine (popF_take (st.filter L ++ st.filter F) s1 _ hle).subset ?_
    have xs1 : x ∈ s1.filter L := List.mem_filter.mpr ⟨hx, a⟩
    have pre : (s1.filter L).Sublist ((st.filter L ++ st.filter F).take (cntIn (st.filter L ++ st.filter F) s1)) := by
      have e3 : st.filter L ++ st.filter F = s1.filter L ++ ((y :: s2).filter L ++ st.filter F) := by rw [eL, List.append_assoc]
      generalize cntIn (st.filter L ++ st.filter F) s1 = k at c1
      rw [e3, List.take_append]
      have : (s1.filter L).take k = s1.filter L := List.take_of_length_le (by omega)
      rw [this]
      exact List.sublist_append_left _ _
    exact pre.subset xs1
  · obtain ⟨s1, s2, e, hy⟩ := sub_split' h
    have nx : x ∉ st.filter L ++ st.filter F := fun z => ((hmem x).mp z).2.elim a a'
    have hs1 : ∀ o ∈ s1, o ∈ st := fun o ho => by rw [e]; exact List.mem_append_left _ ho
    have hs2 : ∀ o ∈ s2, o ∈ st := fun o ho => by rw [e]; exact List.mem_append_right _ (List.mem_cons_of_mem _ ho)
    have c1 := cnt_LF dis hs1
    have c2 := cnt_LF dis hs2
    have nLx : (x :: s2).filter L = s2.filter L := by rw [List.filter_cons, if_neg a]
    have nFx : (x :: s2).filter F = s2.filter F := by rw [List.filter_cons, if_neg a']
    have eL : st.filter L = s1.filter L ++ s2.filter L := by rw [← nLx, ← List.filter_append, ← e]
    have eF : st.filter F = s1.filter F ++ s2.filter F := by rw [← nFx, ← List.filter_append, ← e]
    have e2 : popF (st.filter L ++ st.filter F) st (st.filter L ++ st.filter F) = popF (st.filter L ++ st.filter F) s1 (st.filter L ++ st.filter F) ++ popF (st.filter L ++ st.filter F) (x :: s2) ((st.filter L ++ st.filter F).drop (cntIn (st.filter L ++ st.filter F) s1)) := by
      rw [← popF_append, ← e]
    rw [e2, popF_cons, if_neg nx]
    refine List.Sublist.trans ?_ (List.sublist_append_right _ _)
    refine List.Sublist.cons_cons x (List.singleton_sublist.mpr ?_)
    have hlen : ((st.filter L ++ st.filter F).drop (cntIn (st.filter L ++ st.filter F) s1)).length = cntIn (st.filter L ++ st.filter F) s2 := by
      rw [List.length_drop, c1, c2, List.length_append]
      have q1 := congrArg List.length eL
      have q2 := congrArg List.length eF
      rw [List.length_append] at q1 q2
      omega
    have tk := popF_take (st.filter L ++ st.filter F) s2 ((st.filter L ++ st.filter F).drop (cntIn (st.filter L ++ st.filter F) s1)) (Nat.le_of_eq hlen.symm)
    rw [← hlen, List.take_length] at tk
    refine tk.subset ?_
    have ys : y ∈ s2.filter F := List.mem_filter.mpr ⟨hy, b⟩
    have e3 : st.filter L ++ st.filter F = (st.filter L ++ s1.filter F) ++ s2.filter F := by rw [eF, List.append_assoc]
    generalize cntIn (st.filter L ++ st.filter F) s1 = k at c1
    rw [e3, List.drop_append]
    have hk : k ≤ (st.filter L ++ s1.filter F).length := by
      rw [List.length_append, eL, List.length_append]; omega
    refine List.mem_append_right _ ?_
    have : k - (st.filter L ++ s1.filter F).length = 0 := by omega
    rw [this]
    exact ys
  · have k := popF_keep (st.filter L ++ st.filter F) st (st.filter L ++ st.filter F)
    refine List.Sublist.trans ?_ k
    refine pair (fun o => decide (o ∉ st.filter L ++ st.filter F)) (decide_eq_true ?_) (decide_eq_true ?_)
    · exact fun z => ((hmem x).mp z).2.elim a a'
    · exact fun z => ((hmem y).mp z).2.elim b b'
end
theorem mem_cut {os : List Str} {x : Str} {f l : Nat} (hx : x ∈ os) (h1 : f ≤ os.idxOf x) (h2 : os.idxOf x ≤ l) : x ∈ cutS os f l := by
  have ex : os[os.idxOf x]? = some x := by rw [List.getElem?_eq_getElem (idx_lt hx), List.getElem_idxOf]
  refine List.mem_of_getElem? (i := os.idxOf x - f) ?_
  unfold cutS
  rw [List.getElem?_take, if_pos (by omega), List.getElem?_drop]
  have : f + (os.idxOf x - f) = os.idxOf x := by omega
  rw [this]; exact ex
theorem sub_two {x y : Str} {u v : List Str} (h : [x, y].Sublist (u ++ v)) : [x, y].Sublist u ∨ (x ∈ u ∧ y ∈ v) ∨ [x, y].Sublist v := by
  obtain ⟨a, b, e, ha, hb⟩ := List.sublist_append_iff.mp h
  match a, b, e with
  | [], b, e => exact .inr (.inr (by rw [e]; exact hb))
  | [z], b, e =>
    have e' : x = z ∧ [y] = b := by injection e with e1 e2; exact ⟨e1, e2⟩
    obtain ⟨rfl, rfl⟩ := e'
    exact .inr (.inl ⟨List.singleton_sublist.mp ha, List.singleton_sublist.mp hb⟩)
  | [z, z'], b, e =>
    injection e with e1 e2
    injection e2 with e3 e4
    subst e1 e3
    exact .inl ha
  | z :: z' :: z'' :: r, b, e =>
    injection e with e1 e2
    injection e2 with e3 e4
    cases e4
/-- a right row stays right -/
theorem rowLean_right {ps : List (Str × Str)} {os : List Str} {n m : Str} (hnd : os.Nodup) (hno : n ∈ os) (hmo : m ∈ os) (hr : ¬ Rch ps m n) (R : RightS os ps) :
    RightS (rowLean (ps ++ [(n, m)]) os n m).2 (ps ++ [(n, m)]) := by
  have hnm : n ≠ m := fun z => hr (z ▸ .refl)
  have hix : os.idxOf n ≠ os.idxOf m := fun z => hnm (by
    have e1 := List.getElem_idxOf (idx_lt hno)
    have e2 := List.getElem_idxOf (idx_lt hmo)
    rw [← e1, ← e2]
    congr 1)
  unfold rowLean
  by_cases c : os.idxOf m < os.idxOf n
  · rw [if_pos c]
    intro p hp
    rcases List.mem_append.mp hp with q | q
    · exact R p q
    · rw [List.mem_singleton] at q
      subst q
      exact idx_sub hmo hno c
  · rw [if_neg c]
    show RightS (fillF _ _) _
    rw [fillF_pop hnd]
    unfold leadersF followersF
    generalize hst : cutS os (os.idxOf n) (os.idxOf m) = st
    generalize hL : (fun o => (chainF (ps ++ [(n, m)]) m o).isSome) = L
    generalize hF : (fun o => (chainF (ps ++ [(n, m)]) o n).isSome) = F
    have iL : ∀ o, L o = true ↔ Rch (ps ++ [(n, m)]) m o := fun o => by rw [← hL]; exact chainF_iff _ _ _
    have iF : ∀ o, F o = true ↔ Rch (ps ++ [(n, m)]) o n := fun o => by rw [← hF]; exact chainF_iff _ _ _
    have dis : ∀ o ∈ st, ¬ (L o = true ∧ F o = true) := fun o _ z => hr (((iL o).mp z.1).trans ((iF o).mp z.2)).cut
    have eos : os = os.take (os.idxOf n) ++ (st ++ (os.drop (os.idxOf n)).drop (os.idxOf m + 1 - os.idxOf n)) := by
      rw [← hst]
      unfold cutS
      rw [List.take_append_drop, List.take_append_drop]
    have hnst : n ∈ st := by rw [← hst]; exact mem_cut hno (Nat.le_refl _) (by omega)
    have hmst : m ∈ st := by rw [← hst]; exact mem_cut hmo (by omega) (Nat.le_refl _)
    generalize os.take (os.idxOf n) = pre at eos
    generalize (os.drop (os.idxOf n)).drop (os.idxOf m + 1 - os.idxOf n) = suf at eos
    have nd := hnd
    rw [eos, List.nodup_append, List.nodup_append] at nd
    obtain ⟨np, ⟨ns, nsf, nss⟩, npp⟩ := nd
    have hsub : ∀ o ∈ st.filter L ++ st.filter F, o ∈ st := fun o ho => by
      rcases List.mem_append.mp ho with z | z
      · exact (List.mem_filter.mp z).1
      · exact (List.mem_filter.mp z).1
    have hpre : ∀ o ∈ pre, o ∉ st.filter L ++ st.filter F := fun o ho z => npp o ho o (List.mem_append_left _ (hsub o z)) rfl
    have hsuf : ∀ o ∈ suf, o ∉ st.filter L ++ st.filter F := fun o ho z => nss o (hsub o z) o ho rfl
    have mnd : (st.filter L ++ st.filter F).Nodup := by
      rw [List.nodup_append]
      refine ⟨ns.filter _, ns.filter _, fun a ha b hb e => ?_⟩
      subst e
      exact dis a (List.mem_filter.mp ha).1 ⟨(List.mem_filter.mp ha).2, (List.mem_filter.mp hb).2⟩
    have enew : popF (st.filter L ++ st.filter F) os (st.filter L ++ st.filter F) = pre ++ (popF (st.filter L ++ st.filter F) st (st.filter L ++ st.filter F) ++ suf) := by
      conv => lhs; rw [eos]
      rw [popF_append, popF_none _ _ _ hpre, cntIn_none hpre, List.drop_zero, popF_append, popF_none _ _ _ hsuf]
    rw [enew]
    have mst := (popF_same ns mnd hsub).2
    intro p hp
    have hab := fun (x y : Str) => stretch_ahead (st := st) (L := L) (F := F) dis (x := x) (y := y)
    generalize popF (st.filter L ++ st.filter F) st (st.filter L ++ st.filter F) = st' at enew mst hab
    have inner : ∀ x y, [x, y].Sublist st' → [x, y].Sublist (pre ++ (st' ++ suf)) := fun x y h => (h.trans (List.sublist_append_left st' suf)).trans (List.sublist_append_right pre _)
    rcases List.mem_append.mp hp with q | q
    · have h := R p q
      rw [eos] at h
      have stp : ∀ o, Rch (ps ++ [(n, m)]) o p.1 → Rch (ps ++ [(n, m)]) o p.2 := fun o z => .step z (show (p.1, p.2) ∈ ps ++ [(n, m)] from hp)
      have stq : ∀ o, Rch (ps ++ [(n, m)]) p.2 o → Rch (ps ++ [(n, m)]) p.1 o := fun o z => (Rch.step .refl (show (p.1, p.2) ∈ ps ++ [(n, m)] from hp)).trans z
      rcases sub_two h with h | ⟨h1, h2⟩ | h
      · exact h.trans (List.sublist_append_left _ _)
      · refine sub_cross h1 ?_
        rcases List.mem_append.mp h2 with z | z
        · exact List.mem_append_left _ ((mst _).mpr z)
        · exact List.mem_append_right _ z
      · rcases sub_two h with h | ⟨h1, h2⟩ | h
        · have hx : p.2 ∈ st := h.subset (by simp)
          have hy : p.1 ∈ st := h.subset (by simp)
          refine inner _ _ ?_
          by_cases wF : F p.2 = true
          · exact (hab _ _).2 h (.inr (.inl ⟨wF, (iF _).mpr (stq _ ((iF _).mp wF))⟩))
          · by_cases hL2 : L p.1 = true
            · exact (hab _ _).2 h (.inl ⟨(iL _).mpr (stp _ ((iL _).mp hL2)), hL2⟩)
            · by_cases wL : L p.2 = true
              · by_cases hF2 : F p.1 = true
                · exact (hab _ _).1 hx hy wL hF2
                · exact (hab _ _).2 h (.inr (.inr (.inl ⟨wL, hL2, hF2⟩)))
              · by_cases hF2 : F p.1 = true
                · exact (hab _ _).2 h (.inr (.inr (.inr (.inl ⟨wL, wF, hF2⟩))))
                · exact (hab _ _).2 h (.inr (.inr (.inr (.inr ⟨wL, wF, hL2, hF2⟩))))
        · exact (sub_cross ((mst _).mpr h1) h2).trans (List.sublist_append_right _ _)
        · exact (h.trans (List.sublist_append_right _ _)).trans (List.sublist_append_right _ _)
    · rw [List.mem_singleton] at q
      subst q
      exact inner _ _ ((hab m n).1 hmst hnst ((iL m).mpr .refl) ((iF n).mpr .refl))
theorem RightS.deed {names os ns : List Str} {ps : List (Str × Str)} {dd : Deed} (R : RightS os ps) (h : LSt names ns os ps) (hd : DeedO names os ps dd) : RightS (osA ps os dd) (psA ps dd) := by
  cases dd with
  | put n => exact fun p hp => (R p hp).trans (List.sublist_append_left _ _)
  | take n =>
    intro p hp
    obtain ⟨a, b⟩ := List.mem_filter.mp hp
    simp only [Bool.and_eq_true, decide_eq_true_eq] at b
    have z := R p a
    show [p.2, p.1].Sublist (os.erase n)
    have e : os.erase n = os.filter (fun x => x != n) := h.no.erase_eq_filter n
    have z2 := z.filter (fun x => x != n)
    rw [e]
    have e2 : [p.2, p.1].filter (fun x => x != n) = [p.2, p.1] := by
      rw [List.filter_eq_self]
      intro x hx
      simp only [List.mem_cons, List.not_mem_nil, or_false] at hx
      rcases hx with rfl | rfl
      · simp only [bne_iff_ne, ne_eq]; exact fun y => b.2 y.symm
      · simp only [bne_iff_ne, ne_eq]; exact fun y => b.1 y.symm
    rw [e2] at z2
    exact z2
  | loosen n m => exact fun p hp => R p (List.mem_of_mem_erase hp)
  | lean n m =>
    obtain ⟨a, b⟩ := hd
    show RightS (if leansOn ps n m then (rowLean (ps ++ [(n, m)]) os n m).2 else os) (if leansOn ps n m then ps ++ [(n, m)] else ps)
    by_cases c : leansOn ps n m
    · rw [if_pos c, if_pos c]; exact rowLean_right h.no a b c.2 R
    · rw [if_neg c, if_neg c]; exact R
end Lr

set_option Elab.async false
set_option linter.all false
set_option maxRecDepth 100000
set_option maxHeartbeats 4000000
namespace Lr
open PySem PySem.Spec PyProof.Rows L2
/-! ### who moves ahead, who back -/
theorem popF_filter (mv : List Str) : ∀ (s left : List Str), cntIn mv s ≤ left.length → (∀ o ∈ left, o ∈ mv) → (popF mv s left).filter (fun o => decide (o ∈ mv)) = left.take (cntIn mv s)
  | [], left, _, _ => by simp [popF, cntIn]
  | o :: s, left, h, k => by
    rw [popF_cons]
    by_cases c : o ∈ mv
    · rw [if_pos c]
      rw [cntIn_cons_pos c] at h ⊢
      cases left with
      | nil => simp at h
      | cons x left =>
        have hx := k x List.mem_cons_self
        show List.filter _ (x :: popF mv s left) = _
        rw [List.filter_cons, if_pos (decide_eq_true hx), List.take_succ_cons, popF_filter mv s left (by simp only [List.length_cons] at h; omega) (fun z hz => k z (List.mem_cons_of_mem _ hz))]
    · rw [if_neg c]
      rw [cntIn_cons_neg c] at h ⊢
      rw [List.filter_cons, if_neg (by simp [c]), popF_filter mv s left h k]
theorem idx_of_split {u v : List Str} {x : Str} (n : (u ++ x :: v).Nodup) : (u ++ x :: v).idxOf x = u.length := by
  have hx : x ∉ u := fun z => by
    rw [List.nodup_append] at n
    exact n.2.2 x z x List.mem_cons_self rfl
  rw [idx_app_right hx, List.idxOf_cons_self]; rfl
/-- a place that is not filled anew keeps its name -/
theorem popF_stay {mv os : List Str} {x : Str} (left : List Str) (n : os.Nodup) (nn : (popF mv os left).Nodup) (hx : x ∈ os) (hm : x ∉ mv) : (popF mv os left).idxOf x = os.idxOf x := by
  obtain ⟨u, v, e⟩ := List.append_of_mem hx
  subst e
  rw [idx_of_split n]
  rw [popF_append, popF_cons, if_neg hm] at nn ⊢
  rw [idx_of_split nn, popF_len]
theorem idx_lt_of_mem {u v : List Str} {x : Str} (h : x ∈ u) : (u ++ v).idxOf x < u.length := by rw [idx_app_left h]; exact idx_lt h
theorem idx_ge_of_mem {u v : List Str} {x : Str} (n : (u ++ v).Nodup) (h : x ∈ v) : u.length ≤ (u ++ v).idxOf x := by
  have hx : x ∉ u := fun z => by
    rw [List.nodup_append] at n
    exact n.2.2 x z x h rfl
  rw [idx_app_right hx]; omega
structure MvF (os N mv : List Str) (A B : Str → Bool) : Prop where
  nd : N.Nodup
  same : ∀ o, o ∈ N ↔ o ∈ os
  up : ∀ o ∈ os, A o = true → N.idxOf o < os.idxOf o
  dn : ∀ o ∈ os, B o = true → os.idxOf o < N.idxOf o
  eq : ∀ o ∈ os, ¬ A o = true → ¬ B o = true → N.idxOf o = os.idxOf o
  eqm : mv = os.filter A ++ os.filter B
  flt : N.filter (fun o => decide (o ∈ mv)) = mv
def bA (ps : List (Str × Str)) (os : List Str) (n m o : Str) : Bool := decide (os.idxOf n ≤ os.idxOf o) && decide (os.idxOf o ≤ os.idxOf m) && (chainF ps m o).isSome
def bB (ps : List (Str × Str)) (os : List Str) (n m o : Str) : Bool := decide (os.idxOf n ≤ os.idxOf o) && decide (os.idxOf o ≤ os.idxOf m) && (chainF ps o n).isSome
section
variable {st pre suf : List Str} {L F : Str → Bool} {n m : Str}
theorem filter_split {s1 s2 : List Str} {x : Str} (G : Str → Bool) (e : st = s1 ++ x :: s2) : st.filter G = s1.filter G ++ (x :: s2).filter G := by rw [e, List.filter_append]
/-- leaders move ahead -/
theorem leader_up (dis : ∀ o ∈ st, ¬ (L o = true ∧ F o = true)) (hn : ∃ r, st = n :: r) (hF : F n = true) {s1 s2 : List Str} {x : Str} (e : st = s1 ++ x :: s2) (hx : L x = true) :
    x ∈ popF (st.filter L ++ st.filter F) s1 (st.filter L ++ st.filter F) := by
  have hs1 : ∀ o ∈ s1, o ∈ st := fun o ho => by rw [e]; exact List.mem_append_left _ ho
  have c1 := cnt_LF dis hs1
  have ns1 : n ∈ s1 := by
    obtain ⟨r, hr⟩ := hn
    cases s1 with
    | nil =>
      rw [hr] at e
      have : n = x := by injection e
      subst this
      exact absurd ⟨hx, hF⟩ (dis n (by rw [hr]; simp))
    | cons y s1 =>
      rw [hr] at e
      have : n = y := by injection e
      rw [this]; exact List.mem_cons_self
  have hpos : 0 < (s1.filter F).length := List.length_pos_of_mem (List.mem_filter.mpr ⟨ns1, hF⟩)
  have hle : cntIn (st.filter L ++ st.filter F) s1 ≤ (st.filter L ++ st.filter F).length := by
    rw [c1, List.length_append]
    have q1 := (List.Sublist.filter L (show s1.Sublist st by rw [e]; exact List.sublist_append_left _ _)).length_le
    have q2 := (List.Sublist.filter F (show s1.Sublist st by rw [e]; exact List.sublist_append_left _ _)).length_le
    omega
  refine (popF_take (st.filter L ++ st.filter F) s1 _ hle).subset ?_
  have eL : st.filter L = s1.filter L ++ x :: s2.filter L := by rw [filter_split L e, List.filter_cons, if_pos hx]
  generalize cntIn (st.filter L ++ st.filter F) s1 = k at c1
  have e3 : st.filter L ++ st.filter F = (s1.filter L ++ [x]) ++ (s2.filter L ++ st.filter F) := by rw [eL]; simp
  rw [e3, List.take_append]
  refine List.mem_append_left _ ?_
  rw [List.take_of_length_le (by rw [List.length_append, List.length_singleton]; omega)]
  simp
/-- followers move back -/
theorem follower_dn (dis : ∀ o ∈ st, ¬ (L o = true ∧ F o = true)) (hm : ∃ r, st = r ++ [m]) (hL : L m = true) {s1 s2 : List Str} {x : Str} (e : st = s1 ++ x :: s2) (hx : F x = true) :
    x ∈ popF (st.filter L ++ st.filter F) s2 ((st.filter L ++ st.filter F).drop (cntIn (st.filter L ++ st.filter F) (s1 ++ [x]))) := by
  have hs1 : ∀ o ∈ s1 ++ [x], o ∈ st := fun o ho => by
    rw [e]
    rcases List.mem_append.mp ho with z | z
    · exact List.mem_append_left _ z
    · rw [List.mem_singleton] at z; rw [z]; simp
  have hs2 : ∀ o ∈ s2, o ∈ st := fun o ho => by rw [e]; exact List.mem_append_right _ (List.mem_cons_of_mem _ ho)
  have c1 := cnt_LF dis hs1
  have c2 := cnt_LF dis hs2
  have nLx : ¬ L x = true := fun z => dis x (by rw [e]; simp) ⟨z, hx⟩
  have ms2 : m ∈ s2 := by
    obtain ⟨r, hr⟩ := hm
    by_cases q : s2 = []
    · exfalso
      subst q
      rw [e] at hr
      have h2 := List.append_inj_right' hr rfl
      have : x = m := by injection h2
      exact nLx (this ▸ hL)
    · have h1 : st.getLast? = some m := by rw [hr]; simp
      have h2 : st.getLast? = s2.getLast? := by
        rw [e]
        cases s2 with
        | nil => exact absurd rfl q
        | cons y s2 =>
          rw [List.getLast?_append, List.getLast?_cons_cons]
          have h3 : (y :: s2).getLast? = some ((y :: s2).getLast (by simp)) := List.getLast?_eq_some_getLast (by simp)
          rw [h3]; rfl
      rw [h2] at h1
      exact List.mem_of_getLast? h1
  have hpos : 0 < (s2.filter L).length := List.length_pos_of_mem (List.mem_filter.mpr ⟨ms2, hL⟩)
  have e1 : (s1 ++ [x]).filter L = s1.filter L := by rw [List.filter_append, List.filter_cons, if_neg nLx]; simp
  have e1F : (s1 ++ [x]).filter F = s1.filter F ++ [x] := by rw [List.filter_append, List.filter_cons, if_pos hx]; simp
  have eL : st.filter L = s1.filter L ++ s2.filter L := by rw [filter_split L e, List.filter_cons, if_neg nLx]
  have eF : st.filter F = s1.filter F ++ x :: s2.filter F := by rw [filter_split F e, List.filter_cons, if_pos hx]
  rw [e1, e1F, List.length_append, List.length_singleton] at c1
  have hlen : ((st.filter L ++ st.filter F).drop (cntIn (st.filter L ++ st.filter F) (s1 ++ [x]))).length = cntIn (st.filter L ++ st.filter F) s2 := by
    rw [List.length_drop, c1, c2, List.length_append, eL, eF, List.length_append, List.length_append, List.length_cons]; omega
  have tk := popF_take (st.filter L ++ st.filter F) s2 ((st.filter L ++ st.filter F).drop (cntIn (st.filter L ++ st.filter F) (s1 ++ [x]))) (Nat.le_of_eq hlen.symm)
  rw [← hlen, List.take_length] at tk
  refine tk.subset ?_
  generalize cntIn (st.filter L ++ st.filter F) (s1 ++ [x]) = k at c1
  have e3 : st.filter L ++ st.filter F = (st.filter L ++ s1.filter F) ++ (x :: s2.filter F) := by rw [eF, List.append_assoc]
  rw [e3, List.drop_append]
  refine List.mem_append_right _ ?_
  have hk : k ≤ (st.filter L ++ s1.filter F).length := by rw [List.length_append, eL, List.length_append]; omega
  have : k - (st.filter L ++ s1.filter F).length = 0 := by omega
  rw [this]
  exact List.mem_cons_self
end
theorem cut_split {os : List Str} {n m : Str} (hnd : os.Nodup) (hno : n ∈ os) (hmo : m ∈ os) (c : ¬ os.idxOf m < os.idxOf n) :
    ∃ pre suf, os = pre ++ (cutS os (os.idxOf n) (os.idxOf m) ++ suf) ∧ (∀ o ∈ pre, os.idxOf o < os.idxOf n) ∧ (∀ o ∈ cutS os (os.idxOf n) (os.idxOf m), os.idxOf n ≤ os.idxOf o ∧ os.idxOf o ≤ os.idxOf m) ∧
      (∀ o ∈ suf, os.idxOf m < os.idxOf o) ∧ (∃ r, cutS os (os.idxOf n) (os.idxOf m) = n :: r) ∧ (∃ r, cutS os (os.idxOf n) (os.idxOf m) = r ++ [m]) := by
  have hln := idx_lt hno
  have hlm := idx_lt hmo
  have en : os[os.idxOf n]? = some n := by rw [List.getElem?_eq_getElem hln, List.getElem_idxOf]
  have em : os[os.idxOf m]? = some m := by rw [List.getElem?_eq_getElem hlm, List.getElem_idxOf]
  have eos : os = os.take (os.idxOf n) ++ (cutS os (os.idxOf n) (os.idxOf m) ++ (os.drop (os.idxOf n)).drop (os.idxOf m + 1 - os.idxOf n)) := by
    unfold cutS
    rw [List.take_append_drop, List.take_append_drop]
  have l1 : (os.take (os.idxOf n)).length = os.idxOf n := by rw [List.length_take]; omega
  have l2 : (cutS os (os.idxOf n) (os.idxOf m)).length = os.idxOf m + 1 - os.idxOf n := by unfold cutS; rw [List.length_take, List.length_drop]; omega
  have hcn : (cutS os (os.idxOf n) (os.idxOf m))[0]? = some n := by
    unfold cutS
    rw [List.getElem?_take, if_pos (by omega), List.getElem?_drop]
    exact en
  have hcm : (cutS os (os.idxOf n) (os.idxOf m))[os.idxOf m - os.idxOf n]? = some m := by
    unfold cutS
    rw [List.getElem?_take, if_pos (by omega), List.getElem?_drop]
    have : os.idxOf n + (os.idxOf m - os.idxOf n) = os.idxOf m := by omega
    rw [this]; exact em
  refine ⟨_, _, eos, ?_⟩
  generalize os.idxOf n = f at *
  generalize os.idxOf m = l at *
  generalize cutS os f l = st at *
  generalize os.take f = pre at *
  generalize (os.drop f).drop (l + 1 - f) = suf at *
  have nd := hnd
  rw [eos] at nd
  have nd2 : ((pre ++ st) ++ suf).Nodup := by rw [List.append_assoc]; exact nd
  refine ⟨fun o ho => ?_, fun o ho => ⟨?_, ?_⟩, fun o ho => ?_, ?_, ?_⟩
  · have := idx_lt_of_mem (v := st ++ suf) ho
    rw [← eos, l1] at this; exact this
  · have := idx_ge_of_mem nd (List.mem_append_left suf ho)
    rw [← eos, l1] at this; exact this
  · have := idx_lt_of_mem (v := suf) (List.mem_append_right pre ho)
    rw [List.append_assoc, ← eos, List.length_append, l1, l2] at this; omega
  · have := idx_ge_of_mem nd2 ho
    rw [List.append_assoc, ← eos, List.length_append, l1, l2] at this; omega
  · cases st with
    | nil => cases hcn
    | cons y r => exact ⟨r, by cases hcn; rfl⟩
  · have hne : st ≠ [] := fun z => by rw [z] at hcn; cases hcn
    refine ⟨st.dropLast, ?_⟩
    have h1 := List.dropLast_concat_getLast hne
    have h2 : st.getLast hne = m := by
      rw [List.getLast_eq_getElem]
      have h3 : st.length - 1 = l - f := by omega
      have h4 : st[st.length - 1]? = some m := by rw [h3]; exact hcm
      rw [List.getElem?_eq_getElem (by omega)] at h4
      exact Option.some.inj h4
    rw [h2] at h1
    exact h1.symm
theorem rowLean_mv {ps : List (Str × Str)} {os : List Str} {n m : Str} (hnd : os.Nodup) (hno : n ∈ os) (hmo : m ∈ os) (hr : ¬ Rch ps m n) :
    MvF os (rowLean (ps ++ [(n, m)]) os n m).2 (rowLean (ps ++ [(n, m)]) os n m).1 (bA (ps ++ [(n, m)]) os n m) (bB (ps ++ [(n, m)]) os n m) := by
  by_cases c : os.idxOf m < os.idxOf n
  · have e : rowLean (ps ++ [(n, m)]) os n m = ([], os) := if_pos c
    have nA : ∀ o, ¬ bA (ps ++ [(n, m)]) os n m o = true := fun o z => by
      unfold bA at z
      simp only [Bool.and_eq_true, decide_eq_true_eq] at z
      omega
    have nB : ∀ o, ¬ bB (ps ++ [(n, m)]) os n m o = true := fun o z => by
      unfold bB at z
      simp only [Bool.and_eq_true, decide_eq_true_eq] at z
      omega
    rw [e]
    refine ⟨hnd, fun _ => Iff.rfl, fun o _ z => absurd z (nA o), fun o _ z => absurd z (nB o), fun _ _ _ _ => rfl, ?_, by simp⟩
    rw [List.filter_eq_nil_iff.mpr (fun o _ => nA o), List.filter_eq_nil_iff.mpr (fun o _ => nB o)]; rfl
  · have e : rowLean (ps ++ [(n, m)]) os n m = (leadersF (ps ++ [(n, m)]) (cutS os (os.idxOf n) (os.idxOf m)) m ++ followersF (ps ++ [(n, m)]) (cutS os (os.idxOf n) (os.idxOf m)) n,
      fillF os (leadersF (ps ++ [(n, m)]) (cutS os (os.idxOf n) (os.idxOf m)) m ++ followersF (ps ++ [(n, m)]) (cutS os (os.idxOf n) (os.idxOf m)) n)) := if_neg c
    rw [e]
    show MvF os (fillF os _) _ _ _
    rw [fillF_pop hnd]
    obtain ⟨pre, suf, eos, i1, i2, i3, hN, hM⟩ := cut_split hnd hno hmo c
    unfold leadersF followersF
    have eA : os.filter (bA (ps ++ [(n, m)]) os n m) = (cutS os (os.idxOf n) (os.idxOf m)).filter (fun o => (chainF (ps ++ [(n, m)]) m o).isSome) := by
      have h1 : os.filter (bA (ps ++ [(n, m)]) os n m) = (pre ++ (cutS os (os.idxOf n) (os.idxOf m) ++ suf)).filter (bA (ps ++ [(n, m)]) os n m) := congrArg _ eos
      have z1 : pre.filter (bA (ps ++ [(n, m)]) os n m) = [] := List.filter_eq_nil_iff.mpr (fun o ho z => by
        unfold bA at z
        simp only [Bool.and_eq_true, decide_eq_true_eq] at z
        have := i1 o ho; omega)
      have z2 : suf.filter (bA (ps ++ [(n, m)]) os n m) = [] := List.filter_eq_nil_iff.mpr (fun o ho z => by
        unfold bA at z
        simp only [Bool.and_eq_true, decide_eq_true_eq] at z
        have := i3 o ho; omega)
      rw [h1, List.filter_append, List.filter_append, z1, z2, List.nil_append, List.append_nil]
      refine List.filter_congr (fun o ho => ?_)
      unfold bA
      obtain ⟨a, b⟩ := i2 o ho
      rw [decide_eq_true a, decide_eq_true b]; rfl
    have eB : os.filter (bB (ps ++ [(n, m)]) os n m) = (cutS os (os.idxOf n) (os.idxOf m)).filter (fun o => (chainF (ps ++ [(n, m)]) o n).isSome) := by
      have h1 : os.filter (bB (ps ++ [(n, m)]) os n m) = (pre ++ (cutS os (os.idxOf n) (os.idxOf m) ++ suf)).filter (bB (ps ++ [(n, m)]) os n m) := congrArg _ eos
      have z1 : pre.filter (bB (ps ++ [(n, m)]) os n m) = [] := List.filter_eq_nil_iff.mpr (fun o ho z => by
        unfold bB at z
        simp only [Bool.and_eq_true, decide_eq_true_eq] at z
        have := i1 o ho; omega)
      have z2 : suf.filter (bB (ps ++ [(n, m)]) os n m) = [] := List.filter_eq_nil_iff.mpr (fun o ho z => by
        unfold bB at z
        simp only [Bool.and_eq_true, decide_eq_true_eq] at z
        have := i3 o ho; omega)
      rw [h1, List.filter_append, List.filter_append, z1, z2, List.nil_append, List.append_nil]
      refine List.filter_congr (fun o ho => ?_)
      unfold bB
      obtain ⟨a, b⟩ := i2 o ho
      rw [decide_eq_true a, decide_eq_true b]; rfl
    have hAo : ∀ o ∈ os, bA (ps ++ [(n, m)]) os n m o = true → o ∈ cutS os (os.idxOf n) (os.idxOf m) ∧ (chainF (ps ++ [(n, m)]) m o).isSome = true := fun o ho z => by
      have h : o ∈ os.filter (bA (ps ++ [(n, m)]) os n m) := List.mem_filter.mpr ⟨ho, z⟩
      rw [eA] at h
      exact List.mem_filter.mp h
    have hBo : ∀ o ∈ os, bB (ps ++ [(n, m)]) os n m o = true → o ∈ cutS os (os.idxOf n) (os.idxOf m) ∧ (chainF (ps ++ [(n, m)]) o n).isSome = true := fun o ho z => by
      have h : o ∈ os.filter (bB (ps ++ [(n, m)]) os n m) := List.mem_filter.mpr ⟨ho, z⟩
      rw [eB] at h
      exact List.mem_filter.mp h
    generalize hstd : cutS os (os.idxOf n) (os.idxOf m) = st at *
    generalize hL : (fun o => (chainF (ps ++ [(n, m)]) m o).isSome) = L at *
    generalize hF : (fun o => (chainF (ps ++ [(n, m)]) o n).isSome) = F at *
    have iL : ∀ o, L o = true ↔ Rch (ps ++ [(n, m)]) m o := fun o => by rw [← hL]; exact chainF_iff _ _ _
    have iF : ∀ o, F o = true ↔ Rch (ps ++ [(n, m)]) o n := fun o => by rw [← hF]; exact chainF_iff _ _ _
    have dis : ∀ o ∈ st, ¬ (L o = true ∧ F o = true) := fun o _ z => hr (((iL o).mp z.1).trans ((iF o).mp z.2)).cut
    have nd := hnd
    rw [eos, List.nodup_append, List.nodup_append] at nd
    obtain ⟨np, ⟨ns, nsf, nss⟩, npp⟩ := nd
    have hsub : ∀ o ∈ st.filter L ++ st.filter F, o ∈ st := fun o ho => by
      rcases List.mem_append.mp ho with z | z
      · exact (List.mem_filter.mp z).1
      · exact (List.mem_filter.mp z).1
    have hsubo : ∀ o ∈ st.filter L ++ st.filter F, o ∈ os := fun o ho => by
      rw [eos]; exact List.mem_append_right _ (List.mem_append_left _ (hsub o ho))
    have mnd : (st.filter L ++ st.filter F).Nodup := by
      rw [List.nodup_append]
      refine ⟨ns.filter _, ns.filter _, fun a ha b hb e => ?_⟩
      subst e
      exact dis a (List.mem_filter.mp ha).1 ⟨(List.mem_filter.mp ha).2, (List.mem_filter.mp hb).2⟩
    obtain ⟨nN, mN⟩ := popF_same hnd mnd hsubo
    have hpre : ∀ o ∈ pre, o ∉ st.filter L ++ st.filter F := fun o ho z => npp o ho o (List.mem_append_left _ (hsub o z)) rfl
    have hcpre : cntIn (st.filter L ++ st.filter F) pre = 0 := cntIn_none hpre
    have hin : ∀ s1 x s2, st = s1 ++ x :: s2 → popF (st.filter L ++ st.filter F) os (st.filter L ++ st.filter F) = (pre ++ popF (st.filter L ++ st.filter F) s1 (st.filter L ++ st.filter F)) ++ popF (st.filter L ++ st.filter F) (x :: s2 ++ suf) ((st.filter L ++ st.filter F).drop (cntIn (st.filter L ++ st.filter F) s1)) := fun s1 x s2 e => by
      have e2 : os = pre ++ (s1 ++ (x :: s2 ++ suf)) := by rw [eos, e]; simp
      generalize st.filter L ++ st.filter F = mv at *
      conv => lhs; rw [e2]
      rw [popF_append, popF_none _ _ _ hpre, hcpre, List.drop_zero, popF_append, List.append_assoc]
    have hin2 : ∀ s1 x s2, st = s1 ++ x :: s2 → popF (st.filter L ++ st.filter F) os (st.filter L ++ st.filter F) = (pre ++ popF (st.filter L ++ st.filter F) (s1 ++ [x]) (st.filter L ++ st.filter F)) ++ popF (st.filter L ++ st.filter F) (s2 ++ suf) ((st.filter L ++ st.filter F).drop (cntIn (st.filter L ++ st.filter F) (s1 ++ [x]))) := fun s1 x s2 e => by
      have e2 : os = pre ++ ((s1 ++ [x]) ++ (s2 ++ suf)) := by rw [eos, e]; simp
      generalize st.filter L ++ st.filter F = mv at *
      conv => lhs; rw [e2]
      rw [popF_append, popF_none _ _ _ hpre, hcpre, List.drop_zero, popF_append, List.append_assoc]
    have hidx : ∀ s1 x s2, st = s1 ++ x :: s2 → os.idxOf x = pre.length + s1.length := fun s1 x s2 e => by
      have e2 : os = (pre ++ s1) ++ x :: (s2 ++ suf) := by rw [eos, e]; simp
      have n2 := hnd
      rw [e2] at n2
      have z := idx_of_split n2
      rw [← e2, List.length_append] at z
      exact z
    refine ⟨nN, mN, fun o ho z => ?_, fun o ho z => ?_, fun o ho a b => ?_, by rw [eA, eB], ?_⟩
    · obtain ⟨hs, hl⟩ := hAo o ho z
      have hl' : L o = true := by rw [← hL]; exact hl
      obtain ⟨s1, s2, e⟩ := List.append_of_mem hs
      have q := leader_up dis hN ((iF n).mpr .refl) e hl'
      rw [hin s1 o s2 e, hidx s1 o s2 e]
      have q2 := idx_lt_of_mem (v := popF (st.filter L ++ st.filter F) (o :: s2 ++ suf) ((st.filter L ++ st.filter F).drop (cntIn (st.filter L ++ st.filter F) s1))) (List.mem_append_right pre q)
      rw [List.length_append, popF_len] at q2
      exact q2
    · obtain ⟨hs, hf⟩ := hBo o ho z
      have hf' : F o = true := by rw [← hF]; exact hf
      obtain ⟨s1, s2, e⟩ := List.append_of_mem hs
      have q := follower_dn dis hM ((iL m).mpr .refl) e hf'
      have nN' := nN
      rw [hin2 s1 o s2 e] at nN' ⊢
      rw [hidx s1 o s2 e]
      have q2 := idx_ge_of_mem nN' (by rw [popF_append]; exact List.mem_append_left _ q)
      rw [List.length_append, popF_len, List.length_append, List.length_singleton] at q2
      omega
    · refine popF_stay _ hnd nN ho (fun z => ?_)
      rcases List.mem_append.mp z with y | y
      · rw [← eA] at y; exact a (List.mem_filter.mp y).2
      · rw [← eB] at y; exact b (List.mem_filter.mp y).2
    · have hcn : cntIn (st.filter L ++ st.filter F) os = (st.filter L ++ st.filter F).length :=
        Nat.le_antisymm (cntIn_le hnd) (nodup_len _ _ mnd (fun x hx => List.mem_filter.mpr ⟨hsubo x hx, decide_eq_true hx⟩))
      rw [popF_filter _ _ _ (Nat.le_of_eq hcn) (fun _ h => h), hcn, List.take_length]
end Lr

set_option Elab.async false
set_option linter.all false
set_option maxRecDepth 100000
set_option maxHeartbeats 4000000
namespace Lr
open PySem PySem.Spec PyProof.Rows L2
/-! ### sorted texts are one -/
def leS (a b : Str) : Prop := a.cps.toList ≤ b.cps.toList
theorem leS_trans {a b c : Str} (h : leS a b) (k : leS b c) : leS a c := List.le_trans h k
theorem leS_anti {a b : Str} (h : leS a b) (k : leS b a) : a = b := TL.ext_tl (List.le_antisymm h k)
theorem rising_pw : ∀ (xs : List Str) (p : Str), risingS p xs = true → (∀ x ∈ xs, leS p x) ∧ xs.Pairwise leS
  | [], _, _ => ⟨(fun _ z => nomatch z), .nil⟩
  | x :: r, p, h => by
    have h' : (!ltCps x.cps.toList p.cps.toList && risingS x r) = true := h
    rw [Bool.and_eq_true] at h'
    obtain ⟨h1, h2⟩ := h'
    have hp : leS p x := by
      rw [ltCps_eq] at h1
      intro z
      rw [decide_eq_true z] at h1
      cases h1
    obtain ⟨i1, i2⟩ := rising_pw r x h2
    refine ⟨fun y hy => ?_, List.pairwise_cons.mpr ⟨i1, i2⟩⟩
    rcases List.mem_cons.mp hy with e | e
    · rw [e]; exact hp
    · exact leS_trans hp (i1 y e)
theorem sorted_pw {xs : List Str} (h : sortedS xs = true) : xs.Pairwise leS := by
  cases xs with
  | nil => exact .nil
  | cons x r =>
    obtain ⟨a, b⟩ := rising_pw r x h
    exact List.pairwise_cons.mpr ⟨a, b⟩
theorem srt_one : ∀ {a b : List Str}, a.Perm b → a.Pairwise leS → b.Pairwise leS → a = b
  | [], b, p, _, _ => (List.nil_perm.mp p).symm
  | x :: a, b, p, ha, hb => by
    cases b with
    | nil => exact absurd (List.perm_nil.mp p) (by simp)
    | cons y b =>
      obtain ⟨a1, a2⟩ := List.pairwise_cons.mp ha
      obtain ⟨b1, b2⟩ := List.pairwise_cons.mp hb
      have e : x = y := by
        have hx : x ∈ y :: b := p.subset List.mem_cons_self
        have hy : y ∈ x :: a := p.symm.subset List.mem_cons_self
        rcases List.mem_cons.mp hx with q | q
        · exact q
        · rcases List.mem_cons.mp hy with q2 | q2
          · exact q2.symm
          · exact leS_anti (a1 y q2) (b1 x q)
      subst e
      rw [srt_one (List.perm_cons x |>.mp p) a2 b2]
theorem sorted_one {xs ys as bs : List Str} (p : xs.Perm ys) (ha : as.Perm xs) (hb : bs.Perm ys) (sa : sortedS as = true) (sb : sortedS bs = true) : as = bs :=
  srt_one ((ha.trans p).trans hb.symm) (sorted_pw sa) (sorted_pw sb)
/-- lists of unlike names with the same names -/
theorem perm_same {xs ys : List Str} (hx : xs.Nodup) (hy : ys.Nodup) (h : ∀ o, o ∈ xs ↔ o ∈ ys) : xs.Perm ys := by
  rw [List.perm_iff_count]
  intro o
  by_cases c : o ∈ xs
  · rw [hx.count, hy.count, if_pos c, if_pos ((h o).mp c)]
  · rw [hx.count, hy.count, if_neg c, if_neg (fun z => c ((h o).mpr z))]
end Lr

set_option Elab.async false
set_option linter.all false
set_option maxRecDepth 100000
set_option maxHeartbeats 4000000
namespace Lr
open PySem PySem.Spec PyProof.Rows L2
/-! ### levels -/
def lowersF (ps : List (Str × Str)) (n : Str) : List Str := (ps.filter fun p => decide (p.1 = n)).map (·.2)
theorem lowersF_mem {ps : List (Str × Str)} {n w : Str} : w ∈ lowersF ps n ↔ (n, w) ∈ ps := by
  unfold lowersF
  rw [List.mem_map]
  constructor
  · rintro ⟨p, hp, rfl⟩
    obtain ⟨h1, h2⟩ := List.mem_filter.mp hp
    have h3 := of_decide_eq_true h2
    rw [← h3]; exact h1
  · intro h
    exact ⟨(n, w), List.mem_filter.mpr ⟨h, decide_eq_true rfl⟩, rfl⟩
/-- levels of the names in xs, by the leanings from them -/
structure Lev (ps : List (Str × Str)) (xs : List Str) (Lv : Str → Int) : Prop where
  nn : ∀ x ∈ xs, 0 ≤ Lv x
  lt : ∀ x ∈ xs, ∀ w, (x, w) ∈ ps → Lv w < Lv x
  ex : ∀ x ∈ xs, 0 < Lv x → ∃ w, (x, w) ∈ ps ∧ Lv w = Lv x - 1
theorem Lev.nil (ps : List (Str × Str)) : Lev ps [] (fun _ => 0) := ⟨(fun _ z => nomatch z), (fun _ z => nomatch z), (fun _ z => nomatch z)⟩
/-- one name more: m is the greatest of -1 and the levels of its lowers -/
theorem Lev.step {ps : List (Str × Str)} {xs : List Str} {Lv : Str → Int} {x : Str} {m : Int} (h : Lev ps xs Lv) (hx : x ∉ xs) (hl : ∀ w, (x, w) ∈ ps → w ∈ xs) (hin : ∀ y ∈ xs, ∀ w, (y, w) ∈ ps → w ∈ xs)
    (hm : m ∈ (-1 : Int) :: (lowersF ps x).map Lv) (hg : ∀ z ∈ (-1 : Int) :: (lowersF ps x).map Lv, z ≤ m) : Lev ps (xs ++ [x]) (fun y => if y = x then 1 + m else Lv y) := by
  have hm1 : -1 ≤ m := hg _ List.mem_cons_self
  have ne : ∀ y ∈ xs, y ≠ x := fun y hy e => hx (e ▸ hy)
  refine ⟨fun y hy => ?_, fun y hy w hw => ?_, fun y hy h0 => ?_⟩
  · rcases List.mem_append.mp hy with q | q
    · simp only [if_neg (ne y q)]; exact h.nn y q
    · rw [List.mem_singleton] at q
      subst q
      simp only [if_pos]; omega
  · rcases List.mem_append.mp hy with q | q
    · have hwx := hin y q w hw
      simp only [if_neg (ne y q), if_neg (ne w hwx)]
      exact h.lt y q w hw
    · rw [List.mem_singleton] at q
      subst q
      have hwx := hl w hw
      simp only [if_pos, if_neg (ne w hwx)]
      have := hg (Lv w) (List.mem_cons_of_mem _ (List.mem_map.mpr ⟨w, lowersF_mem.mpr hw, rfl⟩))
      omega
  · rcases List.mem_append.mp hy with q | q
    · simp only [if_neg (ne y q)] at h0 ⊢
      obtain ⟨w, hw, e⟩ := h.ex y q h0
      exact ⟨w, hw, by rw [if_neg (ne w (hin y q w hw))]; exact e⟩
    · rw [List.mem_singleton] at q
      subst q
      simp only [if_pos] at h0 ⊢
      rcases List.mem_cons.mp hm with e | e
      · omega
      · obtain ⟨w, hw, e2⟩ := List.mem_map.mp e
        have hw' := lowersF_mem.mp hw
        exact ⟨w, hw', by rw [if_neg (ne w (hl w hw'))]; omega⟩
/-- a greatest of some whole numbers -/
theorem max_ex : ∀ (z : Int) (zs : List Int), ∃ m, m ∈ z :: zs ∧ ∀ y ∈ z :: zs, y ≤ m
  | z, [] => ⟨z, by simp, fun y hy => by rw [List.mem_singleton] at hy; omega⟩
  | z, a :: zs => by
    obtain ⟨m, h1, h2⟩ := max_ex a zs
    by_cases c : z ≤ m
    · exact ⟨m, List.mem_cons_of_mem _ h1, fun y hy => (List.mem_cons.mp hy).elim (fun e => by omega) (h2 y)⟩
    · refine ⟨z, List.mem_cons_self, fun y hy => (List.mem_cons.mp hy).elim (fun e => by omega) (fun e => ?_)⟩
      have := h2 y e
      omega
/-- in a right row the lowers stand ahead -/
theorem right_ahead {os : List Str} {ps : List (Str × Str)} (n : os.Nodup) (R : RightS os ps) {i : Nat} {x w : Str} (e : os[i]? = some x) (h : (x, w) ∈ ps) : w ∈ os.take i := by
  have s := R (x, w) h
  have hw : w ∈ os := s.subset (by simp)
  have hlt := sub_idx n s
  have hi : os.idxOf x = i := by
    have hlx : os.idxOf x < os.length := idx_lt (s.subset (by simp))
    have e2 : os[os.idxOf x]? = some x := by rw [List.getElem?_eq_getElem hlx, List.getElem_idxOf]
    have hil : i < os.length := by
      by_cases q : i < os.length
      · exact q
      · rw [List.getElem?_eq_none (by omega)] at e; cases e
    have pw := List.pairwise_iff_getElem.mp n
    rw [List.getElem?_eq_getElem hlx] at e2
    rw [List.getElem?_eq_getElem hil] at e
    have e2' := Option.some.inj e2
    have e' := Option.some.inj e
    rcases Nat.lt_trichotomy (os.idxOf x) i with c | c | c
    · exact absurd (e2'.trans e'.symm) (pw _ _ hlx hil c)
    · exact c
    · exact absurd (e'.trans e2'.symm) (pw _ _ hil hlx c)
  have hlt' : os.idxOf w < i := by rw [← hi]; exact hlt
  have ew : os[os.idxOf w]? = some w := by rw [List.getElem?_eq_getElem (idx_lt hw), List.getElem_idxOf]
  refine List.mem_of_getElem? (i := os.idxOf w) ?_
  rw [List.getElem?_take, if_pos hlt']; exact ew
theorem take_closed {os : List Str} {ps : List (Str × Str)} (n : os.Nodup) (R : RightS os ps) (i : Nat) : ∀ y ∈ os.take i, ∀ w, (y, w) ∈ ps → w ∈ os.take i := fun y hy w hw => by
  obtain ⟨j, hj⟩ := List.mem_iff_getElem?.mp hy
  have hji : j < i := by
    by_cases q : j < i
    · exact q
    · rw [List.getElem?_take, if_neg q] at hj; cases hj
  rw [List.getElem?_take, if_pos hji] at hj
  have := right_ahead n R hj hw
  exact (List.take_subset_take_left os (Nat.le_of_lt hji)) this
theorem lev_exists {os : List Str} {ps : List (Str × Str)} (n : os.Nodup) (R : RightS os ps) : ∃ Lv, Lev ps os Lv := by
  have key : ∀ k, k ≤ os.length → ∃ Lv, Lev ps (os.take k) Lv := fun k => by
    induction k with
    | zero => intro _; exact ⟨_, by rw [List.take_zero]; exact Lev.nil ps⟩
    | succ k ih =>
      intro hk
      obtain ⟨Lv, h⟩ := ih (by omega)
      have ex : os[k]? = some os[k] := List.getElem?_eq_getElem (by omega)
      have et : os.take (k + 1) = os.take k ++ [os[k]] := by rw [List.take_succ, ex]; rfl
      obtain ⟨m, h1, h2⟩ := max_ex (-1) ((lowersF ps os[k]).map Lv)
      have nx : os[k] ∉ os.take k := fun z => by
        have nd : (os.take (k + 1)).Nodup := n.sublist (List.take_sublist _ _)
        rw [et, List.nodup_append] at nd
        exact nd.2.2 _ z _ (by simp) rfl
      rw [et]
      exact ⟨_, h.step nx (fun w hw => right_ahead n R ex hw) (take_closed n R k) h1 h2⟩
  obtain ⟨Lv, h⟩ := key os.length (Nat.le_refl _)
  rw [List.take_length] at h
  exact ⟨Lv, h⟩
theorem lev_uniq {os : List Str} {ps : List (Str × Str)} {L1 L2 : Str → Int} (n : os.Nodup) (R : RightS os ps) (h1 : Lev ps os L1) (h2 : Lev ps os L2) : ∀ x ∈ os, L1 x = L2 x := by
  have key : ∀ k (x : Str), os[k]? = some x → L1 x = L2 x := fun k => by
    induction k using Nat.strongRecOn with
    | _ k ih =>
      intro x hx
      have hxm : x ∈ os := List.mem_of_getElem? hx
      have low : ∀ w, (x, w) ∈ ps → L1 w = L2 w := fun w hw => by
        obtain ⟨j, hj⟩ := List.mem_iff_getElem?.mp (right_ahead n R hx hw)
        have hjk : j < k := by
          by_cases q : j < k
          · exact q
          · rw [List.getElem?_take, if_neg q] at hj; cases hj
        rw [List.getElem?_take, if_pos hjk] at hj
        exact ih j hjk w hj
      have a1 := h1.nn x hxm
      have a2 := h2.nn x hxm
      by_cases c1 : 0 < L1 x
      · obtain ⟨w, hw, e⟩ := h1.ex x hxm c1
        have l2 := h2.lt x hxm w hw
        rw [← low w hw] at l2
        by_cases c2 : 0 < L2 x
        · obtain ⟨w2, hw2, e2⟩ := h2.ex x hxm c2
          have l1 := h1.lt x hxm w2 hw2
          rw [low w2 hw2] at l1
          omega
        · have := h1.nn w (R _ hw |>.subset (by simp))
          omega
      · by_cases c2 : 0 < L2 x
        · obtain ⟨w2, hw2, e2⟩ := h2.ex x hxm c2
          have l1 := h1.lt x hxm w2 hw2
          have := h1.nn w2 (R _ hw2 |>.subset (by simp))
          omega
        · omega
  intro x hx
  obtain ⟨k, hk⟩ := List.mem_iff_getElem?.mp hx
  exact key k x hk
/-! ### the law's taking away -/
def leftF (os : List Str) (Lv : Str → Int) (k : Nat) : List Str := os.filter fun x => decide ((k : Int) ≤ Lv x)
def layF (os : List Str) (Lv : Str → Int) (k : Nat) : List Str := os.filter fun x => decide (Lv x = (k : Int))
theorem left0 {os : List Str} {ps : List (Str × Str)} {Lv : Str → Int} (h : Lev ps os Lv) : leftF os Lv 0 = os := by
  unfold leftF
  rw [List.filter_eq_self]
  intro x hx
  exact decide_eq_true (h.nn x hx)
/-- those that lean on nothing of the rest -/
theorem here_eq {os : List Str} {ps : List (Str × Str)} {Lv : Str → Int} (R : RightS os ps) (h : Lev ps os Lv) (k : Nat) :
    (leftF os Lv k).filter (fun o => (ps.filter fun p => decide (p.1 = o) && decide (p.2 ∈ leftF os Lv k)).isEmpty) = layF os Lv k := by
  unfold layF
  have e : layF os Lv k = (leftF os Lv k).filter (fun x => decide (Lv x = (k : Int))) := by
    unfold leftF layF
    rw [List.filter_filter]
    refine List.filter_congr (fun x _ => ?_)
    by_cases c : Lv x = (k : Int)
    · rw [decide_eq_true c, decide_eq_true (show (k : Int) ≤ Lv x by omega)]; rfl
    · rw [decide_eq_false c]; rfl
  unfold layF at e
  rw [e]
  refine List.filter_congr (fun x hx => ?_)
  obtain ⟨hxo, hk⟩ := List.mem_filter.mp hx
  have hk' : (k : Int) ≤ Lv x := of_decide_eq_true hk
  by_cases c : Lv x = (k : Int)
  · rw [decide_eq_true c, List.isEmpty_iff, List.filter_eq_nil_iff]
    intro p hp z
    simp only [Bool.and_eq_true, decide_eq_true_eq] at z
    obtain ⟨z1, z2⟩ := z
    have z3 : (k : Int) ≤ Lv p.2 := of_decide_eq_true (List.mem_filter.mp z2).2
    have z4 := h.lt x hxo p.2 (by rw [← z1]; exact hp)
    omega
  · rw [decide_eq_false c]
    obtain ⟨w, hw, e2⟩ := h.ex x hxo (by omega)
    have hwo : w ∈ os := R _ hw |>.subset (by simp)
    have hm : (x, w) ∈ ps.filter (fun p => decide (p.1 = x) && decide (p.2 ∈ leftF os Lv k)) := List.mem_filter.mpr ⟨hw, by
      simp only [Bool.and_eq_true, decide_eq_true_eq]
      exact ⟨trivial, List.mem_filter.mpr ⟨hwo, decide_eq_true (by omega)⟩⟩⟩
    cases hq : ps.filter (fun p => decide (p.1 = x) && decide (p.2 ∈ leftF os Lv k)) with
    | nil => rw [hq] at hm; cases hm
    | cons a b => rfl
theorem left_next {os : List Str} {Lv : Str → Int} (k : Nat) : (leftF os Lv k).filter (fun o => decide (o ∉ layF os Lv k)) = leftF os Lv (k + 1) := by
  have e : leftF os Lv (k + 1) = (leftF os Lv k).filter (fun x => decide (((k + 1 : Nat) : Int) ≤ Lv x)) := by
    unfold leftF
    rw [List.filter_filter]
    refine List.filter_congr (fun x _ => ?_)
    by_cases c : ((k + 1 : Nat) : Int) ≤ Lv x
    · rw [decide_eq_true c, decide_eq_true (show (k : Int) ≤ Lv x by omega)]; rfl
    · rw [decide_eq_false c]; rfl
  rw [e]
  refine List.filter_congr (fun x hx => ?_)
  obtain ⟨hxo, hk⟩ := List.mem_filter.mp hx
  have hk' : (k : Int) ≤ Lv x := of_decide_eq_true hk
  refine decide_eq_decide.mpr ⟨fun z => ?_, fun z y => ?_⟩
  · by_cases c : Lv x = (k : Int)
    · exact absurd (List.mem_filter.mpr ⟨hxo, decide_eq_true c⟩) z
    · omega
  · have := of_decide_eq_true (List.mem_filter.mp y).2
    omega
end Lr

set_option Elab.async false
set_option linter.all false
set_option maxRecDepth 100000
set_option maxHeartbeats 4000000
namespace Lr
open PySem PySem.Spec PyProof.Rows L2
/-! ### a walk over a dict that stands locked -/
theorem relock {H H' : Hp} {d : Addr} {u : HO} {od : Obj} (e : H d = some u) (s : Same (upd H d (.frz od u)) H') : Same H (upd H' d u) := fun b o h => by
  by_cases c : b = d
  · subst c
    rw [e] at h
    rw [upd_same]; exact h
  · rw [upd_ne c]
    exact s b o (by rw [upd_ne c]; exact h)
theorem lcKeys (os : List Str) (vv : Str → V) (F : Str → Bool) (Gv : Str → V) {d : Addr} {o : Obj} {g : TG} {tt : TT} {te : TE} {vs : List Nat} {σ : L2.St} {H1 : Hp} {D : Addr} {Qd : Hp → Prop}
    (src : H1 d = some (.frz o (.dK (os.map fun x => ((Sum.inr x : Key), vv x))))) (hn : os.length ≤ 100000) (hD : H1 D = none)
    (ht : ∀ x ∈ os, ∀ H, Same H1 H → LcTurn g tt te vs σ (.str x) H (F x) (Gv x))
    (hd : ∀ H', Same H1 H' → H' D = some (.lst ((os.filter F).map Gv)) → Qd H') :
    ∃ W : Nat → Nat → Hp → Prop, (∃ m, W 0 m (upd H1 D (.lst []))) ∧ ∀ i m H, W i m H →
      ((Itk d o (os.map fun x => ((Sum.inr x : Key), vv x))).stop i H ∧ Qd H) ∨ ((Itk d o (os.map fun x => ((Sum.inr x : Key), vv x))).go i H ∧ ∃ Nx : Hp → Prop, (∀ H', Nx H' → ∃ m', m' < m ∧ W (i + 1) m' H') ∧ ∀ x H', (Itk d o (os.map fun x => ((Sum.inr x : Key), vv x))).yld i H x H' → g x (wipe σ vs) H' fun σ2 H2 => wipe σ2 vs = wipe σ vs ∧ tt σ2 H2 fun b H3 =>
        if b = true then te σ2 H3 fun y H4 => ∃ acc, H4 D = some (.lst acc) ∧ acc.length < sizeLine ∧ Nx (upd H4 D (.lst (acc ++ [y]))) else Nx H3) := by
  have hl : (os.map fun x => ((Sum.inr x : Key), vv x)).length = os.length := by simp
  refine lcW (walk_keys (d := d) (o := o) (kvs := os.map fun x => ((Sum.inr x : Key), vv x))) (fun i => (os[i]?).elim false F) (fun i => (os[i]?).elim .non Gv) hD (by rw [hl]; exact hn) (fun H e => e _ _ src) ?_ (fun H' e h => hd H' e (by rw [← gvn_list F Gv os]; rw [hl] at h; exact h))
  intro i x H H' hi e y
  obtain ⟨rfl, k, v, hk, rfl⟩ := y
  refine ⟨Same.refl _, ?_⟩
  rw [List.getElem?_map] at hk
  cases q : os[i]? with
  | none => rw [q] at hk; cases hk
  | some z =>
    rw [q] at hk
    cases hk
    exact ht z (List.mem_of_getElem? q) _ e
end Lr
namespace Lr
open PySem PySem.Spec PyProof.Rows L2
/-- in a right row no level is above the place -/
theorem lev_bound {os : List Str} {ps : List (Str × Str)} {Lv : Str → Int} (n : os.Nodup) (R : RightS os ps) (h : Lev ps os Lv) : ∀ (i : Nat) (x : Str), os[i]? = some x → Lv x ≤ (i : Int) := fun i => by
  induction i using Nat.strongRecOn with
  | _ i ih =>
    intro x hx
    have hxm : x ∈ os := List.mem_of_getElem? hx
    by_cases c : 0 < Lv x
    · obtain ⟨w, hw, e⟩ := h.ex x hxm c
      obtain ⟨j, hj⟩ := List.mem_iff_getElem?.mp (right_ahead n R hx hw)
      have hji : j < i := by
        by_cases q : j < i
        · exact q
        · rw [List.getElem?_take, if_neg q] at hj; cases hj
      rw [List.getElem?_take, if_pos hji] at hj
      have := ih j hji w hj
      omega
    · omega
theorem many_bound {os : List Str} {ps : List (Str × Str)} {Lv : Str → Int} (n : os.Nodup) (R : RightS os ps) (h : Lev ps os Lv) {x : Str} (hx : x ∈ os) : Lv x < (os.length : Int) := by
  obtain ⟨i, hi⟩ := List.mem_iff_getElem?.mp hx
  have hl : i < os.length := by
    by_cases q : i < os.length
    · exact q
    · rw [List.getElem?_eq_none (by omega)] at hi; cases hi
  have := lev_bound n R h i x hi
  omega
end Lr
namespace Lr
open PySem PySem.Spec PyProof.Rows L2
/-- names that begin with the sign: the further clause of some laws -/
def nmS (num at' : Int) (signs : List Str) (i : Nat) : Str := signs.getD i "" ++ L2.cutS (row8 num) none (some ((3 * (i : Int) + at') % 8))
theorem nsSgn (num at' : Int) (signs : List Str) (hs : ∀ z ∈ signs, AllL z ∧ z.length = 1) : NsOk ((List.range signs.length).map (nmS num at' signs)) signs.length := by
  have key : ∀ i : Nat, i < signs.length → ∃ j : Nat, j < 8 ∧ nmS num at' signs i = signs.getD i "" ++ L2.cutS (row8 num) none (some (j : Int)) ∧ (AllL (signs.getD i "") ∧ (signs.getD i "").length = 1) ∧ (L2.cutS (row8 num) none (some (j : Int))).length = j := fun i hi' => by
    have hz : signs.getD i "" ∈ signs := by simp [List.getD_eq_getElem?_getD, hi']
    have h0 := Int.emod_nonneg (3 * (i : Int) + at') (b := 8) (by decide)
    have h1 := Int.emod_lt_of_pos (3 * (i : Int) + at') (b := 8) (by decide)
    obtain ⟨j, e⟩ : ∃ j : Nat, (3 * (i : Int) + at') % 8 = (j : Int) := ⟨((3 * (i : Int) + at') % 8).toNat, by omega⟩
    refine ⟨j, by omega, by unfold nmS; rw [e], hs _ hz, ?_⟩
    rw [len_cut, row8_len, HT.sIx_nat, HT.sIx_none]; omega
  refine ⟨by simp, fun n hn => ?_, fun n hn => ?_⟩
  · obtain ⟨i, hi, rfl⟩ := List.mem_map.mp hn
    obtain ⟨j, hj, e, ⟨hz1, hz2⟩, e1⟩ := key i (List.mem_range.mp hi)
    rw [e]
    refine isNm_of (allL_cat hz1 (allL_cut (row8_all num))) ?_ ?_ <;> rw [len_cat, hz2, e1] <;> omega
  · obtain ⟨i, hi, rfl⟩ := List.mem_map.mp hn
    obtain ⟨j, hj, e, ⟨hz1, hz2⟩, e1⟩ := key i (List.mem_range.mp hi)
    rw [e]
    by_cases c : j = 6
    · subst c
      have l2 : (signs.getD i "").cps.toList.length = 1 := by rw [Array.length_toList]; exact hz2
      have q : ∀ k, k < 6 → (signs.getD i "" ++ L2.cutS (row8 num) none (some ((6 : Nat) : Int))).cps.toList[k + 1]? = (row8 num).cps.toList[k]? := fun k hk => by
        rw [cat_tl, List.getElem?_append_right (by omega), cut_at (by rw [l2, row8_len, HT.sIx_nat, HT.sIx_none]; omega), HT.sIx_none, l2]
        congr 1
        omega
      exact odd_of (i := num / 8 + 5 * ((4 : Nat) : Int)) (.inr rfl) (by rw [q 4 (by decide), row8_at num (by decide)]) (by rw [q 5 (by decide), row8_at' num (by decide)])
    · exact odd_len (by rw [len_cat, hz2, e1]; omega)
end Lr

set_option Elab.async false
set_option linter.all false
set_option maxRecDepth 100000
set_option maxHeartbeats 4000000
namespace Lr
open PySem PySem.Spec PyProof.Rows L2
/-! ### further cells -/
/-- the second cell is dropped -/
theorem Wlt.drop1 {H0 H : Hp} {a b : Cel} {cs : List Cel} (W : Wlt H0 H (a :: b :: cs)) : Wlt H0 H (a :: cs) := by
  refine ⟨fun i c h => ?_, fun i j c d hi hj hij => ?_, W.sm⟩
  · cases i with
    | zero => exact W.at' 0 c h
    | succ i => exact W.at' (i + 2) c h
  · cases i with
    | zero =>
      cases j with
      | zero => exact absurd rfl hij
      | succ j => exact W.ap 0 (j + 2) c d hi hj (by omega)
    | succ i =>
      cases j with
      | zero => exact W.ap (i + 2) 0 c d hi hj (by omega)
      | succ j => exact W.ap (i + 2) (j + 2) c d hi hj (by omega)
/-- a list of lists of texts -/
theorem LL.fr {H H' : Hp} {l : Addr} {W : Ls} {g : List Addr} (h : LL H l W) (e : Fr g H H') (n : Apart (l :: W.map (·.1)) g) : LL H' l W :=
  ⟨e.1 _ _ h.lst (n l (by simp)), fun q hq => e.1 _ _ (h.each q hq) (n q.1 (by simp only [List.mem_cons, List.mem_map]; exact .inr ⟨q, hq, rfl⟩))⟩
theorem LL.old {H : Hp} {l : Addr} {W : Ls} (h : LL H l W) : ∀ b ∈ l :: W.map (·.1), H b ≠ none := fun b hb => by
  rcases List.mem_cons.mp hb with q | q
  · rw [q, h.lst]; exact fun z => nomatch z
  · obtain ⟨x, hx, rfl⟩ := List.mem_map.mp q
    rw [h.each x hx]; exact fun z => nomatch z
def layC (l : Addr) (W : Ls) : Cel := ⟨l :: W.map (·.1), fun H => LL H l W, fun _ _ _ h e n => h.fr e n, fun _ h => h.old⟩
/-- a list of lists, of whatever -/
structure AnyL (b : Nat) (H : Hp) (l : Addr) (as : List Addr) : Prop where
  lst : H l = some (.lst (as.map V.ref))
  each : ∀ a ∈ as, a ≠ l ∧ ∃ xs, H a = some (.lst xs) ∧ xs.length ≤ b
theorem AnyL.fr {b : Nat} {H H' : Hp} {l : Addr} {as : List Addr} {g : List Addr} (h : AnyL b H l as) (e : Fr g H H') (n : Apart (l :: as) g) : AnyL b H' l as :=
  ⟨e.1 _ _ h.lst (n l (by simp)), fun a ha => by
    obtain ⟨x, xs, y, z⟩ := h.each a ha
    exact ⟨x, xs, e.1 _ _ y (n a (by simp [ha])), z⟩⟩
theorem AnyL.old {b : Nat} {H : Hp} {l : Addr} {as : List Addr} (h : AnyL b H l as) : ∀ a ∈ l :: as, H a ≠ none := fun a hb => by
  rcases List.mem_cons.mp hb with q | q
  · rw [q, h.lst]; exact fun z => nomatch z
  · obtain ⟨_, xs, y, _⟩ := h.each a q
    rw [y]; exact fun z => nomatch z
def anyC (b : Nat) (l : Addr) (as : List Addr) : Cel := ⟨l :: as, fun H => AnyL b H l as, fun _ _ _ h e n => h.fr e n, fun _ h => h.old⟩
theorem AnyL.grow {b : Nat} {H : Hp} {l a : Addr} {as : List Addr} {xs : List V} {v : V} (h : AnyL b H l as) (ha : a ∈ as) (e : H a = some (.lst xs)) : AnyL (b + 1) (upd H a (.lst (xs ++ [v]))) l as := by
  obtain ⟨nl, ys, e2, hb⟩ := h.each a ha
  have exy : xs = ys := by rw [e] at e2; injection e2 with z; injection z
  subst exy
  refine ⟨by rw [upd_ne nl.symm]; exact h.lst, fun c hc => ?_⟩
  obtain ⟨x, zs, y, z⟩ := h.each c hc
  refine ⟨x, ?_⟩
  by_cases q : c = a
  · subst q
    exact ⟨_, upd_same, by rw [List.length_append, List.length_singleton]; omega⟩
  · exact ⟨zs, by rw [upd_ne q]; exact y, by omega⟩
/-- names that stand, leanings that stand: by a row and by the law's own -/
theorem RightS.nil : RightS [] [] := fun _ z => nomatch z
end Lr

set_option Elab.async false
set_option linter.all false
set_option maxRecDepth 100000
set_option maxHeartbeats 4000000
namespace Lr
open PySem PySem.Spec PyProof.Rows L2
/-! ### deeds of any values, and why they are refused -/
inductive GD where
  | put (x : V) (nx : Option Str)
  | take (x : V) (nx : Option Str)
  | loosen (x y : V) (nx ny : Option Str)
  | lean (x y : V) (nx ny : Option Str)
def GD.vals : GD → List V
  | .put x _ => [.str "put", x]
  | .take x _ => [.str "take", x]
  | .loosen x y _ _ => [.str "loosen", x, y]
  | .lean x y _ _ => [.str "lean", x, y]
def GD.ok (K : PySem.W.Frag) (H : Hp) : GD → Prop
  | .put x nx => NmV K H x nx ∧ shortN nx
  | .take x nx => NmV K H x nx
  | .loosen x y nx ny => NmV K H x nx ∧ NmV K H y ny
  | .lean x y nx ny => NmV K H x nx ∧ NmV K H y ny
def inPs : Option Str → Option Str → List (Str × Str) → Bool
  | some n, some m, ps => decide ((n, m) ∈ ps)
  | _, _, _ => false
def refE (ns : List Str) (ps : List (Str × Str)) : GD → Option Er
  | .put _ nx => putE ns nx
  | .take _ nx => if inN nx ns = true then none else some .NoThing
  | .loosen _ _ nx ny => if (inN nx ns && inN ny ns) = true then (if inPs nx ny ps = true then none else some .NoLeaning) else some .NoThing
  | .lean _ _ nx ny => if (inN nx ns && inN ny ns) = true then (if inPs nx ny ps = true then some .Twice else none) else some .NoThing
theorem GD.ok.same {K : PySem.W.Frag} {H H' : Hp} {g : GD} (h : g.ok K H) (s : Same H H') : g.ok K H' := by
  cases g with
  | put x nx => exact ⟨NmV.same s h.1, h.2⟩
  | take x nx => exact NmV.same s h
  | loosen x y nx ny => exact ⟨NmV.same s h.1, NmV.same s h.2⟩
  | lean x y nx ny => exact ⟨NmV.same s h.1, NmV.same s h.2⟩
theorem putE_ne {ns : List Str} {nm : Option Str} {e : Er} (h : putE ns nm = some e) : e ≠ .Ring := by
  rintro rfl
  unfold putE at h
  cases nm with
  | none => cases h
  | some n =>
    by_cases c1 : isNm n = false
    · simp [c1] at h
    · by_cases c2 : n ∈ ns
      · simp [c1, c2] at h
      · by_cases c3 : 30 ≤ ns.length
        · simp [c1, c2, c3] at h
        · simp [c1, c2, c3] at h
theorem wordE_ring {e : Er} (h : e ≠ .Ring) : ¬ [wordE e] = (["ring"] : List Str) := by
  cases e <;> first | exact absurd rfl h | decide +kernel
def RingV (H H' : Hp) (v : V) (ps : List (Str × Str)) (dd : Deed) : Prop :=
  (∀ n m c, dd = .lean n m → (n, m) ∉ ps → chainF ps m n = some c → ∃ p, v = .ref p ∧ H p = none ∧ H' p = some (.lst ((n :: c.dropLast).map V.str))) ∧ (wordF ps dd ≠ "ring" → v = .non)
theorem wordF_ring {ps : List (Str × Str)} {dd : Deed} (h : wordF ps dd = "ring") : ∃ n m c, dd = .lean n m ∧ (n, m) ∉ ps ∧ chainF ps m n = some c := by
  cases dd with
  | put n => exact absurd (show ("" : Str) = "ring" from h) (by decide +kernel)
  | take n => exact absurd (show ("" : Str) = "ring" from h) (by decide +kernel)
  | loosen n m => exact absurd (show ("" : Str) = "ring" from h) (by decide +kernel)
  | lean n m =>
    have h : (if (n, m) ∈ ps then ("twice" : Str) else if (chainF ps m n).isSome then "ring" else "") = "ring" := h
    by_cases c : (n, m) ∈ ps
    · rw [if_pos c] at h; exact absurd h (by decide +kernel)
    · rw [if_neg c] at h
      cases d : chainF ps m n with
      | none => rw [d] at h; exact absurd (show ("" : Str) = "ring" from h) (by decide +kernel)
      | some x => exact ⟨n, m, x, rfl, c, d⟩
theorem wordF_else {ps : List (Str × Str)} {os ns : List Str} {dd : Deed} (h : wordF ps dd ≠ "") : osA ps os dd = os ∧ psA ps dd = ps ∧ nsA ns dd = ns ∧ mvA ps os dd = none := by
  cases dd with
  | put n => exact absurd rfl h
  | take n => exact absurd rfl h
  | loosen n m => exact absurd rfl h
  | lean n m =>
    have c : ¬ leansOn ps n m := fun z => h (wordF_lean.mpr z)
    exact ⟨if_neg c, if_neg c, rfl, if_neg c⟩
end Lr

set_option Elab.async false
set_option linter.all false
set_option maxRecDepth 100000
set_option maxHeartbeats 4000000
namespace Lr
open PySem PySem.Spec PyProof.Rows L2
/-! ### a log with what it keeps -/
structure KE where
  t : Addr
  ls : List Addr
  ns : List Str
  ps : List (Str × Str)
  os : List Str
abbrev KE.ok (H : Hp) (e : KE) : Prop := KeptAt H e.t e.ls e.ns e.ps e.os
def ksFp (es : List KE) : List Addr := es.flatMap (·.ls)
theorem ksFp_mem {es : List KE} {b : Addr} : b ∈ ksFp es ↔ ∃ e ∈ es, b ∈ e.ls := by simp [ksFp]
theorem KeptAt.old {H : Hp} {t : Addr} {ls : List Addr} {ns os : List Str} {ps : List (Str × Str)} (h : KeptAt H t ls ns ps os) : ∀ b ∈ ls, H b ≠ none := fun b hb => by
  obtain ⟨l1, l2, l3, P, rfl, a, b', c, d, f⟩ := h
  simp only [List.mem_cons, List.not_mem_nil, or_false] at hb
  rcases hb with rfl | rfl | rfl | rfl
  · rw [a]; exact fun z => nomatch z
  · rw [b']; exact fun z => nomatch z
  · rw [c.lst]; exact fun z => nomatch z
  · rw [f]; exact fun z => nomatch z
structure LogK (CL CR CW : Addr) (H : Hp) (a : Addr) (fp : List Addr) (ns : List Str) (ps : List (Str × Str)) (os : List Str) (ep ec : List KE) : Prop where
  log : LogS CL CR CW H a fp ns ps os (ep.map fun e => V.ref e.t) (ec.map fun e => V.ref e.t)
  kp : ∀ e ∈ ep ++ ec, e.ok H
  ap : Apart fp (ksFp (ep ++ ec))
def lkFp (fp : List Addr) (ep ec : List KE) : List Addr := fp ++ ksFp (ep ++ ec)
section
variable {CL CR CW : Addr} {H H' : Hp} {a : Addr} {fp fp' g : List Addr} {ns ns' os os' : List Str} {ps ps' : List (Str × Str)} {ep ec ep' ec' : List KE}
theorem LogK.fr (h : LogK CL CR CW H a fp ns ps os ep ec) (e : Fr g H H') (n : Apart (lkFp fp ep ec) g) : LogK CL CR CW H' a fp ns ps os ep ec :=
  ⟨h.log.fr e (fun b hb => n b (List.mem_append_left _ hb)), fun x hx => (h.kp x hx).fr e (fun b hb => n b (List.mem_append_right _ (ksFp_mem.mpr ⟨x, hx, hb⟩))), h.ap⟩
theorem LogK.same (h : LogK CL CR CW H a fp ns ps os ep ec) (s : Same H H') : LogK CL CR CW H' a fp ns ps os ep ec := h.fr (g := []) (Fr.of_same s) (fun _ _ z => nomatch z)
theorem LogK.old (h : LogK CL CR CW H a fp ns ps os ep ec) : ∀ b ∈ lkFp fp ep ec, H b ≠ none := fun b hb => by
  rcases List.mem_append.mp hb with q | q
  · exact h.log.old q
  · obtain ⟨x, hx, hb2⟩ := ksFp_mem.mp q
    exact (h.kp x hx).old b hb2
/-- the log goes on: what is kept further on was kept, or is new -/
theorem LogK.next (h : LogK CL CR CW H a fp ns ps os ep ec) (f : Fr fp H H') (n : Nw fp H fp') (L : LogS CL CR CW H' a fp' ns' ps' os' (ep'.map fun e => V.ref e.t) (ec'.map fun e => V.ref e.t))
    (hk : ∀ e ∈ ep' ++ ec', e ∈ ep ++ ec ∨ (e.ok H' ∧ (∀ b ∈ e.ls, H b = none) ∧ Apart e.ls fp')) : LogK CL CR CW H' a fp' ns' ps' os' ep' ec' ∧ Fr (lkFp fp ep ec) H H' ∧ Nw (lkFp fp ep ec) H (lkFp fp' ep' ec') := by
  refine ⟨⟨L, fun e he => ?_, fun b hb hb2 => ?_⟩, f.widen (fun b hb => .inl (List.mem_append_left _ hb)), fun b hb => ?_⟩
  · rcases hk e he with q | q
    · exact (h.kp e q).fr f (fun b hb hb2 => h.ap b hb2 (ksFp_mem.mpr ⟨e, q, hb⟩))
    · exact q.1
  · obtain ⟨e, he, hb3⟩ := ksFp_mem.mp hb2
    rcases hk e he with q | ⟨_, _, q⟩
    · rcases n b hb with z | z
      · exact h.ap b z (ksFp_mem.mpr ⟨e, q, hb3⟩)
      · exact (h.kp e q).old b hb3 z
    · exact q b hb3 hb
  · rcases List.mem_append.mp hb with q | q
    · rcases n b q with z | z
      · exact .inl (List.mem_append_left _ z)
      · exact .inr z
    · obtain ⟨e, he, hb3⟩ := ksFp_mem.mp q
      rcases hk e he with z | ⟨_, z, _⟩
      · exact .inl (List.mem_append_right _ (ksFp_mem.mpr ⟨e, z, hb3⟩))
      · exact .inr (z b hb3)
end
def logkC (CL CR CW : Addr) (a : Addr) (fp : List Addr) (ns : List Str) (ps : List (Str × Str)) (os : List Str) (ep ec : List KE) : Cel := ⟨lkFp fp ep ec, fun H => LogK CL CR CW H a fp ns ps os ep ec, fun _ _ _ h e n => h.fr e n, fun _ h => h.old⟩
/-! ### the law's own keeping of rows -/
structure PEn where
  t : Addr
  l1 : Addr
  l2 : Addr
  os : List Str
  P : Ps
structure PEn.ok (H : Hp) (e : PEn) : Prop where
  tp : H e.t = some (.tup [.ref e.l1, .ref e.l2])
  h1 : H e.l1 = some (.lst (e.os.map V.str))
  h2 : PL H e.l2 e.P
def entFp (es : List PEn) : List Addr := es.flatMap fun e => [e.l1, e.l2]
theorem entFp_mem {es : List PEn} {b : Addr} : b ∈ entFp es ↔ ∃ e ∈ es, b = e.l1 ∨ b = e.l2 := by simp [entFp]
theorem PEn.ok.fr {H H' : Hp} {e : PEn} {g : List Addr} (h : e.ok H) (f : Fr g H H') (n1 : e.l1 ∉ g) (n2 : e.l2 ∉ g) : e.ok H' := ⟨f.2 _ _ h.tp, f.1 _ _ h.h1 n1, h.h2.fr f n2⟩
theorem PEn.ok.same {H H' : Hp} {e : PEn} (h : e.ok H) (s : Same H H') : e.ok H' := h.fr (g := []) (Fr.of_same s) (fun z => nomatch z) (fun z => nomatch z)
structure PastAt (H : Hp) (l : Addr) (es : List PEn) : Prop where
  lst : H l = some (.lst (es.map fun e => V.ref e.t))
  each : ∀ e ∈ es, e.ok H
theorem PastAt.fr {H H' : Hp} {l : Addr} {es : List PEn} {g : List Addr} (h : PastAt H l es) (f : Fr g H H') (n0 : l ∉ g) (n : Apart (entFp es) g) : PastAt H' l es :=
  ⟨f.1 _ _ h.lst n0, fun e he => (h.each e he).fr f (n _ (entFp_mem.mpr ⟨e, he, .inl rfl⟩)) (n _ (entFp_mem.mpr ⟨e, he, .inr rfl⟩))⟩
theorem PastAt.old {H : Hp} {l : Addr} {es : List PEn} (h : PastAt H l es) : ∀ b ∈ l :: entFp es, H b ≠ none := fun b hb => by
  rcases List.mem_cons.mp hb with q | q
  · rw [q, h.lst]; exact fun z => nomatch z
  · obtain ⟨e, he, z⟩ := entFp_mem.mp q
    rcases z with z | z
    · rw [z, (h.each e he).h1]; exact fun z => nomatch z
    · rw [z, (h.each e he).h2.lst]; exact fun z => nomatch z
def lwFp (lp lc : Addr) (fo : List Addr) (ep ec : List PEn) : List Addr := fo ++ (lp :: lc :: (entFp ep ++ entFp ec))
structure LawW (H : Hp) (d lp lc : Addr) (fo : List Addr) (os : List Str) (ps : List (Str × Str)) (ep ec : List PEn) : Prop where
  own : OwnS H d fo os ps
  pa : PastAt H lp ep
  co : PastAt H lc ec
  nd : (lwFp lp lc fo ep ec).Nodup
theorem OwnS.nodup {H : Hp} {d : Addr} {fo : List Addr} {os : List Str} {ps : List (Str × Str)} (h : OwnS H d fo os ps) : fo.Nodup := by
  obtain ⟨lo, lq, P, rfl, W, _⟩ := h
  have h1 := W.ndo
  have h2 := W.ndq
  have h3 := W.ne
  simp [h1, h2, h3]
section
variable {H H' : Hp} {d lp lc : Addr} {fo fo' g : List Addr} {os os' : List Str} {ps ps' : List (Str × Str)} {ep ec : List PEn}
theorem LawW.swap (h : LawW H d lp lc fo os ps ep ec) : LawW H d lc lp fo os ps ec ep := ⟨h.own, h.co, h.pa, by
  have q : (lwFp lc lp fo ec ep).Perm (lwFp lp lc fo ep ec) := by
    unfold lwFp
    refine List.Perm.append_left _ ?_
    refine (List.Perm.swap _ _ _).trans ?_
    exact (List.perm_append_comm.cons _).cons _
  exact q.nodup_iff.mpr h.nd⟩
theorem LawW.fr (h : LawW H d lp lc fo os ps ep ec) (e : Fr g H H') (n : Apart (lwFp lp lc fo ep ec) g) : LawW H' d lp lc fo os ps ep ec :=
  ⟨h.own.fr e (fun b hb => n b (List.mem_append_left _ hb)), h.pa.fr e (n _ (by simp [lwFp])) (fun b hb => n b (by simp [lwFp, hb])), h.co.fr e (n _ (by simp [lwFp])) (fun b hb => n b (by simp [lwFp, hb])), h.nd⟩
theorem LawW.same (h : LawW H d lp lc fo os ps ep ec) (s : Same H H') : LawW H' d lp lc fo os ps ep ec := h.fr (g := []) (Fr.of_same s) (fun _ _ z => nomatch z)
theorem LawW.old (h : LawW H d lp lc fo os ps ep ec) : ∀ b ∈ lwFp lp lc fo ep ec, H b ≠ none := fun b hb => by
  rcases List.mem_append.mp hb with q | q
  · exact h.own.old q
  · rcases List.mem_cons.mp q with q | q
    · exact h.pa.old b (by rw [q]; simp)
    · rcases List.mem_cons.mp q with q | q
      · exact h.co.old b (by rw [q]; simp)
      · rcases List.mem_append.mp q with q | q
        · exact h.pa.old b (by simp [q])
        · exact h.co.old b (by simp [q])
theorem LawW.rest (h : LawW H d lp lc fo os ps ep ec) : ∀ b ∈ fo, b ∉ lp :: lc :: (entFp ep ++ entFp ec) := fun b hb hb2 => (List.nodup_append.mp h.nd).2.2 b hb b hb2 rfl
/-- the own rows go on by themselves -/
theorem LawW.ownStep (h : LawW H d lp lc fo os ps ep ec) (f : Fr fo H H') (n : Nw fo H fo') (O : OwnS H' d fo' os' ps') :
    LawW H' d lp lc fo' os' ps' ep ec ∧ Fr (lwFp lp lc fo ep ec) H H' ∧ Nw (lwFp lp lc fo ep ec) H (lwFp lp lc fo' ep ec) := by
  have r := h.rest
  refine ⟨⟨O, h.pa.fr f (fun z => r _ z (by simp)) (fun b hb z => r _ z (by simp [hb])), h.co.fr f (fun z => r _ z (by simp)) (fun b hb z => r _ z (by simp [hb])), ?_⟩, f.widen (fun b hb => .inl (List.mem_append_left _ hb)), fun b hb => ?_⟩
  · refine List.nodup_append.mpr ⟨O.nodup, (List.nodup_append.mp h.nd).2.1, fun a ha b hb e => ?_⟩
    subst e
    rcases n a ha with z | z
    · exact r a z hb
    · exact h.old a (List.mem_append_right _ hb) z
  · rcases List.mem_append.mp hb with q | q
    · rcases n b q with z | z
      · exact .inl (List.mem_append_left _ z)
      · exact .inr z
    · exact .inl (List.mem_append_right _ q)
end
def lawC (d lp lc : Addr) (fo : List Addr) (os : List Str) (ps : List (Str × Str)) (ep ec : List PEn) : Cel := ⟨lwFp lp lc fo ep ec, fun H => LawW H d lp lc fo os ps ep ec, fun _ _ _ h e n => h.fr e n, fun _ h => h.old⟩
theorem entFp_snoc (es : List PEn) (e : PEn) : entFp (es ++ [e]) = entFp es ++ [e.l1, e.l2] := by simp [entFp]
/-- new places ahead of a list of known ones -/
theorem nd_new {L : List Addr} {x y : Addr} (h : L.Nodup) (hx : x ∉ L) (hy : y ∉ L) (hxy : x ≠ y) : ([x, y] ++ L).Nodup := by
  refine List.nodup_append.mpr ⟨by simp [hxy], h, fun a ha b hb e => ?_⟩
  subst e
  simp only [List.mem_cons, List.not_mem_nil, or_false] at ha
  rcases ha with rfl | rfl
  · exact hx hb
  · exact hy hb
/-- a deed is kept: one more of the past, nothing to come -/
theorem lw_push {lp lc : Addr} {fo : List Addr} {ep ec : List PEn} {e : PEn} (h : (lwFp lp lc fo ep ec).Nodup) (hx : e.l1 ∉ lwFp lp lc fo ep ec) (hy : e.l2 ∉ lwFp lp lc fo ep ec) (hxy : e.l1 ≠ e.l2) : (lwFp lp lc fo (ep ++ [e]) []).Nodup := by
  have s : (fo ++ (lp :: lc :: entFp ep)).Sublist (lwFp lp lc fo ep ec) := by
    unfold lwFp
    exact List.Sublist.append_left (((List.sublist_append_left _ _).cons₂ _).cons₂ _) _
  have q := nd_new (h.sublist s) (fun z => hx (s.subset z)) (fun z => hy (s.subset z)) hxy
  refine (List.Perm.nodup_iff ?_).mp q
  rw [List.perm_iff_count]
  intro a
  simp only [lwFp, entFp_snoc, List.count_append, List.count_cons, List.count_nil, show entFp [] = [] from rfl]
  omega
/-- taken back: the last of the past stands, what stood is to come -/
theorem lw_turn {d lo lq lp lc : Addr} {ep ec : List PEn} {e e2 : PEn} (h : (lwFp lp lc [d, lo, lq] (ep ++ [e]) ec).Nodup) (hx : e2.l1 ∉ lwFp lp lc [d, lo, lq] (ep ++ [e]) ec) (hy : e2.l2 ∉ lwFp lp lc [d, lo, lq] (ep ++ [e]) ec) (hxy : e2.l1 ≠ e2.l2) : (lwFp lp lc [d, e.l1, e.l2] ep (ec ++ [e2])).Nodup := by
  have p : (lwFp lp lc [d, lo, lq] (ep ++ [e]) ec).Perm ([lo, lq] ++ (d :: e.l1 :: e.l2 :: lp :: lc :: (entFp ep ++ entFp ec))) := by
    rw [List.perm_iff_count]
    intro a
    simp only [lwFp, entFp_snoc, List.count_append, List.count_cons, List.count_nil]
    omega
  have q1 := p.nodup_iff.mp h
  have q2 := (List.nodup_append.mp q1).2.1
  have s : ∀ b ∈ (d :: e.l1 :: e.l2 :: lp :: lc :: (entFp ep ++ entFp ec)), b ∈ lwFp lp lc [d, lo, lq] (ep ++ [e]) ec := fun b hb => p.mem_iff.mpr (List.mem_append_right _ hb)
  have q := nd_new q2 (fun z => hx (s _ z)) (fun z => hy (s _ z)) hxy
  refine (List.Perm.nodup_iff ?_).mp q
  rw [List.perm_iff_count]
  intro a
  simp only [lwFp, entFp_snoc, List.count_append, List.count_cons, List.count_nil]
  omega
end Lr

set_option Elab.async false
set_option linter.all false
set_option maxRecDepth 100000
set_option maxHeartbeats 4000000
namespace Lr
open PySem PySem.Spec PyProof.Rows L2
variable {X : Cx}
/-! ### a method without arguments, called in a try -/
def tMethS0 (C : Addr) (m : Str) (sp : Sp) (E : L2.St → XK) (ta : TE) : TE := fun σ H Q => ta σ H fun x H1 =>
  ∃ a dx fs, x = .ref a ∧ H1 a = some (.ins C dx fs) ∧ fs.lookup m = none ∧ sp [x] H1 Q (E σ)
theorem pe_methA0 {CX : CXT} {k : Nat} {f C : Addr} {fd : FuncData} {ps : List Str} {sp : Sp} {E : L2.St → XK} {m : Str} {pos apos : Pos} {o : Expr} {ta : TE}
    {pl : Sem Bool} (he : PE X o ta) (c : Cls X.K C) (hm : Meth X.K C m f) (F : FnOk X.prog X.w X.K X.mg X.base CX k f fd ps sp) (hr : Room k X.A) (hb : Binds X.K fd ps [])
    (hx : ∀ σ, PassesAt CX X σ (E σ))
    (ht : eval (.Call (.Attribute o m apos) [] [] pos) X.env = (do
      let ov ← eval o X.env
      standAt apos.atName
      let (f, first) ← holding [ov] (getMethod ov m pl)
      callWith pos f first (backTo pos (starEach [] X.env)) (backToKw pos (keywordEach [] X.env))) := by rfl) :
    PE X (.Call (.Attribute o m apos) [] [] pos) (tMethS0 C m sp E ta) := by
  constructor
  intro pins s σ H Q I h
  apply PySem.W.methodCall_KW (pl := pl) _ ht
  refine thn (he.run pins s σ H _ I h) fun u s1 hh => ?_
  obtain ⟨x, H1, I1, rx, a, dx, fs, ex, ea, l, q⟩ := hh
  subst ex
  obtain rfl : u = Value.ref a := rx
  apply getmeth_ok I1 ea c hm l
  exact PySem.W.callWith_K0 (first := [.ref a]) I1.kIn hm.kp (run_fnS (us := [.ref a]) (vs := [.ref a]) F hr hb (hx σ) I1 (.cons rfl .nil) q)
end Lr

set_option Elab.async false
set_option linter.all false
set_option maxRecDepth 100000
set_option maxHeartbeats 4000000
namespace Lr
open PySem PySem.Spec PyProof.Rows L2
/-! ### rows taken back and done again, in plain words -/
abbrev Sx := List Str × List (Str × Str)
abbrev Tr := List Sx × Sx × List Sx
def KE.st (e : KE) : Sx := (e.os, e.ps)
def PEn.st (e : PEn) : Sx := (e.os, pd e.P)
def bkF : Tr → Tr | (p, c, f) => match p.getLast? with
  | none => (p, c, f)
  | some e => (p.dropLast, e, f ++ [c])
def agF : Tr → Tr | (p, c, f) => match f.getLast? with
  | none => (p, c, f)
  | some e => (p ++ [c], e, f.dropLast)
theorem bkF_snoc (p : List Sx) (e c : Sx) (f : List Sx) : bkF (p ++ [e], c, f) = (p, e, f ++ [c]) := by simp [bkF]
theorem bkF_nil (c : Sx) (f : List Sx) : bkF ([], c, f) = ([], c, f) := rfl
theorem agF_snoc (p : List Sx) (e c : Sx) (f : List Sx) : agF (p, c, f ++ [e]) = (p ++ [c], e, f) := by simp [agF]
theorem agF_nil (p : List Sx) (c : Sx) : agF (p, c, []) = (p, c, []) := rfl
def mvF (b : Bool) (t : Tr) : Tr := if b = true then bkF t else agF t
theorem ag_bk {t : Tr} (h : t.1 ≠ []) : agF (bkF t) = t := by
  obtain ⟨p, c, f⟩ := t
  obtain ⟨p0, e, rfl⟩ : ∃ p0 e, p = p0 ++ [e] := ⟨_, _, (List.dropLast_concat_getLast h).symm⟩
  rw [bkF_snoc, agF_snoc]
def bkN : Nat → Tr → Tr
  | 0, t => t
  | n + 1, t => bkF (bkN n t)
theorem bkF_len (t : Tr) : (bkF t).1.length = t.1.length - 1 := by
  obtain ⟨p, c, f⟩ := t
  by_cases h : p = []
  · subst h; rfl
  · obtain ⟨p0, e, rfl⟩ : ∃ p0 e, p = p0 ++ [e] := ⟨_, _, (List.dropLast_concat_getLast h).symm⟩
    rw [bkF_snoc]; simp
theorem bkN_len (t : Tr) : ∀ n, (bkN n t).1.length = t.1.length - n
  | 0 => rfl
  | n + 1 => by rw [bkN, bkF_len, bkN_len t n]; omega
/-- all taken back, once more, and all done again -/
def stF (m : Nat) (t : Tr) (i : Nat) : Tr := if i ≤ m then bkN i t else bkN (2 * m + 1 - i) t
theorem stF_step {m : Nat} {t : Tr} (hm : t.1.length = m) {i : Nat} (hi : i < 2 * m + 1) : mvF (decide (i ≤ m)) (stF m t i) = stF m t (i + 1) := by
  unfold stF mvF
  by_cases c : i ≤ m
  · rw [if_pos c, decide_eq_true c, if_pos rfl]
    by_cases d : i + 1 ≤ m
    · rw [if_pos d]; rfl
    · rw [if_neg d]
      have e : i = m := by omega
      subst e
      have e2 : 2 * i + 1 - (i + 1) = i := by omega
      rw [e2]
      have hl := bkN_len t i
      rw [hm, Nat.sub_self] at hl
      generalize bkN i t = u at hl
      obtain ⟨p, c, f⟩ := u
      have hp : p = [] := List.length_eq_zero_iff.mp hl
      subst hp; rfl
  · rw [if_neg c, decide_eq_false c, if_neg (by decide), if_neg (by omega)]
    obtain ⟨k, hk⟩ : ∃ k, 2 * m + 1 - i = k + 1 := ⟨2 * m + 1 - i - 1, by omega⟩
    have hk2 : 2 * m + 1 - (i + 1) = k := by omega
    rw [hk, hk2]
    have hl := bkN_len t k
    exact ag_bk (fun z => by rw [z] at hl; simp at hl; omega)
theorem stF_end (m : Nat) (t : Tr) : stF m t (2 * m + 1) = t := by
  unfold stF
  rw [if_neg (by omega), Nat.sub_self]; rfl
theorem stF_0 (m : Nat) (t : Tr) : stF m t 0 = t := rfl
/-- the row at the bottom is the empty one -/
def Bot (t : Tr) : Prop := (t.1 ++ [t.2.1]).head? = some ([], [])
theorem Bot.mv {t : Tr} (h : Bot t) (b : Bool) : Bot (mvF b t) := by
  obtain ⟨p, c, f⟩ := t
  cases b with
  | true =>
    show Bot (bkF (p, c, f))
    by_cases q : p = []
    · subst q; exact h
    · obtain ⟨p0, e, rfl⟩ : ∃ p0 e, p = p0 ++ [e] := ⟨_, _, (List.dropLast_concat_getLast q).symm⟩
      rw [bkF_snoc]
      unfold Bot at h ⊢
      cases p0 with
      | nil => exact h
      | cons x y => exact h
  | false =>
    show Bot (agF (p, c, f))
    by_cases q : f = []
    · subst q; exact h
    · obtain ⟨f0, e, rfl⟩ : ∃ p0 e, f = p0 ++ [e] := ⟨_, _, (List.dropLast_concat_getLast q).symm⟩
      rw [agF_snoc]
      unfold Bot at h ⊢
      cases p with
      | nil => exact h
      | cons x y => exact h
theorem Bot.push {p : List Sx} {c : Sx} {f : List Sx} (h : Bot (p, c, f)) (c2 : Sx) (f2 : List Sx) : Bot (p ++ [c], c2, f2) := by
  unfold Bot at h ⊢
  cases p with
  | nil => exact h
  | cons x y => exact h
theorem Bot.nil {c : Sx} {f : List Sx} (h : Bot ([], c, f)) : c = ([], []) := by
  unfold Bot at h
  simpa using h
def GoodS (names : List Str) (i : Nat) (ns : List Str) (s : Sx) : Prop := LSt names ns s.1 s.2 ∧ Acy s.2 ∧ s.2.length ≤ i
theorem GoodS.le {names : List Str} {i j : Nat} {ns : List Str} {s : Sx} (h : GoodS names i ns s) (hij : i ≤ j) : GoodS names j ns s := ⟨h.1, h.2.1, Nat.le_trans h.2.2 hij⟩
theorem lwFp_swap {lp lc : Addr} {fo : List Addr} {ep ec : List PEn} {b : Addr} (h : b ∈ lwFp lc lp fo ec ep) : b ∈ lwFp lp lc fo ep ec := by
  simp only [lwFp, List.mem_append, List.mem_cons] at h ⊢
  rcases h with h | h | h | h | h <;> simp [h]
theorem map_snoc {α β : Type} {f : α → β} {xs xs0 : List α} {x : α} {ys : List β} (h : xs.map f = ys) (e : xs = xs0 ++ [x]) : ys = xs0.map f ++ [f x] := by rw [← h, e]; simp
theorem snoc_inj {α : Type} {xs ys : List α} {x y : α} (h : xs ++ [x] = ys ++ [y]) : xs = ys ∧ x = y := by
  have := List.append_inj' h rfl
  exact ⟨this.1, by simpa using this.2⟩
/-- a cell goes to the end -/
theorem Wlt.snoc {H0 H : Hp} {e : Cel} {cs : List Cel} (W : Wlt H0 H (e :: cs)) : Wlt H0 H (cs ++ [e]) := by
  have key : ∀ i c, (cs ++ [e])[i]? = some c → (i < cs.length ∧ (e :: cs)[i + 1]? = some c) ∨ (i = cs.length ∧ c = e) := fun i c h => by
    by_cases q : i < cs.length
    · rw [List.getElem?_append_left q] at h
      exact .inl ⟨q, h⟩
    · rw [List.getElem?_append_right (by omega)] at h
      by_cases z : i - cs.length = 0
      · rw [z] at h
        cases h
        exact .inr ⟨by omega, rfl⟩
      · rw [List.getElem?_eq_none (by simp only [List.length_singleton]; omega)] at h; cases h
  refine ⟨fun i c h => ?_, fun i j c d hi hj hij => ?_, W.sm⟩
  · rcases key i c h with ⟨_, q⟩ | ⟨_, rfl⟩
    · exact W.at' _ c q
    · exact W.at' 0 c rfl
  · rcases key i c hi with ⟨q1, q⟩ | ⟨q1, rfl⟩
    · rcases key j d hj with ⟨r1, r⟩ | ⟨r1, rfl⟩
      · exact W.ap _ _ c d q r (by omega)
      · exact W.ap _ 0 c d q rfl (by omega)
    · rcases key j d hj with ⟨r1, r⟩ | ⟨r1, rfl⟩
      · exact W.ap 0 _ c d rfl r (by omega)
      · omega
/-- the first cell goes into the third one, which changes -/
theorem Wlt.merge {H0 H H' : Hp} {x l w s e : Cel} (W : Wlt H0 H [x, l, w, s]) (f : Fr w.fp H H') (p : e.P H') (n : ∀ b ∈ e.fp, b ∈ w.fp ∨ b ∈ x.fp) : Wlt H0 H' [l, e, s] := by
  have hw := (W.at' 2 w rfl).2
  have hx := (W.at' 0 x rfl).2
  have W0 : Wlt H0 H' [] := ⟨(fun i c h => by cases h), (fun i j c e h => by cases h), fun b o q => f.1 _ _ (W.sm _ _ q) (fun z => by rw [hw b z] at q; cases q)⟩
  have a1 := W.ap 3 2 s w rfl rfl (by decide)
  have a2 := W.ap 1 2 l w rfl rfl (by decide)
  have a3 := W.ap 3 0 s x rfl rfl (by decide)
  have a4 := W.ap 1 0 l x rfl rfl (by decide)
  have a5 := W.ap 1 3 l s rfl rfl (by decide)
  have W1 := W0.cons s (s.st _ _ _ (W.at' 3 s rfl).1 f a1) (W.at' 3 s rfl).2 (fun i c h => by cases h)
  have W2 := W1.cons e p (fun b hb => (n b hb).elim (hw b) (hx b)) (fun i c h => by
    cases i with
    | zero =>
      cases h
      exact fun b hb hs => (n b hb).elim (fun z => a1 b hs z) (fun z => a3 b hs z)
    | succ i => cases h)
  exact W2.cons l (l.st _ _ _ (W.at' 1 l rfl).1 f a2) (W.at' 1 l rfl).2 (fun i c h => by
    cases i with
    | zero =>
      cases h
      exact fun b hb hs => (n b hs).elim (fun z => a2 b hb z) (fun z => a4 b hb z)
    | succ i =>
      cases i with
      | zero => cases h; exact a5
      | succ i => cases h)
def entC (e : PEn) : Cel := ⟨[e.l1, e.l2], fun H => e.ok H, fun _ _ _ h f n => h.fr f (n _ (by simp)) (n _ (by simp)), fun H h b hb => by
  simp only [List.mem_cons, List.not_mem_nil, or_false] at hb
  rcases hb with rfl | rfl
  · rw [h.h1]; exact fun z => nomatch z
  · rw [h.h2.lst]; exact fun z => nomatch z⟩
def wB (b : Bool) : Str := if b = true then "back" else "again"
def wsl (m : Nat) : List V := (List.range (2 * m + 1)).map fun i => V.str (wB (decide (i ≤ m)))
theorem wsl_eq (m : Nat) : (List.replicate (m + 1) [V.str ("back" : Str)]).flatten ++ (List.replicate m [V.str ("again" : Str)]).flatten = wsl m := by
  have e : ∀ (k : Nat) (x : V), (List.replicate k [x]).flatten = List.replicate k x := fun k x => by
    induction k with
    | zero => rfl
    | succ k ih => rw [List.replicate_succ, List.flatten_cons, ih]; rfl
  rw [e, e]
  refine List.ext_getElem? fun i => ?_
  unfold wsl
  rw [List.getElem?_map]
  by_cases c : i < m + 1
  · rw [List.getElem?_append_left (by rw [List.length_replicate]; exact c), List.getElem?_replicate, if_pos c, List.getElem?_range (by omega)]
    show _ = some (V.str (wB (decide (i ≤ m))))
    rw [decide_eq_true (by omega)]; rfl
  · rw [List.getElem?_append_right (by rw [List.length_replicate]; omega), List.length_replicate, List.getElem?_replicate]
    by_cases d : i < 2 * m + 1
    · rw [if_pos (by omega), List.getElem?_range d]
      show _ = some (V.str (wB (decide (i ≤ m))))
      rw [decide_eq_false (by omega)]; rfl
    · rw [if_neg (by omega), List.getElem?_eq_none (by rw [List.length_range]; omega)]; rfl
end Lr

set_option Elab.async false
set_option linter.all false
set_option maxRecDepth 100000
set_option maxHeartbeats 4000000
namespace Lr
open PySem PySem.Spec PyProof.Rows L2
theorem wipe1 (σ : L2.St) (i : Nat) (x : Option V) : wipe (List.set (wipe σ [i]) i x) [i] = wipe σ [i] := by
  show ((σ.set i none).set i x).set i none = σ.set i none
  rw [List.set_set, List.set_set]
/-! ### right rows drawn name by name -/
def fitsF (ps : List (Str × Str)) (left : List Str) : List Str := left.filter fun o => (ps.filter fun p => decide (p.1 = o) && decide (p.2 ∈ left)).isEmpty
def drawF (ps : List (Str × Str)) : Nat → Int → List Str → List Str
  | 0, _, _ => []
  | n + 1, num, left => pickS (fitsF ps left) num :: drawF ps n (num / 3) (left.erase (pickS (fitsF ps left) num))
theorem fitsF_mem {ps : List (Str × Str)} {left : List Str} {o : Str} : o ∈ fitsF ps left ↔ o ∈ left ∧ ∀ w, (o, w) ∈ ps → w ∉ left := by
  unfold fitsF
  rw [List.mem_filter, List.isEmpty_iff, List.filter_eq_nil_iff]
  constructor
  · rintro ⟨h1, h2⟩
    refine ⟨h1, fun w hw hl => h2 (o, w) hw ?_⟩
    simp [hl]
  · rintro ⟨h1, h2⟩
    refine ⟨h1, fun p hp z => ?_⟩
    simp only [Bool.and_eq_true, decide_eq_true_eq] at z
    exact h2 p.2 (by rw [← z.1]; exact hp) z.2
theorem least_ex {f : Str → Nat} : ∀ {l : List Str}, l ≠ [] → ∃ x ∈ l, ∀ y ∈ l, f x ≤ f y
  | [], h => absurd rfl h
  | [a], _ => ⟨a, by simp, fun y hy => by rw [List.mem_singleton.mp hy]; exact Nat.le_refl _⟩
  | a :: b :: l, _ => by
    obtain ⟨x, hx, hm⟩ := least_ex (f := f) (l := b :: l) (by simp)
    by_cases c : f a ≤ f x
    · refine ⟨a, by simp, fun y hy => ?_⟩
      rcases List.mem_cons.mp hy with rfl | q
      · exact Nat.le_refl _
      · exact Nat.le_trans c (hm y q)
    · refine ⟨x, List.mem_cons_of_mem _ hx, fun y hy => ?_⟩
      rcases List.mem_cons.mp hy with rfl | q
      · omega
      · exact hm y q
theorem fits_ne {os left : List Str} {ps : List (Str × Str)} (n : os.Nodup) (R : RightS os ps) (h : left ≠ []) : fitsF ps left ≠ [] := by
  obtain ⟨x, hx, hm⟩ := least_ex (f := os.idxOf) h
  refine List.ne_nil_of_mem (a := x) (fitsF_mem.mpr ⟨hx, fun w hw hl => ?_⟩)
  have h1 := sub_idx n (R (x, w) hw)
  have h2 := hm w hl
  simp only at h1
  omega
theorem pick0 {xs : List Str} (h : xs ≠ []) : atI (xs.map V.str) 0 = some (.str (pickS xs 0)) := by
  have := pickS_at h 0
  rwa [Int.zero_emod] at this
theorem drawF_step {ps : List (Str × Str)} {num : Int} {left : List Str} (h : left ≠ []) : drawF ps left.length num left = pickS (fitsF ps left) num :: drawF ps (left.length - 1) (num / 3) (left.erase (pickS (fitsF ps left) num)) := by
  cases left with
  | nil => exact absurd rfl h
  | cons a l => rfl
/-- what the drawing has found, what is left -/
structure DrI (os : List Str) (ps : List (Str × Str)) (tot : List Str) (num : Int) (found left : List Str) : Prop where
  eq : found ++ drawF ps left.length num left = tot
  pm : (found ++ left).Perm os
  rt : ∀ x ∈ found, ∀ w, (x, w) ∈ ps → [w, x].Sublist found
theorem DrI.start {os sl : List Str} {ps : List (Str × Str)} (num : Int) (h : sl.Perm os) : DrI os ps (drawF ps os.length num sl) num [] sl := ⟨by rw [h.length_eq]; rfl, h, fun _ z => nomatch z⟩
theorem DrI.disj {os tot found left : List Str} {ps : List (Str × Str)} {num : Int} (h : DrI os ps tot num found left) (n : os.Nodup) : left.Nodup ∧ found.Nodup ∧ ∀ x ∈ found, x ∉ left := by
  have q := h.pm.nodup_iff.mpr n
  rw [List.nodup_append] at q
  exact ⟨q.2.1, q.1, fun x hx hl => q.2.2 x hx x hl rfl⟩
theorem DrI.step {os tot found left : List Str} {ps : List (Str × Str)} {num : Int} (h : DrI os ps tot num found left) (n : os.Nodup) (R : RightS os ps) (hne : left ≠ []) :
    DrI os ps tot (num / 3) (found ++ [pickS (fitsF ps left) num]) (left.erase (pickS (fitsF ps left) num)) := by
  have ho := fitsF_mem.mp (pickS_mem (fits_ne n R hne) num)
  obtain ⟨e, p, r⟩ := h
  have hd := (DrI.disj ⟨e, p, r⟩ n)
  rw [drawF_step hne] at e
  generalize pickS (fitsF ps left) num = o at *
  have hl : (left.erase o).length = left.length - 1 := List.length_erase_of_mem ho.1
  refine ⟨by rw [hl, List.append_assoc]; exact e, ?_, fun x hx w hw => ?_⟩
  · rw [List.append_assoc]
    exact (List.Perm.append_left found (List.perm_cons_erase ho.1).symm).trans p
  · rcases List.mem_append.mp hx with q | q
    · exact (r x q w hw).trans (List.sublist_append_left _ _)
    · rw [List.mem_singleton] at q
      subst q
      have hwo : w ∈ os := (R _ hw).subset (by simp)
      have hwf : w ∈ found := by
        rcases List.mem_append.mp (p.mem_iff.mpr hwo) with z | z
        · exact z
        · exact absurd z (ho.2 w hw)
      exact sub_cross hwf (by simp)
/-- the program's look and the law's look agree -/
theorem DrI.fits {os tot found left : List Str} {ps : List (Str × Str)} {num : Int} (h : DrI os ps tot num found left) (n : os.Nodup) (R : RightS os ps) : left.filter (fun o => (lowersF ps o).all fun w => decide (w ∈ found)) = fitsF ps left := by
  have hd := h.disj n
  unfold fitsF
  refine List.filter_congr (fun o ho => ?_)
  rw [Bool.eq_iff_iff, List.all_eq_true, List.isEmpty_iff, List.filter_eq_nil_iff]
  constructor
  · intro q p hp z
    simp only [Bool.and_eq_true, decide_eq_true_eq] at z
    have := of_decide_eq_true (q p.2 (lowersF_mem.mpr (by rw [← z.1]; exact hp)))
    exact hd.2.2 _ this z.2
  · intro q w hw
    have hw' := lowersF_mem.mp hw
    have hwo : w ∈ os := (R _ hw').subset (by simp)
    rcases List.mem_append.mp (h.pm.mem_iff.mpr hwo) with z | z
    · exact decide_eq_true z
    · exact absurd (by simp [z]) (q (o, w) hw')
/-- all is found: a right row -/
theorem DrI.done {os tot found : List Str} {ps : List (Str × Str)} {num : Int} (h : DrI os ps tot num found []) (R : RightS os ps) : found = tot ∧ found.Perm os ∧ RightS found ps := by
  have p : found.Perm os := by have := h.pm; rwa [List.append_nil] at this
  refine ⟨by have := h.eq; rwa [show drawF ps ([] : List Str).length num [] = [] from rfl, List.append_nil] at this, p, fun q hq => ?_⟩
  have hx : q.1 ∈ os := (R q hq).subset (by simp)
  exact h.rt q.1 (p.mem_iff.mpr hx) q.2 hq
/-! ### is a list a right row -/
def rightB (ps : List (Str × Str)) (ts : List Str) : Bool := ps.all fun p => decide (ts.idxOf p.2 < ts.idxOf p.1)
def isRightB (ps : List (Str × Str)) (os : List Str) : Option (List (Option Str)) → Bool
  | none => false
  | some nms => if nms.all Option.isSome = true then (decide ((nms.map fun o => o.getD "").Perm os) && rightB ps (nms.map fun o => o.getD "")) else false
theorem right_iff {os ts : List Str} {ps : List (Str × Str)} (n : ts.Nodup) (p : ts.Perm os) (he : ∀ q ∈ ps, q.1 ∈ os ∧ q.2 ∈ os) : rightB ps ts = true ↔ RightS ts ps := by
  unfold rightB
  rw [List.all_eq_true]
  constructor
  · intro h q hq
    obtain ⟨h1, h2⟩ := he q hq
    exact idx_sub (p.mem_iff.mpr h2) (p.mem_iff.mpr h1) (of_decide_eq_true (h q hq))
  · intro h q hq
    exact decide_eq_true (sub_idx n (h q hq))
inductive NmVs (K : PySem.W.Frag) (H : Hp) : List V → List (Option Str) → Prop
  | nil : NmVs K H [] []
  | cons {x : V} {nm : Option Str} {xs : List V} {nms : List (Option Str)} : NmV K H x nm → NmVs K H xs nms → NmVs K H (x :: xs) (nm :: nms)
theorem NmVs.same {K : PySem.W.Frag} {H H' : Hp} {xs : List V} {nms : List (Option Str)} (h : NmVs K H xs nms) (s : Same H H') : NmVs K H' xs nms := by
  induction h with
  | nil => exact .nil
  | cons a _ ih => exact .cons (NmV.same s a) ih
theorem NmVs.len {K : PySem.W.Frag} {H : Hp} {xs : List V} {nms : List (Option Str)} (h : NmVs K H xs nms) : xs.length = nms.length := by
  induction h with
  | nil => rfl
  | cons _ _ ih => simp [ih]
theorem NmVs.at' {K : PySem.W.Frag} {H : Hp} {xs : List V} {nms : List (Option Str)} (h : NmVs K H xs nms) : ∀ {i : Nat} {x : V}, xs[i]? = some x → ∃ nm, nms[i]? = some nm ∧ NmV K H x nm := by
  induction h with
  | nil => intro i x e; cases e
  | cons a _ ih =>
    intro i x e
    cases i with
    | zero => cases e; exact ⟨_, rfl, a⟩
    | succ i => exact ih e
theorem NmVs.all {K : PySem.W.Frag} {H : Hp} {xs : List V} {nms : List (Option Str)} (h : NmVs K H xs nms) (ha : nms.all Option.isSome = true) : xs = (nms.map fun o => o.getD "").map V.str := by
  induction h with
  | nil => rfl
  | @cons x nm xs nms a _ ih =>
    rw [List.all_cons, Bool.and_eq_true] at ha
    cases nm with
    | none => cases ha.1
    | some n =>
      cases a
      rw [List.map_cons, List.map_cons, ← ih ha.2]; rfl
theorem NmVs.strs {K : PySem.W.Frag} {H : Hp} : ∀ ts : List Str, NmVs K H (ts.map V.str) (ts.map some)
  | [] => .nil
  | t :: ts => .cons rfl (NmVs.strs ts)
theorem some_all (ts : List Str) : (ts.map some).all Option.isSome = true := by simp
theorem some_get (ts : List Str) : ((ts.map some).map fun o : Option Str => o.getD "") = ts := by simp [Function.comp_def]
/-- what is handed in: a list of such, or no list -/
def ThV (K : PySem.W.Frag) (H : Hp) (x : V) : Option (List (Option Str)) → Prop
  | none => ∃ t, TyX K H x t ∧ PySem.W.kitOne K t (.type "list") = some false
  | some nms => ∃ a vs, x = .ref a ∧ H a = some (.lst vs) ∧ NmVs K H vs nms
theorem ThV.same {K : PySem.W.Frag} {H H' : Hp} {x : V} {o : Option (List (Option Str))} (h : ThV K H x o) (s : Same H H') : ThV K H' x o := by
  cases o with
  | none => obtain ⟨t, a, b⟩ := h; exact ⟨t, tyX_same s a, b⟩
  | some nms => obtain ⟨a, vs, e, h1, h2⟩ := h; exact ⟨a, vs, e, s _ _ h1, h2.same s⟩
theorem sorted_perm {xs ys as bs : List Str} (ha : as.Perm xs) (hb : bs.Perm ys) (sa : sortedS as = true) (sb : sortedS bs = true) : (as = bs ↔ xs.Perm ys) :=
  ⟨fun e => ha.symm.trans (e ▸ hb), fun p => sorted_one p ha hb sa sb⟩
end Lr

set_option Elab.async false
set_option linter.all false
set_option maxRecDepth 100000
set_option maxHeartbeats 4000000
namespace Lr
open PySem PySem.Spec PyProof.Rows L2
section
variable {X : Cx}
/-! ### xs == []: a list of whatever, and the empty list -/
def rEqE (K : PySem.W.Frag) : R2 := fun x y H Q => ∃ a b xs, x = .ref a ∧ y = .ref b ∧ SqL K H a xs ∧ SqL K H b [] ∧ Q (.bl xs.isEmpty) H
theorem op_eqE (hu : X.A.units + 65 < cLine) : OpR X (compareOp .Eq) (rEqE X.K) := by
  intro pins s σ H x y v u Q I rx ry h
  obtain ⟨a, b, xs, rfl, rfl, ha, hb, q⟩ := h
  by_cases hx : xs = []
  · subst hx
    have h1 : Dp X.K H (.ref a) (.list []) := .lst ha .nil
    have h2 : Dp X.K H (.ref b) (.list []) := .lst hb .nil
    obtain ⟨as, r1⟩ := Dp.reads I _ _ v h1 rx
    obtain ⟨bs, r2⟩ := Dp.reads I _ _ u h2 ry
    refine SeqAt.eq_plain r1 r2 empty_plain empty_plain (by have := empty_depth; omega) ⟨.bl _, H, I, ?_, q⟩
    rw [eqv_empty]; rfl
  · cases rx
    cases ry
    obtain ⟨i1, r1, p1, z1⟩ := I.list ha
    obtain ⟨i2, r2, p2, z2⟩ := I.list hb
    have l1 := r1.length
    have l2 := r2.length
    have e : xs.isEmpty = false := by
      cases xs with
      | nil => exact absurd rfl hx
      | cons x y => rfl
    rw [e] at q
    have hp := List.length_pos_iff.mpr hx
    refine SeqAt.RcAt.lists_lengths p1.isList p2.isList ?_ (by omega) X.prog X.w _ _ ⟨.bl false, H, I, rfl, q⟩
    simp only [List.size_toArray, bne_iff_ne, ne_eq]
    simp only [List.length_nil] at l2
    omega
theorem op_eqEK {K : PySem.W.Frag} (hu : X.A.units + 65 < cLine) (h : X.K = K := by rfl) : OpR X (compareOp .Eq) (rEqE K) := h ▸ op_eqE hu
theorem op_notBlK : OpR X (compareOp .IsNot) rNotB := op_notBl
end
theorem isRight_self {os : List Str} {ps : List (Str × Str)} (n : os.Nodup) (R : RightS os ps) : isRightB ps os (some (os.map some)) = true := by
  unfold isRightB
  simp only [some_all, if_true, some_get]
  rw [decide_eq_true (List.Perm.refl os), Bool.true_and]
  refine (right_iff n (List.Perm.refl os) (fun q hq => ?_)).mpr R
  have s := R q hq
  exact ⟨s.subset (by simp), s.subset (by simp)⟩
end Lr

set_option Elab.async false
set_option linter.all false
set_option maxRecDepth 100000
set_option maxHeartbeats 4000000
namespace Lr
open PySem PySem.Spec PyProof.Rows L2
/-! ### ways between right rows -/
def swp (l : List Str) (p : Str × Str) : List Str := (l.set (l.idxOf p.1) p.2).set (l.idxOf p.1 + 1) p.1
theorem set_two {u v : List Str} {y x a b : Str} : ((u ++ y :: x :: v).set u.length a).set (u.length + 1) b = u ++ a :: b :: v := by
  rw [List.set_append_right _ _ (Nat.le_refl _), Nat.sub_self, List.set_append_right _ _ (Nat.le_succ _)]
  simp
theorem swp_at {u v : List Str} {y x : Str} (h : y ∉ u) : swp (u ++ y :: x :: v) (y, x) = u ++ x :: y :: v := by
  have e : (u ++ y :: x :: v).idxOf y = u.length := by rw [idx_app_right h]; simp
  unfold swp
  simp only [e]
  exact set_two
/-- how many two things stand the other way about -/
def invL (f : Str → Nat) : List Str → Nat
  | [] => 0
  | a :: l => (l.filter fun b => decide (f b < f a)).length + invL f l
theorem invL_swap {f : Str → Nat} {y x : Str} (h : f x < f y) : ∀ (u v : List Str), invL f (u ++ y :: x :: v) = invL f (u ++ x :: y :: v) + 1
  | [], v => by
    show ((x :: v).filter fun b => decide (f b < f y)).length + ((v.filter fun b => decide (f b < f x)).length + invL f v) = (((y :: v).filter fun b => decide (f b < f x)).length + ((v.filter fun b => decide (f b < f y)).length + invL f v)) + 1
    rw [List.filter_cons_of_pos (by simpa using h), List.filter_cons_of_neg (by simp; omega), List.length_cons]
    omega
  | a :: u, v => by
    have ih := invL_swap h u v
    show ((u ++ y :: x :: v).filter fun b => decide (f b < f a)).length + invL f (u ++ y :: x :: v) = (((u ++ x :: y :: v).filter fun b => decide (f b < f a)).length + invL f (u ++ x :: y :: v)) + 1
    have p : (u ++ y :: x :: v).Perm (u ++ x :: y :: v) := List.Perm.append_left _ (List.Perm.swap _ _ _)
    rw [ih, (p.filter _).length_eq]
    omega
theorem invL_sorted {f : Str → Nat} : ∀ {l : List Str}, l.Pairwise (fun a b => f a < f b) → invL f l = 0
  | [], _ => rfl
  | a :: l, h => by
    rw [List.pairwise_cons] at h
    show (l.filter fun b => decide (f b < f a)).length + invL f l = 0
    rw [invL_sorted h.2, List.filter_eq_nil_iff.mpr (fun b hb => by have := h.1 b hb; simp; omega)]
    rfl
theorem idx_sorted {ts : List Str} (n : ts.Nodup) : ts.Pairwise (fun a b => ts.idxOf a < ts.idxOf b) :=
  List.pairwise_iff_forall_sublist.mpr fun h => sub_idx n h
theorem sub_two_cons {p q y : Str} {l : List Str} (h : [p, q].Sublist (y :: l)) : [p, q].Sublist l ∨ (p = y ∧ q ∈ l) := by
  cases h with
  | cons _ z => exact .inl z
  | cons_cons _ z => exact .inr ⟨rfl, z.subset (List.mem_singleton.mpr rfl)⟩
structure WayI (os ts : List Str) (ps W : List (Str × Str)) (here : List Str) : Prop where
  eq : W.foldl swp os = here
  each : ∀ (j : Nat) (p : Str × Str), W[j]? = some p → ∃ u v, (W.take j).foldl swp os = u ++ p.1 :: p.2 :: v
  pm : here.Perm os
  right : ∀ j, j ≤ W.length → RightS ((W.take j).foldl swp os) ps
  ord : ∀ p ∈ W, [p.2, p.1].Sublist here ∧ ts.idxOf p.2 < ts.idxOf p.1
  nd : W.Nodup
  inv : invL ts.idxOf here + W.length = invL ts.idxOf os
theorem WayI.start {os ts : List Str} {ps : List (Str × Str)} (R : RightS os ps) : WayI os ts ps [] os :=
  ⟨rfl, (fun j p h => by cases h), List.Perm.refl _, (fun j h => by rw [Nat.le_zero.mp h]; exact R), (fun _ z => nomatch z), List.nodup_nil, rfl⟩
theorem two_sub {u v : List Str} {a b : Str} : [a, b].Sublist (u ++ a :: b :: v) :=
  (((List.nil_sublist v).cons₂ b).cons₂ a).trans (List.sublist_append_right u _)
theorem sub_swap {p q y x : Str} {u v : List Str} (h : [p, q].Sublist (u ++ y :: x :: v)) (n : ¬ (p = y ∧ q = x)) (nd : (u ++ y :: x :: v).Nodup) : [p, q].Sublist (u ++ x :: y :: v) := by
  have nd2 : (u ++ x :: y :: v).Nodup := (List.Perm.nodup_iff (List.Perm.append_left _ (List.Perm.swap _ _ _))).mp nd
  have hp : p ∈ u ++ y :: x :: v := h.subset (by simp)
  have hq : q ∈ u ++ y :: x :: v := h.subset (by simp)
  have mp : ∀ z, z ∈ u ++ y :: x :: v → z ∈ u ++ x :: y :: v := fun z hz => (List.Perm.append_left u (List.Perm.swap x y v)).mem_iff.mp hz
  rcases sub_two h with q1 | ⟨q1, q2⟩ | q1
  · exact q1.trans (List.sublist_append_left _ _)
  · refine sub_cross q1 ?_
    simp only [List.mem_cons] at q2 ⊢
    rcases q2 with z | z | z <;> simp [z]
  · refine List.Sublist.trans ?_ (List.sublist_append_right u _)
    rw [List.nodup_append] at nd
    have nyx := nd.2.1
    rw [List.nodup_cons, List.nodup_cons] at nyx
    rcases sub_two_cons q1 with z | ⟨e, hq2⟩
    · rcases sub_two_cons z with z2 | ⟨e2, z2⟩
      · exact (z2.cons y).cons x
      · subst e2
        exact (List.singleton_sublist.mpr (List.mem_cons_of_mem _ z2)).cons₂ p
    · subst e
      rcases List.mem_cons.mp hq2 with e3 | e3
      · exact absurd ⟨rfl, e3⟩ n
      · exact ((List.singleton_sublist.mpr e3).cons₂ p).cons x
theorem WayI.step {os ts : List Str} {ps W : List (Str × Str)} {u v : List Str} {y x : Str} (h : WayI os ts ps W (u ++ y :: x :: v)) (n : os.Nodup) (nt : ts.Nodup) (Rt : RightS ts ps) (pt : ts.Perm os) (hxy : ts.idxOf x < ts.idxOf y) :
    WayI os ts ps (W ++ [(y, x)]) (u ++ x :: y :: v) := by
  have nd : (u ++ y :: x :: v).Nodup := h.pm.nodup_iff.mpr n
  have hyu : y ∉ u := fun z => by
    rw [List.nodup_append] at nd
    exact nd.2.2 y z y (by simp) rfl
  have e : (W ++ [(y, x)]).foldl swp os = u ++ x :: y :: v := by
    rw [List.foldl_append, h.eq]
    exact swp_at hyu
  have pm2 : (u ++ x :: y :: v).Perm os := (List.Perm.append_left u (List.Perm.swap y x v)).trans h.pm
  have rlast : RightS (u ++ y :: x :: v) ps := by
    have := h.right W.length (Nat.le_refl _)
    rwa [List.take_length, h.eq] at this
  refine ⟨e, fun j p hj => ?_, pm2, fun j hj => ?_, fun p hp => ?_, ?_, ?_⟩
  · by_cases c : j < W.length
    · rw [List.getElem?_append_left c] at hj
      rw [List.take_append_of_le_length (Nat.le_of_lt c)]
      exact h.each j p hj
    · rw [List.getElem?_append_right (by omega)] at hj
      have z : j - W.length = 0 := by
        by_cases z : j - W.length = 0
        · exact z
        · rw [List.getElem?_eq_none (by simp only [List.length_singleton]; omega)] at hj; cases hj
      rw [z] at hj
      cases hj
      have ej : j = W.length := by omega
      subst ej
      rw [List.take_left]
      exact ⟨u, v, h.eq⟩
  · by_cases c : j ≤ W.length
    · rw [List.take_append_of_le_length c]
      exact h.right j c
    · rw [List.length_append, List.length_singleton] at hj
      have ej : j = W.length + 1 := by omega
      subst ej
      rw [List.take_of_length_le (by simp), e]
      intro q hq
      refine sub_swap (rlast q hq) (fun z => ?_) nd
      have := sub_idx nt (Rt q hq)
      rw [z.1, z.2] at this
      omega
  · rcases List.mem_append.mp hp with z | z
    · refine ⟨sub_swap (h.ord p z).1 (fun q => ?_) nd, (h.ord p z).2⟩
      have := (h.ord p z).2
      rw [q.1, q.2] at this
      omega
    · rw [List.mem_singleton] at z
      subst z
      exact ⟨two_sub, hxy⟩
  · rw [List.nodup_append]
    refine ⟨h.nd, List.pairwise_singleton _ _, fun a ha b hb => ?_⟩
    rw [List.mem_singleton] at hb
    rintro rfl
    subst hb
    have k1 := sub_idx nd (h.ord _ ha).1
    have k2 : (u ++ y :: x :: v).idxOf y < (u ++ y :: x :: v).idxOf x := sub_idx nd two_sub
    simp only at k1
    omega
  · rw [List.length_append, List.length_singleton]
    have := h.inv
    rw [invL_swap hxy u v] at this
    omega
end Lr

set_option Elab.async false
set_option linter.all false
set_option maxRecDepth 100000
set_option maxHeartbeats 4000000
namespace Lr
open PySem PySem.Spec PyProof.Rows L2
theorem cut_here {ts : List Str} {k : Nat} {x : Str} (h : ts[k]? = some x) : ts = ts.take k ++ x :: ts.drop (k + 1) := by
  obtain ⟨hk, e⟩ := List.getElem?_eq_some_iff.mp h
  rw [← e, List.getElem_cons_drop, List.take_append_drop]
theorem way_hxy {ts u v : List Str} {y x : Str} {k : Nat} (nd : (u ++ y :: x :: v).Nodup) (pm : (u ++ y :: x :: v).Perm ts) (ht : u.take k = ts.take k) (hx : ts[k]? = some x) : ts.idxOf x < ts.idxOf y := by
  have nt : ts.Nodup := pm.nodup_iff.mp nd
  have hy : y ∈ ts := pm.mem_iff.mp (by simp)
  have e := cut_here hx
  rw [List.nodup_append] at nd
  have n2 := nd.2.1
  rw [List.nodup_cons] at n2
  have h1 : y ∉ ts.take k := fun z => by
    rw [← ht] at z
    exact nd.2.2 y (List.mem_of_mem_take z) y (by simp) rfl
  have h2 : y ≠ x := fun z => n2.1 (by rw [z]; simp)
  refine sub_idx nt ?_
  rw [e] at hy ⊢
  rcases List.mem_append.mp hy with z | z
  · exact absurd z h1
  rcases List.mem_cons.mp z with z | z
  · exact absurd z h2
  exact ((List.singleton_sublist.mpr z).cons_cons x).trans (List.sublist_append_right _ _)
theorem way_in {ts hr : List Str} {x : Str} {k : Nat} (nt : ts.Nodup) (pm : hr.Perm ts) (ht : hr.take k = ts.take k) (hx : ts[k]? = some x) :
    ∃ u v, hr = u ++ x :: v ∧ u.length = hr.idxOf x ∧ k ≤ u.length ∧ u.take k = ts.take k := by
  have hm : x ∈ hr := pm.mem_iff.mpr (List.mem_of_getElem? hx)
  obtain ⟨u, v, rfl⟩ := List.append_of_mem hm
  have nd := pm.nodup_iff.mpr nt
  have hk : k ≤ u.length := by
    refine Nat.le_of_not_lt fun z => ?_
    have h1 : x ∈ ts.take k := by
      rw [← ht, List.take_append]
      refine List.mem_append.mpr (.inr ?_)
      have : k - u.length = (k - u.length - 1) + 1 := by omega
      rw [this, List.take_succ_cons]
      simp
    have e := cut_here hx
    rw [e, List.nodup_append] at nt
    exact nt.2.2 x h1 x (by simp) rfl
  exact ⟨u, v, rfl, (idx_of_split nd).symm, hk, by rw [← ht, List.take_append_of_le_length hk]⟩
theorem way_out {ts u v : List Str} {x : Str} {k : Nat} (hk : u.length = k) (ht : u.take k = ts.take k) (hx : ts[k]? = some x) : (u ++ x :: v).take (k + 1) = ts.take (k + 1) := by
  rw [List.take_succ, List.take_succ, hx]
  subst hk
  rw [List.take_length] at ht
  rw [List.take_left, ht]
  simp
theorem invL_le {f : Str → Nat} : ∀ l : List Str, invL f l ≤ l.length * l.length
  | [] => Nat.le_refl _
  | a :: l => by
    show (l.filter fun b => decide (f b < f a)).length + invL f l ≤ (l.length + 1) * (l.length + 1)
    have h1 := invL_le (f := f) l
    have h2 := List.length_filter_le (fun b => decide (f b < f a)) l
    have h3 : (l.length + 1) * (l.length + 1) = l.length * l.length + l.length + (l.length + 1) := by rw [Nat.add_mul, Nat.mul_add, Nat.mul_one, Nat.one_mul]
    omega
theorem WayI.len {os ts : List Str} {ps W : List (Str × Str)} {hr : List Str} (h : WayI os ts ps W hr) (ho : os.length < 64) : W.length ≤ 4000 := by
  have h1 := h.inv
  have h2 := invL_le (f := ts.idxOf) os
  have h3 : os.length * os.length ≤ 63 * 63 := Nat.mul_le_mul (by omega) (by omega)
  omega
end Lr

set_option Elab.async false
set_option linter.all false
set_option maxRecDepth 100000
set_option maxHeartbeats 4000000
namespace Lr
open PySem PySem.Spec PyProof.Rows L2
/-! ### the longest chain, from the last layer -/
/-- so many layers -/
def ManyLv (os : List Str) (Lv : Str → Int) (many : Nat) : Prop := (∀ x ∈ os, Lv x < (many : Int)) ∧ (0 < many → ∃ x ∈ os, Lv x = (many : Int) - 1)
def longFits (ps : List (Str × Str)) (acc L : List Str) : List Str := L.filter fun n => acc.isEmpty || decide (n ∈ lowersF ps (acc.getLastD ""))
def longStep (ps : List (Str × Str)) (acc L : List Str) : List Str := acc ++ [(longFits ps acc L).headD ""]
def longF (ps : List (Str × Str)) (ls : List (List Str)) : List Str := ls.foldl (longStep ps) []
structure LongI (os : List Str) (ps : List (Str × Str)) (Lv : Str → Int) (many i : Nat) (acc : List Str) : Prop where
  len : acc.length = i
  last : ∀ u x, acc = u ++ [x] → x ∈ os ∧ Lv x = (many : Int) - (i : Int)
  ch : ∀ u v x y, acc = u ++ x :: y :: v → (x, y) ∈ ps
theorem LongI.start {os : List Str} {ps : List (Str × Str)} {Lv : Str → Int} {many : Nat} : LongI os ps Lv many 0 [] :=
  ⟨rfl, (fun u x h => by cases u <;> cases h), (fun u v x y h => by cases u <;> cases h)⟩
theorem LongI.fits {os : List Str} {ps : List (Str × Str)} {Lv : Str → Int} {many i : Nat} {acc L : List Str} (h : LongI os ps Lv many i acc) (hL : Lev ps os Lv) (M : ManyLv os Lv many) (hends : ∀ q ∈ ps, q.1 ∈ os ∧ q.2 ∈ os)
    (hi : i < many) (pL : L.Perm (layF os Lv (many - 1 - i))) : longFits ps acc L ≠ [] := by
  have mem : ∀ x ∈ os, Lv x = (many : Int) - 1 - (i : Int) → x ∈ L := fun x hx e => pL.mem_iff.mpr (List.mem_filter.mpr ⟨hx, decide_eq_true (by omega)⟩)
  rcases List.eq_nil_or_concat acc with e | ⟨u, z, e⟩
  · have h0 : i = 0 := by rw [← h.len, e]; rfl
    obtain ⟨x, hx, ex⟩ := M.2 (by omega)
    refine List.ne_nil_of_mem (a := x) (List.mem_filter.mpr ⟨mem x hx (by omega), ?_⟩)
    rw [e]; rfl
  · rw [List.concat_eq_append] at e
    obtain ⟨hz, ez⟩ := h.last u z e
    obtain ⟨w, hw, ew⟩ := hL.ex z hz (by omega)
    refine List.ne_nil_of_mem (a := w) (List.mem_filter.mpr ⟨mem w (hends _ hw).2 (by omega), ?_⟩)
    rw [Bool.or_eq_true]
    refine .inr (decide_eq_true (lowersF_mem.mpr ?_))
    rw [e, List.getLastD_eq_getLast?, List.getLast?_append]
    exact hw
theorem LongI.step {os : List Str} {ps : List (Str × Str)} {Lv : Str → Int} {many i : Nat} {acc L : List Str} {x : Str} (h : LongI os ps Lv many i acc)
    (hi : i < many) (pL : L.Perm (layF os Lv (many - 1 - i))) (hx : x ∈ longFits ps acc L) : LongI os ps Lv many (i + 1) (acc ++ [x]) := by
  obtain ⟨h1, h2⟩ := List.mem_filter.mp hx
  obtain ⟨h3, h4⟩ := List.mem_filter.mp (pL.mem_iff.mp h1)
  have h4 := of_decide_eq_true h4
  refine ⟨by rw [List.length_append, h.len]; rfl, fun u y e => ?_, fun u v y z e => ?_⟩
  · have e2 := List.append_inj' e rfl
    have : y = x := by have := e2.2; simp at this; exact this.symm
    subst this
    exact ⟨h3, by omega⟩
  · rcases List.eq_nil_or_concat v with ev | ⟨v', t, ev⟩
    · subst ev
      have e2 : acc ++ [x] = (u ++ [y]) ++ [z] := by rw [e]; simp
      obtain ⟨e3, e4⟩ := List.append_inj' e2 rfl
      simp only [List.cons.injEq, and_true] at e4
      subst e4
      rw [e3] at h2
      simp only [List.getLastD_eq_getLast?, List.getLast?_append, List.getLast?_singleton, Option.some_or, Option.getD_some, Bool.or_eq_true, decide_eq_true_eq] at h2
      rcases h2 with z2 | z2
      · simp at z2
      · exact lowersF_mem.mp z2
    · rw [List.concat_eq_append] at ev
      subst ev
      have e2 : acc ++ [x] = (u ++ y :: z :: v') ++ [t] := by rw [e]; simp
      exact h.ch u v' y z (List.append_inj' e2 rfl).1
theorem longF_snoc {ps : List (Str × Str)} {ls : List (List Str)} {L : List Str} : longF ps (ls ++ [L]) = longStep ps (longF ps ls) L := by
  unfold longF
  rw [List.foldl_append]; rfl
end Lr

set_option Elab.async false
set_option linter.all false
set_option maxRecDepth 100000
set_option maxHeartbeats 4000000
namespace Lr
open PySem PySem.Spec PyProof.Rows L2
/-! ### two rows of the same leanings -/
theorem rch_congr {ps qs : List (Str × Str)} (e : ∀ p, p ∈ ps ↔ p ∈ qs) (a b : Str) : Rch ps a b ↔ Rch qs a b := ⟨fun h => h.mono fun p hp => (e p).mp hp, fun h => h.mono fun p hp => (e p).mpr hp⟩
theorem word_eq (ps : List (Str × Str)) (n m : Str) [Decidable (Rch ps m n)] : wordF ps (.lean n m) = if (n, m) ∈ ps then ("twice" : Str) else if Rch ps m n then ("ring" : Str) else ("" : Str) := by
  show (if (n, m) ∈ ps then ("twice" : Str) else if (chainF ps m n).isSome then "ring" else "") = _
  by_cases c : (n, m) ∈ ps
  · rw [if_pos c, if_pos c]
  · rw [if_neg c, if_neg c]
    by_cases d : Rch ps m n
    · rw [if_pos d, if_pos ((chainF_iff _ _ _).mpr d)]
    · rw [if_neg d, if_neg (fun z => d ((chainF_iff _ _ _).mp z))]
theorem word_congr {ps qs : List (Str × Str)} (e : ∀ p, p ∈ ps ↔ p ∈ qs) (n m : Str) : wordF ps (.lean n m) = wordF qs (.lean n m) := by
  have : Decidable (Rch ps m n) := Classical.propDecidable _
  have : Decidable (Rch qs m n) := Classical.propDecidable _
  rw [word_eq, word_eq]
  simp only [e (n, m), rch_congr e m n]
structure RwOk (names os0 ns os : List Str) (ps : List (Str × Str)) : Prop where
  st : LSt names ns os ps
  ri : RightS os ps
  ac : Acy ps
  me : ∀ o, o ∈ os ↔ o ∈ os0
theorem RwOk.deed {names os0 ns os : List Str} {ps : List (Str × Str)} {n m : Str} (h : RwOk names os0 ns os ps) (hd : DeedO names os ps (.lean n m)) : RwOk names os0 ns (osA ps os (.lean n m)) (psA ps (.lean n m)) := by
  have s : LSt names ns (osA ps os (.lean n m)) (psA ps (.lean n m)) := h.st.deed hd
  exact ⟨s, h.ri.deed h.st hd, h.ac.deed _, fun o => (s.same o).trans ((h.st.same o).symm.trans (h.me o))⟩
theorem erase_snoc {ps : List (Str × Str)} {p : Str × Str} (h : p ∉ ps) : (ps ++ [p]).erase p = ps := by
  rw [List.erase_append_right _ h]
  simp
theorem RwOk.loose {names os0 ns os : List Str} {ps : List (Str × Str)} {n m : Str} (h : RwOk names os0 ns os (ps ++ [(n, m)])) (hp : (n, m) ∉ ps) : RwOk names os0 ns os ps := by
  have e : psA (ps ++ [(n, m)]) (.loosen n m) = ps := erase_snoc hp
  have hd : DeedO names os (ps ++ [(n, m)]) (.loosen n m) := by show (n, m) ∈ ps ++ [(n, m)]; simp
  have s : LSt names ns os (psA (ps ++ [(n, m)]) (.loosen n m)) := h.st.deed hd
  have r : RightS os (psA (ps ++ [(n, m)]) (.loosen n m)) := h.ri.deed h.st hd
  have a := h.ac.deed (.loosen n m)
  rw [e] at s r a
  exact ⟨s, r, a, h.me⟩
theorem RwOk.perm {names os0 ns os : List Str} {ps : List (Str × Str)} (h : RwOk names os0 ns os ps) (n0 : os0.Nodup) : os.Perm os0 := (List.perm_ext_iff_of_nodup h.st.no n0).mpr h.me
/-! levels, layers and the first row go by the leanings' set -/
theorem Lev.congr {ps qs : List (Str × Str)} {xs ys : List Str} {Lv : Str → Int} (h : Lev ps xs Lv) (e : ∀ p, p ∈ ps ↔ p ∈ qs) (m : ∀ x, x ∈ xs ↔ x ∈ ys) : Lev qs ys Lv :=
  ⟨fun x hx => h.nn x ((m x).mpr hx), fun x hx w hw => h.lt x ((m x).mpr hx) w ((e _).mpr hw), fun x hx h0 => by
    obtain ⟨w, hw, q⟩ := h.ex x ((m x).mpr hx) h0
    exact ⟨w, (e _).mp hw, q⟩⟩
theorem ManyLv.congr {xs ys : List Str} {Lv : Str → Int} {k : Nat} (h : ManyLv xs Lv k) (m : ∀ x, x ∈ xs ↔ x ∈ ys) : ManyLv ys Lv k :=
  ⟨fun x hx => h.1 x ((m x).mpr hx), fun h0 => by
    obtain ⟨x, hx, q⟩ := h.2 h0
    exact ⟨x, (m x).mp hx, q⟩⟩
theorem ManyLv.one {xs : List Str} {L1 L2 : Str → Int} {m1 m2 : Nat} (e : ∀ x ∈ xs, L1 x = L2 x) (M1 : ManyLv xs L1 m1) (M2 : ManyLv xs L2 m2) : m1 = m2 := by
  have k : ∀ {L1 L2 : Str → Int} {m1 m2 : Nat}, (∀ x ∈ xs, L1 x = L2 x) → ManyLv xs L1 m1 → ManyLv xs L2 m2 → m1 ≤ m2 := fun {L1 L2 m1 m2} e M1 M2 => by
    by_cases c : m1 = 0
    · omega
    · obtain ⟨x, hx, q⟩ := M1.2 (by omega)
      have := M2.1 x hx
      rw [← e x hx] at this
      omega
  exact Nat.le_antisymm (k e M1 M2) (k (fun x hx => (e x hx).symm) M2 M1)
theorem layF_perm {xs ys : List Str} {Lv : Str → Int} (p : xs.Perm ys) (k : Nat) : (layF xs Lv k).Perm (layF ys Lv k) := p.filter _
theorem isEmpty_iff_none {α : Type} {l : List α} {f : α → Bool} : (l.filter f).isEmpty = true ↔ ∀ x ∈ l, f x = false := by
  rw [List.isEmpty_iff, List.filter_eq_nil_iff]
  exact ⟨fun h x hx => by simpa using h x hx, fun h x hx => by simpa using h x hx⟩
theorem fitsF_congr {ps qs : List (Str × Str)} (e : ∀ p, p ∈ ps ↔ p ∈ qs) (l : List Str) : fitsF ps l = fitsF qs l := by
  unfold fitsF
  refine List.filter_congr fun o _ => ?_
  rw [Bool.eq_iff_iff, isEmpty_iff_none, isEmpty_iff_none]
  exact ⟨fun h x hx => h x ((e x).mpr hx), fun h x hx => h x ((e x).mp hx)⟩
theorem drawF_congr {ps qs : List (Str × Str)} (e : ∀ p, p ∈ ps ↔ p ∈ qs) : ∀ (f : Nat) (num : Int) (l : List Str), drawF ps f num l = drawF qs f num l
  | 0, _, _ => rfl
  | f + 1, num, l => by
    unfold drawF
    simp only [fitsF_congr e, drawF_congr e f]
theorem RightS.congr {ps qs : List (Str × Str)} {os : List Str} (h : RightS os ps) (e : ∀ p, p ∈ ps ↔ p ∈ qs) : RightS os qs := fun p hp => h p ((e p).mpr hp)
theorem isRight_of {os ts : List Str} {ps : List (Str × Str)} (n : ts.Nodup) (pm : ts.Perm os) (hends : ∀ q ∈ ps, q.1 ∈ os ∧ q.2 ∈ os) (R : RightS ts ps) : isRightB ps os (some (ts.map some)) = true := by
  unfold isRightB
  simp only [some_all, if_true, some_get]
  rw [decide_eq_true pm, Bool.true_and]
  exact (right_iff n pm hends).mpr R
end Lr

set_option Elab.async false
set_option linter.all false
set_option maxRecDepth 100000
set_option maxHeartbeats 4000000
namespace Lr
open PySem PySem.Spec PyProof.Rows L2
/-! ### sum(lists, []) -/
section
variable {prog : Program} {w : World} {A : Around} {R : Result → Shared → Prop} {I : Addr} {fp wr : List Addr} {G : Array GenState → Array GenState → Prop} {n : Nat} {P : Nat → Value → Prop} {St : Nat → Shared → Prop}
def flatTo (its : Nat → List Value) : Nat → Nat → List Value
  | _, 0 => []
  | i, k + 1 => its i ++ flatTo its (i + 1) k
theorem sum_lists_loop (W : WalksS prog w A.in1 I fp wr G n P St) (q : Nat → Addr) (its : Nat → List Value) (hval : ∀ i v, P i v → v = .ref (q i)) (S : Addr) (hSf : S ∉ fp) (hwl : ∀ i s, St i s → ∀ b ∈ wr, ∃ o, s.heap.get? b = some o) :
    ∀ (k i : Nat) (s : Shared) (T : Addr) (acc : List Value) (c cT : Nat), n - i = k → i ≤ n → St i s → s.heap.get? S = some { cls := .type "list", dict := none, data := .seq #[.ref T] c, slots := #[] } →
    s.heap.get? T = some { cls := .type "list", data := .seq acc.toArray cT } → T ≠ S → T ∉ wr →
    (∀ j, i ≤ j → j < n → q j ≠ S ∧ q j ∉ wr ∧ ∃ nn, s.heap.get? (q j) = some { cls := .type "list", data := .seq (its j).toArray nn }) →
    acc.length + (flatTo its i k).length ≤ sizeLine →
    (∀ s' T' cT', Moved (S :: wr) G s s' → s'.heap.get? T' = some { cls := .type "list", data := .seq (acc ++ flatTo its i k).toArray cT' } → ((T' = T ∧ k = 0) ∨ s.heap.get? T' = none) → R (.ok (.ret (.ref T'))) s') →
    codeAny (model prog w) A (.builtin "sum.loop" ⟨[.ref I, .ref S, rawInt 2, rawInt 0], []⟩) R s := by
  have hSw : S ∉ wr := fun h => hSf (W.sub _ h)
  have hsub : ∀ b ∈ wr, b ∈ S :: wr := fun b hb => List.mem_cons_of_mem _ hb
  intro k
  induction k with
  | zero =>
    intro i s T acc c cT hk hi hst hS hT hTS hTw hq hz hR
    have hin : i = n := by omega
    subst hin
    refine codeAny_builtin F.entry_sum_loop ?_
    rw [Around.under_plainId F.plain_sum_loop _]
    show wpAny _ A.in1 (seqItems? (.ref S) >>= _) _ _ s
    refine wpAny_bind (wpAny_seqItems hS rfl ?_)
    show wpAny _ A.in1 (tryCatch (pyNext (.ref I)) _ >>= _) _ _ s
    refine wpAny_bind (wpAny_tryCatch (W.done s _ _ hst fun s' hm => ?_))
    refine wpAny_pure (hR s' T cT (hm.mono hsub) ?_ (.inl ⟨rfl, rfl⟩))
    show _ = some ({ cls := .type "list", data := .seq (acc ++ []).toArray cT } : Obj)
    rw [List.append_nil]
    exact hm.heap T _ hTw hT
  | succ k ih =>
    intro i s T acc c cT hk hi hst hS hT hTS hTw hq hz hR
    have hlt : i < n := by omega
    refine codeAny_builtin F.entry_sum_loop ?_
    rw [Around.under_plainId F.plain_sum_loop _]
    show wpAny _ A.in1 (seqItems? (.ref S) >>= _) _ _ s
    refine wpAny_bind (wpAny_seqItems hS rfl ?_)
    show wpAny _ A.in1 (tryCatch (pyNext (.ref I)) _ >>= _) _ _ s
    refine wpAny_bind (wpAny_tryCatch (W.item i s _ _ hlt hst fun v s' hP hst' hm => ?_))
    have hv := hval i v hP
    subst hv
    have hS' := hm.heap S _ hSw hS
    have hT' := hm.heap T _ hTw hT
    obtain ⟨hqS, hqw, nn, hqi⟩ := hq i (Nat.le_refl _) hlt
    have hqi' := hm.heap (q i) _ hqw hqi
    have hfl : (flatTo its i (k + 1)).length = (its i).length + (flatTo its (i + 1) k).length := by
      show (its i ++ flatTo its (i + 1) k).length = _
      rw [List.length_append]
    rw [hfl] at hz
    show wpAny _ A.in1 ((holding [Value.ref (q i)] (binaryOp .Add (.ref T) (.ref (q i)))).attempt >>= _) _ _ _
    refine wpAny_bind (wpAny_attempt (wpAny_holding (PySem.P.add_list hT' hqi' ?_ (by rw [List.size_toArray, List.size_toArray]; omega))))
    have hold : ∀ {b : Addr} {o : Obj} (x : Obj), s'.heap.get? b = some o → (s'.heap.push x).get? b = some o := fun x e => Heap.get?_push_of_some x e
    have hlt2 : ∀ {b : Addr} {o : Obj}, s'.heap.get? b = some o → b < s'.heap.objs.size := fun e => Heap.lt_size e
    have hnew : (s'.heap.push { cls := .type "list", data := .seq ((acc.toArray ++ (its i).toArray)) }).get? s'.heap.objs.size = some { cls := .type "list", data := .seq ((acc.toArray ++ (its i).toArray)) } := Heap.get?_push_size _ rfl
    have ea : acc.toArray ++ (its i).toArray = (acc ++ its i).toArray := by simp
    rw [ea] at hnew ⊢
    have hS1 := hold { cls := .type "list", data := .seq (acc ++ its i).toArray } hS'
    show wpAny _ A.in1 (updateSeq S (fun _ => #[.ref s'.heap.objs.size]) >>= _) _ _ _
    refine wpAny_bind (wpAny_updateSeq hS1 rfl ?_)
    have hS2 := Heap.get?_update_self (Obj.mapSeq fun _ => #[Value.ref s'.heap.objs.size]) hS1 rfl
    refine wpAny_bind (wpAny_letGo ?_)
    have hnS : s'.heap.objs.size ≠ S := fun z => Nat.lt_irrefl S (by have := hlt2 hS'; rw [z] at this; exact this)
    have hnone : s'.heap.get? s'.heap.objs.size = none := by
      cases e : s'.heap.get? s'.heap.objs.size with
      | none => rfl
      | some o => exact absurd (hlt2 e) (Nat.lt_irrefl _)
    have hnw : s'.heap.objs.size ∉ wr := fun z => by
      obtain ⟨o, e⟩ := hwl (i + 1) s' hst' _ z
      rw [hnone] at e; cases e
    have hback : ∀ b, s'.heap.get? b = none → b ≠ S → b ∉ wr → s.heap.get? b = none := fun b e n1 n2 => by
      cases e2 : s.heap.get? b with
      | none => rfl
      | some o => rw [hm.heap b o n2 e2] at e; cases e
    refine wpAny_bind (wpAny_updateSeq hS2 rfl (wpAny_pure ⟨plainId_quiet F.plain_sum_loop _, ih (i + 1) _ s'.heap.objs.size (acc ++ its i) _ 0 (by omega) hlt (W.frame _ s' _ _ hst' (Nat.le_refl _) fun b hb o e => ?_) (Heap.get?_update_self _ hS2 rfl) ?_ hnS hnw (fun j hj1 hj2 => ?_) (by rw [List.length_append]; omega) (fun s'' T'' cT'' hm'' hT'' hd => ?_)⟩))
    · exact (Heap.get?_update_other _ _ (fun h : S = b => hSf (by rw [h]; exact hb))).trans ((Heap.get?_update_other _ _ (fun h : S = b => hSf (by rw [h]; exact hb))).trans (hold _ e))
    · exact (Heap.get?_update_other _ _ hnS.symm).trans ((Heap.get?_update_other _ _ hnS.symm).trans hnew)
    · obtain ⟨n1, n2, nn2, e⟩ := hq j (by omega) hj2
      exact ⟨n1, n2, nn2, (Heap.get?_update_other _ _ n1.symm).trans ((Heap.get?_update_other _ _ n1.symm).trans (hold _ (hm.heap _ _ n2 e)))⟩
    · refine hR s'' T'' cT'' (Moved.trans W.gtrans ((hm.mono hsub).then_heap (Nat.le_refl _) fun b o hb e => ?_) hm'') ?_ (.inr ?_)
      · exact (Heap.get?_update_other _ _ (fun h : S = b => hb (by rw [h]; exact List.mem_cons_self))).trans ((Heap.get?_update_other _ _ (fun h : S = b => hb (by rw [h]; exact List.mem_cons_self))).trans (hold _ e))
      · rw [hT'']
        show some ({ cls := .type "list", data := .seq (acc ++ its i ++ flatTo its (i + 1) k).toArray cT'' } : Obj) = some { cls := .type "list", data := .seq (acc ++ (its i ++ flatTo its (i + 1) k)).toArray cT'' }
        rw [List.append_assoc]
      · rcases hd with ⟨rfl, _⟩ | hd
        · exact hback _ hnone hnS hnw
        · cases e2 : s.heap.get? T'' with
          | none => rfl
          | some o =>
            exfalso
            have key : ∀ {o' : Obj}, s'.heap.get? T'' = some o' → T'' ≠ S → False := fun e nS => by
              have := (Heap.get?_update_other _ (Obj.mapSeq fun _ => #[Value.ref s'.heap.objs.size]) nS.symm).trans ((Heap.get?_update_other _ (Obj.mapSeq fun _ => #[Value.ref s'.heap.objs.size]) nS.symm).trans (hold { cls := .type "list", data := .seq (acc ++ its i).toArray } e))
              rw [hd] at this; cases this
            by_cases nS : T'' = S
            · rw [nS] at hd
              have := Heap.get?_update_self (Obj.mapSeq fun _ => #[Value.ref s'.heap.objs.size]) hS2 rfl
              rw [hd] at this; cases this
            · by_cases nw : T'' ∈ wr
              · obtain ⟨o', e'⟩ := hwl (i + 1) s' hst' _ nw
                exact key e' nS
              · exact key (hm.heap _ _ nw e2) nS
end
theorem args_sum2 (a b : Value) : argsOk "sum" ⟨[a, b], []⟩ := by unfold argsOk; kernel_rfl
theorem sub_list_str : isSubtype (.type "list") (.type "str") = pure false := by rw [isSubtype_type]; kernel_rfl
theorem sub_list_bytes : isSubtype (.type "list") (.type "bytes") = pure false := by rw [isSubtype_type]; kernel_rfl
theorem sub_list_bytearray : isSubtype (.type "list") (.type "bytearray") = pure false := by rw [isSubtype_type]; kernel_rfl
section
variable {prog : Program} {w : World} {A : Around} {E : Value → Shared → Prop} {s : Shared}
theorem call_sum_lists {l e : Addr} {qs : List Addr} {its : Nat → List Value} {c0 n0 : Nat} {Q : Value → Shared → Prop} (hh : A.handled = none)
    (hl : s.heap.get? l = some { cls := .type "list", data := .seq (qs.map Value.ref).toArray n0 }) (he : s.heap.get? e = some { cls := .type "list", data := .seq #[] c0 })
    (hq : ∀ j, j < qs.length → ∃ nn, s.heap.get? (qs.getD j 0) = some { cls := .type "list", data := .seq (its j).toArray nn }) (hz : (flatTo its 0 qs.length).length ≤ sizeLine)
    (h : ∀ h' tk T nn, (∀ b o, s.heap.get? b = some o → h'.get? b = some o) → h'.get? T = some { cls := .type "list", data := .seq (flatTo its 0 qs.length).toArray nn } → ((T = e ∧ qs.length = 0) ∨ s.heap.get? T = none) → Q (.ref T) { s with heap := h', toks := tk }) :
    wpAny (model prog w) A (call (.builtin "sum") [.ref l, .ref e]) Q E s := by
  refine call_function_tree F.kind_sum F.plain_sum F.entry_sum (args_sum2 _ _) ?_
  unfold Builtin.«sum»
  simp only [List.length_cons, List.length_nil]
  rw [if_neg (by decide)]
  refine wpAny_bind (wpAny_of_eq (show Builtin.Builtins.bindParams "sum" ["start"] 0 ⟨[.ref e], []⟩ = pure [some (.ref e)] from rfl) ?_)
  refine wpAny_bind (wpAny_pyIter_list ⟨_, hl, rfl, _, rfl⟩ ?_)
  refine wpAny_bind (wpAny_pure ?_)
  have heT : Shared.TypeIs { s with heap := s.heap.push { cls := .type "list_iterator", data := .fields #[.ref l, .int 0 0] } } (.ref e) "list" := ⟨_, Heap.get?_push_of_some _ he, rfl⟩
  simp only [List.forIn_cons, List.forIn_nil]
  refine wpAny_bind (wpAny_bind (wpAny_bind (wpAny_isInstance (T := "list") (b := false) heT sub_list_str ?_)))
  simp only [Bool.false_eq_true, if_false]
  refine wpAny_pure (wpAny_bind (wpAny_bind (wpAny_isInstance (T := "list") (b := false) heT sub_list_bytes ?_)))
  simp only [Bool.false_eq_true, if_false]
  refine wpAny_pure (wpAny_bind (wpAny_bind (wpAny_isInstance (T := "list") (b := false) heT sub_list_bytearray ?_)))
  simp only [Bool.false_eq_true, if_false]
  refine wpAny_pure (wpAny_pure ?_)
  refine wpAny_bind (wpAny_newObj_type ?_)
  have hlS : l < s.heap.objs.size := Heap.lt_size hl
  have heS : e < s.heap.objs.size := Heap.lt_size he
  have hl1 : s.heap.IsList l (qs.map Value.ref).toArray := ⟨_, hl, rfl, _, rfl⟩
  have hneI : l ≠ s.heap.objs.size := Nat.ne_of_lt hlS
  have hsz1 : (s.heap.push { cls := .type "list_iterator", data := .fields #[.ref l, .int 0 0] }).objs.size = s.heap.objs.size + 1 := Heap.size_push _ _
  have hin : A.in1.handled = none := by simp [hh]
  have hlen : (qs.map Value.ref).toArray.size = qs.length := by simp
  have W := (Walks.list (prog := prog) (w := w) (A := A.in1) hin s.heap.objs.size l hneI (qs.map Value.ref).toArray).toS
  rw [hlen] at W
  have hit0 : ((s.heap.push { cls := .type "list_iterator", data := .fields #[.ref l, .int 0 0] }).push { cls := .type "list", data := .seq #[Value.ref e] }).get? s.heap.objs.size = some { cls := .type "list_iterator", data := .fields #[.ref l, .int 0 0] } := Heap.get?_push_of_some _ (Heap.get?_push_size _ rfl)
  have hS0 : ((s.heap.push { cls := .type "list_iterator", data := .fields #[.ref l, .int 0 0] }).push { cls := .type "list", data := .seq #[Value.ref e] }).get? (s.heap.push { cls := .type "list_iterator", data := .fields #[.ref l, .int 0 0] }).objs.size = some { cls := .type "list", data := .seq #[Value.ref e] } := Heap.get?_push_size _ rfl
  have old : ∀ {b : Addr} {o : Obj}, s.heap.get? b = some o → ((s.heap.push { cls := .type "list_iterator", data := .fields #[.ref l, .int 0 0] }).push { cls := .type "list", data := .seq #[Value.ref e] }).get? b = some o := fun e => Heap.get?_push_of_some _ (Heap.get?_push_of_some _ e)
  have hlt1 : s.heap.objs.size < (s.heap.push { cls := .type "list_iterator", data := .fields #[.ref l, .int 0 0] }).objs.size := by rw [hsz1]; exact Nat.lt_succ_self _
  refine wpAny_pure ⟨plainId_quiet F.plain_sum_loop _, sum_lists_loop W (fun j => qs.getD j 0) its (fun i v hv => ?_) _ ?_ (fun i s' st b hb => ?_) qs.length 0 _ e [] 0 c0 (by omega) (Nat.zero_le _) ⟨⟨_, hit0, rfl, rfl⟩, ⟨_, old hl, rfl, _, rfl⟩⟩ hS0 (old he) ?_ ?_ (fun j _ hj => ?_) (by simpa using hz) (fun s' T' cT' hm hT hd => ?_)⟩
  · have hv' : (qs.map Value.ref)[i]? = some v := by rw [← hv]; simp
    rw [List.getElem?_map] at hv'
    cases hqi : qs[i]? with
    | none => rw [hqi] at hv'; cases hv'
    | some a =>
      rw [hqi] at hv'
      cases hv'
      show Value.ref a = Value.ref (qs.getD i 0)
      rw [List.getD_eq_getElem?_getD, hqi]; rfl
  · simp only [List.mem_cons, List.not_mem_nil, or_false, not_or]
    exact ⟨fun z => Nat.lt_irrefl _ (z ▸ hlt1), fun z => Nat.lt_irrefl _ (Nat.lt_trans (z ▸ hlt1) hlS)⟩
  · rw [List.mem_singleton] at hb
    rw [hb]
    obtain ⟨o, ho, _⟩ := st.1
    exact ⟨o, ho⟩
  · exact fun z => Nat.lt_irrefl _ (Nat.lt_trans (z ▸ hlt1) heS)
  · rw [List.mem_singleton]
    exact Nat.ne_of_lt heS
  · obtain ⟨nn, hn⟩ := hq j hj
    have hb : qs.getD j 0 < s.heap.objs.size := Heap.lt_size hn
    refine ⟨fun z => Nat.lt_irrefl _ (Nat.lt_trans (z ▸ hlt1) hb), ?_, nn, old hn⟩
    rw [List.mem_singleton]
    exact Nat.ne_of_lt hb
  · obtain ⟨h', g', d', tk', os'⟩ := s'
    have eg : g' = s.gens := hm.gens
    have ed : d' = s.drawn := hm.drawn
    have eo : os' = s.os := hm.os
    subst eg; subst ed; subst eo
    refine h h' tk' T' cT' (fun b o eb => hm.heap b o ?_ (old eb)) (by simpa using hT) ?_
    · have hb : b < s.heap.objs.size := Heap.lt_size eb
      simp only [List.mem_cons, List.not_mem_nil, or_false, not_or]
      exact ⟨fun z => Nat.lt_irrefl _ (Nat.lt_trans (z ▸ hlt1) hb), Nat.ne_of_lt hb⟩
    · rcases hd with z | z
      · exact .inl z
      · refine .inr ?_
        cases e2 : s.heap.get? T' with
        | none => rfl
        | some o =>
          have := old e2
          rw [z] at this; cases this
end
theorem objOk_there {P : Program} {w : World} {H : Hp} {h : Heap} {a : Addr} {o : HO} (x : ObjOk P w H h a o) : ∃ u, h.get? a = some u := by
  cases o with
  | lst xs => obtain ⟨_, _, _, _, e⟩ := x; exact ⟨_, e⟩
  | tup xs => obtain ⟨_, _, _, ⟨o, e, _⟩⟩ := x; exact ⟨_, e⟩
  | dK kvs => obtain ⟨_, _, _, _, o, _, _, e, _⟩ := x; exact ⟨_, e⟩
  | dT kvs => obtain ⟨_, _, _, _, o, _, _, e, _⟩ := x; exact ⟨_, e⟩
  | set S n => obtain ⟨o, _, _, _, e, _⟩ := x; exact ⟨_, e⟩
  | ins C dx fs => obtain ⟨_, _, _, e, _⟩ := x; exact ⟨_, e⟩
  | own y => exact x
  | xd fs => obtain ⟨_, ⟨_, _, _, e, _⟩, _⟩ := x; exact ⟨_, e⟩
  | rng lo hi => obtain ⟨_, _, _, e⟩ := x; exact ⟨_, e⟩
  | frz ob u => obtain ⟨e, _⟩ := x; exact ⟨_, e⟩
  | tbl ps => exact ⟨_, show h.get? a = some _ from x⟩
  | met f y => exact ⟨_, show h.get? a = some _ from x⟩
  | ext φ => obtain ⟨_, e, _⟩ := x; exact e
theorem vals_refs : ∀ {xs : List Addr} {us : List Value}, Vals (xs.map V.ref) us → us = xs.map Value.ref
  | [], _, .nil => rfl
  | a :: xs, _, .cons r t => by
    cases r
    rw [vals_refs t]; rfl
theorem vals_app : ∀ {xs ys : List V} {us vs : List Value}, Vals xs us → Vals ys vs → Vals (xs ++ ys) (us ++ vs)
  | _, _, _, _, .nil, b => b
  | _, _, _, _, .cons r t, b => .cons r (vals_app t b)
theorem vals_flat {f : Nat → List Value} : ∀ (L : List (List Str)) (i : Nat), (∀ j (x : List Str), L[j]? = some x → Vals (x.map V.str) (f (i + j))) → Vals (L.flatten.map V.str) (flatTo f i L.length)
  | [], i, _ => .nil
  | x :: L, i, h => by
    rw [List.flatten_cons, List.map_append]
    refine vals_app (h 0 x rfl) (vals_flat L (i + 1) fun j y e => ?_)
    have := h (j + 1) y e
    rwa [show i + (j + 1) = i + 1 + j by omega] at this
/-- sum(lists, []) -/
def rSumL : List V → Hp → VK → Prop := fun vs H Q => ∃ (l e : Addr) (L : Ls), vs = [V.ref l, V.ref e] ∧ H l = some (.lst (L.map fun q => V.ref q.1)) ∧ H e = some (.lst []) ∧ (∀ q ∈ L, H q.1 = some (.lst (q.2.map V.str))) ∧ (L.map (·.2)).flatten.length ≤ sizeLine ∧
  ∀ p H', Same H H' → H' p = some (.lst ((L.map (·.2)).flatten.map V.str)) → Q (.ref p) H'
section
variable {X : Cx}
theorem cr_sumL (hc : X.calm = true) : CallR X (.builtin "sum") rSumL := by
  intro pins s σ H vs us Q I r h
  obtain ⟨l, e, L, rfl, hl, he, hq, hz, q⟩ := h
  cases r with
  | cons r1 t =>
    cases t with
    | cons r2 t2 =>
      cases t2
      cases r1
      cases r2
      obtain ⟨_, its, n, rv, _, hl'⟩ := I.lstM hl
      obtain ⟨_, itse, ne, rve, _, he'⟩ := I.lstM he
      cases rve
      have hrefs : (L.map fun q => V.ref q.1) = (L.map (·.1)).map V.ref := by rw [List.map_map]; rfl
      rw [hrefs] at rv
      have ei := vals_refs rv
      subst ei
      have ex : ∀ j : Nat, ∃ f : List Value, ∀ q : Addr × List Str, L[j]? = some q → Vals (q.2.map V.str) f ∧ ∃ nn, s.heap.get? q.1 = some { cls := .type "list", data := .seq f.toArray nn } := fun j => by
        cases hj : L[j]? with
        | none => exact ⟨[], fun q z => nomatch z⟩
        | some q =>
          obtain ⟨_, itq, nq, rq, _, hq'⟩ := I.lstM (hq q (List.mem_of_getElem? hj))
          exact ⟨itq, fun q2 z => by cases z; exact ⟨rq, nq, hq'⟩⟩
      have hf := fun j => Classical.choose_spec (ex j)
      have hvf : Vals ((L.map (·.2)).flatten.map V.str) (flatTo (fun j => Classical.choose (ex j)) 0 L.length) := by
        have := vals_flat (f := fun j => Classical.choose (ex j)) (L.map (·.2)) 0 (fun j x hx => by
          rw [List.getElem?_map] at hx
          cases hj : L[j]? with
          | none => rw [hj] at hx; cases hx
          | some q =>
            rw [hj] at hx
            cases hx
            rw [Nat.zero_add]
            exact (hf j q hj).1)
        rwa [List.length_map] at this
      have hlenf := hvf.length
      rw [List.length_map] at hlenf
      have hlm : (L.map (·.1)).length = L.length := List.length_map _
      refine call_sum_lists (qs := L.map (·.1)) (its := fun j => Classical.choose (ex j)) (I.ok.hd hc) hl' he' (fun j hj => ?_) (by rw [hlm, ← hlenf]; exact hz) (fun h' tk T nn hk hT hd => ?_)
      · have hj' : j < L.length := by rw [← hlm]; exact hj
        have hLj : L[j]? = some L[j] := List.getElem?_eq_getElem hj'
        obtain ⟨_, nn, e2⟩ := hf j _ hLj
        have ea : (L.map (·.1)).getD j 0 = L[j].1 := by
          rw [List.getD_eq_getElem?_getD, List.getElem?_map, hLj]; rfl
        exact ⟨nn, by rw [ea]; exact e2⟩
      · rw [hlm] at hT hd
        rcases hd with ⟨rfl, z⟩ | z
        · have hL : L = [] := List.length_eq_zero_iff.mp z
          subst hL
          exact ⟨.ref T, H, I.kept hk, rfl, q T H (Same.refl H) he⟩
        · have hn : H T = none := by
            cases hT2 : H T with
            | none => rfl
            | some o =>
              obtain ⟨u, hu⟩ := objOk_there (I.hok T o hT2)
              rw [z] at hu; cases hu
          exact ⟨.ref T, upd H T (.lst ((L.map (·.2)).flatten.map V.str)), I.laidN (o := .lst ((L.map (·.2)).flatten.map V.str)) (t' := tk) hk z hn ⟨by rw [List.length_map]; exact hz, _, nn, hvf, hT⟩, rfl, q T _ (Same.new hn) upd_same⟩
end
end Lr

set_option Elab.async false
set_option linter.all false
set_option maxRecDepth 100000
set_option maxHeartbeats 4000000
namespace Lr
open PySem PySem.Spec PyProof.Rows L2
/-- all the layers together are the names -/
theorem layers_flat {os : List Str} {ps : List (Str × Str)} {Lv : Str → Int} {many : Nat} {ls : List (List Str)} (n : os.Nodup) (hL : Lev ps os Lv) (M : ManyLv os Lv many) (hl : ls.length = many)
    (hv : ∀ (j : Nat) (L : List Str), ls[j]? = some L → L.Perm (layF os Lv j)) : ls.flatten.Perm os := by
  have mem : ∀ {j : Nat} {L : List Str}, ls[j]? = some L → ∀ x, x ∈ L ↔ x ∈ os ∧ Lv x = (j : Int) := fun e x => by
    rw [(hv _ _ e).mem_iff]
    unfold layF
    rw [List.mem_filter, decide_eq_true_eq]
  have nd : ls.flatten.Nodup := by
    unfold List.Nodup
    rw [List.pairwise_flatten]
    refine ⟨fun L hL2 => ?_, ?_⟩
    · obtain ⟨j, hj⟩ := List.mem_iff_getElem?.mp hL2
      exact (hv j L hj).nodup_iff.mpr (n.sublist List.filter_sublist)
    · rw [List.pairwise_iff_getElem]
      intro i j hi hj hij x hx y hy e
      have h1 := (mem (List.getElem?_eq_getElem hi) x).mp hx
      have h2 := (mem (List.getElem?_eq_getElem hj) y).mp hy
      rw [← e] at h2
      omega
  refine (List.perm_ext_iff_of_nodup nd n).mpr fun x => ?_
  rw [List.mem_flatten]
  constructor
  · rintro ⟨L, hL2, hx⟩
    obtain ⟨j, hj⟩ := List.mem_iff_getElem?.mp hL2
    exact ((mem hj x).mp hx).1
  · intro hx
    have h0 := hL.nn x hx
    have h1 := M.1 x hx
    obtain ⟨j, hj⟩ : ∃ j : Nat, Lv x = (j : Int) := ⟨(Lv x).toNat, by omega⟩
    have hjl : j < ls.length := by omega
    exact ⟨ls[j], List.getElem_mem hjl, (mem (List.getElem?_eq_getElem hjl) x).mpr ⟨hx, hj⟩⟩
/-- a chain leads to a lower level -/
theorem rch_lt {os : List Str} {ps : List (Str × Str)} {Lv : Str → Int} (hL : Lev ps os Lv) (hends : ∀ q ∈ ps, q.1 ∈ os ∧ q.2 ∈ os) {a b : Str} (h : Rch ps a b) : b = a ∨ Lv b < Lv a := by
  induction h with
  | refl => exact .inl rfl
  | step _ hp ih =>
    have h1 := hL.lt _ (hends _ hp).1 _ hp
    simp only at h1
    rcases ih with rfl | h2
    · exact .inr h1
    · exact .inr (by omega)
end Lr

set_option Elab.async false
set_option linter.all false
set_option maxRecDepth 100000
set_option maxHeartbeats 4000000
namespace Lr
open PySem PySem.Spec PyProof.Rows L2
/-! ### zip whose pairs are kept by one name -/
section
variable {prog : Program} {w : World} {A : Around} {E : Value → Shared → Prop} {s : Shared}
/-- the tuple handed out last is no more: the zip's own one is free -/
theorem free_dead {z TI TO T : Addr} {f : Bool} {Q : Bool → Shared → Prop} (hz : IsZipHeld s.heap z TI TO T f) (hT : s.heap.get? T = none) (h : Q true s) : wpAny (model prog w) A (Builtin.SmallTypes.ownedTupleIsFree (.ref z)) Q E s := by
  unfold Builtin.SmallTypes.ownedTupleIsFree
  refine wpAny_bind (wpAny_field hz rfl (x := rawInt T) rfl ?_)
  show wpAny _ _ (loadIfAlive ((T : Int).toNat) >>= _) _ _ _
  rw [Int.toNat_natCast]
  have alive : ∀ {Q : Option Obj → Shared → Prop}, Q none s → wpAny (model prog w) A (loadIfAlive T) Q E s := fun {Q} hq => by
    have h' : Q (s.heap.get? T) s := by rw [hT]; exact hq
    exact fun _ _ _ => h'
  refine wpAny_bind (alive ?_)
  exact wpAny_pure h
theorem zip_item_free {z TI TO T i1 i2 l1 l2 : Addr} {f : Bool} {k1 k2 : Nat} {xs ys : Array Value} {x y a b : Value} {Q : Value → Shared → Prop} (D : ZipApart z TI TO i1 i2 l1 l2)
    (hz : IsZipHeld s.heap z TI TO T f) (dead : s.heap.get? T = none) (hTI : IsPair s.heap TI (.ref i1) (.ref i2)) (hTO : IsPair s.heap TO a b)
    (h1 : s.heap.IsListIter i1 l1 k1) (h2 : s.heap.IsListIter i2 l2 k2) (hl1 : s.heap.IsList l1 xs) (hl2 : s.heap.IsList l2 ys) (hx : xs[k1]? = some x) (hy : ys[k2]? = some y)
    (hQ : ∀ h', IsZipHeld h' z TI TO s.heap.objs.size false → IsPair h' TO x y → h'.IsListIter i1 l1 (k1 + 1) → h'.IsListIter i2 l2 (k2 + 1) → IsPair h' s.heap.objs.size x y → h'.objs.size = s.heap.objs.size + 1 →
      (∀ c o, c ≠ z → c ≠ TO → c ≠ i1 → c ≠ i2 → s.heap.get? c = some o → h'.get? c = some o) → Q (.ref s.heap.objs.size) { s with heap := h' }) :
    wpAny (model prog w) A (Builtin.«zip.__next__» ⟨[.ref z], []⟩) (fun fin s' => ∃ v, fin = .done (.ret v) ∧ Q v s') E s := by
  show wpAny _ _ (field (.ref z) 2 >>= _) _ _ _
  refine wpAny_bind (wpAny_field hz rfl (x := .bool false) rfl ?_)
  show wpAny _ _ (field (.ref z) 3 >>= _) _ _ _
  refine wpAny_bind (wpAny_field hz rfl (x := .ref TI) rfl ?_)
  refine wpAny_bind (wpAny_seqItems hTI rfl ?_)
  show wpAny _ _ (Builtin.SmallTypes.ownedTupleIsFree (.ref z) >>= _) _ _ _
  refine wpAny_bind (free_dead hz dead ?_)
  simp only [if_true]
  refine wpAny_bind (wpAny_rule ?_)
  refine wpAny_bind (wpAny_field hz rfl (x := .ref TO) rfl ?_)
  refine wpAny_bind (wpAny_setField_rec hz (by simp) fun ha hza hsa => ?_)
  have hzA : ha.get? z = some { cls := .type "zip", dict := none, data := .fields #[.ellipsis, .bool f, .bool false, .ref TI, .ref TO], slots := #[] } := hza
  refine wpAny_bind ?_
  simp only [List.zipIdx_cons, List.zipIdx_nil, List.forIn_cons, List.forIn_nil]
  refine wpAny_bind (wpAny_bind (wpAny_onRaise ?_))
  show wpAny _ _ (Builtin.SmallTypes.nextOf (.ref i1) >>= _) _ _ _
  refine wpAny_bind (wpAny_nextOf_list_item (h1.extBut hsa.extBut D.i1z) (hl1.extBut hsa.extBut D.l1z) hx fun hb i1b hsb => wpAny_pure ?_)
  have toB : IsPair hb TO a b := hsb.extBut _ _ D.TOi1 (hsa.extBut _ _ D.TOz hTO)
  refine wpAny_bind (wpAny_seqItems toB rfl ?_)
  refine wpAny_bind (wpAny_updateSeq_pair toB fun hc toC hsc => ?_)
  have toC : IsPair hc TO x b := toC
  refine wpAny_bind (wpAny_letGo (wpAny_pure ?_))
  refine wpAny_bind (wpAny_bind (wpAny_onRaise ?_))
  show wpAny _ _ (Builtin.SmallTypes.nextOf (.ref i2) >>= _) _ _ _
  refine wpAny_bind (wpAny_nextOf_list_item (((h2.extBut hsa.extBut D.i2z).extBut hsb.extBut D.i12.symm).extBut hsc.extBut D.TOi2.symm) (((hl2.extBut hsa.extBut D.l2z).extBut hsb.extBut D.l2i1).extBut hsc.extBut D.l2TO) hy fun hd i2d hsd => wpAny_pure ?_)
  have toD : IsPair hd TO x b := hsd.extBut _ _ D.TOi2 toC
  refine wpAny_bind (wpAny_seqItems toD rfl ?_)
  refine wpAny_bind (wpAny_updateSeq_pair toD fun he toE hse => ?_)
  have toE : IsPair he TO x y := toE
  refine wpAny_bind (wpAny_letGo (wpAny_pure (wpAny_pure ?_)))
  refine wpAny_bind (wpAny_seqItems toE rfl ?_)
  refine wpAny_bind (wpAny_newTuple ?_)
  have sizes : he.objs.size = s.heap.objs.size := by rw [hse.1, hsd.1, hsc.1, hsb.1, hsa.1]
  have zE : he.get? z = some { cls := .type "zip", dict := none, data := .fields #[.ellipsis, .bool f, .bool false, .ref TI, .ref TO], slots := #[] } :=
    hse.extBut _ _ D.TOz.symm (hsd.extBut _ _ D.i2z.symm (hsc.extBut _ _ D.TOz.symm (hsb.extBut _ _ D.i1z.symm hzA)))
  have keepE : ∀ c o, c ≠ z → c ≠ TO → c ≠ i1 → c ≠ i2 → s.heap.get? c = some o → he.get? c = some o := fun c o c1 c2 c3 c4 e =>
    hse.extBut _ _ c2 (hsd.extBut _ _ c4 (hsc.extBut _ _ c2 (hsb.extBut _ _ c3 (hsa.extBut _ _ c1 e))))
  have i1E : he.IsListIter i1 l1 (k1 + 1) := ((i1b.extBut hsc.extBut D.TOi1.symm).extBut hsd.extBut D.i12).extBut hse.extBut D.TOi1.symm
  have i2E : he.IsListIter i2 l2 (k2 + 1) := i2d.extBut hse.extBut D.TOi2.symm
  have zlt : z < he.objs.size := Heap.lt_size zE
  show wpAny _ _ (Builtin.SmallTypes.ownedTupleHandOut (.ref z) (.ref he.objs.size) >>= _) _ _ _
  refine wpAny_bind ?_
  unfold Builtin.SmallTypes.ownedTupleHandOut
  have zF : (he.push { cls := .type "tuple", data := .seq #[x, y] }).get? z = some { cls := .type "zip", dict := none, data := .fields #[.ellipsis, .bool f, .bool false, .ref TI, .ref TO], slots := #[] } := Heap.get?_push_of_some _ zE
  refine wpAny_bind (wpAny_setField_rec zF (by simp) fun hg zG hsg => ?_)
  have zG : hg.get? z = some { cls := .type "zip", dict := none, data := .fields #[rawInt he.objs.size, .bool f, .bool false, .ref TI, .ref TO], slots := #[] } := zG
  refine wpAny_setField_rec zG (by simp) fun hi zI hsi => ?_
  have zI : IsZipHeld hi z TI TO he.objs.size false := zI
  have up : ∀ c o, c ≠ z → he.get? c = some o → hi.get? c = some o := fun c o c1 e => hsi.extBut _ _ c1 (hsg.extBut _ _ c1 (Heap.get?_push_of_some _ e))
  have tI : IsPair hi he.objs.size x y := hsi.extBut _ _ (Nat.ne_of_gt zlt) (hsg.extBut _ _ (Nat.ne_of_gt zlt) (Heap.get?_push_size _ rfl))
  have sI : hi.objs.size = he.objs.size + 1 := by rw [hsi.1, hsg.1, Heap.size_push]
  rw [sizes] at zI tI sI
  refine wpAny_pure ⟨_, rfl, ?_⟩
  show Q (.ref he.objs.size) _
  rw [sizes]
  exact hQ hi zI (up _ _ D.TOz toE) (i1E.at fun o e => up _ o D.i1z e) (i2E.at fun o e => up _ o D.i2z e) tI sI fun c o c1 c2 c3 c4 e => up c o c1 (keepE c o c1 c2 c3 c4 e)
theorem zip_end_free {z TI TO T i1 i2 l1 l2 : Addr} {f : Bool} {k1 k2 : Nat} {xs ys : Array Value} {a b : Value} {Q : Fin → Shared → Prop} (hh : A.handled = none) (D : ZipApart z TI TO i1 i2 l1 l2)
    (hz : IsZipHeld s.heap z TI TO T f) (dead : s.heap.get? T = none) (hTI : IsPair s.heap TI (.ref i1) (.ref i2)) (hTO : IsPair s.heap TO a b)
    (h1 : s.heap.IsListIter i1 l1 k1) (h2 : s.heap.IsListIter i2 l2 k2) (hl1 : s.heap.IsList l1 xs) (hl2 : s.heap.IsList l2 ys) (over : xs[k1]? = none ∨ ys[k2]? = none)
    (hE : ∀ h' e, (∀ c o, c ≠ z → c ≠ TO → c ≠ i1 → c ≠ i2 → s.heap.get? c = some o → h'.get? c = some o) → (∃ o, h'.get? e = some o ∧ o.cls = .type "StopIteration") → E (.ref e) { s with heap := h' }) :
    wpAny (model prog w) A (Builtin.«zip.__next__» ⟨[.ref z], []⟩) Q E s := by
  show wpAny _ _ (field (.ref z) 2 >>= _) _ _ _
  refine wpAny_bind (wpAny_field hz rfl (x := .bool false) rfl ?_)
  show wpAny _ _ (field (.ref z) 3 >>= _) _ _ _
  refine wpAny_bind (wpAny_field hz rfl (x := .ref TI) rfl ?_)
  refine wpAny_bind (wpAny_seqItems hTI rfl ?_)
  show wpAny _ _ (Builtin.SmallTypes.ownedTupleIsFree (.ref z) >>= _) _ _ _
  refine wpAny_bind (free_dead hz dead ?_)
  simp only [if_true]
  refine wpAny_bind (wpAny_rule ?_)
  refine wpAny_bind (wpAny_field hz rfl (x := .ref TO) rfl ?_)
  refine wpAny_bind (wpAny_setField_rec hz (by simp) fun ha hza hsa => ?_)
  have hzA : ha.get? z = some { cls := .type "zip", dict := none, data := .fields #[.ellipsis, .bool f, .bool false, .ref TI, .ref TO], slots := #[] } := hza
  have last : ∀ (hm : Heap) (e : Addr), hm.get? z = some { cls := .type "zip", dict := none, data := .fields #[.ellipsis, .bool f, .bool false, .ref TI, .ref TO], slots := #[] } →
      (∀ c o, c ≠ z → c ≠ TO → c ≠ i1 → c ≠ i2 → s.heap.get? c = some o → hm.get? c = some o) → (∃ o, hm.get? e = some o ∧ o.cls = .type "StopIteration") →
      wpAny (model prog w) A (setField (.ref z) 0 .none) (fun _ s' => E (.ref e) s') E { s with heap := hm } := fun hm e zm km se => by
    obtain ⟨oe, he, hc⟩ := se
    have nz : e ≠ z := fun q => by rw [q, zm] at he; cases he; exact absurd hc (by simp)
    exact wpAny_setField_rec zm (by simp) fun hn _ hsn => hE hn e (fun c o c1 c2 c3 c4 q => hsn.extBut _ _ c1 (km c o c1 c2 c3 c4 q)) ⟨oe, hsn.extBut _ _ nz he, hc⟩
  refine wpAny_bind ?_
  simp only [List.zipIdx_cons, List.zipIdx_nil, List.forIn_cons, List.forIn_nil]
  refine wpAny_bind (wpAny_bind (wpAny_onRaise ?_))
  show wpAny _ _ (Builtin.SmallTypes.nextOf (.ref i1) >>= _) _ _ _
  cases hx : xs[k1]? with
  | none =>
    refine wpAny_bind (wpAny_nextOf_list_end hh (h1.extBut hsa.extBut D.i1z) (hl1.extBut hsa.extBut D.l1z) hx fun hb e hsb se => ?_)
    exact last hb e (hsb _ _ D.i1z.symm hzA) (fun c o c1 _ c3 _ q => hsb _ _ c3 (hsa.extBut _ _ c1 q)) se
  | some x =>
    have hy : ys[k2]? = none := over.resolve_left (fun q => by rw [hx] at q; cases q)
    refine wpAny_bind (wpAny_nextOf_list_item (h1.extBut hsa.extBut D.i1z) (hl1.extBut hsa.extBut D.l1z) hx fun hb i1b hsb => wpAny_pure ?_)
    have toB : IsPair hb TO a b := hsb.extBut _ _ D.TOi1 (hsa.extBut _ _ D.TOz hTO)
    refine wpAny_bind (wpAny_seqItems toB rfl ?_)
    refine wpAny_bind (wpAny_updateSeq_pair toB fun hc toC hsc => ?_)
    refine wpAny_bind (wpAny_letGo (wpAny_pure ?_))
    refine wpAny_bind (wpAny_bind (wpAny_onRaise ?_))
    show wpAny _ _ (Builtin.SmallTypes.nextOf (.ref i2) >>= _) _ _ _
    refine wpAny_bind (wpAny_nextOf_list_end hh (((h2.extBut hsa.extBut D.i2z).extBut hsb.extBut D.i12.symm).extBut hsc.extBut D.TOi2.symm) (((hl2.extBut hsa.extBut D.l2z).extBut hsb.extBut D.l2i1).extBut hsc.extBut D.l2TO) hy fun hd e hsd se => ?_)
    exact last hd e (hsd _ _ D.i2z.symm (hsc.extBut _ _ D.TOz.symm (hsb.extBut _ _ D.i1z.symm hzA))) (fun c o c1 c2 c3 c4 q => hsd _ _ c4 (hsc.extBut _ _ c2 (hsb.extBut _ _ c3 (hsa.extBut _ _ c1 q)))) se
/-- the zip's own state: nothing is handed out, or a tuple that may stand or not -/
def ZipAny (h : Heap) (z TI TO : Addr) : Prop := IsZip h z TI TO .none ∨ ∃ T f, IsZipHeld h z TI TO T f
theorem ZipAny.there {h : Heap} {z TI TO : Addr} (x : ZipAny h z TI TO) : ∃ vs, h.get? z = some { cls := .type "zip", dict := none, data := .fields vs, slots := #[] } := by
  rcases x with e | ⟨T, f, e⟩
  · exact ⟨_, e⟩
  · exact ⟨_, e⟩
theorem ZipAny.at {h h' : Heap} {z TI TO : Addr} (x : ZipAny h z TI TO) (k : ∀ o, h.get? z = some o → h'.get? z = some o) : ZipAny h' z TI TO := by
  rcases x with e | ⟨T, f, e⟩
  · exact .inl (k _ e)
  · exact .inr ⟨T, f, k _ e⟩
theorem zipAny_item {z TI TO i1 i2 l1 l2 : Addr} {k1 k2 : Nat} {xs ys : Array Value} {x y a b : Value} {Q : Option Value → Shared → Prop} (D : ZipApart z TI TO i1 i2 l1 l2)
    (hz : ZipAny s.heap z TI TO) (hTI : IsPair s.heap TI (.ref i1) (.ref i2)) (hTO : IsPair s.heap TO a b)
    (h1 : s.heap.IsListIter i1 l1 k1) (h2 : s.heap.IsListIter i2 l2 k2) (hl1 : s.heap.IsList l1 xs) (hl2 : s.heap.IsList l2 ys) (hx : xs[k1]? = some x) (hy : ys[k2]? = some y)
    (hQ : ∀ h', ZipAny h' z TI TO → (∃ c d, IsPair h' TO c d) → h'.IsListIter i1 l1 (k1 + 1) → h'.IsListIter i2 l2 (k2 + 1) → IsPair h' s.heap.objs.size x y →
      (∀ c o, c ≠ z → c ≠ TO → c ≠ i1 → c ≠ i2 → s.heap.get? c = some o → h'.get? c = some o) → Q (some (.ref s.heap.objs.size)) { s with heap := h' }) :
    wpAny (model prog w) A (pyNext (.ref z)) Q E s := by
  rcases hz with hz | ⟨T, f, hz⟩
  · exact wpAny_pyNext_zip_item D hz hTI hTO h1 h2 hl1 hl2 hx hy fun h' q1 q2 q3 q4 q5 _ q7 => hQ h' (.inr ⟨_, false, q1⟩) ⟨_, _, q2⟩ q3 q4 q5 q7
  · cases hT : s.heap.get? T with
    | some oT =>
      exact wpAny_pyNext_zip_item_held D hz hT hTI h1 h2 hl1 hl2 hx hy fun h' q1 q3 q4 q5 _ q7 => hQ h' (.inr ⟨_, _, q1⟩) ⟨_, _, q7 _ _ D.TOz D.TOi1 D.TOi2 hTO⟩ q3 q4 q5 fun c o c1 _ c3 c4 e => q7 c o c1 c3 c4 e
    | none =>
      have hTy : s.TypeIs (.ref z) "zip" := ⟨_, hz, rfl⟩
      unfold pyNext
      exact wpAny_bind (wpAny_attempt (wpAny_callSpecial?_slot (name := Str.ofString "__next__") hTy F.slot_zip_next
        (wpAny_call_entry F.slot_zip_next hTy F.entry_zip_next
          (zip_item_free D hz hT hTI hTO h1 h2 hl1 hl2 hx hy fun h' q1 q2 q3 q4 q5 _ q7 => wpAny_pure (hQ h' (.inr ⟨_, _, q1⟩) ⟨_, _, q2⟩ q3 q4 q5 q7)) (F.args_zip_next_1 _))))
theorem zipAny_end {z TI TO i1 i2 l1 l2 : Addr} {k1 k2 : Nat} {xs ys : Array Value} {a b : Value} {Q : Option Value → Shared → Prop} (hh : A.handled = none) (D : ZipApart z TI TO i1 i2 l1 l2)
    (hz : ZipAny s.heap z TI TO) (hTI : IsPair s.heap TI (.ref i1) (.ref i2)) (hTO : IsPair s.heap TO a b)
    (h1 : s.heap.IsListIter i1 l1 k1) (h2 : s.heap.IsListIter i2 l2 k2) (hl1 : s.heap.IsList l1 xs) (hl2 : s.heap.IsList l2 ys) (over : xs[k1]? = none ∨ ys[k2]? = none)
    (hQ : ∀ h', (∀ c o, c ≠ z → c ≠ TO → c ≠ i1 → c ≠ i2 → s.heap.get? c = some o → h'.get? c = some o) → Q none { s with heap := h' }) : wpAny (model prog w) A (pyNext (.ref z)) Q E s := by
  rcases hz with hz | ⟨T, f, hz⟩
  · exact wpAny_pyNext_zip_end hh D hz hTI hTO h1 h2 hl1 hl2 over hQ
  · cases hT : s.heap.get? T with
    | some oT => exact wpAny_pyNext_zip_end_held hh D hz hT hTI h1 h2 hl1 hl2 over fun h' k => hQ h' fun c o c1 _ c3 c4 e => k c o c1 c3 c4 e
    | none =>
      have hTy : s.TypeIs (.ref z) "zip" := ⟨_, hz, rfl⟩
      unfold pyNext
      refine wpAny_bind (wpAny_attempt (wpAny_callSpecial?_slot (name := Str.ofString "__next__") hTy F.slot_zip_next
        (wpAny_call_entry F.slot_zip_next hTy F.entry_zip_next (zip_end_free hh D hz hT hTI hTO h1 h2 hl1 hl2 over fun h' e k se => ?_) (F.args_zip_next_1 _))))
      obtain ⟨o, ho, hc⟩ := se
      exact wpAny_bind (wpAny_isInstance (T := "StopIteration") (b := true) ⟨o, ho, hc⟩ isSubtype_stop (wpAny_pure (hQ _ k)))
end
theorem five {c z TI TO i1 i2 : Addr} (h : c ∈ [z, TI, TO, i1, i2]) : c = z ∨ c = TI ∨ c = TO ∨ c = i1 ∨ c = i2 := by simpa using h
theorem turn_zipN {P : Program} {w : World} {K : PySem.W.Frag} {x : String} {tpos : Pos} {a b z TI TO i1 i2 : Addr} (D : ZipApart z TI TO i1 i2 a b) :
    Turn P w K (.Name x tpos) (Itz K a b) [z, TI, TO, i1, i2] z (fun i h => ZipAny h z TI TO ∧ IsPair h TI (.ref i1) (.ref i2) ∧ (∃ x y, IsPair h TO x y) ∧ h.IsListIter i1 a i ∧ h.IsListIter i2 b i) where
  mem := by simp
  obj := by
    rintro i h ⟨hz, hTI, ⟨x, y, hTO⟩, ⟨o1, e1, _, d1⟩, ⟨o2, e2, _, d2⟩⟩ c hc
    obtain ⟨vs, ez⟩ := hz.there
    rcases five hc with rfl | rfl | rfl | rfl | rfl
    · exact ⟨_, ez, fun v q => nomatch q⟩
    · exact ⟨_, hTI, fun v q => nomatch q⟩
    · exact ⟨_, hTO, fun v q => nomatch q⟩
    · exact ⟨o1, e1, fun v q => by rw [d1] at q; cases q⟩
    · exact ⟨o2, e2, fun v q => by rw [d2] at q; cases q⟩
  keep := by
    rintro i h h' ⟨hz, hTI, ⟨x, y, hTO⟩, h1, h2⟩ k
    exact ⟨hz.at (k z (by simp)), k TI (by simp) _ hTI, ⟨x, y, k TO (by simp) _ hTO⟩, h1.at (k i1 (by simp)), h2.at (k i2 (by simp))⟩
  item := by
    rintro X rfl rfl rfl hc i pins s σ H E I hf ⟨hz, hTI, ⟨x0, y0, hTO⟩, h1, h2⟩ ⟨xs, ys, x, y, hqx, hqy, hx, hy⟩
    obtain ⟨its, rv, p, _⟩ := I.list hqx
    obtain ⟨its2, rv2, p2, _⟩ := I.list hqy
    obtain ⟨u, hu, ru⟩ := rv.get hx
    obtain ⟨u2, hu2, ru2⟩ := rv2.get hy
    refine zipAny_item D hz hTI hTO h1 h2 p.isList p2.isList (x := u) (y := u2) (by simpa using hu) (by simpa using hu2) fun h' z' TO' h1' h2' hT hk => ?_
    refine ⟨_, rfl, ?_⟩
    unfold letOwnedTupleGo
    refine wpAny_pure ?_
    have hk5 : ∀ c o, c ∉ [z, TI, TO, i1, i2] → s.heap.get? c = some o → h'.get? c = some o := fun c o hb q => by
      simp only [List.mem_cons, List.not_mem_nil, or_false, not_or] at hb
      exact hk c o hb.1 hb.2.2.1 hb.2.2.2.1 hb.2.2.2.2 q
    have new : ObjOk X.prog X.w (upd H s.heap.objs.size (.tup [x, y])) h' s.heap.objs.size (.tup [x, y]) :=
      ⟨by show 2 ≤ sizeLine; decide, [u, u2], .cons ru (.cons ru2 .nil), ⟨_, hT, rfl, _, rfl⟩⟩
    have I1 : Inv X pins σ (upd H s.heap.objs.size (.tup [x, y])) { s with heap := h' } := I.turnedNew (t' := s.toks) (ch := [z, TI, TO, i1, i2]) hk5 hf (Nat.le_refl _) new
    refine ⟨.ref s.heap.objs.size, _, I1, rfl, ⟨_, x, y, rfl, I.hok.fresh (Nat.le_refl _), rfl, fun l hl => by rw [I.list_inj hl hqx]; exact hx, fun l hl => by rw [I.list_inj hl hqy]; exact hy⟩, ⟨z', hk _ _ D.TIz D.TITO D.TIi1 D.TIi2 hTI, TO', h1', h2'⟩, fun c hcm => ?_⟩
    have hlt : c < s.heap.objs.size := by
      obtain ⟨vs, ez⟩ := hz.there
      obtain ⟨_, e1, _⟩ := h1
      obtain ⟨_, e2, _⟩ := h2
      rcases five hcm with rfl | rfl | rfl | rfl | rfl
      · exact Heap.lt_size ez
      · exact Heap.lt_size hTI
      · exact Heap.lt_size hTO
      · exact Heap.lt_size e1
      · exact Heap.lt_size e2
    rw [upd_ne (Nat.ne_of_lt hlt)]
    exact (hf c hcm).1
  done := by
    rintro X rfl rfl rfl hc i pins s σ H E I hf ⟨hz, hTI, ⟨x0, y0, hTO⟩, h1, h2⟩ ⟨xs, ys, hqx, hqy, over⟩
    obtain ⟨its, rv, p, _⟩ := I.list hqx
    obtain ⟨its2, rv2, p2, _⟩ := I.list hqy
    have l1 := rv.length
    have l2 := rv2.length
    refine zipAny_end (I.ok.hd hc) D hz hTI hTO h1 h2 p.isList p2.isList ?_ fun h' hk => ⟨rfl, I.turnedL (t' := s.toks) (ch := [z, TI, TO, i1, i2]) (fun c o hb q => ?_) hf⟩
    · rcases over with q | q
      · exact .inl (by simp; omega)
      · exact .inr (by simp; omega)
    · simp only [List.mem_cons, List.not_mem_nil, or_false, not_or] at hb
      exact hk c o hb.1 hb.2.2.1 hb.2.2.2.1 hb.2.2.2.2 q
  self := fun A i s Q E st h => by
    rcases st.1 with e | ⟨T, f, e⟩
    · exact wpAny_pyIter_zip e h
    · have hT : s.TypeIs (.ref z) "zip" := ⟨_, e, rfl⟩
      refine wpAny_pyIter_slot hT F.slot_zip_iter (wpAny_call_entry F.slot_zip_iter hT F.entry_zip_iter ?_ (F.args_zip_iter_1 _))
      show wpAny _ _ (ret (.ref z)) _ _ s
      exact wpAny_pure ⟨_, rfl, "zip", _, hT, F.slot_zip_next.lookup, h⟩
/-- for pair in zip(xs, ys) -/
theorem pi_zipN {X : Cx} {e e2 : Expr} {ta : TA} {p pos tpos : Pos} {x : String} (hg : Gl X "zip") (hm : X.mg "zip" = none) (ha : PA X [e, e2] ta)
    (hs : starEach [e, e2] X.env = (false, eval e X.env) :: starEach [e2] X.env := by rfl) (hpl : (backTo pos (starEach [e2] X.env)).any (·.1) = false := by rfl) :
    PI X (.Name x tpos) (.Call (.Name "zip" p) [e, e2] [] pos) (iZip X.K ta) := by
  refine ⟨fun pins s σ H R I h => ?_⟩
  refine Call_ (ld_blt I hg hm PyProof.Rows.boot_zip (PyProof.Rows.callWith_type1 (thn (ha.run pos pins s σ H _ I h) fun us s1 ⟨vs, H1, I1, r1, q1⟩ => ?_) hs hpl))
  obtain ⟨a, b, xs, ys, rfl, hqx, hqy, q⟩ := q1
  obtain _ | ⟨ra, _ | ⟨rb, _ | _⟩⟩ := r1
  cases ra
  cases rb
  obtain ⟨its, rv, p1, _⟩ := I1.list hqx
  obtain ⟨its2, rv2, p2, _⟩ := I1.list hqy
  refine call_zip_2 p1.isList p2.isList fun h' hz hTI hTO h1 h2 hsz hk => wpAny_pyIter_zip hz ?_
  have I2 : Inv X pins σ H1 { s1 with heap := h' } := I1.kept (t' := s1.toks) hk
  refine ⟨s1.heap.objs.size + 4, [s1.heap.objs.size + 4, s1.heap.objs.size + 2, s1.heap.objs.size + 3, s1.heap.objs.size, s1.heap.objs.size + 1], _, _, H1, rfl, I2, turn_zipN (PySem.W.ktu_apart s1.heap.objs.size a b p1.lt p2.lt), ⟨.inl hz, hTI, ⟨_, _, hTO⟩, h1, h2⟩, fun c hcm => ?_, q⟩
  have hle : s1.heap.objs.size ≤ c := by rcases five hcm with z | z | z | z | z <;> rw [z] <;> first | exact Nat.le_refl _ | exact Nat.le_add_right _ _
  exact I1.fpOk hle (I1.hok.fresh hle)
end Lr

set_option Elab.async false
set_option linter.all false
set_option maxRecDepth 100000
set_option maxHeartbeats 4000000
namespace Lr
open PySem PySem.Spec PyProof.Rows L2
/-! ### set(list), whatever its items: the filling is given -/
abbrev bareSet (w : World) : Obj := { cls := .type "set", dict := none, data := .set #[] 0 (.fresh 0 0 (!w.params.followText "set-order")) }
abbrev walkOf (l : Addr) : Obj := { cls := .type "list_iterator", data := .fields #[.ref l, .int 0 0] }
section
variable {P : Program} {w : World} {A : Around} {E : Value → Shared → Prop} {s : Shared}
theorem call_set_by {l : Addr} {items : Array Value} {Good : Heap → Prop} {Q : Value → Shared → Prop} (hl : s.heap.IsList l items)
    (fill : ∀ R : Result → Shared → Prop, (∀ h' tk, (∀ b o, s.heap.get? b = some o → h'.get? b = some o) → Good h' → R (.ok (.ret .none)) { s with heap := h', toks := tk }) →
      codeAny (model P w) A.in1.in1 (.builtin "set.update.loop" ⟨[.ref s.heap.objs.size, .ref (s.heap.push (bareSet w)).objs.size], []⟩) R { s with heap := (s.heap.push (bareSet w)).push (walkOf l) })
    (h : ∀ (h' : Heap) (tk : Nat), Good h' → (∀ b o, s.heap.get? b = some o → h'.get? b = some o) → Q (.ref s.heap.objs.size) { s with heap := h', toks := tk }) :
    wpAny (model P w) A (call (.type "set") [.ref l]) Q E s := by
  obtain ⟨c, tl, hmro⟩ := F.called_set.mro
  have hmade := F.called_set.made
  have hsub := F.called_set.sub
  refine wpAny_call (codeAny_of_tree ?_)
  show wpAny _ _ (callAny (.type "set") _) _ _ _
  refine wpAny_pure ⟨Code.quiet_builtin _ (by decide +kernel), codeAny_builtin F.entry_type_call ?_⟩
  rw [Around.under_plain (weight_type_call_type "set" [.ref l] []) rfl]
  have h1 := F.called_set.notType
  have h2 := F.called_set.canCreate
  have hct := F.typeCall_set_1 (.ref l)
  repeat (any_goals (first | assumption | wp_step))
  refine codeAny_mono (code_set_led1 (.ref l) (E := E) (Q₁ := fun obj z => obj = .ref s.heap.objs.size ∧ z = { s with heap := s.heap.push (bareSet w) }) ⟨rfl, rfl⟩) fun r z hr => ?_
  cases r with
  | error e => exact hr
  | ok fl =>
    cases fl with
    | ret obj =>
      obtain ⟨rfl, rfl⟩ := hr
      have hS : (s.heap.push (bareSet w)).get? s.heap.objs.size = some (bareSet w) := Heap.get?_push_size _ rfl
      have hT : Shared.TypeIs { s with heap := s.heap.push (bareSet w) } (.ref s.heap.objs.size) "set" := ⟨_, hS, rfl⟩
      have hli := F.called_set.init.lookup
      have hbi := F.called_set.init.bind (.ref s.heap.objs.size)
      repeat (any_goals (first | assumption | wp_step))
      refine codeAny_mono (codeAny_call_builtin (R := wants (fun r y => r = .none ∧ ∃ h' tk, y = { s with heap := h', toks := tk } ∧ Good h' ∧ (∀ b o, s.heap.get? b = some o → h'.get? b = some o)) E)
        F.called_set.init.plain F.entry_set_init (check_set_init_1 hT ?_)) fun r2 y hr2 => ?_
      · obtain ⟨⟨ocls, odict, odata, oslots⟩, hol, hcl, nl, hdl⟩ := hl
        simp only at hcl hdl
        subst hcl; subst hdl
        have hol' : (s.heap.push (bareSet w)).get? l = some { cls := .type "list", dict := odict, data := .seq items nl, slots := oslots } := Heap.get?_push_of_some _ hol
        have hsls := F.sub_list_set
        have hslf := F.sub_list_frozenset
        have hne : (Value.type "list" == Value.type "dict") = false := by decide
        have hl1 : (s.heap.push (bareSet w)).IsList l items := ⟨_, hol', rfl, nl, rfl⟩
        unfold Builtin.«set.__init__» noKeywords Builtin.Frozenset.updateFrom
        generalize hPI : pyIter = PI
        wp_walk
        subst hPI
        refine wpAny_pyIter_list hl1 ?_
        refine wpAny_bind (wpAny_runValue ?_)
        refine fill _ fun h' tk hk g => ?_
        show wpAny _ _ _ _ _ _
        refine wpAny_pure ?_
        show wpAny _ _ (ret Value.none) _ _ _
        exact wpAny_pure ⟨rfl, h', tk, rfl, g, hk⟩
      · cases r2 with
        | error e => exact hr2
        | ok fl2 =>
          cases fl2 with
          | ret r =>
            obtain ⟨rfl, h', tk, rfl, g, hk⟩ := hr2
            repeat (any_goals (first | assumption | wp_step))
            exact h _ _ g hk
          | _ => exact hr2.elim
    | _ => exact hr.elim

/-! ### sets of texts -/
def keyT (e : Int × Value) : Str := match e.2 with | .str z _ => z | _ => Str.empty
def GoodT (w : World) (e : Int × Value) : Prop := ∃ z tk, e.2 = Value.str z tk ∧ e.1 = hashStr w z
/-- a set of the texts L (no two alike), which can be walked -/
def SetTx (w : World) (h : Heap) (a : Addr) (L : List Str) : Prop :=
  ∃ o es ep t, h.get? a = some o ∧ o.ExactSet ∧ o.data = .set es ep t ∧ (∀ e ∈ es.toList, GoodT w e) ∧ (es.toList.map keyT).Perm L ∧ L.Nodup ∧
    es.size < scanBound ∧ t.fits es.size = true ∧ Ris t.place.toList ∧ (w.params.followText "set-order" = true ∨ t.led = true)
theorem SetTx.at {h h' : Heap} {a : Addr} {L : List Str} (R : SetTx w h a L) (k : ∀ o, h.get? a = some o → h'.get? a = some o) : SetTx w h' a L := by
  obtain ⟨o, es, ep, t, ho, r⟩ := R
  exact ⟨o, es, ep, t, k o ho, r⟩
theorem goodT_elems {l : List (Int × Value)} (g : ∀ e ∈ l, GoodT w e) : ElemsOf (PySem.strKind P w) l := fun e he => by
  obtain ⟨z, tk, h1, h2⟩ := g e he
  rw [h1]
  exact ⟨⟨z, strKind_is P w z tk, h2⟩, rfl⟩
theorem goodT_is {e : Int × Value} (g : GoodT w e) (z : Str) : (PySem.strKind P w).is z e.2 = true ↔ keyT e = z := by
  obtain ⟨y, tk, h1, _⟩ := g
  have hy : keyT e = y := by unfold keyT; rw [h1]
  rw [hy, h1]
  constructor
  · intro q
    exact (PySem.strKind P w).inj _ _ _ (strKind_is P w y tk) q
  · rintro rfl
    exact strKind_is P w y tk
theorem goodT_mem {l : List (Int × Value)} (g : ∀ e ∈ l, GoodT w e) (z : Str) : z ∈ l.map keyT ↔ ∃ e ∈ l, (PySem.strKind P w).is z e.2 = true := by
  rw [List.mem_map]
  exact ⟨fun ⟨e, he, q⟩ => ⟨e, he, (goodT_is (g e he) z).mpr q⟩, fun ⟨e, he, q⟩ => ⟨e, he, (goodT_is (g e he) z).mp q⟩⟩
theorem SetTx.new {h : Heap} {a : Addr} (ho : h.get? a = some (bareSet w)) : SetTx w h a [] :=
  ⟨_, #[], 0, _, ho, ⟨rfl, rfl, rfl⟩, rfl, (fun e he => by simp at he), List.Perm.refl _, List.nodup_nil, (by decide), (by rfl), List.Pairwise.nil, by
    show _ ∨ (!w.params.followText "set-order") = true
    cases w.params.followText "set-order"
    · exact .inr rfl
    · exact .inl rfl⟩
/-- the end of an add: the table is stored, and laid anew where it is too full -/
theorem storeT {g : Bool → Sem Unit} (hg : ∀ (b : Bool) (y : Shared) (Q' : Unit → Shared → Prop), Q' () y → wpAny (model P w) A (g b) Q' E y)
    {a : Addr} {o : Obj} {es : Array (Int × Value)} {ep : Nat} {t : SetTable} (ho : s.heap.get? a = some o) (hex : o.ExactSet) (hd : o.data = .set es ep t)
    {fs : Array (Int × Value)} {t2 : SetTable} {L : List Str} (g1 : ∀ e ∈ fs.toList, GoodT w e) (pm : (fs.toList.map keyT).Perm L) (nd : L.Nodup)
    (hb : fs.size < scanBound) (hf : t2.fits fs.size = true) (hr : Ris t2.place.toList) (hl : w.params.followText "set-order" = true ∨ t2.led = true) {dum : Bool} {R : Option Bool → Shared → Prop}
    (hR : ∀ h', Heap.SameBut a s.heap h' → SetTx w h' a L → R (some true) { s with heap := h' }) :
    wpAny (model P w) A (do
        storeSet a fs t2
        if (!dum && t2.tooFull) = true then do
            g (relayAll t2 fs (SetTable.grown fs.size)).2.2
            storeSet a (relayAll t2 fs (SetTable.grown fs.size)).1 (relayAll t2 fs (SetTable.grown fs.size)).2.1
            pure (some true)
          else pure (some true)) R E s := by
  refine wpAny_bind (wpAny_storeSet_of ho hd ?_ (fits_of_scanBound hb))
  have ho1 := store_at (es' := fs) (t' := t2) ho hd
  have sb1 := Heap.SameBut.update s.heap a (Obj.putSet fs t2)
  split
  · have q1 := relayAll_perm t2 fs (SetTable.grown fs.size)
    have q2 := relayAll_fits t2 fs (SetTable.grown fs.size)
    have q3 := relayAll_ris t2 fs (SetTable.grown fs.size)
    have q4 := relayAll_led t2 fs (SetTable.grown fs.size)
    generalize relayAll t2 fs (SetTable.grown fs.size) = Z at q1 q2 q3 q4 ⊢
    obtain ⟨gs, t3, gave⟩ := Z
    dsimp only at q1 q2 q3 q4 ⊢
    have hsz : gs.size = fs.size := by rw [← Array.length_toList, q1.length_eq, Array.length_toList]
    have hb2 : gs.size < scanBound := by rw [hsz]; exact hb
    refine wpAny_bind (hg _ _ _ ?_)
    refine wpAny_bind (wpAny_storeSet_of ho1 rfl ?_ (fits_of_scanBound hb2))
    have ho2 := store_at (es' := gs) (t' := t3) ho1 rfl
    refine wpAny_pure (hR _ (sb1.trans (Heap.SameBut.update _ a _)) ?_)
    exact ⟨_, gs, _, t3, ho2, hex, rfl, fun e he => g1 e (q1.mem_iff.mp he), (q1.map keyT).trans pm, nd, hb2, q2, q3, hl.imp id fun z => q4.trans z⟩
  · exact wpAny_pure (hR _ sb1 ⟨_, fs, _, t2, ho1, hex, rfl, g1, pm, nd, hb, hf, hr, hl⟩)
theorem setTx_add {a : Addr} {L : List Str} {z : Str} {tk : Tok} {Q : Bool → Shared → Prop} (R : SetTx w s.heap a L) (room : L.length + 1 < scanBound)
    (old : z ∈ L → Q false s) (new : z ∉ L → ∀ h', Heap.SameBut a s.heap h' → SetTx w h' a (L ++ [z]) → Q true { s with heap := h' }) :
    wpAny (model P w) A (setAddHashed a (.str z tk) ((PySem.strKind P w).hash z)) Q E s := by
  obtain ⟨o, es, ep, t, ho, hex, hd, g, pm, nd, hb, hf, hr, hl⟩ := R
  have hkey : (PySem.strKind P w).is z (.str z tk) = true := strKind_is P w z tk
  have hsc : (Value.str z tk).scannable = true := rfl
  have hel : ElemsOf (PySem.strKind P w) es.toList := goodT_elems g
  unfold setAddHashed setAddHashedIn
  refine wpAny_holding (wpAny_bind (wpAny_setState_of ho hd hf ?_))
  dsimp only
  rw [byScan_of hsc hb hel]
  simp only [↓reduceIte]
  unfold setAddByScan
  refine wpAny_bind ?_
  refine wpAny_bind (wpAny_rule ?_)
  refine wpAny_bind (wpAny_setScan_of hkey ho hd hf hel ?_)
  cases hfi : List.findIdx? (fun e => (PySem.strKind P w).is z e.2) es.toList with
  | some j =>
    dsimp only
    obtain ⟨hj, pj, _⟩ := List.findIdx?_eq_some_iff_getElem.mp hfi
    exact wpAny_pure (wpAny_pure (old (pm.mem_iff.mp ((goodT_mem (P := P) g z).mpr ⟨_, List.getElem_mem hj, pj⟩))))
  | none =>
    dsimp only
    have hnz : z ∉ L := fun q => by
      obtain ⟨e, he, q2⟩ := (goodT_mem (P := P) g z).mp (pm.mem_iff.mpr q)
      have c := List.findIdx?_eq_none_iff.mp hfi e he
      rw [q2] at c; cases c
    have hgw : ∀ (b : Bool) {y : Shared} {Q' : Unit → Shared → Prop}, Q' () y → wpAny (model P w) A (match b with | true => rule "set.scan.the-table-gave-way" | false => pure ()) Q' E y :=
      fun b y Q' q => by cases b <;> first | exact wpAny_pure q | exact wpAny_rule q
    have q1 := layNew_perm t es ((PySem.strKind P w).hash z) (.str z tk)
    have q2 := layNew_fits t es ((PySem.strKind P w).hash z) (.str z tk)
    have q3 := layNew_ris t es ((PySem.strKind P w).hash z) (.str z tk) hr
    have q4 := layNew_led t es ((PySem.strKind P w).hash z) (.str z tk)
    generalize layNew t es ((PySem.strKind P w).hash z) (.str z tk) = Z at q1 q2 q3 q4 ⊢
    obtain ⟨fs, t1, dum, gave⟩ := Z
    dsimp only at q1 q2 q3 q4 ⊢
    rw [Array.toList_push] at q1
    have g1 : ∀ e ∈ fs.toList, GoodT w e := fun e he => by
      rcases List.mem_append.mp (q1.mem_iff.mp he) with q | q
      · exact g e q
      · rw [List.mem_singleton.mp q]; exact ⟨z, tk, rfl, rfl⟩
    have pm1 : (fs.toList.map keyT).Perm (L ++ [z]) := by
      have e := q1.map keyT
      rw [List.map_append] at e
      exact e.trans (pm.append_right _)
    have nd1 : (L ++ [z]).Nodup := List.nodup_append.mpr ⟨nd, List.pairwise_singleton _ _, fun x hx y hy => by rw [List.mem_singleton.mp hy]; rintro rfl; exact hnz hx⟩
    have hb1 : fs.size < scanBound := by
      have e := pm1.length_eq
      rw [List.length_map, Array.length_toList, List.length_append, List.length_singleton] at e
      rw [e]; exact room
    have hled : w.params.followText "set-order" = true ∨ t1.led = true := hl.imp id fun q => q4.trans q
    have fin : ∀ h', Heap.SameBut a s.heap h' → SetTx w h' a (L ++ [z]) → Q true { s with heap := h' } := new hnz
    refine wpAny_bind (hgw _ ?_)
    split
    · refine wpAny_bind ?_
      rw [hashByValue_scannable 8 hsc]
      refine wpAny_pure ?_
      refine storeT ?_ ho hex hd g1 pm1 nd1 hb1 ?_ ?_ ?_ ?_
      · intro b y Q' q; cases b <;> first | exact wpAny_pure q | exact wpAny_rule q
      · first | (split <;> first | exact q2 | exact SetTable.fits_plain_off q2) | exact q2
      · first | (split <;> exact q3) | exact q3
      · first | (split <;> exact hled) | exact hled
      · intro h' sb r; dsimp only; exact wpAny_pure (fin h' sb r)
    · refine wpAny_bind (wpAny_pure ?_)
      simp only [↓reduceIte]
      refine storeT ?_ ho hex hd g1 pm1 nd1 hb1 q2 q3 hled ?_
      · intro b y Q' q; cases b <;> first | exact wpAny_pure q | exact wpAny_rule q
      · intro h' sb r; dsimp only; exact wpAny_pure (fin h' sb r)

end
def addT (L : List Str) (z : Str) : List Str := if z ∈ L then L else L ++ [z]
/-- the unlike ones, as they come -/
def dedT (xs : List Str) : List Str := xs.foldl addT []
theorem dedT_snoc (xs : List Str) (z : Str) : dedT (xs ++ [z]) = addT (dedT xs) z := by
  unfold dedT
  rw [List.foldl_append]; rfl
theorem addT_mem {L : List Str} {y z : Str} : z ∈ addT L y ↔ z ∈ L ∨ z = y := by
  unfold addT
  split
  · rename_i h
    exact ⟨.inl, fun q => q.elim id fun e => e ▸ h⟩
  · rw [List.mem_append, List.mem_singleton]
theorem dedT_mem {xs : List Str} {z : Str} : z ∈ dedT xs ↔ z ∈ xs := by
  have key : ∀ (xs L : List Str), z ∈ xs.foldl addT L ↔ z ∈ L ∨ z ∈ xs := fun xs => by
    induction xs with
    | nil => intro L; simp
    | cons y xs ih =>
      intro L
      rw [List.foldl_cons, ih, addT_mem, List.mem_cons, or_assoc]
  rw [dedT, key]; simp
theorem dedT_nodup (xs : List Str) : (dedT xs).Nodup := by
  have key : ∀ (xs L : List Str), L.Nodup → (xs.foldl addT L).Nodup := fun xs => by
    induction xs with
    | nil => intro L h; exact h
    | cons y xs ih =>
      intro L h
      refine ih _ ?_
      unfold addT
      split
      · exact h
      · rename_i q
        exact List.nodup_append.mpr ⟨h, List.pairwise_singleton _ _, fun x hx z hz => by rw [List.mem_singleton.mp hz]; rintro rfl; exact q hx⟩
  exact key xs [] List.nodup_nil
theorem dedT_len (xs : List Str) : (dedT xs).length ≤ xs.length := by
  have key : ∀ (xs L : List Str), (xs.foldl addT L).length ≤ L.length + xs.length := fun xs => by
    induction xs with
    | nil => intro L; exact Nat.le_refl _
    | cons y xs ih =>
      intro L
      have h := ih (addT L y)
      have h2 : (addT L y).length ≤ L.length + 1 := by
        unfold addT
        split
        · omega
        · rw [List.length_append]; exact Nat.le_refl _
      rw [List.foldl_cons, List.length_cons]
      omega
  have := key xs []
  rwa [List.length_nil, Nat.zero_add] at this
theorem dedT_same {xs : List Str} (h : xs.Nodup) : (dedT xs).length = xs.length :=
  ((List.perm_ext_iff_of_nodup (dedT_nodup xs) h).mpr fun _ => dedT_mem).length_eq
section
variable {P : Program} {w : World} {A : Around} {E : Value → Shared → Prop} {s : Shared}
theorem fill_T {I : Addr} {fp wr : List Addr} {G : Array GenState → Array GenState → Prop} {n : Nat} {Pv : Nat → Value → Prop} {St : Nat → Shared → Prop} {R : Result → Shared → Prop}
    (W : WalksS P w A.in1 I fp wr G n Pv St) (S : Addr) (hSf : S ∉ fp) (xs : List Str) (hn : n = xs.length) (hb : xs.length + 1 < scanBound) (hval : ∀ i v, Pv i v → ∃ z t, xs[i]? = some z ∧ v = .str z t) :
    ∀ (k i : Nat) (s : Shared), n - i = k → i ≤ n → St i s → SetTx w s.heap S (dedT (xs.take i)) →
      (∀ s', Moved (S :: wr) G s s' → SetTx w s'.heap S (dedT xs) → R (.ok (.ret .none)) s') →
      codeAny (model P w) A (.builtin "set.update.loop" ⟨[.ref S, .ref I], []⟩) R s := by
  have offW : S ∉ wr := fun h => hSf (W.sub _ h)
  have wide : ∀ b ∈ wr, b ∈ S :: wr := fun b hb => List.mem_cons_of_mem _ hb
  intro k
  induction k with
  | zero =>
    intro i s hk hi st hS hR
    obtain rfl : i = n := by omega
    refine codeAny_builtin F.entry_set_update_loop ?_
    rw [Around.under_plainId F.plain_set_update_loop _]
    show wpAny _ A.in1 (pyNext (.ref I) >>= _) _ _ s
    refine wpAny_bind (W.done s _ _ st fun s' hm => ?_)
    show wpAny _ A.in1 (ret Value.none) _ _ s'
    rw [hn, List.take_length] at hS
    exact wpAny_pure (hR s' (hm.mono wide) (hS.at fun o e => hm.heap S o offW e))
  | succ k ih =>
    intro i s hk hi st hS hR
    have hlt : i < n := by omega
    refine codeAny_builtin F.entry_set_update_loop ?_
    rw [Around.under_plainId F.plain_set_update_loop _]
    show wpAny _ A.in1 (pyNext (.ref I) >>= _) _ _ s
    refine wpAny_bind (W.item i s _ _ hlt st fun v s' hP st' hm => ?_)
    obtain ⟨z, t, hz, rfl⟩ := hval i v hP
    have et : dedT (xs.take (i + 1)) = addT (dedT (xs.take i)) z := by rw [List.take_succ, hz]; exact dedT_snoc _ _
    have hS' := hS.at fun o e => hm.heap S o offW e
    have room : (dedT (xs.take i)).length + 1 < scanBound := by
      have := dedT_len (xs.take i)
      rw [List.length_take] at this
      omega
    have next : ∀ h' : Heap, Heap.SameBut S s'.heap h' → SetTx w h' S (dedT (xs.take (i + 1))) →
        codeAny (model P w) A (.builtin "set.update.loop" ⟨[.ref S, .ref I], []⟩) R { s' with heap := h', toks := s'.toks + 1 } := fun h' sb hS2 => by
      refine ih (i + 1) _ (by omega) hlt (W.frame _ s' _ _ st' (Nat.le_succ _) fun b hb o e => (sb.2 b (fun h => hSf (h ▸ hb))).trans e) hS2 fun s2 hm2 hS3 => ?_
      exact hR s2 (Moved.trans W.gtrans ((hm.mono wide).then_heap (Nat.le_succ _) fun b o hb e => (sb.2 b (fun h => hb (by rw [h]; exact List.mem_cons_self))).trans e) hm2) hS3
    show wpAny _ A.in1 (holding [Value.str z t] (setAdd S (.str z t)) >>= _) _ _ s'
    refine wpAny_bind (wpAny_holding ?_)
    unfold setAdd
    refine wpAny_holding ?_
    refine wpAny_bind ((PySem.strKind P w).pyHash (k := z) (strKind_is _ _ _ _) ?_)
    refine setTx_add (s := { s' with toks := s'.toks + 1 }) hS' room (fun q => ?_) (fun q h' sb hS2 => ?_)
    · rw [addT, if_pos q] at et
      exact wpAny_pure ⟨plainId_quiet F.plain_set_update_loop _, next s'.heap (Heap.SameBut.refl _ _) (et ▸ hS')⟩
    · rw [addT, if_neg q] at et
      exact wpAny_pure ⟨plainId_quiet F.plain_set_update_loop _, next h' sb (et ▸ hS2)⟩
theorem call_set_texts {l : Addr} {items : Array Value} (xs : List Str) {Q : Value → Shared → Prop} (hh : A.handled = none) (hl : s.heap.IsList l items) (hit : StrsAre items.toList xs) (hb : xs.length + 1 < scanBound)
    (h : ∀ (h' : Heap) (tk : Nat), SetTx w h' s.heap.objs.size (dedT xs) → (∀ b o, s.heap.get? b = some o → h'.get? b = some o) → Q (.ref s.heap.objs.size) { s with heap := h', toks := tk }) :
    wpAny (model P w) A (call (.type "set") [.ref l]) Q E s := by
  have hsz : items.size = xs.length := by rw [← StrsAre.len_eq hit, Array.length_toList]
  have hlS : l < s.heap.objs.size := by obtain ⟨o, e, _⟩ := hl; exact Heap.lt_size e
  refine call_set_by (Good := fun h' => SetTx w h' s.heap.objs.size (dedT xs)) hl (fun R hR => ?_) h
  have hz1 : (s.heap.push (bareSet w)).objs.size = s.heap.objs.size + 1 := Heap.size_push _ _
  have hin : A.in1.in1.in1.handled = none := by simp [hh]
  have hneI : l ≠ (s.heap.push (bareSet w)).objs.size := by rw [hz1]; exact Nat.ne_of_lt (Nat.lt_succ_of_lt hlS)
  have hSf : s.heap.objs.size ∉ [(s.heap.push (bareSet w)).objs.size, l] := by
    rw [hz1]; simp only [List.mem_cons, List.not_mem_nil, or_false, not_or]
    exact ⟨Nat.ne_of_lt (Nat.lt_succ_self _), Nat.ne_of_gt hlS⟩
  have hset : ((s.heap.push (bareSet w)).push (walkOf l)).get? s.heap.objs.size = some (bareSet w) := Heap.get?_push_of_some _ (Heap.get?_push_size _ rfl)
  refine fill_T ((Walks.list hin _ l hneI items).toS) s.heap.objs.size hSf xs hsz hb (fun i v hv => ?_) (items.size - 0) 0 _ (by omega) (Nat.zero_le _)
    ⟨⟨_, Heap.get?_push_size _ rfl, rfl, rfl⟩, (hl.push _).push _⟩ (SetTx.new hset) fun s' hm hS => ?_
  · have hi : i < xs.length := by rw [← hsz]; exact (Array.getElem?_eq_some_iff.mp hv).1
    obtain ⟨t, e⟩ := SS.strs_at hit i v (by rw [Array.getElem?_toList]; exact hv)
    refine ⟨xs[i], t, List.getElem?_eq_getElem hi, ?_⟩
    rw [e, List.getD_eq_getElem?_getD, List.getElem?_eq_getElem hi] <;> rfl
  · obtain ⟨h', g', d', tk', os'⟩ := s'
    obtain rfl : g' = s.gens := hm.gens
    obtain rfl : d' = s.drawn := hm.drawn
    obtain rfl : os' = s.os := hm.os
    refine hR h' tk' (fun b o e => hm.heap b o ?_ (Heap.get?_push_of_some _ (Heap.get?_push_of_some _ e))) hS
    have hb0 : b < s.heap.objs.size := Heap.lt_size e
    simp only [List.mem_cons, List.not_mem_nil, or_false, not_or]
    exact ⟨Nat.ne_of_lt hb0, by rw [hz1]; exact Nat.ne_of_lt (Nat.lt_succ_of_lt hb0)⟩
/-! ### sorted(set) -/
theorem sorted_setT {a : Addr} {L : List Str} {Q : Value → Shared → Prop} (R : SetTx w s.heap a L) (hh : A.handled = none) (h64 : L.length < 64)
    (hQ : ∀ s' p (out : Array Value) (c : Nat) (ys : List Str), (∀ b o, s.heap.get? b = some o → s'.heap.get? b = some o) → s'.gens = s.gens → s'.os = s.os → s.heap.objs.size ≤ p →
      s'.heap.get? p = some (seqObj "list" out c) → StrsAre out.toList ys → ys.Perm L → sortedS ys = true → Q (.ref p) s') :
    wpAny (model P w) A (call (.builtin "sorted") [.ref a]) Q E s := by
  obtain ⟨o, es, ep, t, ho, hex, hd, g, pm, nd, hb, hf, hr, hl⟩ := R
  refine Calls.call_function_entry kind_sorted plain_sorted entry_sorted (args_sorted1 _) ?_
  unfold Builtin.«sorted»
  refine wpAny_bind (m := checkCount "sorted" 1 1 _) (wpAny_pure ?_)
  refine wpAny_bind (collect_set (A := A.in1) hh ⟨o, ho, hex.1, hd⟩ hf hb hr hl fun y vs k1 hz g1 o1 pv => ?_)
  have hlen : vs.length = L.length := by
    have e := pm.length_eq
    rw [List.length_map] at e
    rw [pv.length_eq, List.length_map, e]
  have hS : StrsAre vs (vs.map strOf) := strsAre_map vs fun v hv => by
    obtain ⟨e, he, rfl⟩ := List.mem_map.mp (pv.mem_iff.mp hv)
    obtain ⟨z, tk, h1, _⟩ := g e he
    exact ⟨z, tk, h1⟩
  have pL : (vs.map strOf).Perm L := by
    have q := pv.map strOf
    rw [List.map_map] at q
    refine q.trans ((List.Perm.of_eq (List.map_congr_left fun e he => ?_)).trans pm)
    obtain ⟨z, tk, h1, _⟩ := g e he
    show strOf e.2 = keyT e
    unfold keyT
    rw [h1]; rfl
  refine wpAny_bind (wpAny_newList ?_ (by rw [hlen, sizeLine_eq]; omega))
  have hoL : (y.heap.push (seqObj "list" vs.toArray 0)).get? y.heap.objs.size = some (seqObj "list" vs.toArray 0) := Heap.get?_push_size _ rfl
  refine wpAny_bind (wpAny_holding (wpAny_call_entry slot_list_sort ⟨_, hoL, rfl⟩ entry_list_sort
    (list_sort_treeK strKind_oneLt hoL hS.keysOf (fun u v rest e => keyKind_strs (by rw [← e]; exact hS)) (by rw [hlen]; exact h64) fun st' q1 q2 => ⟨_, rfl, ?_⟩) (args_list_sort _)))
  obtain ⟨ys, z1, z2, z3⟩ := sorted_out_str hS q1 q2
  obtain ⟨c, hc⟩ := sortedHeap_at (vs := vs) (out := (arrOf st').map (·.2)) hoL
  refine wpAny_pure ⟨_, rfl, hQ _ y.heap.objs.size _ c ys (fun b u e => ?_) g1 o1 hz hc z1 (z2.trans pL) z3⟩
  have q := k1 b u e
  have hlt := Heap.lt_size q
  show (sortedHeap (y.heap.push (seqObj "list" vs.toArray 0)) y.heap.objs.size vs ((arrOf st').map (·.2))).get? b = some u
  rw [sortedHeap_old (Nat.ne_of_lt hlt) (by rw [size_push']; exact Nat.lt_succ_of_lt hlt)]
  exact Heap.get?_push_of_some _ q
end
/-! ### the rules -/
def SetTO (w : World) (a : Addr) (L : List Str) : HO := .ext fun h => SetTx w h a L
section
variable {X : Cx}
theorem setTO_new {w : World} {P : Program} {H : Hp} {h : Heap} {a : Addr} {L : List Str} (R : SetTx w h a L) : ObjOk P w H h a (SetTO w a L) := by
  have ⟨o, _, _, _, ho, _⟩ := R
  exact ⟨R, ⟨o, ho⟩, fun _ _ p k => SetTx.at p k⟩
theorem setTO_get {pins : List (Addr × Obj)} {σ : L2.St} {H : Hp} {s : Shared} {a : Addr} {L : List Str} (I : Inv X pins σ H s) (ha : H a = some (SetTO X.w a L)) : SetTx X.w s.heap a L := (I.hok a _ ha).1
/-- set(xs), a list of texts -/
def rSetTx (K : PySem.W.Frag) (w : World) : List V → Hp → VK → Prop := fun vs H Q => ∃ (l : Addr) (xs : List Str), vs = [V.ref l] ∧ SqL K H l (xs.map V.str) ∧ xs.length < 1000 ∧
  ∀ p, H p = none → Q (.ref p) (upd H p (SetTO w p (dedT xs)))
theorem cr_setTx (hc : X.calm = true) : CallR X (.type "set") (rSetTx X.K X.w) := by
  intro pins s σ H vs us Q I r h
  obtain ⟨l, xs, rfl, hq, hn, q⟩ := h
  obtain ⟨its, rv, hl, _⟩ := I.list hq
  rw [Vals.ref1 r]
  refine call_set_texts xs (I.ok.hd hc) hl.isList (by simpa using rv.strs) (Nat.lt_of_le_of_lt (Nat.succ_le_of_lt hn) (by decide)) fun h' tk hS hk => ?_
  exact ⟨.ref _, upd H s.heap.objs.size (SetTO X.w s.heap.objs.size (dedT xs)), I.laid (t' := tk) hk (Nat.le_refl _) (setTO_new hS), rfl, q _ (I.hok.fresh (Nat.le_refl _))⟩
/-- sorted(ts), a set of texts -/
def rSortedTx (w : World) : List V → Hp → VK → Prop := fun vs H Q => ∃ (a : Addr) (L : List Str), vs = [V.ref a] ∧ H a = some (SetTO w a L) ∧ L.length < 64 ∧
  ∀ (ys : List Str) (p : Addr), ys.Perm L → sortedS ys = true → H p = none → Q (.ref p) (upd H p (.lst (ys.map V.str)))
theorem cr_sortedTx (hc : X.calm = true) : CallR X (.builtin "sorted") (rSortedTx X.w) := by
  intro pins s σ H vs us Q I r h
  obtain ⟨a, L, rfl, ha, h64, q⟩ := h
  rw [Vals.ref1 r]
  refine sorted_setT (setTO_get I ha) (I.ok.hd hc) h64 fun s' p out c ys k g o hp hg hi pm hs => ?_
  have hlen : (ys.map V.str).length ≤ sizeLine := by rw [List.length_map, pm.length_eq, sizeLine_eq]; omega
  have hn : H p = none := I.hok.fresh hp
  have J : Inv X pins σ (upd H p (.lst (ys.map V.str))) { s with heap := s'.heap, gens := s'.gens, drawn := s'.drawn, toks := s'.toks } :=
    I.call (ch := []) (Un.laid k hp hn) (I.hok.laid k hp ⟨hlen, out.toList, c, vals_of_strs hi, hg⟩) (by rw [g]; exact I.bare) (fun _ z => nomatch z)
  have e : s' = { s with heap := s'.heap, gens := s'.gens, drawn := s'.drawn, toks := s'.toks } := by
    cases s'
    cases s
    cases o
    rfl
  rw [e]
  exact ⟨.ref p, _, J, rfl, q ys p pm hs hn⟩
/-- len(ts), a set of texts -/
def rLenTx (w : World) : List V → Hp → VK → Prop := fun vs H Q => ∃ (a : Addr) (L : List Str), vs = [V.ref a] ∧ H a = some (SetTO w a L) ∧ Q (.int L.length) H
theorem cr_lenTx : CallR X (.builtin "len") (rLenTx X.w) := by
  intro pins s σ H vs us Q I r h
  obtain ⟨a, L, rfl, ha, q⟩ := h
  rw [Vals.ref1 r]
  obtain ⟨o, es, ep, t, ho, hex, hd, g, pm, nd, hb, hf, _⟩ := setTO_get I ha
  have e : es.size = L.length := by
    have e := pm.length_eq
    rwa [List.length_map, Array.length_toList] at e
  refine call_len_set ho hex hd hf (by have : scanBound < 2 ^ 62 := by decide
                                       omega) ⟨.int L.length, H, I.tok _, ⟨_, by rw [e]⟩, q⟩
end
end Lr

set_option Elab.async false
set_option linter.all false
set_option maxRecDepth 100000
set_option maxHeartbeats 4000000
namespace Lr
open PySem PySem.Spec PyProof.Rows L2
/-! ### a comprehension over zip of which nothing is kept -/
theorem lcZ {K : PySem.W.Frag} {a b : Addr} {xs ys : List V} {g : TG} {tt : TT} {te : TE} {vs : List Nat} {σ : L2.St} {H1 : Hp} {D : Addr} {Qd : Hp → Prop}
    (src : SqL K H1 a xs) (src2 : SqL K H1 b ys) (hn : xs.length ≤ 100000) (hD : H1 D = none)
    (ht : ∀ (i : Nat) (x y : V) (T : Addr) (H : Hp), xs[i]? = some x → ys[i]? = some y → Same H1 H → H T = some (.tup [x, y]) → ∀ (Kn : Hp → Prop) (Ky : V → Hp → Prop), (∀ H2, Same H H2 → Kn H2) →
      g (.ref T) (wipe σ vs) H fun σ2 H2 => wipe σ2 vs = wipe σ vs ∧ tt σ2 H2 fun c H3 => if c = true then te σ2 H3 Ky else Kn H3)
    (hd : ∀ H', Same H1 H' → H' D = some (.lst []) → Qd H') :
    ∃ W : Nat → Nat → Hp → Prop, (∃ m, W 0 m (upd H1 D (.lst []))) ∧ ∀ i m H, W i m H →
      ((Itz K a b).stop i H ∧ Qd H) ∨ ((Itz K a b).go i H ∧ ∃ Nx : Hp → Prop, (∀ H', Nx H' → ∃ m', m' < m ∧ W (i + 1) m' H') ∧ ∀ x H', (Itz K a b).yld i H x H' → g x (wipe σ vs) H' fun σ2 H2 => wipe σ2 vs = wipe σ vs ∧ tt σ2 H2 fun b H3 =>
        if b = true then te σ2 H3 fun y H4 => ∃ acc, H4 D = some (.lst acc) ∧ acc.length < sizeLine ∧ Nx (upd H4 D (.lst (acc ++ [y]))) else Nx H3) := by
  refine lcW (walk_zip rfl) (fun _ => false) (fun _ => .non) hD (Nat.le_trans (Nat.min_le_left _ _) hn) (fun H e => ⟨e.seq src, e.seq src2⟩) ?_ (fun H' e h => hd H' e (by rw [h]; simp [gvn]))
  intro i x H H' hi e y
  obtain ⟨T, u, v, rfl, hT, rfl, hu, hv⟩ := y
  have s := Same.new (o := .tup [u, v]) hT
  refine ⟨s, fun Kn Ky kn _ => ?_⟩
  exact ht i u v T _ hu hv (e.trans s) upd_same Kn Ky (fun H2 s2 => kn H2 s2 rfl)
/-- each level up to the greatest is there -/
theorem level_there {os : List Str} {ps : List (Str × Str)} {Lv : Str → Int} {many : Nat} (hL : Lev ps os Lv) (M : ManyLv os Lv many) (hends : ∀ q ∈ ps, q.1 ∈ os ∧ q.2 ∈ os) :
    ∀ k, k < many → ∃ x ∈ os, Lv x = (many : Int) - 1 - (k : Int) := fun k => by
  induction k with
  | zero =>
    intro h
    obtain ⟨x, hx, e⟩ := M.2 h
    exact ⟨x, hx, by omega⟩
  | succ k ih =>
    intro h
    obtain ⟨x, hx, e⟩ := ih (by omega)
    obtain ⟨w, hw, e2⟩ := hL.ex x hx (by omega)
    exact ⟨w, (hends _ hw).2, by omega⟩
theorem layer_ne {os : List Str} {ps : List (Str × Str)} {Lv : Str → Int} {many : Nat} (hL : Lev ps os Lv) (M : ManyLv os Lv many) (hends : ∀ q ∈ ps, q.1 ∈ os ∧ q.2 ∈ os) {j : Nat} (hj : j < many) {L : List Str} (p : L.Perm (layF os Lv j)) : L ≠ [] := by
  obtain ⟨x, hx, e⟩ := level_there hL M hends (many - 1 - j) (by omega)
  exact List.ne_nil_of_mem (p.mem_iff.mpr (List.mem_filter.mpr ⟨hx, decide_eq_true (by omega)⟩))
theorem lay_mem {os : List Str} {Lv : Str → Int} {j : Nat} {L : List Str} (p : L.Perm (layF os Lv j)) (x : Str) : x ∈ L ↔ x ∈ os ∧ Lv x = (j : Int) := by
  rw [p.mem_iff]
  unfold layF
  rw [List.mem_filter, decide_eq_true_eq]
/-- the first layer leans on nothing -/
theorem low_none {os : List Str} {ps : List (Str × Str)} {Lv : Str → Int} (hL : Lev ps os Lv) (hends : ∀ q ∈ ps, q.1 ∈ os ∧ q.2 ∈ os) {n : Str} (hn : n ∈ os) (e : Lv n = 0) : lowersF ps n = [] := by
  cases h : lowersF ps n with
  | nil => rfl
  | cons w r =>
    have hw : (n, w) ∈ ps := lowersF_mem.mp (by rw [h]; exact List.mem_cons_self)
    have h1 := hL.lt n hn w hw
    have h2 := hL.nn w (hends _ hw).2
    omega
/-- the others lean on one of the layer ahead -/
theorem low_some {os : List Str} {ps : List (Str × Str)} {Lv : Str → Int} (hL : Lev ps os Lv) (hends : ∀ q ∈ ps, q.1 ∈ os ∧ q.2 ∈ os) {n : Str} (hn : n ∈ os) {j : Nat} (e : Lv n = ((j + 1 : Nat) : Int)) {L : List Str} (p : L.Perm (layF os Lv j)) :
    ((lowersF ps n).filter fun w => decide (w ∈ L)) ≠ [] := by
  obtain ⟨w, hw, e2⟩ := hL.ex n hn (by omega)
  refine List.ne_nil_of_mem (a := w) (List.mem_filter.mpr ⟨lowersF_mem.mpr hw, decide_eq_true ((lay_mem p w).mpr ⟨(hends _ hw).2, by omega⟩)⟩)
/-- no chain within a layer -/
theorem under_none {os : List Str} {ps : List (Str × Str)} {Lv : Str → Int} (hL : Lev ps os Lv) (hends : ∀ q ∈ ps, q.1 ∈ os ∧ q.2 ∈ os) {n : Str} {j : Nat} (e : Lv n = (j : Int)) {L fs : List Str} (p : L.Perm (layF os Lv j)) (hf : ∀ x, x ∈ fs ↔ Rch ps n x) :
    (fs.filter fun x => decide (x ≠ n) && decide (x ∈ L)) = [] := by
  refine List.filter_eq_nil_iff.mpr fun x hx z => ?_
  simp only [Bool.and_eq_true, decide_eq_true_eq] at z
  rcases rch_lt hL hends ((hf x).mp hx) with q | q
  · exact z.1 q
  · have := ((lay_mem p x).mp z.2).2
    omega
theorem cut_tail (xs : List Str) : cutV (xs.map V.str) (some 1) none = (xs.drop 1).map V.str := by
  unfold cutV
  have e1 : HT.sIx (xs.map V.str).length 0 (some (1 : Int)) = min 1 xs.length := by
    have e := HT.sIx_nat (xs.map V.str).length 0 1
    rw [List.length_map] at e
    rw [List.length_map]
    exact e.trans (by omega)
  have e2 : HT.sIx (xs.map V.str).length (xs.map V.str).length none = xs.length := by simp [HT.sIx]
  rw [e1, e2]
  cases xs with
  | nil => rfl
  | cons x xs =>
    rw [show min 1 (x :: xs).length = 1 by rw [List.length_cons]; omega]
    rw [← List.map_drop, List.drop_one, List.tail_cons, List.take_of_length_le (by rw [List.length_map, List.length_cons]; omega)]
/-- two that follow one another -/
theorem two_at {l : List Str} {i : Nat} {x y : V} (hx : (l.map V.str)[i]? = some x) (hy : ((l.drop 1).map V.str)[i]? = some y) : ∃ u v a b, l = u ++ a :: b :: v ∧ x = .str a ∧ y = .str b := by
  rw [List.getElem?_map] at hx hy
  rw [List.getElem?_drop] at hy
  cases ha : l[i]? with
  | none => rw [ha] at hx; cases hx
  | some a =>
    cases hb : l[1 + i]? with
    | none => rw [hb] at hy; cases hy
    | some b =>
      rw [ha] at hx
      rw [hb] at hy
      cases hx
      cases hy
      obtain ⟨h1, e1⟩ := List.getElem?_eq_some_iff.mp ha
      obtain ⟨h2, e2⟩ := List.getElem?_eq_some_iff.mp hb
      refine ⟨l.take i, l.drop (i + 2), a, b, ?_, rfl, rfl⟩
      have q1 : l.drop i = a :: l.drop (i + 1) := by rw [← e1, List.getElem_cons_drop]
      have q2 : l.drop (i + 1) = b :: l.drop (i + 2) := by
        have hlt : i + 1 < l.length := by omega
        have := List.getElem_cons_drop (as := l) (i := i + 1) hlt
        rw [← this]
        congr 1
        rw [← e2]
        congr 1
        omega
      rw [← q2, ← q1, List.take_append_drop]
end Lr

set_option Elab.async false
set_option linter.all false
set_option maxRecDepth 100000
set_option maxHeartbeats 4000000
namespace Lr
open PySem PySem.Spec PyProof.Rows L2
/-! ### chains by their steps -/
inductive Wk (ps : List Pr) (a : Str) : Nat → Str → Prop
  | z : Wk ps a 0 a
  | s {n : Nat} {b c : Str} : Wk ps a n b → (b, c) ∈ ps → Wk ps a (n + 1) c
/-- by so many steps, and by no fewer -/
def Dn (ps : List Pr) (a : Str) (n : Nat) (x : Str) : Prop := Wk ps a n x ∧ ∀ m, m < n → ¬ Wk ps a m x
section
variable {ps : List Pr} {a : Str}
theorem Dn.one {n m : Nat} {x : Str} (h : Dn ps a n x) (k : Dn ps a m x) : n = m := by
  rcases Nat.lt_trichotomy n m with c | c | c
  · exact absurd h.1 (k.2 n c)
  · exact c
  · exact absurd k.1 (h.2 m c)
theorem Dn.of {n : Nat} {x : Str} (h : Wk ps a n x) : ∃ m, m ≤ n ∧ Dn ps a m x := by
  induction n using Nat.strongRecOn with
  | _ n ih =>
    by_cases c : ∃ m, m < n ∧ Wk ps a m x
    · obtain ⟨m, hm, k⟩ := c
      obtain ⟨j, hj, d⟩ := ih m hm k
      exact ⟨j, by omega, d⟩
    · exact ⟨n, Nat.le_refl _, h, fun m hm k => c ⟨m, hm, k⟩⟩
theorem Dn.zero {x : Str} : Dn ps a 0 x ↔ x = a := by
  constructor
  · rintro ⟨h, _⟩
    cases h; rfl
  · rintro rfl
    exact ⟨.z, fun m h => absurd h (Nat.not_lt_zero _)⟩
theorem Dn.pred {n : Nat} {x : Str} (h : Dn ps a (n + 1) x) : ∃ y, Dn ps a n y ∧ (y, x) ∈ ps := by
  obtain ⟨w, no⟩ := h
  cases w with
  | @s _ y _ w2 hp => exact ⟨y, ⟨w2, fun m hm k => no (m + 1) (by omega) (.s k hp)⟩, hp⟩
theorem Dn.succ {n : Nat} {x : Str} : Dn ps a (n + 1) x ↔ (∃ y, Dn ps a n y ∧ (y, x) ∈ ps) ∧ ∀ m, m ≤ n → ¬ Dn ps a m x := by
  constructor
  · intro h
    exact ⟨h.pred, fun m hm k => by have := h.one k; omega⟩
  · rintro ⟨⟨y, hy, hp⟩, no⟩
    refine ⟨.s hy.1 hp, fun m hm k => ?_⟩
    obtain ⟨j, hj, d⟩ := Dn.of k
    exact no j (by omega) d
theorem Dn.down : ∀ {n : Nat} {x : Str}, Dn ps a n x → ∀ k, k ≤ n → ∃ y, Dn ps a k y := by
  intro n
  induction n with
  | zero => intro x h k hk; exact ⟨x, by rw [Nat.le_zero.mp hk]; exact h⟩
  | succ n ih =>
    intro x h k hk
    by_cases c : k = n + 1
    · exact ⟨x, c ▸ h⟩
    · obtain ⟨y, hy, _⟩ := h.pred
      exact ih hy k (by omega)
theorem Dn.len {n : Nat} {x : Str} (h : Dn ps a n x) : n ≤ ps.length := by
  have key : ∀ (n : Nat) (x : Str), Dn ps a n x → ∃ vs : List Str, vs.Nodup ∧ vs.length = n + 1 ∧ ∀ y ∈ vs, ∃ m, m ≤ n ∧ Dn ps a m y := by
    intro n
    induction n with
    | zero => exact fun x h => ⟨[x], by simp, rfl, fun y hy => ⟨0, Nat.le_refl _, by rw [List.mem_singleton.mp hy]; exact h⟩⟩
    | succ n ih =>
      intro x h
      obtain ⟨y, hy, _⟩ := h.pred
      obtain ⟨vs, v1, v2, v3⟩ := ih y hy
      refine ⟨x :: vs, List.nodup_cons.mpr ⟨fun hx => ?_, v1⟩, by rw [List.length_cons, v2], fun z hz => ?_⟩
      · obtain ⟨m, hm, k⟩ := v3 x hx
        have := h.one k
        omega
      · rcases List.mem_cons.mp hz with rfl | hz
        · exact ⟨_, Nat.le_refl _, h⟩
        · obtain ⟨m, hm, k⟩ := v3 z hz
          exact ⟨m, by omega, k⟩
  obtain ⟨vs, v1, v2, v3⟩ := key n x h
  have q := nodup_len vs (a :: ps.map (·.2)) v1 (fun y hy => by
    obtain ⟨m, _, k⟩ := v3 y hy
    cases k.1 with
    | z => exact List.mem_cons_self
    | s _ hp => exact List.mem_cons_of_mem _ (List.mem_map.mpr ⟨_, hp, rfl⟩))
  rw [List.length_cons, List.length_map] at q
  omega
theorem Wk.rch {n : Nat} {x : Str} (h : Wk ps a n x) : Rch ps a x := by
  induction h with
  | z => exact .refl
  | s _ hp ih => exact .step ih hp
theorem Rch.wk {x : Str} (h : Rch ps a x) : ∃ n, Wk ps a n x := by
  induction h with
  | refl => exact ⟨0, .z⟩
  | step _ hp ih =>
    obtain ⟨n, w⟩ := ih
    exact ⟨n + 1, .s w hp⟩
theorem rch_dn {x : Str} : Rch ps a x ↔ ∃ n, Dn ps a n x := by
  constructor
  · intro h
    obtain ⟨n, w⟩ := h.wk
    obtain ⟨m, _, d⟩ := Dn.of w
    exact ⟨m, d⟩
  · rintro ⟨n, d⟩
    exact d.1.rch
end
/-- a chain, told in full -/
structure PathF (ps : List Pr) (a : Str) (c : List Str) : Prop where
  hd : ∃ r, c = a :: r
  ch : ∀ u v x y, c = u ++ x :: y :: v → (x, y) ∈ ps
theorem PathF.one (ps : List Pr) (a : Str) : PathF ps a [a] :=
  ⟨⟨[], rfl⟩, fun u v x y h => by
    cases u with
    | nil => cases h
    | cons z u => cases u <;> cases h⟩
theorem PathF.snoc {ps : List Pr} {a y : Str} {c : List Str} (h : PathF ps a c) (hp : (lst1 c, y) ∈ ps) : PathF ps a (c ++ [y]) := by
  refine ⟨?_, fun u v x z e => ?_⟩
  · obtain ⟨r, rfl⟩ := h.hd
    exact ⟨r ++ [y], rfl⟩
  · rcases List.eq_nil_or_concat v with ev | ⟨v', t, ev⟩
    · subst ev
      have e2 : c ++ [y] = (u ++ [x]) ++ [z] := by rw [e]; simp
      obtain ⟨e3, e4⟩ := List.append_inj' e2 rfl
      simp only [List.cons.injEq, and_true] at e4
      rw [← e4]
      rw [e3, lst1_snoc] at hp
      exact hp
    · rw [List.concat_eq_append] at ev
      subst ev
      have e2 : c ++ [y] = (u ++ x :: z :: v') ++ [t] := by rw [e]; simp
      exact h.ch u v' x z (List.append_inj' e2 rfl).1
theorem cst_app {x : Str} {path : List Str} : ∀ (l : List Pr) (sw : List Str × List (List Str)),
    ∃ N, (l.foldl (cst x path) sw).2 = sw.2 ++ N ∧ ∀ w ∈ N, ∃ y, w = path ++ [y] ∧ (x, y) ∈ l ∧ y ∉ sw.1
  | [], sw => ⟨[], by simp, fun _ h => nomatch h⟩
  | p :: l, sw => by
    rw [List.foldl_cons]
    obtain ⟨N, e, hN⟩ := cst_app (x := x) (path := path) l (cst x path sw p)
    by_cases c : p.1 = x ∧ p.2 ∉ sw.1
    · have ec : cst x path sw p = (sw.1 ++ [p.2], sw.2 ++ [path ++ [p.2]]) := if_pos c
      rw [ec] at e hN ⊢
      refine ⟨(path ++ [p.2]) :: N, by rw [e]; simp, fun w hw => ?_⟩
      rcases List.mem_cons.mp hw with rfl | hw
      · have hp : p = (x, p.2) := by rw [← c.1]
        exact ⟨p.2, rfl, by rw [← hp]; exact List.mem_cons_self, c.2⟩
      · obtain ⟨y, e1, e2, e3⟩ := hN w hw
        exact ⟨y, e1, List.mem_cons_of_mem _ e2, fun z => e3 (List.mem_append_left _ z)⟩
    · have ec : cst x path sw p = sw := if_neg c
      rw [ec] at e hN ⊢
      refine ⟨N, e, fun w hw => ?_⟩
      obtain ⟨y, e1, e2, e3⟩ := hN w hw
      exact ⟨y, e1, List.mem_cons_of_mem _ e2, e3⟩
/-- the search goes level by level -/
structure SI (ps : List Pr) (a : Str) (l : Nat) (seen : List Str) (u v : List (List Str)) : Prop where
  lu : ∀ w ∈ u, w.length = l + 1
  lv : ∀ w ∈ v, w.length = l + 2
  pa : ∀ w ∈ u ++ v, PathF ps a w ∧ Dn ps a (w.length - 1) (lst1 w)
  se : ∀ x m, m ≤ l → Wk ps a m x → x ∈ seen
  cl : ∀ x ∈ seen, (∃ w ∈ u ++ v, lst1 w = x) ∨ ∀ y, (x, y) ∈ ps → y ∈ seen
theorem SI.start (ps : List Pr) (a : Str) : SI ps a 0 [a] [[a]] [] := by
  refine ⟨fun w hw => by rw [List.mem_singleton.mp hw]; rfl, (fun _ h => nomatch h), fun w hw => ?_, fun x m hm h => ?_, fun x hx => .inl ⟨[a], by simp, (List.mem_singleton.mp hx).symm⟩⟩
  · have e : w = [a] := by simpa using hw
    subst e
    exact ⟨PathF.one ps a, Dn.zero.mpr rfl⟩
  · rw [Nat.le_zero.mp hm] at h
    cases h
    exact List.mem_singleton.mpr rfl
theorem SI.shift {ps : List Pr} {a : Str} {l : Nat} {seen : List Str} {v : List (List Str)} (h : SI ps a l seen [] v) : SI ps a (l + 1) seen v [] := by
  refine ⟨h.lv, (fun _ z => nomatch z), fun w hw => h.pa w (by simpa using hw), fun y m hm k => ?_, fun x hx => ?_⟩
  · by_cases c : m ≤ l
    · exact h.se y m c k
    · have em : m = l + 1 := by omega
      subst em
      cases k with
      | @s _ x _ k2 hp =>
        rcases h.cl x (h.se x l (Nat.le_refl _) k2) with ⟨w, hw, e⟩ | q
        · have hw' : w ∈ v := by simpa using hw
          have d := (h.pa w hw).2
          rw [h.lv w hw', e] at d
          exact absurd k2 (d.2 l (by omega))
        · exact q y hp
  · rcases h.cl x hx with ⟨w, hw, e⟩ | q
    · exact .inl ⟨w, by simpa using hw, e⟩
    · exact .inr q
theorem SI.turn {ps : List Pr} {a : Str} {l : Nat} {seen path : List Str} {u v : List (List Str)} (h : SI ps a l seen (path :: u) v) :
    ∃ N, (ps.foldl (cst (lst1 path) path) (seen, u ++ v)).2 = u ++ (v ++ N) ∧ SI ps a l (ps.foldl (cst (lst1 path) path) (seen, u ++ v)).1 u (v ++ N) := by
  obtain ⟨N, e, hN⟩ := cst_app (x := lst1 path) (path := path) ps (seen, u ++ v)
  have e' : (ps.foldl (cst (lst1 path) path) (seen, u ++ v)).2 = u ++ (v ++ N) := by rw [e, List.append_assoc]
  have hpl := h.lu path List.mem_cons_self
  obtain ⟨pp, pd'⟩ := h.pa path (by simp)
  rw [hpl] at pd'
  have up : ∀ y, y ∈ seen → y ∈ (ps.foldl (cst (lst1 path) path) (seen, u ++ v)).1 := fun y hy => (cst_seen ps _ _).mpr (.inl hy)
  refine ⟨N, e', fun w hw => h.lu w (List.mem_cons_of_mem _ hw), fun w hw => ?_, fun w hw => ?_, fun x m hm k => up x (h.se x m hm k), fun x hx => ?_⟩
  · rcases List.mem_append.mp hw with q | q
    · exact h.lv w q
    · obtain ⟨y, rfl, _, _⟩ := hN w q
      rw [List.length_append, hpl]; rfl
  · have hw' : w ∈ (u ++ v) ++ N := by rw [List.append_assoc]; exact hw
    rcases List.mem_append.mp hw' with q | q
    · exact h.pa w (List.mem_cons_of_mem _ q)
    · obtain ⟨y, rfl, hp, hns⟩ := hN w q
      refine ⟨pp.snoc hp, ?_⟩
      rw [List.length_append, hpl, lst1_snoc]
      exact ⟨.s pd'.1 hp, fun m hm k => hns (h.se y m (by simp at hm; omega) k)⟩
  · rw [← e']
    rcases cst_new ps _ x hx with q | ⟨w, hw, e2⟩
    · rcases h.cl x q with ⟨w, hw, e2⟩ | q2
      · rcases List.mem_cons.mp hw with rfl | hw
        · exact .inr fun y hy => (cst_seen ps _ _).mpr (.inr (by rw [e2]; exact hy))
        · exact .inl ⟨w, (cst_ws ps (seen, u ++ v) w).2 hw, e2⟩
      · exact .inr fun y hy => up y (q2 y hy)
    · exact .inl ⟨w, hw, e2⟩
theorem cgo_short {ps : List Pr} {a b : Str} : ∀ (fuel l : Nat) (seen : List Str) (u v : List (List Str)) (c : List Str), SI ps a l seen u v → cgo ps b fuel seen (u ++ v) = some c → PathF ps a c ∧ Dn ps a (c.length - 1) b ∧ lst1 c = b := by
  intro fuel
  induction fuel with
  | zero =>
    intro l seen u v c h e
    cases hw : u ++ v with
    | nil => rw [hw, cgo_nil] at e; cases e
    | cons p r => rw [hw] at e; cases e
  | succ fuel ih =>
    have main : ∀ (l : Nat) (seen : List Str) (path : List Str) (u v : List (List Str)) (c : List Str), SI ps a l seen (path :: u) v → cgo ps b (fuel + 1) seen (path :: (u ++ v)) = some c → PathF ps a c ∧ Dn ps a (c.length - 1) b ∧ lst1 c = b := by
      intro l seen path u v c h e
      rw [cgo_turn (by omega)] at e
      by_cases q : lst1 path = b
      · rw [if_pos q] at e
        cases e
        obtain ⟨p1, p2⟩ := h.pa path (by simp)
        rw [q] at p2
        exact ⟨p1, p2, q⟩
      · rw [if_neg q] at e
        obtain ⟨N, e1, h2⟩ := h.turn
        rw [e1] at e
        exact ih _ _ _ _ _ h2 e
    intro l seen u v c h e
    cases u with
    | cons path u => exact main l seen path u v c h e
    | nil =>
      cases v with
      | nil => rw [List.append_nil, cgo_nil] at e; cases e
      | cons path v =>
        refine main (l + 1) seen path v [] c h.shift ?_
        rw [List.append_nil]; exact e
theorem chainF_short {ps : List Pr} {a b : Str} {c : List Str} (h : chainF ps a b = some c) : PathF ps a c ∧ Dn ps a (c.length - 1) b ∧ lst1 c = b :=
  cgo_short _ _ _ [[a]] [] c (SI.start ps a) h
theorem chainF_none {ps : List Pr} {a b : Str} : chainF ps a b = none ↔ ∀ n, ¬ Dn ps a n b := by
  constructor
  · intro h n d
    have := (chainF_iff ps a b).mpr (rch_dn.mpr ⟨n, d⟩)
    rw [h] at this; cases this
  · intro h
    cases e : chainF ps a b with
    | none => rfl
    | some c =>
      obtain ⟨n, d⟩ := rch_dn.mp ((chainF_iff ps a b).mp (by rw [e]; rfl))
      exact absurd d (h n)
end Lr

set_option Elab.async false
set_option linter.all false
set_option maxRecDepth 100000
set_option maxHeartbeats 4000000
namespace Lr
open PySem PySem.Spec PyProof.Rows L2
/-! ### the law's own steps -/
def kSt (f : List (Str × Nat)) : List (Key × V) := f.map fun q => ((Sum.inr q.1 : Key), V.int (q.2 : Int))
theorem kSt_some {f : List (Str × Nat)} {x : Str} {n : Nat} (h : (f.map (·.1)).Nodup) (m : (x, n) ∈ f) : valV (kSt f) (Sum.inr x : Key) = some (.int (n : Int)) := by
  unfold valV kSt
  induction f with
  | nil => cases m
  | cons q f ih =>
    rw [List.map_cons, List.nodup_cons] at h
    rw [List.map_cons, List.find?_cons]
    rcases List.mem_cons.mp m with e | e
    · subst e
      simp
    · have ne : ¬ ((Sum.inr q.1 : Key) = Sum.inr x) := fun z => h.1 (by rw [Sum.inr.inj z]; exact List.mem_map.mpr ⟨_, e, rfl⟩)
      simp only [decide_eq_false ne]
      exact ih h.2 e
theorem kSt_none {f : List (Str × Nat)} {x : Str} (h : ∀ n, (x, n) ∉ f) : valV (kSt f) (Sum.inr x : Key) = none := by
  unfold valV kSt
  induction f with
  | nil => rfl
  | cons q f ih =>
    rw [List.map_cons, List.find?_cons]
    have ne : ¬ ((Sum.inr q.1 : Key) = Sum.inr x) := fun z => h q.2 (by rw [← Sum.inr.inj z]; exact List.mem_cons_self)
    simp only [decide_eq_false ne]
    exact ih fun n m => h n (List.mem_cons_of_mem _ m)
theorem kSt_put {f : List (Str × Nat)} {x : Str} {n : Nat} (h : ∀ m, (x, m) ∉ f) : putK (kSt f) (Sum.inr x : Key) (.int (n : Int)) = kSt (f ++ [(x, n)]) := by
  rw [putK_new _ (kSt_none h)]
  simp [kSt]
def inSt (f : List (Str × Nat)) (x : Str) : Bool := decide (x ∈ f.map (·.1))
theorem kSt_in (f : List (Str × Nat)) (x : Str) : (valV (kSt f) (Sum.inr x : Key)).isSome = inSt f x := by
  unfold inSt valV kSt
  induction f with
  | nil => rfl
  | cons q f ih =>
    rw [List.map_cons, List.find?_cons, List.map_cons]
    by_cases c : q.1 = x
    · have e : decide ((Sum.inr q.1 : Key) = Sum.inr x) = true := decide_eq_true (by rw [c])
      simp only [e]
      simp [c]
    · have ne : ¬ ((Sum.inr q.1 : Key) = Sum.inr x) := fun z => c (Sum.inr.inj z)
      simp only [decide_eq_false ne]
      rw [ih]
      have c' : ¬ x = q.1 := fun z => c z.symm
      simp [c']
/-- those that may come next -/
def candF (ps : List Pr) (L : List Str) (old : Str → Bool) : List Str := (ps.filter fun p => decide (p.1 ∈ L) && !old p.2).map (·.2)
theorem candF_mem {ps : List Pr} {L : List Str} {old : Str → Bool} {x : Str} : x ∈ candF ps L old ↔ (∃ y, y ∈ L ∧ (y, x) ∈ ps) ∧ old x = false := by
  unfold candF
  rw [List.mem_map]
  constructor
  · rintro ⟨p, hp, rfl⟩
    obtain ⟨h1, h2⟩ := List.mem_filter.mp hp
    simp only [Bool.and_eq_true, decide_eq_true_eq, Bool.not_eq_true'] at h2
    exact ⟨⟨p.1, h2.1, h1⟩, h2.2⟩
  · rintro ⟨⟨y, hy, hp⟩, h2⟩
    exact ⟨(y, x), List.mem_filter.mpr ⟨hp, by simp [hy, h2]⟩, rfl⟩
theorem candF_len (ps : List Pr) (L : List Str) (old : Str → Bool) : (candF ps L old).length ≤ ps.length := by
  unfold candF
  rw [List.length_map]
  exact List.length_filter_le _ _
theorem candF_pd (P : Ps) (L : List Str) (old : Str → Bool) : ((P.filter fun q => decide (q.2.1 ∈ L) && !old q.2.2).map fun q => V.str q.2.2) = (candF (pd P) L old).map V.str := by
  unfold candF pd
  rw [List.filter_map, List.map_map, List.map_map]; rfl
structure StI (ps : List Pr) (a : Str) (k : Nat) (f : List (Str × Nat)) (L : List Str) : Prop where
  nd : (f.map (·.1)).Nodup
  mem : ∀ x n, (x, n) ∈ f ↔ n ≤ k ∧ Dn ps a n x
  last : ∀ x, x ∈ L ↔ Dn ps a k x
theorem StI.start (ps : List Pr) (a : Str) : StI ps a 0 [(a, 0)] [a] := by
  refine ⟨by simp, fun x n => ?_, fun x => ?_⟩
  · rw [List.mem_singleton, Prod.mk.injEq]
    constructor
    · rintro ⟨rfl, rfl⟩; exact ⟨Nat.le_refl _, Dn.zero.mpr rfl⟩
    · rintro ⟨h1, h2⟩
      obtain rfl : n = 0 := by omega
      exact ⟨Dn.zero.mp h2, rfl⟩
  · rw [List.mem_singleton, Dn.zero]
theorem StI.in' {ps : List Pr} {a : Str} {k : Nat} {f : List (Str × Nat)} {L : List Str} (h : StI ps a k f L) (x : Str) : inSt f x = false ↔ ∀ m, m ≤ k → ¬ Dn ps a m x := by
  unfold inSt
  rw [decide_eq_false_iff_not, List.mem_map]
  constructor
  · intro q m hm d
    exact q ⟨(x, m), (h.mem x m).mpr ⟨hm, d⟩, rfl⟩
  · rintro q ⟨⟨y, m⟩, hm, rfl⟩
    obtain ⟨h1, h2⟩ := (h.mem y m).mp hm
    exact q m h1 h2
theorem StI.next {ps : List Pr} {a : Str} {k : Nat} {f : List (Str × Nat)} {L : List Str} (h : StI ps a k f L) (x : Str) : x ∈ candF ps L (inSt f) ↔ Dn ps a (k + 1) x := by
  rw [candF_mem, Dn.succ, h.in' x]
  refine and_congr_left fun _ => ?_
  exact ⟨fun ⟨y, hy, hp⟩ => ⟨y, (h.last y).mp hy, hp⟩, fun ⟨y, hy, hp⟩ => ⟨y, (h.last y).mpr hy, hp⟩⟩
theorem StI.step {ps : List Pr} {a : Str} {k : Nat} {f : List (Str × Nat)} {L L' : List Str} (h : StI ps a k f L) (nL : L'.Nodup) (hL : ∀ x, x ∈ L' ↔ x ∈ candF ps L (inSt f)) : StI ps a (k + 1) (f ++ L'.map fun x => (x, k + 1)) L' := by
  have hl : ∀ x, x ∈ L' ↔ Dn ps a (k + 1) x := fun x => (hL x).trans (h.next x)
  refine ⟨?_, fun x n => ?_, hl⟩
  · rw [List.map_append, List.map_map]
    have e : (L'.map ((fun q : Str × Nat => q.1) ∘ fun x => (x, k + 1))) = L' := by
      rw [show ((fun q : Str × Nat => q.1) ∘ fun x => (x, k + 1)) = id from rfl, List.map_id]
    rw [e]
    refine List.nodup_append.mpr ⟨h.nd, nL, fun x hx y hy exy => ?_⟩
    subst exy
    obtain ⟨⟨z, m⟩, hm, rfl⟩ := List.mem_map.mp hx
    obtain ⟨h1, h2⟩ := (h.mem z m).mp hm
    have := h2.one ((hl z).mp hy)
    omega
  · rw [List.mem_append, h.mem, List.mem_map]
    constructor
    · rintro (⟨h1, h2⟩ | ⟨y, hy, e⟩)
      · exact ⟨by omega, h2⟩
      · cases e
        exact ⟨Nat.le_refl _, (hl x).mp hy⟩
    · rintro ⟨h1, h2⟩
      by_cases c : n ≤ k
      · exact .inl ⟨c, h2⟩
      · obtain rfl : n = k + 1 := by omega
        exact .inr ⟨x, (hl x).mpr h2, rfl⟩
theorem StI.len {ps : List Pr} {a : Str} {k : Nat} {f : List (Str × Nat)} {L : List Str} (h : StI ps a k f L) : f.length ≤ ps.length + 1 := by
  have q := nodup_len (f.map (·.1)) (a :: ps.map (·.2)) h.nd (fun y hy => by
    obtain ⟨⟨z, m⟩, hm, rfl⟩ := List.mem_map.mp hy
    cases ((h.mem z m).mp hm).2.1 with
    | z => exact List.mem_cons_self
    | s _ hp => exact List.mem_cons_of_mem _ (List.mem_map.mpr ⟨_, hp, rfl⟩))
  rw [List.length_cons, List.length_map, List.length_map] at q
  exact q
theorem StI.turns {ps : List Pr} {a : Str} {k : Nat} {f : List (Str × Nat)} {L : List Str} (h : StI ps a k f L) (ne : L ≠ []) : k ≤ ps.length := by
  obtain ⟨x, hx⟩ := List.exists_mem_of_ne_nil _ ne
  exact ((h.last x).mp hx).len
theorem last_done {ps : List Pr} {a : Str} {k : Nat} (h : ∀ x, ¬ Dn ps a k x) {n : Nat} {x : Str} (d : Dn ps a n x) : n < k := by
  by_cases c : k ≤ n
  · obtain ⟨y, hy⟩ := d.down k c
    exact absurd hy (h y)
  · omega
theorem StI.done {ps : List Pr} {a : Str} {k : Nat} {f : List (Str × Nat)} (h : StI ps a k f []) (x : Str) (n : Nat) : (x, n) ∈ f ↔ Dn ps a n x := by
  rw [h.mem]
  refine ⟨fun q => q.2, fun d => ⟨?_, d⟩⟩
  have := last_done (fun x => by rw [← h.last x]; exact List.not_mem_nil) d
  omega
/-- by how many steps -/
structure FaI (ps : List Pr) (a b : Str) (k : Nat) (seen L : List Str) : Prop where
  mem : ∀ x, x ∈ seen ↔ ∃ n, n ≤ k ∧ Dn ps a n x
  last : ∀ x, x ∈ L ↔ Dn ps a k x
  no : ∀ m, m < k → ¬ Dn ps a m b
  len : seen.length ≤ (k + 1) * (ps.length + 1)
theorem FaI.start (ps : List Pr) (a b : Str) : FaI ps a b 0 [a] [a] := by
  refine ⟨fun x => ?_, fun x => by rw [List.mem_singleton, Dn.zero], (fun m hm => absurd hm (Nat.not_lt_zero _)), by simp⟩
  rw [List.mem_singleton]
  constructor
  · rintro rfl; exact ⟨0, Nat.le_refl _, Dn.zero.mpr rfl⟩
  · rintro ⟨n, hn, d⟩
    obtain rfl : n = 0 := by omega
    exact Dn.zero.mp d
theorem FaI.next {ps : List Pr} {a b : Str} {k : Nat} {seen L : List Str} (h : FaI ps a b k seen L) (x : Str) : x ∈ candF ps L (fun z => decide (z ∈ seen)) ↔ Dn ps a (k + 1) x := by
  rw [candF_mem, Dn.succ, decide_eq_false_iff_not, h.mem]
  refine and_congr ⟨fun ⟨y, hy, hp⟩ => ⟨y, (h.last y).mp hy, hp⟩, fun ⟨y, hy, hp⟩ => ⟨y, (h.last y).mpr hy, hp⟩⟩ ?_
  exact ⟨fun q m hm d => q ⟨m, hm, d⟩, fun q ⟨m, hm, d⟩ => q m hm d⟩
theorem FaI.step {ps : List Pr} {a b : Str} {k : Nat} {seen L L' : List Str} (h : FaI ps a b k seen L) (hb : b ∉ L) (hl2 : L'.length ≤ ps.length) (hL : ∀ x, x ∈ L' ↔ x ∈ candF ps L (fun z => decide (z ∈ seen))) : FaI ps a b (k + 1) (seen ++ L') L' := by
  have hl : ∀ x, x ∈ L' ↔ Dn ps a (k + 1) x := fun x => (hL x).trans (h.next x)
  refine ⟨fun x => ?_, hl, fun m hm d => ?_, ?_⟩
  · rw [List.mem_append, h.mem, hl]
    constructor
    · rintro (⟨n, hn, d⟩ | d)
      · exact ⟨n, by omega, d⟩
      · exact ⟨k + 1, Nat.le_refl _, d⟩
    · rintro ⟨n, hn, d⟩
      by_cases c : n ≤ k
      · exact .inl ⟨n, c, d⟩
      · obtain rfl : n = k + 1 := by omega
        exact .inr d
  · by_cases c : m < k
    · exact h.no m c d
    · obtain rfl : m = k := by omega
      exact hb ((h.last b).mpr d)
  · rw [List.length_append, Nat.succ_mul]
    have := h.len
    omega
theorem FaI.turns {ps : List Pr} {a b : Str} {k : Nat} {seen L : List Str} (h : FaI ps a b k seen L) (ne : L ≠ []) : k ≤ ps.length := by
  obtain ⟨x, hx⟩ := List.exists_mem_of_ne_nil _ ne
  exact ((h.last x).mp hx).len
theorem FaI.done {ps : List Pr} {a b : Str} {k : Nat} {seen : List Str} (h : FaI ps a b k seen []) (n : Nat) : ¬ Dn ps a n b := fun d => by
  have := last_done (fun x => by rw [← h.last x]; exact List.not_mem_nil) d
  exact h.no n this d
end Lr

set_option Elab.async false
set_option linter.all false
set_option maxRecDepth 100000
set_option maxHeartbeats 4000000
namespace Lr
open PySem PySem.Spec PyProof.Rows L2
/-! ### rings -/
theorem Wk.trans {ps : List Pr} {a b c : Str} {n k : Nat} (h : Wk ps a n b) (g : Wk ps b k c) : Wk ps a (n + k) c := by
  induction g with
  | z => exact h
  | s _ hp ih => exact .s ih hp
/-- along a chain: from its first to each of its things -/
theorem path_wk {ps : List Pr} : ∀ (u : List Str) (x y : Str) (v : List Str), (∀ p q s t, x :: u ++ [y] ++ v = p ++ s :: t :: q → (s, t) ∈ ps) → Wk ps x (u.length + 1) y := by
  intro u
  induction u with
  | nil =>
    intro x y v h
    exact .s .z (h [] v x y rfl)
  | cons z u ih =>
    intro x y v h
    have h1 : (x, z) ∈ ps := h [] (u ++ [y] ++ v) x z (by simp)
    have h2 := ih z y v fun p q s t e => h (x :: p) q s t (by
      show x :: (z :: u ++ [y] ++ v) = x :: (p ++ s :: t :: q)
      rw [e])
    have := Wk.trans (.s .z h1) h2
    rw [List.length_cons]
    rwa [show 0 + 1 + (u.length + 1) = u.length + 1 + 1 by omega] at this
theorem path_at {ps : List Pr} {c : List Str} (hc : ∀ u v x y, c = u ++ x :: y :: v → (x, y) ∈ ps) {i j : Nat} {x y : Str} (hi : c[i]? = some x) (hj : c[j]? = some y) (hij : i ≤ j) : Wk ps x (j - i) y := by
  by_cases e : i = j
  · subst e
    rw [hi] at hj
    cases hj
    rw [Nat.sub_self]
    exact .z
  · have hlt : i < j := by omega
    have ci := cut_here hi
    have hjl := (List.getElem?_eq_some_iff.mp hj).1
    have hj2 : (c.drop (i + 1))[j - (i + 1)]? = some y := by
      rw [List.getElem?_drop, show i + 1 + (j - (i + 1)) = j by omega]; exact hj
    have cj := cut_here hj2
    have hlen : ((c.drop (i + 1)).take (j - (i + 1))).length = j - (i + 1) := by rw [List.length_take, List.length_drop]; omega
    have w := path_wk ((c.drop (i + 1)).take (j - (i + 1))) x y ((c.drop (i + 1)).drop (j - (i + 1) + 1)) (fun p q s t e2 => hc (c.take i ++ p) q s t (by
      rw [List.append_assoc, ← e2]
      have e3 : x :: (c.drop (i + 1)).take (j - (i + 1)) ++ [y] ++ (c.drop (i + 1)).drop (j - (i + 1) + 1) = x :: c.drop (i + 1) := by
        have e4 : (c.drop (i + 1)).take (j - (i + 1)) ++ y :: (c.drop (i + 1)).drop (j - (i + 1) + 1) = c.drop (i + 1) := cj.symm
        show x :: ((c.drop (i + 1)).take (j - (i + 1)) ++ [y] ++ (c.drop (i + 1)).drop (j - (i + 1) + 1)) = x :: c.drop (i + 1)
        rw [List.append_assoc, List.singleton_append, e4]
      rw [e3]
      exact ci))
    rw [hlen] at w
    rwa [show j - (i + 1) + 1 = j - i by omega] at w
/-- each thing of a shortest chain is as far as it stands -/
theorem short_at {ps : List Pr} {a b : Str} {c : List Str} (hp : PathF ps a c) (hd : Dn ps a (c.length - 1) b) (hl : lst1 c = b) {i : Nat} {x : Str} (hi : c[i]? = some x) : Dn ps a i x := by
  have hlt := (List.getElem?_eq_some_iff.mp hi).1
  have h0 : c[0]? = some a := by
    obtain ⟨r, rfl⟩ := hp.hd
    rfl
  have hL : c[c.length - 1]? = some b := by
    rw [← hl, lst1, List.getLastD_eq_getLast?, List.getLast?_eq_getElem?]
    have : c.length - 1 < c.length := by omega
    rw [List.getElem?_eq_getElem this]; rfl
  have w1 := path_at hp.ch h0 hi (Nat.zero_le _)
  rw [Nat.sub_zero] at w1
  refine ⟨w1, fun m hm k => ?_⟩
  have w2 := path_at hp.ch hi hL (by omega)
  exact hd.2 (m + (c.length - 1 - i)) (by omega) (k.trans w2)
theorem short_nodup {ps : List Pr} {a b : Str} {c : List Str} (hp : PathF ps a c) (hd : Dn ps a (c.length - 1) b) (hl : lst1 c = b) : c.Nodup := by
  unfold List.Nodup
  rw [List.pairwise_iff_getElem]
  intro i j hi hj hij e
  have d1 := short_at hp hd hl (List.getElem?_eq_getElem hi)
  have d2 := short_at hp hd hl (List.getElem?_eq_getElem hj)
  rw [e] at d1
  have := d1.one d2
  omega
/-- a ring that a leaning of n on m would close -/
structure RingOk (ps : List Pr) (n m : Str) (ring : List Str) : Prop where
  nd : ring.Nodup
  hd : ∃ r, ring = n :: r
  ch : ∀ (i : Nat) (x y : Str), ring[i]? = some x → (ring.drop 1 ++ ring.take 1)[i]? = some y → (x, y) = (n, m) ∨ (x, y) ∈ ps
  far : Dn ps m (ring.length - 1) n
  len : ring.length ≤ ps.length + 1
theorem ring_ok {ps : List Pr} {n m : Str} {c : List Str} (h : chainF ps m n = some c) : RingOk ps n m (n :: c.dropLast) := by
  obtain ⟨hp, hd, hl⟩ := chainF_short h
  have hnd := short_nodup hp hd hl
  obtain ⟨r, ec⟩ := hp.hd
  have hc0 : c ≠ [] := by rw [ec]; exact List.cons_ne_nil _ _
  have hc1 : 0 < c.length := List.length_pos_iff.mpr hc0
  have eL : c = c.dropLast ++ [n] := by
    have := (List.dropLast_concat_getLast hc0).symm
    have e2 : c.getLast hc0 = n := by
      rw [← hl, lst1, List.getLastD_eq_getLast?, List.getLast?_eq_some_getLast hc0]; rfl
    rw [e2] at this; exact this
  have hlen : (n :: c.dropLast).length = c.length := by rw [List.length_cons, List.length_dropLast]; omega
  refine ⟨?_, ⟨_, rfl⟩, fun i x y hx hy => ?_, by rw [hlen]; exact hd, by rw [hlen]; have := hd.len; omega⟩
  · rw [List.nodup_cons]
    rw [eL, List.nodup_append] at hnd
    exact ⟨fun z => hnd.2.2 n z n (by simp) rfl, hnd.1⟩
  · have ey : ((n :: c.dropLast).drop 1 ++ (n :: c.dropLast).take 1) = c := by
      rw [List.drop_one, List.tail_cons, List.take_succ_cons, List.take_zero]; exact eL.symm
    rw [ey] at hy
    cases i with
    | zero =>
      rw [List.getElem?_cons_zero] at hx
      cases hx
      rw [ec] at hy
      cases hy
      exact .inl rfl
    | succ i =>
      rw [List.getElem?_cons_succ] at hx
      have hx2 : c[i]? = some x := by
        rw [eL, List.getElem?_append_left (List.getElem?_eq_some_iff.mp hx).1]; exact hx
      have ci := cut_here hx2
      have cj : c.drop (i + 1) = y :: c.drop (i + 2) := by
        obtain ⟨hl2, e2⟩ := List.getElem?_eq_some_iff.mp hy
        rw [← e2, List.getElem_cons_drop]
      rw [cj] at ci
      exact .inr (hp.ch _ _ _ _ ci)
section
variable {X : Cx} {K : PySem.W.Frag} {w : World}
theorem cr_setTxK (hc : X.calm = true) (hK : X.K = K := by rfl) (hw : X.w = w := by rfl) : CallR X (.type "set") (rSetTx K w) := hK ▸ hw ▸ cr_setTx hc
theorem cr_sortedTxK (hc : X.calm = true) (hw : X.w = w := by rfl) : CallR X (.builtin "sorted") (rSortedTx w) := hw ▸ cr_sortedTx hc
theorem cr_lenTxK (hw : X.w = w := by rfl) : CallR X (.builtin "len") (rLenTx w) := hw ▸ cr_lenTx
end
end Lr

set_option Elab.async false
set_option linter.all false
set_option maxRecDepth 100000
set_option maxHeartbeats 4000000
namespace Lr
open PySem PySem.Spec PyProof.Rows L2
/-! ### a set of tuples of texts, no two alike: how many -/
abbrev ph (P : Program) (w : World) (k : List Str) : Int := tupleKeyHash (PySem.strKind P w) k
abbrev IsP (P : Program) (w : World) (h : Heap) (k : List Str) (a : Addr) : Prop := IsTupleKey (PySem.strKind P w) h k a
section
variable {P : Program} {w : World} {A : Around} {E : Value → Shared → Prop} {s : Shared}
theorem items_str {k : List Str} {vs : List Value} (h : ItemsAre (PySem.strKind P w) k vs) : ∀ v ∈ vs, ∃ z t, v = Value.str z t := by
  induction h with
  | nil => exact fun v hv => nomatch hv
  | cons q _ ih =>
    intro v hv
    rcases List.mem_cons.mp hv with rfl | hv
    · obtain ⟨t, e⟩ := Value.isStrOf_shape q
      exact ⟨_, t, e⟩
    · exact ih v hv
theorem noclass_str (n : Nat) (z : Str) (t : Tok) : ofAClassStatement n (.str z t) = pure false := by cases n <;> rfl
theorem noclass_pair {k : List Str} {b : Addr} {Q : Bool → Shared → Prop} (hk : IsP P w s.heap k b) (h : Q false s) : wpAny (model P w) A (ofAClassStatement 8 (.ref b)) Q E s := by
  have ty := hk.typeIs
  obtain ⟨o, items, n, ho, _, hd, hi⟩ := hk
  unfold ofAClassStatement
  refine wpAny_bind (wpAny_typeOf ty ?_)
  dsimp only
  have e : (("tuple" : String) == "tuple") = true := by decide
  simp only [e, if_true, Bool.not_true, Bool.false_eq_true, if_false]
  try refine wpAny_bind (wpAny_pure ?_)
  try simp only [Bool.not_true, Bool.false_eq_true, if_false]
  show wpAny _ _ (seqItems? (.ref b) >>= _) _ _ s
  refine wpAny_bind (wpAny_seqItems ho hd ?_)
  dsimp only
  refine wpAny_bind ?_
  show wpAny _ _ (forIn items _ _) _ _ s
  rw [← Array.forIn_toList]
  refine wpAny_forIn_list _ (fun rest r s' => r.1 = none ∧ s' = s ∧ ∀ v ∈ rest, ∃ z t, v = Value.str z t) _ ?_ ?_ _ _ ⟨rfl, rfl, items_str hi⟩
  · rintro v rest r s' ⟨hr, rfl, hall⟩
    obtain ⟨z, t, rfl⟩ := hall v List.mem_cons_self
    rw [noclass_str]
    refine wpAny_bind (wpAny_pure ?_)
    simp only [Bool.false_eq_true, if_false]
    exact wpAny_pure ⟨rfl, rfl, fun u hu => hall u (List.mem_cons_of_mem _ hu)⟩
  · rintro ⟨r1, r2⟩ s' ⟨hr, rfl, _⟩
    simp only at hr
    subst hr
    exact wpAny_pure h
theorem byvalue_pair {k : List Str} {b : Addr} {Q : Bool → Shared → Prop} (hk : IsP P w s.heap k b) (h : ∀ c, Q c s) : wpAny (model P w) A (hashByValue 8 (.ref b)) Q E s := by
  have ty := hk.typeIs
  obtain ⟨o, items, n, ho, _, hd, hi⟩ := hk
  unfold hashByValue
  refine wpAny_bind (wpAny_specialOf ty F.slot_tuple_hash.lookup ?_)
  show wpAny _ _ (seqItems? (.ref b) >>= _) _ _ s
  refine wpAny_bind (wpAny_seqItems ho hd ?_)
  refine wpAny_bind ?_
  show wpAny _ _ (forIn items _ _) _ _ s
  rw [← Array.forIn_toList]
  refine wpAny_forIn_list _ (fun rest r s' => r.1 = none ∧ s' = s ∧ ∀ v ∈ rest, ∃ z t, v = Value.str z t) _ ?_ ?_ _ _ ⟨rfl, rfl, items_str hi⟩
  · rintro v rest r s' ⟨hr, rfl, hall⟩
    obtain ⟨z, t, rfl⟩ := hall v List.mem_cons_self
    rw [hashByValue_scannable _ rfl]
    refine wpAny_bind (wpAny_pure ?_)
    cases plainKind (.str z t) with
    | true =>
      simp only [Bool.not_true, Bool.false_eq_true, if_false]
      exact wpAny_pure ⟨rfl, rfl, fun u hu => hall u (List.mem_cons_of_mem _ hu)⟩
    | false =>
      simp only [Bool.not_false, if_true]
      exact wpAny_pure (wpAny_pure (h _))
  · rintro ⟨r1, r2⟩ s' ⟨hr, rfl, _⟩
    simp only at hr
    subst hr
    exact wpAny_pure (h _)
theorem unseen_pair {k : List Str} {b : Addr} {Q : Bool → Shared → Prop} (hk : IsP P w s.heap k b) {ys : List Value} (hy : ∀ y ∈ ys, ∃ k' c, y = Value.ref c ∧ IsP P w s.heap k' c) (h : Q false s) :
    wpAny (model P w) A (searchCouldBeSeen (.ref b) ys) Q E s := by
  unfold searchCouldBeSeen
  refine wpAny_bind ?_
  refine wpAny_forIn_list _ (fun rest r s' => r.1 = none ∧ s' = s ∧ ∀ y ∈ rest, ∃ k' c, y = Value.ref c ∧ IsP P w s.heap k' c) _ ?_ ?_ _ _ ⟨rfl, rfl, hy⟩
  · rintro v rest r s' ⟨hr, rfl, hall⟩
    obtain ⟨k', c, rfl, hc⟩ := hall v List.mem_cons_self
    have more : ∀ y ∈ rest, ∃ k' c, y = Value.ref c ∧ IsP P w s'.heap k' c := fun u hu => hall u (List.mem_cons_of_mem _ hu)
    dsimp only
    by_cases hv : (b == c || (carriedByValue (.ref b) && carriedByValue (.ref c))) = true
    · exact wp_if_pos hv (wpAny_pure ⟨rfl, rfl, more⟩)
    · refine wp_if_neg hv (wpAny_bind (wpAny_eqIsQuiet_tuple hk ?_))
      simp only [Bool.not_true, Bool.false_eq_true, if_false]
      refine wpAny_bind (wpAny_eqIsQuiet_tuple hc ?_)
      simp only [Bool.not_true, Bool.false_eq_true, if_false]
      refine wpAny_bind (noclass_pair hk ?_)
      simp only [Bool.false_eq_true, if_false]
      refine wpAny_bind (noclass_pair hc ?_)
      simp only [Bool.false_eq_true, if_false]
      exact wpAny_pure ⟨rfl, rfl, more⟩
  · rintro ⟨r1, r2⟩ s' ⟨hr, rfl, _⟩
    simp only at hr
    subst hr
    exact wpAny_pure h
end
/-- a set of tuples that are among ks -/
structure SetP (P : Program) (w : World) (h : Heap) (a : Addr) (ks : List (Addr × List Str)) (es : Array (Int × Value)) (ep : Nat) (t : SetTable) : Prop where
  ob : ∃ o, h.get? a = some o ∧ o.ExactSet ∧ o.data = .set es ep t
  each : ∀ e ∈ es.toList, ∃ q ∈ ks, e = (ph P w q.2, Value.ref q.1) ∧ IsP P w h q.2 q.1
  tab : TabOk t (es.toList.map (·.1))
  led : w.params.followText "set-order" = true ∨ t.led = true
  room : es.size * 5 < t.mask * 3
  few : es.size < 64
theorem place_size {t : SetTable} {es : Array (Int × Value)} (T : TabOk t (es.toList.map (·.1))) : t.place.size = es.size := by
  have h := T.sz
  rwa [List.length_map, Array.length_toList] at h
theorem fits_of {t : SetTable} {es : Array (Int × Value)} (T : TabOk t (es.toList.map (·.1))) (h : es.size ≤ t.mask) : t.fits es.size = true := by
  have e := place_size T
  unfold SetTable.fits SetTable.fill
  rw [T.dm, Bool.and_eq_true, beq_iff_eq, decide_eq_true_eq]
  show t.place.size = es.size ∧ t.place.size + 0 ≤ t.mask
  omega
theorem nth_undummy (m : Nat) : ∀ (n : Nat) (p : SetTable.Probe), p.dummy = none → (nth m p n).dummy = none
  | 0, _, h => h
  | n + 1, p, h => nth_undummy m n (adv m p) (by unfold adv; split <;> exact h)
section
variable {P : Program} {w : World} {A : Around} {E : Value → Shared → Prop} {s : Shared} {a x : Addr} {ks : List (Addr × List Str)} {k : List Str} {es : Array (Int × Value)} {ep : Nat} {t : SetTable}
theorem SetP.fits {h : Heap} (R : SetP P w h a ks es ep t) : t.fits es.size = true := fits_of R.tab (by have := R.room; omega)
/-- the search for one that isn't there ends at the first free place -/
theorem seekP (R : SetP P w s.heap a ks es ep t) (hx : IsP P w s.heap k x) (hu : A.units < cLine) (fresh : ∀ q ∈ ks, q.2 ≠ k) {K : Nat} (hKf : K < 10 * SetTable.turns t.mask)
    (hK : way t.mask (ph P w k) K ∉ t.place.toList) (hKb : ∀ c, c < K → way t.mask (ph P w k) c ∈ t.place.toList) {Q : SetFound → Shared → Prop} (q : Q (.free (way t.mask (ph P w k) K) false) s) :
    ∀ (f c : Nat) (stand : Option SetTable.Probe), stand.getD (t.probeStart (ph P w k)) = nth t.mask (runAt t.mask (SetTable.bits (ph P w k) % (t.mask + 1)) (SetTable.bits (ph P w k))) c → c ≤ K → K - c < f →
      wpAny (model P w) A (setSearchFrom a (.ref x) (ph P w k) true f stand) Q E s := by
  obtain ⟨o, ho, hex, hd⟩ := R.ob
  intro f
  induction f with
  | zero => exact fun c stand _ _ h => absurd h (Nat.not_lt_zero _)
  | succ f ih =>
    intro c stand hst hc hf
    rw [setSearchFrom_succ]
    refine wpAny_bind (wpAny_setState_of ho hd R.fits ?_)
    dsimp only
    refine wp_if_neg (by unfold SetTable.gaveWay; rw [mask_odd R.tab.mok]; decide) ?_
    try refine wpAny_bind (wpAny_pure ?_)
    have step : ∀ n, nth t.mask (nth t.mask (runAt t.mask (SetTable.bits (ph P w k) % (t.mask + 1)) (SetTable.bits (ph P w k))) c) n = nth t.mask (runAt t.mask (SetTable.bits (ph P w k) % (t.mask + 1)) (SetTable.bits (ph P w k))) (c + n) := fun n => (nth_add t.mask c _ n).symm
    have spot : ∀ n, (nth t.mask (nth t.mask (runAt t.mask (SetTable.bits (ph P w k) % (t.mask + 1)) (SetTable.bits (ph P w k))) c) n).j = way t.mask (ph P w k) (c + n) := fun n => congrArg SetTable.Probe.j (step n)
    have eK : c + (K - c) = K := by omega
    rcases go_spec t R.tab.ris R.tab.dm (fun i => (es[i]?.map (·.1)).getD 0) (ph P w k) (10 * SetTable.turns t.mask) (K - c) _ (nth_undummy t.mask c _ rfl) (by omega) (fun n hn => by rw [spot]; exact hKb (c + n) (by omega)) (by rw [spot, eK]; exact hK) with
      ⟨n, i, hn, hi, _, _, hpr⟩ | ⟨_, hpr⟩
    · have hpr2 : t.probe (fun i => (es[i]?.map (·.1)).getD 0) (ph P w k) (stand.getD (t.probeStart (ph P w k))) = some (.candidate (way t.mask (ph P w k) (c + n)) i (nth t.mask (runAt t.mask (SetTable.bits (ph P w k) % (t.mask + 1)) (SetTable.bits (ph P w k))) (c + (n + 1)))) := by
        rw [hst, ← spot, ← step]
        exact hpr
      rw [hpr2]
      dsimp only
      rw [spot] at hi
      have hil : i < es.size := by
        have h1 := (List.getElem?_eq_some_iff.mp hi).1
        rw [Array.length_toList, place_size R.tab] at h1
        exact h1
      have hent : es[i]? = some es[i] := Array.getElem?_eq_getElem hil
      obtain ⟨⟨b, k'⟩, hk', ee, hb⟩ := R.each es[i] (Array.getElem_mem_toList hil)
      dsimp only at ee hb
      rw [ee] at hent
      have hne : k' ≠ k := fresh _ hk'
      have hsl : t.slot (way t.mask (ph P w k) (c + n)) = .live i := slot_live R.tab.ris hi
      have rest : wpAny (model P w) A (searchRest a (.ref x) (ph P w k) true f es t (way t.mask (ph P w k) (c + n)) i (nth t.mask (runAt t.mask (SetTable.bits (ph P w k) % (t.mask + 1)) (SetTable.bits (ph P w k))) (c + (n + 1)))) Q E s := by
        unfold searchRest
        rw [hent]
        dsimp only
        refine wpAny_bind (wpAny_holding (wpAny_eqBool_tuple hu hb hx ?_))
        rw [decide_eq_false hne]
        refine wpAny_bind (wpAny_setState_of ho hd R.fits ?_)
        dsimp only
        refine wp_if_neg (by simp) ?_
        try refine wpAny_bind (wpAny_pure ?_)
        rw [sameMem]
        dsimp only
        simp only [if_true, hsl, hent]
        refine wpAny_bind (wpAny_isSame_ref_self (wpAny_bind (wpAny_pure ?_)))
        simp only [if_true]
        refine wp_if_neg (by simp) ?_
        exact ih (c + (n + 1)) _ rfl (by omega) (by omega)
      by_cases hl : t.led = true
      · refine wp_if_neg (by simp [hl]) ?_
        try refine wpAny_bind (wpAny_pure ?_)
        exact rest
      · refine wp_if_pos (by simp [hl]) ?_
        refine wpAny_bind (unseen_pair hx (fun y hy => ?_) ?_)
        · obtain ⟨e, he, rfl⟩ := List.mem_map.mp hy
          have he1 : e ∈ es ∧ e.1 = ph P w k := by simpa using he
          obtain ⟨q2, _, rfl, hb2⟩ := R.each e (by simpa using he1.1)
          exact ⟨q2.2, q2.1, rfl, hb2⟩
        · refine wp_if_neg (by decide) ?_
          try refine wpAny_bind (wpAny_pure ?_)
          exact rest
    · have hpr2 : t.probe (fun i => (es[i]?.map (·.1)).getD 0) (ph P w k) (stand.getD (t.probeStart (ph P w k))) = some (.empty (way t.mask (ph P w k) K) none) := by
        have e2 : way t.mask (ph P w k) K = (nth t.mask (nth t.mask (runAt t.mask (SetTable.bits (ph P w k) % (t.mask + 1)) (SetTable.bits (ph P w k))) c) (K - c)).j := by rw [spot, eK]
        rw [hst, e2]
        exact hpr
      rw [hpr2]
      dsimp only
      exact wpAny_pure q
theorem SetP.gone {h h' : Heap} {b : Addr} {o : Obj} (hb : IsP P w h k b) (ho : h.get? a = some o) (hd : o.data = .set es ep t) (sb : Heap.SameBut a h h') : IsP P w h' k b := by
  obtain ⟨o2, items, n, ho2, hc, hd2, hi⟩ := hb
  have hne : b ≠ a := fun z => by
    rw [z, ho] at ho2
    cases ho2
    rw [hd] at hd2
    cases hd2
  exact ⟨o2, items, n, (sb.2 b hne).trans ho2, hc, hd2, hi⟩
theorem order_any (es : Array (Int × Value)) (order : Array Nat) (hp : order.toList.Perm (List.range es.size)) :
    (order.filterMap (es[·]?)).toList.Perm es.toList ∧ (order.filterMap (es[·]?)).toList.map (·.1) = order.toList.map fun i => (es.map (·.1)).getD i 0 := by
  have at' : ∀ i, i < es.size → es[i]? = some ((es[i]?).getD (0, .none)) := fun i hi => by rw [Array.getElem?_eq_getElem hi]; rfl
  have fm : ∀ l : List Nat, (∀ i ∈ l, i < es.size) → l.filterMap (fun i => es[i]?) = l.map fun i => (es[i]?).getD (0, .none) := fun l => by
    induction l with
    | nil => intro _; rfl
    | cons i l ih =>
      intro hl
      rw [List.filterMap_cons_some (at' i (hl i List.mem_cons_self)), ih fun j hj => hl j (List.mem_cons_of_mem _ hj), List.map_cons]
  have hin : ∀ i ∈ order.toList, i < es.size := fun i hi => List.mem_range.mp (hp.mem_iff.mp hi)
  have e0 : (order.filterMap (es[·]?)).toList = order.toList.map fun i => (es[i]?).getD (0, .none) := by rw [← fm _ hin]; simp
  have e1 : (List.range es.size).map (fun i => (es[i]?).getD (0, .none)) = es.toList := by
    refine List.ext_getElem (by simp) fun i h1 h2 => ?_
    rw [Array.length_toList] at h2
    rw [List.getElem_map, List.getElem_range, Array.getElem?_eq_getElem h2]; rfl
  refine ⟨by rw [e0, ← e1]; exact hp.map _, ?_⟩
  rw [e0, List.map_map]
  refine List.map_congr_left fun i hi => ?_
  have h := hin i hi
  simp [Array.getD_eq_getD_getElem?, h]
theorem relayP {o : Obj} (ho : s.heap.get? a = some o) (hex : o.ExactSet) (hd : o.data = .set es ep t) (each : ∀ e ∈ es.toList, ∃ q ∈ ks, e = (ph P w q.2, Value.ref q.1) ∧ IsP P w s.heap q.2 q.1) (T0 : TabOk t (es.toList.map (·.1))) (hfl : es.size ≤ t.mask)
    (ld : w.params.followText "set-order" = true ∨ t.led = true) (few : es.size < 64) {wanted M : Nat} (hw : SetTable.sizeAbove wanted - 1 = M) (hM : MaskOk M) (hw2 : SetTable.sizeAbove wanted ≤ 128) (hn : es.size * 5 < M * 3) {Q : Unit → Shared → Prop}
    (hQ : ∀ h' fs ep' t', Heap.SameBut a s.heap h' → SetP P w h' a ks fs ep' t' → fs.size = es.size → Q () { s with heap := h' }) : wpAny (model P w) A (setRelay a wanted) Q E s := by
  obtain ⟨t', order, e, hp, T, em, el, _, _⟩ := relaid_ok t (hs := es.map (·.1)) (wanted := wanted) hw hM (by rw [Array.size_map]; omega)
  rw [Array.size_map] at hp
  obtain ⟨r1, r2⟩ := order_any es order hp
  rw [← r2] at T
  have hsz : (order.filterMap (es[·]?)).size = es.size := by
    have h := r1.length_eq
    rwa [Array.length_toList, Array.length_toList] at h
  rw [setRelay_eq]
  refine wpAny_bind (wpAny_setState_of ho hd (fits_of T0 hfl) ?_)
  dsimp only
  refine wp_if_neg (by rw [sizeLine_eq]; omega) ?_
  try refine wpAny_bind (wpAny_pure ?_)
  rw [e]
  dsimp only
  refine wpAny_bind ?_
  refine wp_if_neg (by rw [hsz]; simp) ?_
  try refine wpAny_bind (wpAny_pure ?_)
  refine wpAny_pure ?_
  dsimp only
  refine wpAny_storeSet_of ho hd ?_ (by rw [hsz, sizeLine_eq]; omega)
  have sb : Heap.SameBut a s.heap (s.heap.update a (Obj.putSet (order.filterMap (es[·]?)) t')) := Heap.SameBut.update ..
  refine hQ _ _ (ep + 1) t' sb ⟨⟨_, store_at ho hd, ⟨hex.1, hex.2.1, hex.2.2⟩, rfl⟩, fun z hz => ?_, T, by rw [el]; exact ld, by rw [hsz, em]; exact hn, by rw [hsz]; exact few⟩ hsz
  obtain ⟨q, q1, q2, q3⟩ := each z (r1.mem_iff.mp hz)
  exact ⟨q, q1, q2, SetP.gone q3 ho hd sb⟩
theorem tab_unplain {hs : List Int} (T : TabOk t hs) : TabOk { t with plain := false } hs := ⟨T.ris, T.dm, T.sz, T.mok, T.bd, T.reach⟩
theorem searchP (R : SetP P w s.heap a ks es ep t) (hx : IsP P w s.heap k x) (hu : A.units < cLine) (fresh : ∀ q ∈ ks, q.2 ≠ k) {K : Nat} (hKf : K < 10 * SetTable.turns t.mask)
    (hK : way t.mask (ph P w k) K ∉ t.place.toList) (hKb : ∀ c, c < K → way t.mask (ph P w k) c ∈ t.place.toList) {Q : SetFound → Shared → Prop} (q : Q (.free (way t.mask (ph P w k) K) false) s) :
    wpAny (model P w) A (setSearch a (.ref x) (ph P w k) true) Q E s := by
  have hbig : K < 100000 := by
    have : 10 * SetTable.turns t.mask ≤ 1420 := by
      unfold SetTable.turns
      rcases R.tab.mok with e | e | e <;> omega
    omega
  unfold setSearch
  exact seekP R hx hu fresh hKf hK hKb q 100000 0 none rfl (Nat.zero_le _) (by omega)
/-- the end of an add -/
theorem tailP {o : Obj} (ho : s.heap.get? a = some o) (hex : o.ExactSet) (hd : o.data = .set es ep t) (hmo : MaskOk t.mask) (hroom : es.size * 5 < t.mask * 3) (hfew : es.size + 1 < 64) {fs : Array (Int × Value)} {t2 : SetTable} {ls : List (Addr × List Str)}
    (hfs : fs.size = es.size + 1) (each : ∀ e ∈ fs.toList, ∃ q ∈ ls, e = (ph P w q.2, Value.ref q.1) ∧ IsP P w s.heap q.2 q.1) (T : TabOk t2 (fs.toList.map (·.1))) (em : t2.mask = t.mask) (ef : t2.fill = es.size + 1)
    (ld : w.params.followText "set-order" = true ∨ t2.led = true) {Q : Bool → Shared → Prop}
    (hQ : ∀ h' gs ep' t', Heap.SameBut a s.heap h' → SetP P w h' a ls gs ep' t' → gs.size = es.size + 1 → Q true { s with heap := h' }) :
    wpAny (model P w) A (do
      storeSet a fs t2
      if (!false && t2.tooFull) = true then do
          setRelay a (SetTable.grown (es.size + 1))
          pure true
        else pure true) Q E s := by
  have hlt : es.size + 1 ≤ t.mask := by rcases hmo with e | e | e <;> omega
  refine wpAny_bind (wpAny_storeSet_of ho hd ?_ (by rw [hfs, sizeLine_eq]; omega))
  have sb : Heap.SameBut a s.heap (s.heap.update a (Obj.putSet fs t2)) := Heap.SameBut.update ..
  have ho1 := store_at (es' := fs) (t' := t2) ho hd
  have each1 : ∀ e ∈ fs.toList, ∃ q ∈ ls, e = (ph P w q.2, Value.ref q.1) ∧ IsP P w (s.heap.update a (Obj.putSet fs t2)) q.2 q.1 := fun e he => by
    obtain ⟨q, q1, q2, q3⟩ := each e he
    exact ⟨q, q1, q2, SetP.gone q3 ho hd sb⟩
  generalize s.heap.update a (Obj.putSet fs t2) = h1 at sb ho1 each1 ⊢
  by_cases hf : t2.tooFull = true
  · refine wp_if_pos (by simp [hf]) ?_
    have hfull : (es.size + 1) * 5 ≥ t.mask * 3 := by
      have h := hf
      unfold SetTable.tooFull at h
      rw [decide_eq_true_eq, ef, em] at h
      exact h
    have go : ∀ M, SetTable.sizeAbove (SetTable.grown (es.size + 1)) - 1 = M → MaskOk M → SetTable.sizeAbove (SetTable.grown (es.size + 1)) ≤ 128 → (es.size + 1) * 5 < M * 3 →
        wpAny (model P w) A (setRelay a (SetTable.grown (es.size + 1)) >>= fun _ => pure true) Q E { s with heap := h1 } := fun M h1' h2' h3' h4' => by
      refine wpAny_bind (relayP (s := { s with heap := h1 }) ho1 ⟨hex.1, hex.2.1, hex.2.2⟩ rfl each1 T (by rw [hfs, em]; exact hlt) ld (by rw [hfs]; exact hfew) h1' h2' h3' (by rw [hfs]; exact h4') fun h2 gs ep2 t3 sb2 R2 e2 => ?_)
      exact wpAny_pure (hQ h2 gs ep2 t3 (sb.trans sb2) R2 (e2.trans hfs))
    rcases hmo with e | e | e
    · have e2 : es.size + 1 = 5 := by omega
      rw [e2] at go ⊢
      exact go 31 (by rw [size_20]) (.inr (.inl rfl)) (by rw [size_20]; decide) (by decide)
    · have e2 : es.size + 1 = 19 := by omega
      rw [e2] at go ⊢
      exact go 127 (by rw [size_76]) (.inr (.inr rfl)) (by rw [size_76]; decide) (by decide)
    · exfalso; omega
  · refine wp_if_neg (by simp [hf]) ?_
    have hfull : (es.size + 1) * 5 < t.mask * 3 := by
      have h := hf
      unfold SetTable.tooFull at h
      rw [decide_eq_true_eq, ef, em] at h
      omega
    exact wpAny_pure (hQ h1 fs (ep + 1) t2 sb ⟨⟨_, ho1, ⟨hex.1, hex.2.1, hex.2.2⟩, rfl⟩, each1, T, ld, by rw [hfs, em]; exact hfull, by rw [hfs]; exact hfew⟩ hfs)
/-- one more that is unlike all -/
theorem addP (R : SetP P w s.heap a ks es ep t) (hx : IsP P w s.heap k x) (hu : A.units < cLine) (fresh : ∀ q ∈ ks, q.2 ≠ k) (hfew : es.size + 1 < 64) {Q : Bool → Shared → Prop}
    (hQ : ∀ h' fs ep' t', Heap.SameBut a s.heap h' → SetP P w h' a (ks ++ [(x, k)]) fs ep' t' → fs.size = es.size + 1 → Q true { s with heap := h' }) :
    wpAny (model P w) A (setAddHashed a (.ref x) (ph P w k)) Q E s := by
  obtain ⟨o, ho, hex, hd⟩ := R.ob
  have hroom := R.room
  unfold setAddHashed
  refine wpAny_holding ?_
  rw [show (100000 : Nat) = 99999 + 1 from rfl, setAddHashedIn_succ]
  refine wpAny_bind (wpAny_setState_of ho hd R.fits ?_)
  dsimp only
  refine wp_if_neg (by simp [byScan, Value.scannable]) ?_
  try refine wpAny_bind (wpAny_pure ?_)
  obtain ⟨K, hKf, hK, hKb⟩ := R.tab.first (by rw [List.length_map, Array.length_toList]; omega) (ph P w k)
  refine wpAny_bind (searchP R hx hu fresh hKf hK hKb ?_)
  dsimp only
  refine wpAny_bind (wpAny_setState_of ho hd R.fits ?_)
  dsimp only
  obtain ⟨q1, q2, q3, q4, q5, q6, q7, q8, q9⟩ := R.tab.put hK hKb
  generalize hpt : t.put (way t.mask (ph P w k) K) = pt at q1 q3 q4 q5 q6 q7 q8 q9 ⊢
  obtain ⟨t1, p⟩ := pt
  dsimp only at q1 q3 q4 q5 q6 q7 q8 q9 ⊢
  subst q1
  rw [List.length_map, Array.length_toList] at q2 q9
  have hin : (SetTable.insertAt es (SetTable.below t.place (way t.mask (ph P w k) K)) (ph P w k, Value.ref x)).toList = es.toList.take (SetTable.below t.place (way t.mask (ph P w k) K)) ++ (ph P w k, Value.ref x) :: es.toList.drop (SetTable.below t.place (way t.mask (ph P w k) K)) := SetTable.toList_insertAt _ _ _
  have hT : TabOk t1 ((SetTable.insertAt es (SetTable.below t.place (way t.mask (ph P w k) K)) (ph P w k, Value.ref x)).toList.map (·.1)) := by
    rw [hin, List.map_append, List.map_cons, List.map_take, List.map_drop]
    exact q3
  have hpm : (SetTable.insertAt es (SetTable.below t.place (way t.mask (ph P w k) K)) (ph P w k, Value.ref x)).toList.Perm ((ph P w k, Value.ref x) :: es.toList) := by
    rw [hin]
    refine List.perm_middle.trans ?_
    rw [List.take_append_drop]
  generalize SetTable.insertAt es (SetTable.below t.place (way t.mask (ph P w k) K)) (ph P w k, Value.ref x) = fs at hT hpm ⊢
  have hfs : fs.size = es.size + 1 := by
    have h := hpm.length_eq
    rwa [List.length_cons, Array.length_toList, Array.length_toList] at h
  have each1 : ∀ e ∈ fs.toList, ∃ q ∈ ks ++ [(x, k)], e = (ph P w q.2, Value.ref q.1) ∧ IsP P w s.heap q.2 q.1 := fun e he => by
    rcases List.mem_cons.mp (hpm.mem_iff.mp he) with rfl | he
    · exact ⟨(x, k), by simp, rfl, hx⟩
    · obtain ⟨q, z1, z2, z3⟩ := R.each e he
      exact ⟨q, List.mem_append_left _ z1, z2, z3⟩
  have ld1 : w.params.followText "set-order" = true ∨ t1.led = true := by rw [q5]; exact R.led
  have t1y := tailP (A := A) (E := E) ho hex hd R.tab.mok hroom hfew hfs each1 hT q4 q9 ld1 hQ
  have t1n := tailP (A := A) (E := E) ho hex hd R.tab.mok hroom hfew hfs each1 (tab_unplain hT) q4 q9 ld1 hQ
  by_cases hpl : t1.plain = true
  · refine wp_if_pos hpl (wpAny_bind (byvalue_pair hx fun c => ?_))
    cases c with
    | true => exact t1y
    | false => exact t1n
  · exact wp_if_neg hpl (wpAny_bind (wpAny_pure t1y))
theorem SetP.keep {h h' : Heap} (R : SetP P w h a ks es ep t) (ha : ∀ o, h.get? a = some o → h'.get? a = some o) (ht : ∀ q ∈ ks, IsP P w h' q.2 q.1) : SetP P w h' a ks es ep t := by
  obtain ⟨o, ho, r⟩ := R.ob
  refine ⟨⟨o, ha o ho, r⟩, fun e he => ?_, R.tab, R.led, R.room, R.few⟩
  obtain ⟨q, q1, q2, _⟩ := R.each e he
  exact ⟨q, q1, q2, ht q q1⟩
theorem SetP.new {h : Heap} (ho : h.get? a = some (bareSet w)) : SetP P w h a [] #[] 0 (.fresh 0 0 (!w.params.followText "set-order")) where
  ob := ⟨_, ho, ⟨rfl, rfl, rfl⟩, rfl⟩
  each := fun e he => by simp at he
  tab := ⟨List.Pairwise.nil, rfl, rfl, .inl rfl, (fun x hx => by cases hx), (fun i h j hi => by simp at hi)⟩
  led := by
    show _ ∨ (!w.params.followText "set-order") = true
    cases w.params.followText "set-order"
    · exact .inr rfl
    · exact .inl rfl
  room := by show 0 * 5 < 7 * 3; decide
  few := by show 0 < 64; decide
theorem isP_keep {h h' : Heap} {b : Addr} (hb : IsP P w h k b) (hk : ∀ c o, h.get? c = some o → h'.get? c = some o) : IsP P w h' k b := by
  obtain ⟨o, items, n, ho, r⟩ := hb
  exact ⟨o, items, n, hk b o ho, r⟩
end
section
variable {P : Program} {w : World} {A : Around} {E : Value → Shared → Prop} {s : Shared}
theorem fill_P {I : Addr} {fp wr : List Addr} {G : Array GenState → Array GenState → Prop} {n : Nat} {Pv : Nat → Value → Prop} {St : Nat → Shared → Prop} {R : Result → Shared → Prop}
    (W : WalksS P w A.in1 I fp wr G n Pv St) (S : Addr) (hSf : S ∉ fp) (xs : List (Addr × List Str)) (hn : n = xs.length) (few : xs.length < 64) (nd : (xs.map (·.2)).Nodup) (hval : ∀ i v, Pv i v → ∃ q, xs[i]? = some q ∧ v = .ref q.1) (hu : A.in1.units < cLine)
    (h0 : Heap) (hk : ∀ q ∈ xs, IsP P w h0 q.2 q.1) (hS0 : h0.get? S = none) (hw0 : ∀ b ∈ wr, h0.get? b = none) :
    ∀ (k i : Nat) (s : Shared), n - i = k → i ≤ n → St i s → (∀ b o, h0.get? b = some o → s.heap.get? b = some o) → (∃ es ep t, SetP P w s.heap S (xs.take i) es ep t ∧ es.size = i) →
      (∀ s' es ep t, Moved (S :: wr) G s s' → SetP P w s'.heap S (xs.take n) es ep t → es.size = n → (∀ b o, h0.get? b = some o → s'.heap.get? b = some o) → R (.ok (.ret .none)) s') →
      codeAny (model P w) A (.builtin "set.update.loop" ⟨[.ref S, .ref I], []⟩) R s := by
  have offW : S ∉ wr := fun h => hSf (W.sub _ h)
  have wide : ∀ b ∈ wr, b ∈ S :: wr := fun b hb => List.mem_cons_of_mem _ hb
  have movedK : ∀ {s s' : Shared}, Moved wr G s s' → (∀ b o, h0.get? b = some o → s.heap.get? b = some o) → ∀ b o, h0.get? b = some o → s'.heap.get? b = some o := fun hm hkp b o e =>
    hm.heap b o (fun hb => by rw [hw0 b hb] at e; cases e) (hkp b o e)
  have stand : ∀ {h : Heap} (i : Nat), (∀ b o, h0.get? b = some o → h.get? b = some o) → ∀ q ∈ xs.take i, IsP P w h q.2 q.1 := fun i hkp q hq => isP_keep (hk q (List.mem_of_mem_take hq)) hkp
  intro k
  induction k with
  | zero =>
    intro i s hk2 hi st hkp ⟨es, ep, t, hS, hsz⟩ hR
    obtain rfl : i = n := by omega
    refine codeAny_builtin F.entry_set_update_loop ?_
    rw [Around.under_plainId F.plain_set_update_loop _]
    show wpAny _ A.in1 (pyNext (.ref I) >>= _) _ _ s
    refine wpAny_bind (W.done s _ _ st fun s' hm => ?_)
    show wpAny _ A.in1 (ret Value.none) _ _ s'
    have hkp2 := movedK hm hkp
    exact wpAny_pure (hR s' es ep t (hm.mono wide) (hS.keep (fun o e => hm.heap S o offW e) (stand i hkp2)) hsz hkp2)
  | succ k ih =>
    intro i s hk2 hi st hkp ⟨es, ep, t, hS, hsz⟩ hR
    have hlt : i < n := by omega
    refine codeAny_builtin F.entry_set_update_loop ?_
    rw [Around.under_plainId F.plain_set_update_loop _]
    show wpAny _ A.in1 (pyNext (.ref I) >>= _) _ _ s
    refine wpAny_bind (W.item i s _ _ hlt st fun v s' hP st' hm => ?_)
    obtain ⟨q, hq, rfl⟩ := hval i v hP
    have hkp2 := movedK hm hkp
    have hS' := hS.keep (fun o e => hm.heap S o offW e) (stand i hkp2)
    have hx : IsP P w s'.heap q.2 q.1 := isP_keep (hk q (List.mem_of_getElem? hq)) hkp2
    have et : xs.take (i + 1) = xs.take i ++ [(q.1, q.2)] := by rw [List.take_succ, hq]; rfl
    have fresh : ∀ z ∈ xs.take i, z.2 ≠ q.2 := fun z hz e => by
      have hlx := (List.getElem?_eq_some_iff.mp hq).1
      have e2 : xs.map (·.2) = (xs.take i).map (·.2) ++ (xs.drop i).map (·.2) := by rw [← List.map_append, List.take_append_drop]
      rw [e2, List.nodup_append] at nd
      refine nd.2.2 z.2 (List.mem_map.mpr ⟨z, hz, rfl⟩) q.2 (List.mem_map.mpr ⟨q, ?_, rfl⟩) e
      have hd0 : (xs.drop i)[0]? = some q := by rw [List.getElem?_drop]; exact hq
      exact List.mem_of_getElem? hd0
    show wpAny _ A.in1 (holding [Value.ref q.1] (setAdd S (.ref q.1)) >>= _) _ _ s'
    refine wpAny_bind (wpAny_holding ?_)
    unfold setAdd
    refine wpAny_holding ?_
    refine wpAny_bind (wpAny_pyHash_tuple hu hx ?_)
    refine addP (s := { s' with toks := s'.toks + (q.2.length + 1) }) hS' hx hu fresh (by omega) fun h' fs ep2 t2 sb hS2 hz2 => ?_
    rw [← et] at hS2
    have hkp3 : ∀ b o, h0.get? b = some o → h'.get? b = some o := fun b o e => (sb.2 b (fun z => by rw [z, hS0] at e; cases e)).trans (hkp2 b o e)
    refine wpAny_pure ⟨plainId_quiet F.plain_set_update_loop _, ih (i + 1) _ (by omega) hlt (W.frame _ s' _ _ st' (Nat.le_add_right _ _) fun b hb o e => (sb.2 b (fun h => hSf (h ▸ hb))).trans e) hkp3 ⟨fs, ep2, t2, hS2, by omega⟩ fun s2 fs2 ep3 t3 hm2 hS3 hz3 hkp4 => ?_⟩
    exact hR s2 fs2 ep3 t3 (Moved.trans W.gtrans ((hm.mono wide).then_heap (Nat.le_add_right _ _) fun b o hb e => (sb.2 b (fun h => hb (by rw [h]; exact List.mem_cons_self))).trans e) hm2) hS3 hz3 hkp4
/-- a set of n things, by its size alone -/
def SetN (h : Heap) (a : Addr) (n : Nat) : Prop := ∃ o es ep t, h.get? a = some o ∧ o.ExactSet ∧ o.data = .set es ep t ∧ t.fits es.size = true ∧ es.size = n ∧ n < 64
theorem SetN.at {h h' : Heap} {a : Addr} {n : Nat} (R : SetN h a n) (k : ∀ o, h.get? a = some o → h'.get? a = some o) : SetN h' a n := by
  obtain ⟨o, es, ep, t, ho, r⟩ := R
  exact ⟨o, es, ep, t, k o ho, r⟩
theorem call_set_pairs {l : Addr} {items : Array Value} (xs : List (Addr × List Str)) {Q : Value → Shared → Prop} (hh : A.handled = none) (hl : s.heap.IsList l items) (hit : items.toList = xs.map fun q => Value.ref q.1) (hk : ∀ q ∈ xs, IsP P w s.heap q.2 q.1)
    (few : xs.length < 64) (nd : (xs.map (·.2)).Nodup) (hu : A.units + 3 < cLine)
    (h : ∀ (h' : Heap) (tk : Nat), SetN h' s.heap.objs.size xs.length → (∀ b o, s.heap.get? b = some o → h'.get? b = some o) → Q (.ref s.heap.objs.size) { s with heap := h', toks := tk }) :
    wpAny (model P w) A (call (.type "set") [.ref l]) Q E s := by
  have hsz : items.size = xs.length := by
    have q := congrArg List.length hit
    rwa [Array.length_toList, List.length_map] at q
  have hlS : l < s.heap.objs.size := by obtain ⟨o, e, _⟩ := hl; exact Heap.lt_size e
  refine call_set_by (Good := fun h' => SetN h' s.heap.objs.size xs.length) hl (fun R hR => ?_) h
  have hz1 : (s.heap.push (bareSet w)).objs.size = s.heap.objs.size + 1 := Heap.size_push _ _
  have hin : A.in1.in1.in1.handled = none := by simp [hh]
  have hneI : l ≠ (s.heap.push (bareSet w)).objs.size := by rw [hz1]; exact Nat.ne_of_lt (Nat.lt_succ_of_lt hlS)
  have hSf : s.heap.objs.size ∉ [(s.heap.push (bareSet w)).objs.size, l] := by
    rw [hz1]; simp only [List.mem_cons, List.not_mem_nil, or_false, not_or]
    exact ⟨Nat.ne_of_lt (Nat.lt_succ_self _), Nat.ne_of_gt hlS⟩
  have hset : ((s.heap.push (bareSet w)).push (walkOf l)).get? s.heap.objs.size = some (bareSet w) := Heap.get?_push_of_some _ (Heap.get?_push_size _ rfl)
  have none_of : ∀ b, s.heap.objs.size ≤ b → s.heap.get? b = none := fun b hb => by
    cases q : s.heap.get? b with
    | none => rfl
    | some o => exact absurd (Nat.lt_of_lt_of_le (Heap.lt_size q) hb) (Nat.lt_irrefl _)
  refine fill_P ((Walks.list hin _ l hneI items).toS) s.heap.objs.size hSf xs hsz few nd (fun i v hv => ?_) hu s.heap hk (none_of _ (Nat.le_refl _)) (fun b hb => none_of b (by rw [List.mem_singleton.mp hb, hz1]; exact Nat.le_succ _)) (items.size - 0) 0 _ (by omega) (Nat.zero_le _)
    ⟨⟨_, Heap.get?_push_size _ rfl, rfl, rfl⟩, (hl.push _).push _⟩ (fun b o e => Heap.get?_push_of_some _ (Heap.get?_push_of_some _ e)) ⟨#[], 0, _, SetP.new hset, rfl⟩ fun s' es ep t hm hS hz hkp => ?_
  · have q : items.toList[i]? = some v := by rw [Array.getElem?_toList]; exact hv
    rw [hit, List.getElem?_map] at q
    cases hq : xs[i]? with
    | none => rw [hq] at q; cases q
    | some p =>
      rw [hq] at q
      exact ⟨p, rfl, (Option.some.inj q).symm⟩
  · obtain ⟨h', g', d', tk', os'⟩ := s'
    obtain rfl : g' = s.gens := hm.gens
    obtain rfl : d' = s.drawn := hm.drawn
    obtain rfl : os' = s.os := hm.os
    obtain ⟨o, ho, hex, hd⟩ := hS.ob
    exact hR h' tk' hkp ⟨o, es, ep, t, ho, hex, hd, hS.fits, hz.trans hsz, few⟩
end
/-! ### the rules -/
def SetNO (a : Addr) (n : Nat) : HO := .ext fun h => SetN h a n
theorem items_of_strs {P : Program} {w : World} : ∀ {k : List Str} {us : List Value}, Vals (k.map V.str) us → ItemsAre (PySem.strKind P w) k us
  | [], _, .nil => .nil
  | z :: k, _, .cons r t => by
    obtain ⟨tk, rfl⟩ := r
    exact .cons (strKind_is P w z tk) (items_of_strs t)
section
variable {X : Cx}
theorem isP_of {pins : List (Addr × Obj)} {σ : L2.St} {H : Hp} {s : Shared} {b : Addr} {k : List Str} (I : Inv X pins σ H s) (h : SqT X.K H b (k.map V.str)) : IsP X.prog X.w s.heap k b := by
  obtain ⟨its, r, pl, hz⟩ := I.tuple h
  obtain ⟨o, ho, hc, n, hd⟩ := pl
  exact ⟨o, its.toArray, n, ho, hc, hd, by simpa using items_of_strs r⟩
/-- set(xs), xs a list of tuples of texts, no two alike -/
def rSetP (K : PySem.W.Frag) : List V → Hp → VK → Prop := fun vs H Q => ∃ (l : Addr) (xs : List (Addr × List Str)), vs = [V.ref l] ∧ SqL K H l (xs.map fun q => V.ref q.1) ∧ (∀ q ∈ xs, SqT K H q.1 (q.2.map V.str)) ∧ xs.length < 64 ∧ (xs.map (·.2)).Nodup ∧
  ∀ p, H p = none → Q (.ref p) (upd H p (SetNO p xs.length))
theorem cr_setP (hc : X.calm = true) (hu : X.A.units + 65 < cLine) : CallR X (.type "set") (rSetP X.K) := by
  intro pins s σ H vs us Q I r h
  obtain ⟨l, xs, rfl, hq, ht, hn, nd, q⟩ := h
  obtain ⟨its, rv, hl, _⟩ := I.list hq
  rw [Vals.ref1 r]
  have ei : its = xs.map fun q => Value.ref q.1 := by
    have e : (xs.map fun q => V.ref q.1) = (xs.map (·.1)).map V.ref := by rw [List.map_map]; rfl
    rw [e] at rv
    have gen : ∀ {as : List Addr} {us : List Value}, Vals (as.map V.ref) us → us = as.map Value.ref := fun {as us} => by
      induction as generalizing us with
      | nil => intro h; cases h; rfl
      | cons a as ih => intro h; cases h with
        | cons r t => cases r; rw [ih t]; rfl
    rw [gen rv, List.map_map]; rfl
  refine call_set_pairs xs (I.ok.hd hc) hl.isList (by simpa using ei) (fun q hq => isP_of I (ht q hq)) hn nd (by omega) fun h' tk hS hk => ?_
  have ⟨o, _, _, _, ho, _⟩ := hS
  exact ⟨.ref _, upd H s.heap.objs.size (SetNO s.heap.objs.size xs.length), I.laid (t' := tk) hk (Nat.le_refl _) ⟨hS, ⟨o, ho⟩, fun _ _ p k => SetN.at p k⟩, rfl, q _ (I.hok.fresh (Nat.le_refl _))⟩
/-- len of it -/
def rLenN : List V → Hp → VK → Prop := fun vs H Q => ∃ (a : Addr) (n : Nat), vs = [V.ref a] ∧ H a = some (SetNO a n) ∧ Q (.int n) H
theorem cr_lenN : CallR X (.builtin "len") rLenN := by
  intro pins s σ H vs us Q I r h
  obtain ⟨a, n, rfl, ha, q⟩ := h
  rw [Vals.ref1 r]
  obtain ⟨o, es, ep, t, ho, hex, hd, hf, e, hn⟩ := (I.hok a _ ha).1
  exact call_len_set ho hex hd hf (by omega) ⟨.int n, H, I.tok _, ⟨_, by rw [e]⟩, q⟩
theorem cr_setPK {K : PySem.W.Frag} (hc : X.calm = true) (hu : X.A.units + 65 < cLine) (hK : X.K = K := by rfl) : CallR X (.type "set") (rSetP K) := hK ▸ cr_setP hc hu
end
end Lr

set_option Elab.async false
set_option linter.all false
set_option maxRecDepth 100000
set_option maxHeartbeats 4000000
namespace Lr
open PySem PySem.Spec PyProof.Rows L2
/-! ### the way is one -/
def NextP (ts here : List Str) (p : Str × Str) : Prop := ∃ (k : Nat) (u v : List Str), here = u ++ p.1 :: p.2 :: v ∧ k ≤ u.length ∧ here.take k = ts.take k ∧ ts[k]? = some p.2
theorem nodup_place {l : List Str} (n : l.Nodup) {i j : Nat} {x : Str} (hi : l[i]? = some x) (hj : l[j]? = some x) : i = j := by
  obtain ⟨h1, e1⟩ := List.getElem?_eq_some_iff.mp hi
  obtain ⟨h2, e2⟩ := List.getElem?_eq_some_iff.mp hj
  have pw := List.pairwise_iff_getElem.mp n
  rcases Nat.lt_trichotomy i j with c | c | c
  · exact absurd (e1.trans e2.symm) (pw _ _ h1 h2 c)
  · exact c
  · exact absurd (e2.trans e1.symm) (pw _ _ h2 h1 c)
theorem NextP.le {ts here : List Str} (n : here.Nodup) {k1 k2 : Nat} {u1 v1 : List Str} {y1 x1 : Str} (e1 : here = u1 ++ y1 :: x1 :: v1) (l1 : k1 ≤ u1.length) (g1 : ts[k1]? = some x1) (t2 : here.take k2 = ts.take k2) : k2 ≤ k1 := by
  by_cases c : k1 < k2
  · exfalso
    have h1 : here[k1]? = some x1 := by
      have h : (here.take k2)[k1]? = (ts.take k2)[k1]? := by rw [t2]
      rw [List.getElem?_take, List.getElem?_take, if_pos c, if_pos c] at h
      rw [h]; exact g1
    have h2 : here[u1.length + 1]? = some x1 := by rw [e1, List.getElem?_append_right (by omega)]; simp
    have := nodup_place n h1 h2
    omega
  · omega
theorem NextP.one {ts here : List Str} (n : here.Nodup) {p q : Str × Str} (hp : NextP ts here p) (hq : NextP ts here q) : p = q := by
  obtain ⟨k1, u1, v1, e1, l1, t1, g1⟩ := hp
  obtain ⟨k2, u2, v2, e2, l2, t2, g2⟩ := hq
  have a := NextP.le n e1 l1 g1 t2
  have b := NextP.le n e2 l2 g2 t1
  obtain rfl : k1 = k2 := Nat.le_antisymm b a
  have ex : p.2 = q.2 := Option.some.inj (g1.symm.trans g2)
  have i1 : here[u1.length + 1]? = some p.2 := by rw [e1, List.getElem?_append_right (by omega)]; simp
  have i2 : here[u2.length + 1]? = some q.2 := by rw [e2, List.getElem?_append_right (by omega)]; simp
  rw [← ex] at i2
  have hl := nodup_place n i1 i2
  have hl2 : u1.length = u2.length := by omega
  have y1 : here[u1.length]? = some p.1 := by rw [e1, List.getElem?_append_right (Nat.le_refl _)]; simp
  have y2 : here[u2.length]? = some q.1 := by rw [e2, List.getElem?_append_right (Nat.le_refl _)]; simp
  rw [← hl2, y1] at y2
  exact Prod.ext (Option.some.inj y2) ex
def WayN (os ts : List Str) (W : List (Str × Str)) : Prop := ∀ (j : Nat) (p : Str × Str), W[j]? = some p → NextP ts ((W.take j).foldl swp os) p
theorem WayN.nil (os ts : List Str) : WayN os ts [] := fun j p h => by cases h
theorem WayN.snoc {os ts here : List Str} {W : List (Str × Str)} {p : Str × Str} (h : WayN os ts W) (e : W.foldl swp os = here) (n : NextP ts here p) : WayN os ts (W ++ [p]) := fun j q hj => by
  by_cases c : j < W.length
  · rw [List.getElem?_append_left c] at hj
    rw [List.take_append_of_le_length (Nat.le_of_lt c)]
    exact h j q hj
  · rw [List.getElem?_append_right (by omega)] at hj
    have z : j - W.length = 0 := by
      by_cases z : j - W.length = 0
      · exact z
      · rw [List.getElem?_eq_none (by simp only [List.length_singleton]; omega)] at hj; cases hj
    rw [z] at hj
    cases hj
    have ej : j = W.length := by omega
    subst ej
    rw [List.take_left, e]
    exact n
theorem way_perm {os ts here : List Str} {ps W : List (Str × Str)} (h : WayI os ts ps W here) (n : os.Nodup) : ∀ j, j ≤ W.length → ((W.take j).foldl swp os).Perm os := fun j => by
  induction j with
  | zero => intro _; rw [List.take_zero]; exact List.Perm.refl _
  | succ j ih =>
    intro hj
    have ihp := ih (by omega)
    have hp : W[j]? = some W[j] := List.getElem?_eq_getElem (by omega)
    obtain ⟨u, v, e⟩ := h.each j _ hp
    rw [List.take_succ, hp]
    show ((W.take j ++ [W[j]]).foldl swp os).Perm os
    rw [List.foldl_append, e]
    have nd : (u ++ (W[j]).1 :: (W[j]).2 :: v).Nodup := by rw [← e]; exact ihp.nodup_iff.mpr n
    have hnu : (W[j]).1 ∉ u := fun z => by
      rw [List.nodup_append] at nd
      exact nd.2.2 _ z _ (by simp) rfl
    show (swp (u ++ (W[j]).1 :: (W[j]).2 :: v) ((W[j]).1, (W[j]).2)).Perm os
    rw [swp_at hnu]
    refine (List.Perm.append_left u (List.Perm.swap _ _ v)).trans ?_
    rw [← e]; exact ihp
theorem way_one {os ts : List Str} {ps W1 W2 : List (Str × Str)} (n : os.Nodup) (h1 : WayI os ts ps W1 ts) (h2 : WayI os ts ps W2 ts) (n1 : WayN os ts W1) (n2 : WayN os ts W2) : W1 = W2 := by
  have hl : W1.length = W2.length := by
    have a := h1.inv
    have b := h2.inv
    omega
  have key : ∀ j, j ≤ W1.length → W1.take j = W2.take j := fun j => by
    induction j with
    | zero => intro _; rfl
    | succ j ih =>
      intro hj
      have e := ih (by omega)
      have p1 : W1[j]? = some W1[j] := List.getElem?_eq_getElem (by omega)
      have p2 : W2[j]? = some W2[j] := List.getElem?_eq_getElem (by omega)
      have q1 := n1 j _ p1
      have q2 := n2 j _ p2
      rw [← e] at q2
      have := NextP.one ((way_perm h1 n j (by omega)).nodup_iff.mpr n) q1 q2
      rw [List.take_succ, List.take_succ, p1, p2, this, e]
  have := key W1.length (Nat.le_refl _)
  rwa [List.take_length, hl, List.take_length] at this
/-! ### how many two things stand the other way about -/
theorem invL_snoc {f : Str → Nat} (b : Str) : ∀ l : List Str, invL f (l ++ [b]) = invL f l + (l.filter fun a => decide (f b < f a)).length
  | [] => rfl
  | a :: l => by
    have ih := invL_snoc (f := f) b l
    show ((l ++ [b]).filter fun c => decide (f c < f a)).length + invL f (l ++ [b]) = ((l.filter fun c => decide (f c < f a)).length + invL f l) + ((a :: l).filter fun c => decide (f b < f c)).length
    rw [ih, List.filter_append, List.length_append, List.filter_cons (x := a)]
    by_cases c : f b < f a
    · rw [List.filter_cons_of_pos (by simpa using c), if_pos (by simpa using c)]
      simp only [List.filter_nil, List.length_cons, List.length_nil]
      omega
    · rw [List.filter_cons_of_neg (by simpa using c), if_neg (by simpa using c)]
      simp only [List.filter_nil, List.length_nil]
      omega
theorem invL_half {f : Str → Nat} : ∀ l : List Str, 2 * invL f l + l.length ≤ l.length * l.length
  | [] => Nat.le_refl _
  | a :: l => by
    show 2 * ((l.filter fun b => decide (f b < f a)).length + invL f l) + (l.length + 1) ≤ (l.length + 1) * (l.length + 1)
    have h1 := invL_half (f := f) l
    have h2 := List.length_filter_le (fun b => decide (f b < f a)) l
    have h3 : (l.length + 1) * (l.length + 1) = l.length * l.length + l.length + (l.length + 1) := by rw [Nat.add_mul, Nat.mul_add, Nat.mul_one, Nat.one_mul]
    omega
theorem way_few {os ts here : List Str} {ps W : List (Str × Str)} (h : WayI os ts ps W here) (ho : os.length ≤ 10) : W.length ≤ 45 := by
  have h1 := h.inv
  have h2 := invL_half (f := ts.idxOf) os
  have h3 : os.length * os.length ≤ 10 * os.length := Nat.mul_le_mul_right _ ho
  omega
end Lr

set_option Elab.async false
set_option linter.all false
set_option maxRecDepth 100000
set_option maxHeartbeats 4000000
namespace Lr
open PySem PySem.Spec PyProof.Rows L2
def top (i : Nat) : Stmt := PySem.Challenge.pw_leanrow_k11_whole_ways_between_rows.main.body.getD i (.Pass ⟨0, 0, 0, 0⟩)
abbrev s_Ring___init__ : Stmt := inClass (top 10) 0
abbrev s_is_right : Stmt := top 12
abbrev s_way_to : Stmt := top 13
abbrev s_is_name : Stmt := top 18
abbrev s_Web___init__ : Stmt := inClass (top 19) 0
abbrev s_Web_things : Stmt := inClass (top 19) 1
abbrev s_Web_leanings : Stmt := inClass (top 19) 2
abbrev s_Web_need_thing : Stmt := inClass (top 19) 3
abbrev s_Web_put : Stmt := inClass (top 19) 4
abbrev s_Web_take : Stmt := inClass (top 19) 5
abbrev s_Web_leans : Stmt := inClass (top 19) 6
abbrev s_Web_lean : Stmt := inClass (top 19) 7
abbrev s_Web_loosen : Stmt := inClass (top 19) 8
abbrev s_Web_chain : Stmt := inClass (top 19) 9
abbrev s_Row___init__ : Stmt := inClass (top 21) 0
abbrev s_Row_put : Stmt := inClass (top 21) 1
abbrev s_Row_take : Stmt := inClass (top 21) 2
abbrev s_Row_loosen : Stmt := inClass (top 21) 3
abbrev s_Row_lean : Stmt := inClass (top 21) 4
abbrev s_Row_names : Stmt := inClass (top 21) 5
abbrev s_Row_place : Stmt := inClass (top 21) 6
abbrev s_Row_leanings : Stmt := inClass (top 21) 7
abbrev s__law_mixed : Stmt := top 23
abbrev s__law_names : Stmt := top 24
abbrev s__law_begun : Stmt := top 25
abbrev s__law_deed : Stmt := top 26
abbrev s__law_under : Stmt := top 27
abbrev s__law_moved : Stmt := top 28
abbrev s__law_done : Stmt := top 29
abbrev s__law_kinds : Stmt := top 30
abbrev s__law_told : Stmt := top 31
abbrev s__law_row : Stmt := top 32
abbrev s__law_right : Stmt := top 33
abbrev s__law_drawn : Stmt := top 34
abbrev s__law_unlike : Stmt := top 35
abbrev s__law_way_right : Stmt := top 36
abbrev s__law_word : Stmt := top 37
abbrev s_law : Stmt := top 38
/-- what the top has written -/
structure Txt (K : PySem.W.Frag) (mg : Str → Option Value) : Type where
  n_len : mg "len" = none
  n_isinstance : mg "isinstance" = none
  n_all : mg "all" = none
  n_any : mg "any" = none
  n_list : mg "list" = none
  n_tuple : mg "tuple" = none
  n_str : mg "str" = none
  n_int : mg "int" = none
  n_bool : mg "bool" = none
  n_dict : mg "dict" = none
  n_range : mg "range" = none
  n_zip : mg "zip" = none
  n_enumerate : mg "enumerate" = none
  n_sum : mg "sum" = none
  n_sorted : mg "sorted" = none
  n_set : mg "set" = none
  n_max : mg "max" = none
  n_reversed : mg "reversed" = none
  n_ValueError : mg "ValueError" = none
  g_LETTERS : ∃ u, mg "LETTERS" = some u ∧ RelV (.str "abcdefghijklmnopqrstuvwxyz") u
  g_MOST_LETTERS : ∃ u, mg "MOST_LETTERS" = some u ∧ RelV (.int 8) u
  g_MOST_THINGS : ∃ u, mg "MOST_THINGS" = some u ∧ RelV (.int 30) u
  CWeb : Addr
  c_Web : Cls K CWeb
  g_Web : mg "Web" = some (.ref CWeb)
  a_Web_put_ones : NoAttr K CWeb "put_ones"
  a_Web_pairs : NoAttr K CWeb "pairs"
  CRow : Addr
  c_Row : Cls K CRow
  g_Row : mg "Row" = some (.ref CRow)
  a_Row_web : NoAttr K CRow "web"
  a_Row_order : NoAttr K CRow "order"
  f_is_right : Addr
  D_is_right : DefAt K "is_right" "is_right" s_is_right ["row", "thing"] f_is_right
  g_is_right : mg "is_right" = some (.ref f_is_right)
  k_is_right : PySem.W.keepIn K (.ref f_is_right) = true
  f_way_to : Addr
  D_way_to : DefAt K "way_to" "way_to" s_way_to ["row", "names"] f_way_to
  g_way_to : mg "way_to" = some (.ref f_way_to)
  k_way_to : PySem.W.keepIn K (.ref f_way_to) = true
  f_is_name : Addr
  D_is_name : DefAt K "is_name" "is_name" s_is_name ["thing"] f_is_name
  g_is_name : mg "is_name" = some (.ref f_is_name)
  k_is_name : PySem.W.keepIn K (.ref f_is_name) = true
  f_Web___init__ : Addr
  D_Web___init__ : DefAt K "__init__" "Web.__init__" s_Web___init__ ["self"] f_Web___init__
  m_Web___init__ : Meth K CWeb "__init__" f_Web___init__
  f_Web_things : Addr
  D_Web_things : DefAt K "things" "Web.things" s_Web_things ["self"] f_Web_things
  m_Web_things : Meth K CWeb "things" f_Web_things
  f_Web_leanings : Addr
  D_Web_leanings : DefAt K "leanings" "Web.leanings" s_Web_leanings ["self"] f_Web_leanings
  m_Web_leanings : Meth K CWeb "leanings" f_Web_leanings
  f_Web_need_thing : Addr
  D_Web_need_thing : DefAt K "need_thing" "Web.need_thing" s_Web_need_thing ["self", "name"] f_Web_need_thing
  m_Web_need_thing : Meth K CWeb "need_thing" f_Web_need_thing
  f_Web_put : Addr
  D_Web_put : DefAt K "put" "Web.put" s_Web_put ["self", "name"] f_Web_put
  m_Web_put : Meth K CWeb "put" f_Web_put
  f_Web_take : Addr
  D_Web_take : DefAt K "take" "Web.take" s_Web_take ["self", "name"] f_Web_take
  m_Web_take : Meth K CWeb "take" f_Web_take
  f_Web_leans : Addr
  D_Web_leans : DefAt K "leans" "Web.leans" s_Web_leans ["self", "name", "other"] f_Web_leans
  m_Web_leans : Meth K CWeb "leans" f_Web_leans
  f_Web_lean : Addr
  D_Web_lean : DefAt K "lean" "Web.lean" s_Web_lean ["self", "name", "other"] f_Web_lean
  m_Web_lean : Meth K CWeb "lean" f_Web_lean
  f_Web_loosen : Addr
  D_Web_loosen : DefAt K "loosen" "Web.loosen" s_Web_loosen ["self", "name", "other"] f_Web_loosen
  m_Web_loosen : Meth K CWeb "loosen" f_Web_loosen
  f_Web_chain : Addr
  D_Web_chain : DefAt K "chain" "Web.chain" s_Web_chain ["self", "name", "other"] f_Web_chain
  m_Web_chain : Meth K CWeb "chain" f_Web_chain
  f_Row___init__ : Addr
  D_Row___init__ : DefAt K "__init__" "Row.__init__" s_Row___init__ ["self"] f_Row___init__
  m_Row___init__ : Meth K CRow "__init__" f_Row___init__
  f_Row_put : Addr
  D_Row_put : DefAt K "put" "Row.put" s_Row_put ["self", "name"] f_Row_put
  m_Row_put : Meth K CRow "put" f_Row_put
  f_Row_take : Addr
  D_Row_take : DefAt K "take" "Row.take" s_Row_take ["self", "name"] f_Row_take
  m_Row_take : Meth K CRow "take" f_Row_take
  f_Row_loosen : Addr
  D_Row_loosen : DefAt K "loosen" "Row.loosen" s_Row_loosen ["self", "name", "other"] f_Row_loosen
  m_Row_loosen : Meth K CRow "loosen" f_Row_loosen
  f_Row_lean : Addr
  D_Row_lean : DefAt K "lean" "Row.lean" s_Row_lean ["self", "name", "other"] f_Row_lean
  m_Row_lean : Meth K CRow "lean" f_Row_lean
  f_Row_names : Addr
  D_Row_names : DefAt K "names" "Row.names" s_Row_names ["self"] f_Row_names
  m_Row_names : Meth K CRow "names" f_Row_names
  f_Row_place : Addr
  D_Row_place : DefAt K "place" "Row.place" s_Row_place ["self", "name"] f_Row_place
  m_Row_place : Meth K CRow "place" f_Row_place
  f_Row_leanings : Addr
  D_Row_leanings : DefAt K "leanings" "Row.leanings" s_Row_leanings ["self"] f_Row_leanings
  m_Row_leanings : Meth K CRow "leanings" f_Row_leanings
  f__law_mixed : Addr
  D__law_mixed : DefAt K "_law_mixed" "_law_mixed" s__law_mixed ["_law_cell", "_law_k"] f__law_mixed
  g__law_mixed : mg "_law_mixed" = some (.ref f__law_mixed)
  k__law_mixed : PySem.W.keepIn K (.ref f__law_mixed) = true
  f__law_names : Addr
  D__law_names : DefAt K "_law_names" "_law_names" s__law_names ["_law_number", "_law_many"] f__law_names
  g__law_names : mg "_law_names" = some (.ref f__law_names)
  k__law_names : PySem.W.keepIn K (.ref f__law_names) = true
  f__law_begun : Addr
  D__law_begun : DefAt K "_law_begun" "_law_begun" s__law_begun ["_law_script", "_law_most"] f__law_begun
  g__law_begun : mg "_law_begun" = some (.ref f__law_begun)
  k__law_begun : PySem.W.keepIn K (.ref f__law_begun) = true
  f__law_deed : Addr
  D__law_deed : DefAt K "_law_deed" "_law_deed" s__law_deed ["_law_own", "_law_names_here", "_law_number"] f__law_deed
  g__law_deed : mg "_law_deed" = some (.ref f__law_deed)
  k__law_deed : PySem.W.keepIn K (.ref f__law_deed) = true
  f__law_under : Addr
  D__law_under : DefAt K "_law_under" "_law_under" s__law_under ["_law_pairs", "_law_name"] f__law_under
  g__law_under : mg "_law_under" = some (.ref f__law_under)
  k__law_under : PySem.W.keepIn K (.ref f__law_under) = true
  f__law_moved : Addr
  D__law_moved : DefAt K "_law_moved" "_law_moved" s__law_moved ["_law_own", "_law_name", "_law_other"] f__law_moved
  g__law_moved : mg "_law_moved" = some (.ref f__law_moved)
  k__law_moved : PySem.W.keepIn K (.ref f__law_moved) = true
  f__law_done : Addr
  D__law_done : DefAt K "_law_done" "_law_done" s__law_done ["_law_own", "_law_deed_here"] f__law_done
  g__law_done : mg "_law_done" = some (.ref f__law_done)
  k__law_done : PySem.W.keepIn K (.ref f__law_done) = true
  f__law_kinds : Addr
  D__law_kinds : DefAt K "_law_kinds" "_law_kinds" s__law_kinds ["_law_error"] f__law_kinds
  g__law_kinds : mg "_law_kinds" = some (.ref f__law_kinds)
  k__law_kinds : PySem.W.keepIn K (.ref f__law_kinds) = true
  f__law_told : Addr
  D__law_told : DefAt K "_law_told" "_law_told" s__law_told ["_law_thing", "_law_deed_here"] f__law_told
  g__law_told : mg "_law_told" = some (.ref f__law_told)
  k__law_told : PySem.W.keepIn K (.ref f__law_told) = true
  f__law_row : Addr
  D__law_row : DefAt K "_law_row" "_law_row" s__law_row ["_law_script", "_law_most"] f__law_row
  g__law_row : mg "_law_row" = some (.ref f__law_row)
  k__law_row : PySem.W.keepIn K (.ref f__law_row) = true
  f__law_right : Addr
  D__law_right : DefAt K "_law_right" "_law_right" s__law_right ["_law_pairs", "_law_order"] f__law_right
  g__law_right : mg "_law_right" = some (.ref f__law_right)
  k__law_right : PySem.W.keepIn K (.ref f__law_right) = true
  f__law_drawn : Addr
  D__law_drawn : DefAt K "_law_drawn" "_law_drawn" s__law_drawn ["_law_own", "_law_number"] f__law_drawn
  g__law_drawn : mg "_law_drawn" = some (.ref f__law_drawn)
  k__law_drawn : PySem.W.keepIn K (.ref f__law_drawn) = true
  f__law_unlike : Addr
  D__law_unlike : DefAt K "_law_unlike" "_law_unlike" s__law_unlike ["_law_one", "_law_other"] f__law_unlike
  g__law_unlike : mg "_law_unlike" = some (.ref f__law_unlike)
  k__law_unlike : PySem.W.keepIn K (.ref f__law_unlike) = true
  f__law_way_right : Addr
  D__law_way_right : DefAt K "_law_way_right" "_law_way_right" s__law_way_right ["_law_way", "_law_own", "_law_goal"] f__law_way_right
  g__law_way_right : mg "_law_way_right" = some (.ref f__law_way_right)
  k__law_way_right : PySem.W.keepIn K (.ref f__law_way_right) = true
  f__law_word : Addr
  D__law_word : DefAt K "_law_word" "_law_word" s__law_word ["_law_row_here", "_law_thing"] f__law_word
  g__law_word : mg "_law_word" = some (.ref f__law_word)
  k__law_word : PySem.W.keepIn K (.ref f__law_word) = true
  f_law : Addr
  D_law : DefAt K "law" "law" s_law ["_law_script"] f_law
  g_law : mg "law" = some (.ref f_law)
  k_law : PySem.W.keepIn K (.ref f_law) = true
  mk_Web : Mk K CWeb f_Web___init__
  mk_Row : Mk K CRow f_Row___init__
  er : ErrT K mg s_Ring___init__
abbrev Txt.ce {K : PySem.W.Frag} {mg : Str → Option Value} (T : Txt K mg) : Er → Addr := T.er.ce
theorem test_of {K : PySem.W.Frag} {h : Heap} {mg : Str → Option Value} {p : Prop} (KX : K.In h) (T : Txt K mg) (k : Txt K mg → p) : p := k T
end Lr

set_option Elab.async false
set_option linter.all false
set_option maxRecDepth 100000
set_option maxHeartbeats 4000000
namespace Lr
open PySem PySem.Spec PyProof.Rows L2
section
variable {P : Program} {w : World} {K : PySem.W.Frag} {mg : Str → Option Value} {base : Heap}
def sp_Web___init__ (T : Txt K mg) : Sp := fun vs H Q _ => ∃ (a dx : Addr), vs = [.ref a] ∧ H a = some (.ins T.CWeb dx []) ∧
  ∀ H' fp, Fr [a] H H' → Nw [a] H fp → WebS T.CWeb H' a fp [] [] → Q .non H'
def sp_Web_things (T : Txt K mg) : Sp := fun vs H Q _ => ∃ a fp ns ps, vs = [.ref a] ∧ WebS T.CWeb H a fp ns ps ∧
  ∀ p H', H p = none → Same H H' → H' p = some (.lst (ns.map V.str)) → Q (.ref p) H'
def sp_Web_leanings (T : Txt K mg) : Sp := fun vs H Q _ => ∃ a fp ns ps, vs = [.ref a] ∧ WebS T.CWeb H a fp ns ps ∧
  ∀ p H' P, H p = none → Same H H' → PL H' p P → pd P = ps → Q (.ref p) H'
theorem sc_Web___init__ : FnScope ["self"] ["self"] (defScope s_Web___init__) := ⟨rfl, rfl, rfl, by decide +kernel, rfl, by decide +kernel, by decide +kernel⟩
theorem ok_Web___init__ (T : Txt K mg) : FnOk P w K mg base CX0 1 T.f_Web___init__ T.D_Web___init__.fd ["self"] (sp_Web___init__ T) := by
  refine T.D_Web___init__.F.ok sc_Web___init__ (fun vs H Q E h => ?_) (fun cdv A outer s H vs Q E hr h => ?_)
  · obtain ⟨a, dx, rfl, _⟩ := h
    rfl
  · obtain ⟨a, dx, rfl, ha, k⟩ := h
    have hu := hu_of hr
    have hu65 := hu65_of hr
    refine ⟨_, (pss_cons (ps_fld (pv 0) (pe_lst pa_nil) rfl)
      (pss_one (ps_fld (pv 0) (pe_lst pa_nil) rfl))), ?_⟩
    refine ⟨Nat.zero_le _, fun p hp => ?_⟩
    have nap : a ≠ p := ne_of_none ha hp
    refine ⟨_, rfl, a, T.CWeb, dx, [], rfl, (by rw [upd_ne nap]; exact ha), T.c_Web, T.a_Web_put_ones, (by show 0 < 1000; decide), ?_⟩
    refine ⟨Nat.zero_le _, fun q hq => ?_⟩
    obtain ⟨nqa, hq1⟩ := upd_none hq
    obtain ⟨nqp, hq2⟩ := upd_none hq1
    refine ⟨_, rfl, a, T.CWeb, dx, _, rfl, (by rw [upd_ne nqa.symm, upd_same]), T.c_Web, T.a_Web_pairs, (by show 1 < 1000; decide), ?_⟩
    refine k _ [a, p, q] ⟨fun b o e nb => ?_, fun b xs e => ?_⟩ ?_ ⟨p, q, [], rfl, ⟨⟨dx, ?_⟩, ?_, ⟨?_, fun _ z => nomatch z⟩, nqp.symm⟩, rfl⟩
    · have nba : b ≠ a := fun z => nb (by simp [z])
      rw [upd_ne nba, upd_ne (ne_of_none e hq2), upd_ne nba, upd_ne (ne_of_none e hp)]; exact e
    · have nba : b ≠ a := fun z => by rw [z, ha] at e; cases e
      rw [upd_ne nba, upd_ne (ne_of_none e hq2), upd_ne nba, upd_ne (ne_of_none e hp)]; exact e
    · intro b hb
      simp only [List.mem_cons, List.not_mem_nil, or_false] at hb
      rcases hb with rfl | rfl | rfl
      · exact .inl (by simp)
      · exact .inr hp
      · exact .inr hq2
    · rw [upd_same, wF_0]
    · rw [upd_ne nap.symm, upd_ne nqp.symm, upd_ne nap.symm, upd_same]; rfl
    · rw [upd_ne nqa, upd_same]; rfl
theorem sc_Web_things : FnScope ["self"] ["self"] (defScope s_Web_things) := ⟨rfl, rfl, rfl, by decide +kernel, rfl, by decide +kernel, by decide +kernel⟩
theorem ok_Web_things (T : Txt K mg) : FnOk P w K mg base CX0 1 T.f_Web_things T.D_Web_things.fd ["self"] (sp_Web_things T) := by
  refine T.D_Web_things.F.ok sc_Web_things (fun vs H Q E h => ?_) (fun cdv A outer s H vs Q E hr h => ?_)
  · obtain ⟨a, fp, ns, ps, rfl, _⟩ := h
    rfl
  · obtain ⟨a, fp, ns, ps, rfl, ⟨lp, lq, Pq, rfl, W, e⟩, k⟩ := h
    obtain ⟨dx, ho⟩ := W.ob
    have hu := hu_of hr
    have hu65 := hu65_of hr
    refine ⟨_, (pss_one (ps_ret (pe_callTy call_listK (by rfl) T.n_list (by decide +kernel) (pa_cons (pe_fldK (pv 0) rfl) pa_nil)))), ?_⟩
    refine ⟨_, rfl, a, T.CWeb, dx, _, _, rfl, ho, T.c_Web, T.a_Web_put_ones, wF_1, lp, _, rfl, .inl (SqL.of W.pn), fun l hl => ?_⟩
    exact k l _ hl (Same.new hl) upd_same
theorem sc_Web_leanings : FnScope ["self"] ["self"] (defScope s_Web_leanings) := ⟨rfl, rfl, rfl, by decide +kernel, rfl, by decide +kernel, by decide +kernel⟩
theorem ok_Web_leanings (T : Txt K mg) : FnOk P w K mg base CX0 1 T.f_Web_leanings T.D_Web_leanings.fd ["self"] (sp_Web_leanings T) := by
  refine T.D_Web_leanings.F.ok sc_Web_leanings (fun vs H Q E h => ?_) (fun cdv A outer s H vs Q E hr h => ?_)
  · obtain ⟨a, fp, ns, ps, rfl, _⟩ := h
    rfl
  · obtain ⟨a, fp, ns, ps, rfl, ⟨lp, lq, Pq, rfl, W, e⟩, k⟩ := h
    obtain ⟨dx, ho⟩ := W.ob
    have hu := hu_of hr
    have hu65 := hu65_of hr
    refine ⟨_, (pss_one (ps_ret (pe_callTy call_listK (by rfl) T.n_list (by decide +kernel) (pa_cons (pe_fldK (pv 0) rfl) pa_nil)))), ?_⟩
    refine ⟨_, rfl, a, T.CWeb, dx, _, _, rfl, ho, T.c_Web, T.a_Web_pairs, wF_2, lq, _, rfl, .inl (SqL.of W.pq.lst), fun l hl => ?_⟩
    exact k l _ Pq hl (Same.new hl) ⟨upd_same, fun q hq => Same.new hl _ _ (W.pq.tup q hq)⟩ e
end
end Lr

set_option Elab.async false
set_option linter.all false
set_option maxRecDepth 100000
set_option maxHeartbeats 4000000
namespace Lr
open PySem PySem.Spec PyProof.Rows L2
section
variable {P : Program} {w : World} {K : PySem.W.Frag} {mg : Str → Option Value} {base : Heap}
/-- an error without fields -/
def ErrE (T : Txt K mg) (e : Er) (H : Hp) (E : XK) : Prop := ∀ H', Same H H' → E (.ref (T.ce e)) none H'
def sp_is_name (K : PySem.W.Frag) : Sp := fun vs H Q _ => ∃ x nm, vs = [x] ∧ NmV K H x nm ∧ shortN nm ∧ ∀ H', Same H H' → Q (.bl (nm.elim false isNm)) H'
def sp_Web_need_thing (T : Txt K mg) : Sp := fun vs H Q E => ∃ a fp ns ps x nm, vs = [.ref a, x] ∧ WebS T.CWeb H a fp ns ps ∧ NmV K H x nm ∧
  (inN nm ns = true → ∀ H', Same H H' → Q .non H') ∧ (inN nm ns = false → ErrE T .NoThing H E)
theorem sc_is_name : FnScope ["thing", "sign"] ["thing"] (defScope s_is_name) := ⟨rfl, rfl, rfl, by decide +kernel, rfl, by decide +kernel, by decide +kernel⟩
theorem ok_is_name (T : Txt K mg) : FnOk P w K mg base CX0 1 T.f_is_name T.D_is_name.fd ["thing"] (sp_is_name K) := by
  refine T.D_is_name.F.ok sc_is_name (fun vs H Q E h => ?_) (fun cdv A outer s H vs Q E hr h => ?_)
  · obtain ⟨x, nm, rfl, _⟩ := h
    rfl
  · obtain ⟨x, nm, rfl, hx, hs, k⟩ := h
    have hu := hu_of hr
    have hu65 := hu65_of hr
    refine ⟨_, (pss_cons (ps_if (PW.pt (pw_or (pt_not (pt_val (pe_callB call_isiK' (by rfl) T.n_isinstance (by decide +kernel) (pa_cons (pv 0) (pa_cons (pe_bltn (v := .ty "str") (by rfl) T.n_str (by decide +kernel) rfl) pa_nil))))) (pw_or1 (pt_not (pt_chain op_le op_le pe_int (pe_callB call_len_str (by rfl) T.n_len (by decide +kernel) (pa_cons (pv 0) pa_nil)) (C8.pe_gc rfl T.g_MOST_LETTERS)))))) (pss_one (ps_ret pe_bl)) pss_nil)
      (pss_one (ps_ret (pe_callB (cr_allK rfl) (by rfl) T.n_all (by decide +kernel) (pa_cons (pe_lc (own := [("sign", 1)]) (g := (gName 1)) rfl sc_is_name.nd (pi_str (pv 0)) (blkOk_by (N := ["thing", "sign"]) (sc := defScope s_is_name) (by decide +kernel)) (fun _ _ _ _ _ => (pg_name (i := 1) sc_is_name.nd rfl (Or.inl rfl))) (fun _ _ _ _ _ => pts_nil) (fun _ _ _ _ _ => (pe_cmpR op_in_sign (pv 1) (C8.pe_gc rfl T.g_LETTERS) (by rfl)))) pa_nil))))), ?_⟩
    obtain ⟨t, ty, ki⟩ := hx.isStr
    refine ⟨_, rfl, x, .ty "str", t, _, _, rfl, .ty _, ty, ki, _, rfl, ?_⟩
    cases nm with
    | none =>
      refine iteT ?_
      exact k H (Same.refl H)
    | some n =>
      cases hx
      refine iteF ?_
      refine ⟨_, rfl, n, rfl, Nat.le_trans (hs n rfl) (by decide), _, _, rfl, rfl, _, rfl, ?_⟩
      have lt : ∀ b, isNm n = b → Q (.bl b) H := fun b e => by
        have q := k H (Same.refl H)
        rw [show (some n).elim false isNm = b from e] at q
        exact q
      refine ite2 (fun h1 => ?_) (fun h1 => ?_)
      · have h1' : 1 ≤ n.length := by have := of_decide_eq_true h1; omega
        refine ⟨_, _, rfl, rfl, _, rfl, ?_⟩
        refine ite2 (fun h2 => ?_) (fun h2 => ?_)
        · have h2' : ¬ n.length ≤ 8 := fun z => by
            have : decide ((n.length : Int) ≤ 8) = true := decide_eq_true (by omega)
            rw [this] at h2
            cases h2
          exact lt false (by simp [isNm, h2'])
        · have h2' : n.length ≤ 8 := by
            by_cases z : (n.length : Int) ≤ 8
            · omega
            · rw [decide_eq_false z] at h2
              exact absurd rfl h2
          refine ⟨_, rfl, n, rfl, fun D hD => ?_⟩
          refine lcS n (fun _ => true) (fun c => .bl (decide (c ∈ letters.cps.toList))) (Nat.le_trans (hs n rfl) (by decide)) hD (fun c hc H' e Kn Ky _ ky => ⟨rfl, ?_⟩) (fun H' e hL => ?_)
          · exact ⟨_, rfl, c, _, rfl, rfl, ky H' (Same.refl _) rfl⟩
          · rw [filter_true] at hL
            refine ⟨D, n.cps.toList.map fun c => decide (c ∈ letters.cps.toList), rfl, SqL.of (by rw [hL, List.map_map]; rfl), ?_⟩
            have q := k H' e
            have en : (some n).elim false isNm = (n.cps.toList.map fun c => decide (c ∈ letters.cps.toList)).all id := by
              show isNm n = _
              unfold isNm
              rw [decide_eq_true h1', decide_eq_true h2', List.all_map]
              rfl
            rw [en] at q
            exact q
      · refine ⟨_, rfl, iteT ?_⟩
        have h1' : ¬ 1 ≤ n.length := fun z => h1 (decide_eq_true (by omega))
        exact lt false (by simp [isNm, h1'])
theorem sc_Web_need_thing : FnScope ["self", "name"] ["self", "name"] (defScope s_Web_need_thing) := ⟨rfl, rfl, rfl, by decide +kernel, rfl, by decide +kernel, by decide +kernel⟩
theorem ok_Web_need_thing (T : Txt K mg) : FnOk P w K mg base (L2.CX P w) 1 T.f_Web_need_thing T.D_Web_need_thing.fd ["self", "name"] (sp_Web_need_thing T) := by
  refine T.D_Web_need_thing.F.okX sc_Web_need_thing (fun vs H Q E h => ?_) (fun cdv A outer s H vs Q E hr h => ?_)
  · obtain ⟨a, fp, ns, ps, x, nm, rfl, _⟩ := h
    rfl
  · obtain ⟨a, fp, ns, ps, x, nm, rfl, ⟨lp, lq, Pq, rfl, W, e⟩, hx, k1, k2⟩ := h
    obtain ⟨dx, ho⟩ := W.ob
    have pE := (passes_call (X := cxOf (L2.CX P w) P w K mg base ["self", "name"] "Web.need_thing" (defScope s_Web_need_thing) T.f_Web_need_thing cdv A outer s H E) (W := fun cls d _ H => E cls d H) (takes_of rfl rfl rfl rfl) (fun _ _ _ _ h => h))
    have hu := hu_of hr
    have hu65 := hu65_of hr
    refine ⟨_, (pss_one (ps_if (PW.pt (pw_or (pt_not (pt_val (pe_callB call_isiK' (by rfl) T.n_isinstance (by decide +kernel) (pa_cons (pv 1) (pa_cons (pe_bltn (v := .ty "str") (by rfl) T.n_str (by decide +kernel) rfl) pa_nil))))) (pw_or1 (pt_cmpR op_notIn_seqK (pv 1) (pe_fldK (pv 0) rfl) (by rfl))))) (pss_one (ps_raise rfl (takes_of rfl rfl rfl rfl) (pmk_own PySem.F.excBase_ValueError (T.er.xx (e := .NoThing) (by decide)) (T.er.g .NoThing) (T.er.k .NoThing) (raises_own (T.er.e .NoThing) (T.er.t .NoThing)) rfl))) pss_nil)), ?_⟩
    obtain ⟨t, ty, ki⟩ := hx.isStr
    refine ⟨_, rfl, x, .ty "str", t, _, _, rfl, .ty _, ty, ki, _, rfl, ?_⟩
    cases nm with
    | none =>
      refine iteT ?_
      exact k2 rfl H (Same.refl H)
    | some n =>
      cases hx
      refine iteF ?_
      refine ⟨_, rfl, _, rfl, a, T.CWeb, dx, _, _, rfl, ho, T.c_Web, T.a_Web_put_ones, wF_1, lp, _, rfl, .inl (SqL.of W.pn), rfl, flat_strs ns, _, rfl, ?_⟩
      rw [inV_str]
      by_cases hn : n ∈ ns
      · rw [decide_eq_true hn]
        refine iteF ?_
        exact k1 (decide_eq_true hn) H (Same.refl H)
      · rw [decide_eq_false hn]
        refine iteT ?_
        exact k2 (decide_eq_false hn) H (Same.refl H)
end
end Lr

set_option Elab.async false
set_option linter.all false
set_option maxRecDepth 100000
set_option maxHeartbeats 4000000
namespace Lr
open PySem PySem.Spec PyProof.Rows L2
section
variable {P : Program} {w : World} {K : PySem.W.Frag} {mg : Str → Option Value} {base : Heap}
def sp_Web_put (T : Txt K mg) : Sp := fun vs H Q E => ∃ a fp ns ps x nm, vs = [.ref a, x] ∧ WebS T.CWeb H a fp ns ps ∧ NmV K H x nm ∧ shortN nm ∧ ns.length ≤ 1000 ∧
  (∀ e, putE ns nm = some e → ErrE T e H E) ∧ (∀ n, nm = some n → putE ns nm = none → ∀ H', Fr fp H H' → WebS T.CWeb H' a fp (ns ++ [n]) ps → Q .non H')
def sp_Web_take (T : Txt K mg) : Sp := fun vs H Q E => ∃ a fp ns ps x nm, vs = [.ref a, x] ∧ WebS T.CWeb H a fp ns ps ∧ NmV K H x nm ∧ ps.length ≤ 10000 ∧
  (inN nm ns = false → ErrE T .NoThing H E) ∧
  (∀ n, nm = some n → n ∈ ns → ∀ H' fp', Fr fp H H' → Nw fp H fp' → WebS T.CWeb H' a fp' (ns.erase n) (dropP n ps) → Q .non H')
def sp_Web_leans (T : Txt K mg) : Sp := fun vs H Q E => ∃ a fp ns ps x y nx ny, vs = [.ref a, x, y] ∧ WebS T.CWeb H a fp ns ps ∧ NmV K H x nx ∧ NmV K H y ny ∧
  ((inN nx ns && inN ny ns) = false → ErrE T .NoThing H E) ∧
  (∀ n m, nx = some n → ny = some m → n ∈ ns → m ∈ ns → ∀ H', Same H H' → Q (.bl (decide ((n, m) ∈ ps))) H')
def sp_Web_loosen (T : Txt K mg) : Sp := fun vs H Q E => ∃ a fp ns ps x y nx ny, vs = [.ref a, x, y] ∧ WebS T.CWeb H a fp ns ps ∧ NmV K H x nx ∧ NmV K H y ny ∧
  ((inN nx ns && inN ny ns) = false → ErrE T .NoThing H E) ∧
  (∀ n m, nx = some n → ny = some m → n ∈ ns → m ∈ ns → ((n, m) ∉ ps → ErrE T .NoLeaning H E) ∧ ((n, m) ∈ ps → ∀ H', Fr fp H H' → WebS T.CWeb H' a fp ns (ps.erase (n, m)) → Q .non H'))
theorem sc_Web_put : FnScope ["self", "name"] ["self", "name"] (defScope s_Web_put) := ⟨rfl, rfl, rfl, by decide +kernel, rfl, by decide +kernel, by decide +kernel⟩
theorem ok_Web_put (T : Txt K mg) : FnOk P w K mg base (L2.CX P w) 2 T.f_Web_put T.D_Web_put.fd ["self", "name"] (sp_Web_put T) := by
  refine T.D_Web_put.F.okX sc_Web_put (fun vs H Q E h => ?_) (fun cdv A outer s H vs Q E hr h => ?_)
  · obtain ⟨a, fp, ns, ps, x, nm, rfl, _⟩ := h
    rfl
  · obtain ⟨a, fp, ns, ps, x, nm, rfl, ⟨lp, lq, Pq, rfl, W, e⟩, hx, hs, hl, k1, k2⟩ := h
    obtain ⟨dx, ho⟩ := W.ob
    have pE := (passes_call (X := cxOf (L2.CX P w) P w K mg base ["self", "name"] "Web.put" (defScope s_Web_put) T.f_Web_put cdv A outer s H E) (W := fun cls d _ H => E cls d H) (takes_of rfl rfl rfl rfl) (fun _ _ _ _ h => h))
    have hu := hu_of hr
    have hu65 := hu65_of hr
    refine ⟨_, (pss_cons (ps_if (pt_not (pt_val (pe_call (ok_is_name T) (hr.mono (by decide)) (by rfl) T.g_is_name T.k_is_name T.D_is_name.b .nil pass0 (pa_cons (pv 1) pa_nil)))) (pss_one (ps_raise rfl (takes_of rfl rfl rfl rfl) (pmk_own PySem.F.excBase_ValueError (T.er.xx (e := .BadName) (by decide)) (T.er.g .BadName) (T.er.k .BadName) (raises_own (T.er.e .BadName) (T.er.t .BadName)) rfl))) pss_nil)
      (pss_cons (ps_if (pt_cmpR op_in_seqK (pv 1) (pe_fldK (pv 0) rfl) (by rfl)) (pss_one (ps_raise rfl (takes_of rfl rfl rfl rfl) (pmk_own PySem.F.excBase_ValueError (T.er.xx (e := .Twice) (by decide)) (T.er.g .Twice) (T.er.k .Twice) (raises_own (T.er.e .Twice) (T.er.t .Twice)) rfl))) pss_nil)
      (pss_cons (ps_if (pt_cmpR op_ge (pe_callB call_lenK (by rfl) T.n_len (by decide +kernel) (pa_cons (pe_fldK (pv 0) rfl) pa_nil)) (C8.pe_gc rfl T.g_MOST_THINGS) (nomark _)) (pss_one (ps_raise rfl (takes_of rfl rfl rfl rfl) (pmk_own PySem.F.excBase_ValueError (T.er.xx (e := .TooMany) (by decide)) (T.er.g .TooMany) (T.er.k .TooMany) (raises_own (T.er.e .TooMany) (T.er.t .TooMany)) rfl))) pss_nil)
      (pss_one (ps_expr (pe_bmK PySem.F.plainAttrs_list PySem.F.slot_list_append PySem.F.type_list_append mt_append (pe_fldK (pv 0) rfl) (pa_cons (pv 1) pa_nil))))))), ?_⟩
    refine ⟨_, rfl, x, nm, rfl, hx, hs, fun H1 e1 => ⟨_, rfl, ?_⟩⟩
    have W1 := W.same e1
    have ho1 := e1 _ _ ho
    cases nm with
    | none =>
      refine iteT ?_
      exact k1 _ rfl H1 e1
    | some n =>
      cases hx
      show (if (!isNm n) = true then _ else _)
      refine ite2 (fun h1 => ?_) (fun h1 => ?_)
      · have h1' : isNm n = false := by simpa using h1
        exact k1 .BadName (by simp [putE, h1']) H1 e1
      · have h1' : isNm n = true := by simpa using h1
        refine ⟨_, rfl, _, rfl, a, T.CWeb, dx, _, _, rfl, ho1, T.c_Web, T.a_Web_put_ones, wF_1, lp, _, rfl, .inl (SqL.of W1.pn), rfl, flat_strs ns, _, rfl, ?_⟩
        rw [inV_str]
        by_cases hn : n ∈ ns
        · rw [decide_eq_true hn]
          refine iteT ?_
          exact k1 .Twice (by simp [putE, h1', hn]) H1 e1
        · rw [decide_eq_false hn]
          refine iteF ?_
          refine ⟨_, rfl, a, T.CWeb, dx, _, _, rfl, ho1, T.c_Web, T.a_Web_put_ones, wF_1, lp, _, rfl, .inl (SqL.of W1.pn), _, _, rfl, rfl, _, rfl, ?_⟩
          refine ite2 (fun h2 => ?_) (fun h2 => ?_)
          · have h2' : 30 ≤ ns.length := by
              have := of_decide_eq_true h2
              rw [List.length_map] at this
              omega
            exact k1 .TooMany (by simp [putE, h1', hn, h2']) H1 e1
          · have h2' : ¬ 30 ≤ ns.length := fun z => h2 (decide_eq_true (by rw [List.length_map]; omega))
            refine ⟨_, rfl, a, T.CWeb, dx, _, _, rfl, ho1, T.c_Web, T.a_Web_put_ones, wF_1, .inl ⟨rfl, _, SqL.of W1.pn⟩, _, rfl, lp, _, _, rfl, rfl, W1.pn, ?_, ?_⟩
            · rw [List.length_map]; exact small1000 hl
            · have fr : Fr [a, lp, lq] H (upd H1 lp (.lst (ns.map V.str ++ [.str n]))) := Fr.after_same e1 (Fr.put (by simp) (lst_ntup W1.pn))
              refine k2 n rfl (by simp [putE, h1', hn, h2']) _ fr ⟨lp, lq, Pq, rfl, ⟨⟨dx, ?_⟩, ?_, ?_, W.ne⟩, e⟩
              · rw [upd_ne W.nwp]; exact ho1
              · rw [upd_same]; simp
              · exact W1.pq.fr (g := [lp]) (Fr.put (by simp) (lst_ntup W1.pn)) (by simp [W.ne.symm])
theorem sc_Web_take : FnScope ["self", "name", "pair"] ["self", "name"] (defScope s_Web_take) := ⟨rfl, rfl, rfl, by decide +kernel, rfl, by decide +kernel, by decide +kernel⟩
theorem ok_Web_take (T : Txt K mg) : FnOk P w K mg base (L2.CX P w) 2 T.f_Web_take T.D_Web_take.fd ["self", "name"] (sp_Web_take T) := by
  refine T.D_Web_take.F.okX sc_Web_take (fun vs H Q E h => ?_) (fun cdv A outer s H vs Q E hr h => ?_)
  · obtain ⟨a, fp, ns, ps, x, nm, rfl, _⟩ := h
    rfl
  · obtain ⟨a, fp, ns, ps, x, nm, rfl, ⟨lp, lq, Pq, rfl, W, e⟩, hx, hpl, k1, k2⟩ := h
    obtain ⟨dx, ho⟩ := W.ob
    have pE := (passes_call (X := cxOf (L2.CX P w) P w K mg base ["self", "name", "pair"] "Web.take" (defScope s_Web_take) T.f_Web_take cdv A outer s H E) (W := fun cls d _ H => E cls d H) (takes_of rfl rfl rfl rfl) (fun _ _ _ _ h => h))
    have hu := hu_of hr
    have hu65 := hu65_of hr
    refine ⟨_, (pss_cons (ps_expr (pe_meth (pv 0) T.c_Web T.m_Web_need_thing (ok_Web_need_thing T) (hr.mono (by decide)) T.D_Web_need_thing.b .nil pE (pa_cons (pv 1) pa_nil)))
      (pss_cons (ps_expr (pe_bmK PySem.F.plainAttrs_list PySem.F.slot_list_remove PySem.F.type_list_remove (mt_remDK hu65) (pe_fldK (pv 0) rfl) (pa_cons (pv 1) pa_nil)))
      (pss_one (ps_fld (pv 0) (pe_lc (own := [("pair", 2)]) (g := (gName 2)) rfl sc_Web_take.nd (pi_listK (pe_fldK (pv 0) rfl)) (blkOk_by (N := ["self", "name", "pair"]) (sc := defScope s_Web_take) (by decide +kernel)) (fun _ _ _ _ _ => (pg_name (i := 2) sc_Web_take.nd rfl (Or.inl rfl))) (fun _ _ _ _ _ => (pts_one (pt_cmpR op_notIn_seqK (pv 1) (pv 2) (by rfl)))) (fun _ _ _ _ _ => (pv 2))) rfl)))), ?_⟩
    refine ⟨_, rfl, a, dx, _, rfl, ho, wF_no (by decide +kernel) (by decide +kernel), _, rfl, a, [a, lp, lq], ns, ps, x, nm, rfl, ⟨lp, lq, Pq, rfl, W, e⟩, hx, fun hin H1 e1 => ?_, k1⟩
    obtain ⟨n, rfl, hn⟩ : ∃ n, nm = some n ∧ n ∈ ns := by
      cases nm with
      | none => cases hin
      | some n => exact ⟨n, rfl, of_decide_eq_true hin⟩
    cases hx
    have W1 := W.same e1
    have ho1 := e1 _ _ ho
    refine ⟨_, rfl, a, T.CWeb, dx, _, _, rfl, ho1, T.c_Web, T.a_Web_put_ones, wF_1, .inl ⟨rfl, _, SqL.of W1.pn⟩, _, rfl,
      lp, _, _, sD n, ns.map sD, ns.idxOf n, rfl, rfl, W1.pn, dpAll_str ns, .str n, plain_of sD sD_plain ns, sD_plain n, ?_, place_of sD eqv_str hn, ?_⟩
    · have := sD_depth n; omega
    have W2 : WebAt T.CWeb (upd H1 lp (.lst ((ns.map V.str).eraseIdx (ns.idxOf n)))) a lp lq (ns.erase n) Pq := by
      refine ⟨⟨dx, by rw [upd_ne W.nwp]; exact ho1⟩, ?_, ?_, W.ne⟩
      · rw [upd_same, map_erase_ix, erase_ix]
      · exact W1.pq.fr (g := [lp]) (Fr.put (by simp) (lst_ntup W1.pn)) (by simp [W.ne.symm])
    obtain ⟨dx2, ho2⟩ := W2.ob
    refine ⟨_, rfl, a, T.CWeb, dx2, _, _, rfl, ho2, T.c_Web, T.a_Web_pairs, wF_2, lq, rfl, ⟨_, SqL.of W2.pq.lst⟩, fun D hD => ?_⟩
    refine lcL Pq (fun q => V.ref q.1) (fun q => decide (n ≠ q.2.1) && decide (n ≠ q.2.2)) (fun q => V.ref q.1) (SqL.of W2.pq.lst) ?_ hD (fun q hq H' e3 Kn Ky kn ky => ⟨rfl, ?_⟩) (fun H' e3 hL => ?_)
    · rw [← e] at hpl
      unfold pd at hpl
      rw [List.length_map] at hpl
      omega
    · refine ⟨_, rfl, _, rfl, q.1, _, rfl, .inr (SqT.of (e3 _ _ (W2.pq.tup q hq))), rfl, rfl, _, rfl, ?_⟩
      rw [inV_pair]
      by_cases h1 : n = q.2.1
      · have hb : (decide (n ≠ q.2.1) && decide (n ≠ q.2.2)) = false := by simp [h1]
        rw [decide_eq_true h1]
        exact kn H' (Same.refl H') hb
      · by_cases h2 : n = q.2.2
        · have hb : (decide (n ≠ q.2.1) && decide (n ≠ q.2.2)) = false := by simp [h2]
          rw [decide_eq_true h2, Bool.or_true]
          exact kn H' (Same.refl H') hb
        · have hb : (decide (n ≠ q.2.1) && decide (n ≠ q.2.2)) = true := by simp [h1, h2]
          rw [decide_eq_false h1, decide_eq_false h2]
          exact ⟨_, rfl, ky H' (Same.refl H') hb⟩
    · have W3 := W2.same e3
      obtain ⟨dx3, ho3⟩ := W3.ob
      refine ⟨_, rfl, a, T.CWeb, dx3, _, rfl, ho3, T.c_Web, T.a_Web_pairs, (by show 2 < 1000; decide), ?_⟩
      have naD : a ≠ D := ne_of_none ho2 hD
      have hD0 : H D = none := e1.free (upd_none hD).2
      have f1 : Fr [a, lp, lq] H (upd H1 lp (.lst ((ns.map V.str).eraseIdx (ns.idxOf n)))) := Fr.after_same e1 (Fr.put (by simp) (lst_ntup W1.pn))
      have f2 := f1.then_same e3
      have f3 := f2.trans (Fr.put (o := .ins T.CWeb dx3 (putF "pairs" (.ref D) (wF lp lq))) (show a ∈ [a, lp, lq] by simp) (ins_ntup ho3))
      refine k2 n rfl hn _ [a, lp, D] f3 ?_ ⟨lp, D, Pq.filter (fun q => decide (n ≠ q.2.1) && decide (n ≠ q.2.2)), rfl, ⟨⟨dx3, ?_⟩, ?_, ⟨?_, fun q hq => ?_⟩, ?_⟩, ?_⟩
      · intro b hb
        simp only [List.mem_cons, List.not_mem_nil, or_false] at hb
        rcases hb with rfl | rfl | rfl
        · exact .inl (by simp)
        · exact .inl (by simp)
        · exact .inr hD0
      · rw [upd_same, wF_p2]
      · rw [upd_ne W.nwp.symm]; exact W3.pn
      · rw [upd_ne naD.symm]; exact hL
      · have z := e3 _ _ (W2.pq.tup q (List.mem_filter.mp hq).1)
        have nqa : q.1 ≠ a := ne_of z ho3 (by intro y; cases y)
        rw [upd_ne nqa]; exact z
      · exact ne_of_none W2.pn hD
      · rw [← e]; unfold dropP pd; rw [List.filter_map]; rfl
theorem sc_Web_leans : FnScope ["self", "name", "other"] ["self", "name", "other"] (defScope s_Web_leans) := ⟨rfl, rfl, rfl, by decide +kernel, rfl, by decide +kernel, by decide +kernel⟩
theorem ok_Web_leans (T : Txt K mg) : FnOk P w K mg base (L2.CX P w) 2 T.f_Web_leans T.D_Web_leans.fd ["self", "name", "other"] (sp_Web_leans T) := by
  refine T.D_Web_leans.F.okX sc_Web_leans (fun vs H Q E h => ?_) (fun cdv A outer s H vs Q E hr h => ?_)
  · obtain ⟨a, fp, ns, ps, x, y, nx, ny, rfl, _⟩ := h
    rfl
  · obtain ⟨a, fp, ns, ps, x, y, nx, ny, rfl, ⟨lp, lq, Pq, rfl, W, e⟩, hx, hy, k1, k2⟩ := h
    obtain ⟨dx, ho⟩ := W.ob
    have pE := (passes_call (X := cxOf (L2.CX P w) P w K mg base ["self", "name", "other"] "Web.leans" (defScope s_Web_leans) T.f_Web_leans cdv A outer s H E) (W := fun cls d _ H => E cls d H) (takes_of rfl rfl rfl rfl) (fun _ _ _ _ h => h))
    have hu := hu_of hr
    have hu65 := hu65_of hr
    refine ⟨_, (pss_cons (ps_expr (pe_meth (pv 0) T.c_Web T.m_Web_need_thing (ok_Web_need_thing T) (hr.mono (by decide)) T.D_Web_need_thing.b .nil pE (pa_cons (pv 1) pa_nil)))
      (pss_cons (ps_expr (pe_meth (pv 0) T.c_Web T.m_Web_need_thing (ok_Web_need_thing T) (hr.mono (by decide)) T.D_Web_need_thing.b .nil pE (pa_cons (pv 2) pa_nil)))
      (pss_one (ps_ret (pe_cmpR (op_inPK hu65) (pe_tup (pa_cons (pv 1) (pa_cons (pv 2) pa_nil))) (pe_fldK (pv 0) rfl) (by rfl)))))), ?_⟩
    refine ⟨_, rfl, a, dx, _, rfl, ho, wF_no (by decide +kernel) (by decide +kernel), _, rfl, a, [a, lp, lq], ns, ps, x, nx, rfl, ⟨lp, lq, Pq, rfl, W, e⟩, hx, fun hin H1 e1 => ?_, fun hin => k1 (by rw [hin]; rfl)⟩
    have W1 := W.same e1
    have ho1 := e1 _ _ ho
    refine ⟨_, rfl, a, dx, _, rfl, ho1, wF_no (by decide +kernel) (by decide +kernel), _, rfl, a, [a, lp, lq], ns, ps, y, ny, rfl, ⟨lp, lq, Pq, rfl, W1, e⟩, hy.same e1, fun hin2 H2 e2 => ?_, fun hin2 H2 e2 => k1 (by rw [hin2, Bool.and_false]) H2 (e1.trans e2)⟩
    have W2 := W1.same e2
    have ho2 := e2 _ _ ho1
    obtain ⟨n, rfl, hn⟩ : ∃ n, nx = some n ∧ n ∈ ns := by
      cases nx with
      | none => cases hin
      | some n => exact ⟨n, rfl, of_decide_eq_true hin⟩
    obtain ⟨m, rfl, hm⟩ : ∃ m, ny = some m ∧ m ∈ ns := by
      cases ny with
      | none => cases hin2
      | some n => exact ⟨n, rfl, of_decide_eq_true hin2⟩
    cases hx
    cases hy
    refine ⟨_, rfl, _, rfl, (by show 2 ≤ sizeLine; decide), fun p hp => ?_⟩
    have s3 : Same H2 (upd H2 p (.tup [.str n, .str m])) := Same.new hp
    have W3 := W2.same s3
    obtain ⟨dx3, ho3⟩ := W3.ob
    refine ⟨_, rfl, a, T.CWeb, dx3, _, _, rfl, ho3, T.c_Web, T.a_Web_pairs, wF_2, pD (n, m), (pd Pq).map pD, dp_pair (SqT.of upd_same), dp_pairs W3.pq, pD_plain _, plain_of pD pD_plain _, ?_, ?_⟩
    · have := pD_depth (n, m); omega
    · rw [any_pair, e]
      exact k2 n m rfl rfl hn hm _ ((e1.trans e2).trans s3)
theorem sc_Web_loosen : FnScope ["self", "name", "other"] ["self", "name", "other"] (defScope s_Web_loosen) := ⟨rfl, rfl, rfl, by decide +kernel, rfl, by decide +kernel, by decide +kernel⟩
theorem ok_Web_loosen (T : Txt K mg) : FnOk P w K mg base (L2.CX P w) 3 T.f_Web_loosen T.D_Web_loosen.fd ["self", "name", "other"] (sp_Web_loosen T) := by
  refine T.D_Web_loosen.F.okX sc_Web_loosen (fun vs H Q E h => ?_) (fun cdv A outer s H vs Q E hr h => ?_)
  · obtain ⟨a, fp, ns, ps, x, y, nx, ny, rfl, _⟩ := h
    rfl
  · obtain ⟨a, fp, ns, ps, x, y, nx, ny, rfl, ⟨lp, lq, Pq, rfl, W, e⟩, hx, hy, k1, k2⟩ := h
    obtain ⟨dx, ho⟩ := W.ob
    have pE := (passes_call (X := cxOf (L2.CX P w) P w K mg base ["self", "name", "other"] "Web.loosen" (defScope s_Web_loosen) T.f_Web_loosen cdv A outer s H E) (W := fun cls d _ H => E cls d H) (takes_of rfl rfl rfl rfl) (fun _ _ _ _ h => h))
    have hu := hu_of hr
    have hu65 := hu65_of hr
    refine ⟨_, (pss_cons (ps_if (pt_not (pt_val (pe_meth (pv 0) T.c_Web T.m_Web_leans (ok_Web_leans T) (hr.mono (by decide)) T.D_Web_leans.b .nil pE (pa_cons (pv 1) (pa_cons (pv 2) pa_nil))))) (pss_one (ps_raise rfl (takes_of rfl rfl rfl rfl) (pmk_own PySem.F.excBase_ValueError (T.er.xx (e := .NoLeaning) (by decide)) (T.er.g .NoLeaning) (T.er.k .NoLeaning) (raises_own (T.er.e .NoLeaning) (T.er.t .NoLeaning)) rfl))) pss_nil)
      (pss_one (ps_expr (pe_bmK PySem.F.plainAttrs_list PySem.F.slot_list_remove PySem.F.type_list_remove (mt_remDK hu65) (pe_fldK (pv 0) rfl) (pa_cons (pe_tup (pa_cons (pv 1) (pa_cons (pv 2) pa_nil))) pa_nil))))), ?_⟩
    refine ⟨_, rfl, a, dx, _, rfl, ho, wF_no (by decide +kernel) (by decide +kernel), _, rfl, _, rfl, a, [a, lp, lq], ns, ps, x, y, nx, ny, rfl, ⟨lp, lq, Pq, rfl, W, e⟩, hx, hy, k1, fun n m en em hn hm H1 e1 => ?_⟩
    obtain ⟨k3, k4⟩ := k2 n m en em hn hm
    subst en em
    cases hx
    cases hy
    have W1 := W.same e1
    have ho1 := e1 _ _ ho
    refine ⟨_, rfl, ?_⟩
    by_cases hp : (n, m) ∈ ps
    · rw [decide_eq_true hp]
      refine iteF ?_
      refine ⟨_, rfl, a, T.CWeb, dx, _, _, rfl, ho1, T.c_Web, T.a_Web_pairs, wF_2, .inl ⟨rfl, _, SqL.of W1.pq.lst⟩, _, rfl, _, rfl, (by show 2 ≤ sizeLine; decide), fun p hp2 => ?_⟩
      have s2 : Same H1 (upd H1 p (.tup [.str n, .str m])) := Same.new hp2
      have W2 := W1.same s2
      obtain ⟨dx2, ho2⟩ := W2.ob
      have hp' : (n, m) ∈ pd Pq := by rw [e]; exact hp
      refine ⟨lq, _, _, pD (n, m), (pd Pq).map pD, (pd Pq).idxOf (n, m), rfl, rfl, W2.pq.lst, dpAll_pairs Pq W2.pq.tup, dp_pair (SqT.of upd_same), plain_of pD pD_plain _, pD_plain _, ?_, place_of pD eqv_pair hp', ?_⟩
      · have := pD_depth (n, m); omega
      have fr : Fr [a, lp, lq] H (upd (upd H1 p (.tup [.str n, .str m])) lq (.lst ((Pq.map fun q => V.ref q.1).eraseIdx ((pd Pq).idxOf (n, m))))) := Fr.after_same (e1.trans s2) (Fr.put (by simp) (lst_ntup W2.pq.lst))
      refine k4 hp _ fr ⟨lp, lq, Pq.eraseIdx ((pd Pq).idxOf (n, m)), rfl, ⟨⟨dx2, ?_⟩, ?_, ⟨?_, fun q hq => ?_⟩, W.ne⟩, ?_⟩
      · rw [upd_ne W.nwq]; exact ho2
      · rw [upd_ne W.ne]; exact W2.pn
      · rw [upd_same, map_erase_ix]
      · have z := W2.pq.tup q (List.mem_of_mem_eraseIdx hq)
        have nq : q.1 ≠ lq := ne_of z W2.pq.lst (by intro y; cases y)
        rw [upd_ne nq]; exact z
      · unfold pd
        rw [← map_erase_ix]
        show (pd Pq).eraseIdx ((pd Pq).idxOf (n, m)) = ps.erase (n, m)
        rw [erase_ix, e]
    · rw [decide_eq_false hp]
      refine iteT ?_
      exact k3 hp H1 e1
end
end Lr

set_option Elab.async false
set_option linter.all false
set_option maxRecDepth 100000
set_option maxHeartbeats 4000000
namespace Lr
open PySem PySem.Spec PyProof.Rows L2
section
variable {P : Program} {w : World} {K : PySem.W.Frag} {mg : Str → Option Value} {base : Heap}
def sp_Web_chain (T : Txt K mg) : Sp := fun vs H Q E => ∃ a fp ns ps x y nx ny, vs = [.ref a, x, y] ∧ WebS T.CWeb H a fp ns ps ∧ NmV K H x nx ∧ NmV K H y ny ∧ ps.length ≤ 10000 ∧
  ((inN nx ns && inN ny ns) = false → ErrE T .NoThing H E) ∧
  (∀ n m, nx = some n → ny = some m → n ∈ ns → m ∈ ns → (chainF ps n m = none → ∀ H', Same H H' → Q .non H') ∧
    (∀ c, chainF ps n m = some c → ∀ p H', H p = none → Same H H' → H' p = some (.lst (c.map V.str)) → Q (.ref p) H'))
theorem merge_one (n : Str) : mergeK [] [((Sum.inr n : Key), V.bl true)] = kSeen [n] := by
  unfold mergeK kSeen
  simp [putK]
theorem sc_Web_chain : FnScope ["self", "name", "other", "seen", "waiting", "found", "one", "lower"] ["self", "name", "other"] (defScope s_Web_chain) := ⟨rfl, rfl, rfl, by decide +kernel, rfl, by decide +kernel, by decide +kernel⟩
theorem ok_Web_chain (T : Txt K mg) : FnOk P w K mg base (L2.CX P w) 2 T.f_Web_chain T.D_Web_chain.fd ["self", "name", "other"] (sp_Web_chain T) := by
  refine T.D_Web_chain.F.okX sc_Web_chain (fun vs H Q E h => ?_) (fun cdv A outer s H vs Q E hr h => ?_)
  · obtain ⟨a, fp, ns, ps, x, y, nx, ny, rfl, _⟩ := h
    rfl
  · obtain ⟨a, fp, ns, ps, x, y, nx, ny, rfl, ⟨lp, lq, Pq, rfl, W, e⟩, hx, hy, hpl, k1, k2⟩ := h
    obtain ⟨dx, ho⟩ := W.ob
    have pE := (passes_call (X := cxOf (L2.CX P w) P w K mg base ["self", "name", "other", "seen", "waiting", "found", "one", "lower"] "Web.chain" (defScope s_Web_chain) T.f_Web_chain cdv A outer s H E) (W := fun cls d _ H => E cls d H) (takes_of rfl rfl rfl rfl) (fun _ _ _ _ h => h))
    have hu := hu_of hr
    have hu65 := hu65_of hr
    refine ⟨_, (pss_cons (ps_expr (pe_meth (pv 0) T.c_Web T.m_Web_need_thing (ok_Web_need_thing T) (hr.mono (by decide)) T.D_Web_need_thing.b .nil pE (pa_cons (pv 1) pa_nil)))
      (pss_cons (ps_expr (pe_meth (pv 0) T.c_Web T.m_Web_need_thing (ok_Web_need_thing T) (hr.mono (by decide)) T.D_Web_need_thing.b .nil pE (pa_cons (pv 2) pa_nil)))
      (pss_cons (ps_set (i := 3) sc_Web_chain.nd rfl (Or.inl rfl) (pe_disp (pps_cons (pv 1) pe_bl pps_nil) (by rfl) (by rfl) (fun z => by cases z) (by decide)))
      (pss_cons (ps_set (i := 4) sc_Web_chain.nd rfl (Or.inl rfl) (pe_lst (pa_cons (pe_lst (pa_cons (pv 1) pa_nil)) pa_nil)))
      (pss_cons (ps_while (passes_of rfl) (pt_cmpR (op_nePK hu65) (pv 4) (pe_lst pa_nil) (nomark _)) (pss_cons (ps_set (i := 5) sc_Web_chain.nd rfl (Or.inl rfl) (pe_bmK PySem.F.plainAttrs_list PySem.F.slot_list_pop PySem.F.type_list_pop mt_popAt (pv 4) (pa_cons pe_int pa_nil)))
      (pss_cons (ps_if (pt_cmpR op_eq (pe_ix ix_listK (pv 5) (pe_un un_neg pe_int) (fun _ _ => rfl)) (pv 2) (nomark _)) (pss_one (ps_ret (pv 5))) pss_nil)
      (pss_one (ps_for (passes_of rfl) rfl (pi_listK (pe_fldK (pv 0) rfl)) (pg_tup rfl (pgs_cons (pg_name (i := 6) sc_Web_chain.nd rfl (Or.inl rfl)) (pgs_cons (pg_name (i := 7) sc_Web_chain.nd rfl (Or.inl rfl)) pgs_nil))) (pss_one (ps_if (PW.pt (pw_and (pt_cmpR op_eq (pv 6) (pe_ix ix_listK (pv 5) (pe_un un_neg pe_int) (fun _ _ => rfl)) (nomark _)) (pw_and1 (pt_cmp (pc_dnotin hu (pv 7) (pv 3)))))) (pss_cons (ps_dput hu (pv 3) (pv 7) pe_bl rfl)
      (pss_one (ps_expr (pe_bmK PySem.F.plainAttrs_list PySem.F.slot_list_append PySem.F.type_list_append mt_append (pv 4) (pa_cons (pe_op op_cat (pv 5) (pe_lst (pa_cons (pv 7) pa_nil))) pa_nil))))) pss_nil)))))))
      (pss_one (ps_ret pe_non))))))), ?_⟩
    refine ⟨_, rfl, a, dx, _, rfl, ho, wF_no (by decide +kernel) (by decide +kernel), _, rfl, a, [a, lp, lq], ns, ps, x, nx, rfl, ⟨lp, lq, Pq, rfl, W, e⟩, hx, fun hin H1 e1 => ?_, fun hin => k1 (by rw [hin]; rfl)⟩
    have W1 := W.same e1
    have ho1 := e1 _ _ ho
    refine ⟨_, rfl, a, dx, _, rfl, ho1, wF_no (by decide +kernel) (by decide +kernel), _, rfl, a, [a, lp, lq], ns, ps, y, ny, rfl, ⟨lp, lq, Pq, rfl, W1, e⟩, hy.same e1, fun hin2 H2 e2 => ?_, fun hin2 H2 e2 => k1 (by rw [hin2, Bool.and_false]) H2 (e1.trans e2)⟩
    obtain ⟨n, rfl, hn⟩ : ∃ n, nx = some n ∧ n ∈ ns := by
      cases nx with
      | none => cases hin
      | some n => exact ⟨n, rfl, of_decide_eq_true hin⟩
    obtain ⟨m, rfl, hm⟩ : ∃ m, ny = some m ∧ m ∈ ns := by
      cases ny with
      | none => cases hin2
      | some n => exact ⟨n, rfl, of_decide_eq_true hin2⟩
    cases hx
    cases hy
    obtain ⟨kN, kS⟩ := k2 n m rfl rfl hn hm
    have s2 : Same H H2 := e1.trans e2
    refine fun d hd => ?_
    refine ⟨_, rfl, upd_same, [((Sum.inr n : Key), V.bl true)], rfl, (by show 1 ≤ 15; decide), ?_⟩
    rw [merge_one, upd_upd]
    refine ⟨_, rfl, (by show 1 ≤ sizeLine; decide), fun p0 hp0 => ?_⟩
    refine ⟨(by show 1 ≤ sizeLine; decide), fun l hl => ?_⟩
    obtain ⟨nlp, hl1⟩ := upd_none hl
    obtain ⟨nld, hl2⟩ := upd_none hl1
    obtain ⟨npd, hp2⟩ := upd_none hp0
    refine ⟨fun fuel σ H3 => ∃ seen Wl v5 v6 v7, σ = [some (.ref a), some (.str n), some (.str m), some (.ref d), some (.ref l), v5, v6, v7] ∧ Same H H3 ∧
        H3 d = some (.dK (kSeen seen)) ∧ LL H3 l Wl ∧ (∀ q ∈ Wl, H q.1 = none ∧ q.1 ≠ l) ∧ CI ps fuel seen (Wl.map (·.2)) ∧ cgo ps m fuel seen (Wl.map (·.2)) = chainF ps n m,
      ⟨ps.length + 1, [n], [(p0, [n])], none, none, none, rfl, ?_, ?_, ⟨?_, ?_⟩, ?_, CI.start ps n, rfl⟩, ?_⟩
    · exact ((s2.trans (Same.new hd)).trans (Same.new hp0)).trans (Same.new hl)
    · rw [upd_ne nld.symm, upd_ne npd.symm, upd_same]
    · rw [upd_same]; rfl
    · intro q hq
      rw [List.mem_singleton] at hq
      subst hq
      show upd _ l _ p0 = _
      rw [upd_ne nlp.symm, upd_same]; rfl
    · intro q hq
      rw [List.mem_singleton] at hq
      subst hq
      exact ⟨s2.free hp2, nlp.symm⟩
    · rintro fuel σ H3 ⟨seen, Wl, v5, v6, v7, rfl, s3, h3d, LL3, hW, ci, hR⟩
      have hl0 : H l = none := s2.free hl2
      have hd0 : H d = none := s2.free hd
      have ndl : d ≠ l := fun z => by rw [z, LL3.lst] at h3d; cases h3d
      -- waiting != []
      refine ⟨_, rfl, Nat.zero_le _, fun p hp => ?_⟩
      have sp : Same H3 (upd H3 p (.lst [])) := Same.new hp
      have LL3' : LL (upd H3 p (.lst [])) l Wl := ⟨sp _ _ LL3.lst, fun q hq => sp _ _ (LL3.each q hq)⟩
      refine ⟨_, _, dp_lists LL3', dp_empty upd_same, lists_plain _, empty_plain, ?_, _, rfl, ?_⟩
      · have := empty_depth; omega
      rw [eqv_empty]
      cases Wl with
      | nil =>
        refine iteF ?_
        rw [List.map_nil, cgo_nil] at hR
        exact kN hR.symm _ (s3.trans sp)
      | cons q Wl =>
        refine iteT ?_
        have h3d' := sp _ _ h3d
        have s3' : Same H (upd H3 p (.lst [])) := s3.trans sp
        generalize upd H3 p (.lst []) = H4 at sp LL3' h3d' s3'
        obtain ⟨hf1, ci2⟩ := ci.pop
        rw [List.map_cons, cgo_turn hf1] at hR
        obtain ⟨hq0, nql⟩ := hW q List.mem_cons_self
        have hqp : q.2 ≠ [] := (ci.w q.2 (by simp)).1
        have hql : q.2.length ≤ seen.length := (ci.w q.2 (by simp)).2
        refine ⟨fun σ' H' => ∃ f', f' < fuel ∧ (fun fuel σ H3 => ∃ seen Wl v5 v6 v7, σ = [some (.ref a), some (.str n), some (.str m), some (.ref d), some (.ref l), v5, v6, v7] ∧ Same H H3 ∧
          H3 d = some (.dK (kSeen seen)) ∧ LL H3 l Wl ∧ (∀ q ∈ Wl, H q.1 = none ∧ q.1 ≠ l) ∧ CI ps fuel seen (Wl.map (·.2)) ∧ cgo ps m fuel seen (Wl.map (·.2)) = chainF ps n m) f' σ' H', fun _ _ z => z, ?_⟩
        -- found = waiting.pop(0)
        refine ⟨_, rfl, .inl ⟨rfl, _, SqL.of LL3'.lst⟩, l, _, 0, 0, .ref q.1, rfl, rfl, LL3'.lst, by decide, by decide, by simp [seqIndex?], rfl, ?_⟩
        have hq4 : H4 q.1 = some (.lst (q.2.map V.str)) := LL3'.each q List.mem_cons_self
        have LL5 : LL (upd H4 l (.lst (Wl.map fun q => V.ref q.1))) l Wl := ⟨upd_same, fun z hz => by
          rw [upd_ne (hW z (List.mem_cons_of_mem _ hz)).2]; exact LL3'.each z (List.mem_cons_of_mem _ hz)⟩
        have hq5 : (upd H4 l (.lst (Wl.map fun q => V.ref q.1))) q.1 = some (.lst (q.2.map V.str)) := by rw [upd_ne nql]; exact hq4
        have s5 : Same H (upd H4 l (.lst (Wl.map fun q => V.ref q.1))) := Same.mut s3' hl0
        have h5d : (upd H4 l (.lst (Wl.map fun q => V.ref q.1))) d = some (.dK (kSeen seen)) := by rw [upd_ne ndl]; exact h3d'
        show tSeq _ _ _ _ (upd H4 l (.lst (Wl.map fun q => V.ref q.1)))
        generalize upd H4 l (.lst (Wl.map fun q => V.ref q.1)) = H5 at LL5 hq5 s5 h5d
        -- if found[-1] == other: return found
        refine ⟨_, rfl, _, rfl, q.1, _, _, _, rfl, rfl, SqL.of hq5, atI_lastD hqp, _, rfl, rfl, _, rfl, ?_⟩
        by_cases hlast : lst1 q.2 = m
        · rw [if_pos hlast] at hR
          rw [hlast, decide_eq_true rfl]
          refine iteT ?_
          exact ⟨_, rfl, kS q.2 hR.symm q.1 H5 hq0 s5 hq5⟩
        · rw [if_neg hlast] at hR
          have hne : decide (V.str (lst1 q.2) = V.str m) = false := decide_eq_false (fun z => hlast (V.str.inj z))
          rw [hne]
          refine iteF ?_
          -- for one, lower in self.pairs
          have W5 := W.same s5
          obtain ⟨dx5, ho5⟩ := W5.ob
          refine ⟨_, rfl, a, T.CWeb, dx5, _, _, rfl, ho5, T.c_Web, T.a_Web_pairs, wF_2, lq, rfl, ⟨_, SqL.of W5.pq.lst⟩, ?_⟩
          refine for_list (K := K) (a := lq) (xs := Pq.map fun q => V.ref q.1) (fun i σ H6 => ∃ seen' W' v6 v7, σ = [some (.ref a), some (.str n), some (.str m), some (.ref d), some (.ref l), some (.ref q.1), v6, v7] ∧ Same H H6 ∧
            H6 d = some (.dK (kSeen seen')) ∧ LL H6 l W' ∧ (∀ z ∈ W', H z.1 = none ∧ z.1 ≠ l) ∧ H6 q.1 = some (.lst (q.2.map V.str)) ∧ CI ps (fuel - 1) seen' (W'.map (·.2)) ∧ q.2.length ≤ seen'.length ∧
            (seen', W'.map (·.2)) = (ps.take i).foldl (cst (lst1 q.2) q.2) (seen, Wl.map (·.2)))
            ⟨seen, Wl, v6, v7, rfl, s5, h5d, LL5, fun z hz => hW z (List.mem_cons_of_mem _ hz), hq5, ci2, hql, rfl⟩
            (fun i σ H6 _ ⟨_, _, _, _, _, s6, _⟩ => SqL.of (W.same s6).pq.lst) ?_ ?_
          · rintro i xi σ H6 hxi ⟨seen', W', v6, v7, rfl, s6, h6d, LL6, hW6, hq6, ci6, hl6, hfold⟩
            rw [List.getElem?_map] at hxi
            cases hpi : Pq[i]? with
            | none => rw [hpi] at hxi; cases hxi
            | some pr =>
              rw [hpi] at hxi
              cases hxi
              have hpm : pr ∈ Pq := List.mem_of_getElem? hpi
              have hpp : pr.2 ∈ ps := by rw [← e]; exact List.mem_map_of_mem hpm
              have hpi2 : ps[i]? = some pr.2 := by rw [← e]; unfold pd; rw [List.getElem?_map, hpi]; rfl
              have W6 := W.same s6
              refine ⟨pr.1, _, rfl, SqT.of (W6.pq.tup pr hpm), rfl, _, _, rfl, _, _, rfl, rfl, ?_⟩
              have stp := take_step (cst (lst1 q.2) q.2) (seen, Wl.map (·.2)) hpi2
              rw [← hfold] at stp
              obtain ⟨ci7, hl7⟩ := CI.step (sw := (seen', W'.map (·.2))) (x := lst1 q.2) (path := q.2) ci6 hpp hl6
              -- if one == found[-1] and lower not in seen
              refine ⟨_, rfl, _, rfl, _, rfl, q.1, _, _, _, rfl, rfl, SqL.of hq6, atI_lastD hqp, rfl, _, rfl, ?_⟩
              by_cases h1 : pr.2.1 = lst1 q.2
              · rw [h1, decide_eq_true rfl]
                refine iteT ?_
                refine ⟨_, rfl, _, rfl, d, _, rfl, DGet.k (k := Sum.inr pr.2.2) h6d, _, rfl, ?_⟩
                rw [valV_seen]
                by_cases h2 : pr.2.2 ∈ seen'
                · rw [if_pos h2]
                  refine iteF ?_
                  have ec : cst (lst1 q.2) q.2 (seen', W'.map (·.2)) pr.2 = (seen', W'.map (·.2)) := if_neg (fun z => z.2 h2)
                  rw [ec] at stp
                  exact ⟨seen', W', _, _, rfl, s6, h6d, LL6, hW6, hq6, ci6, hl6, stp.symm⟩
                · rw [if_neg h2]
                  refine iteT ?_
                  have ec : cst (lst1 q.2) q.2 (seen', W'.map (·.2)) pr.2 = (seen' ++ [pr.2.2], W'.map (·.2) ++ [q.2 ++ [pr.2.2]]) := if_pos ⟨h1, h2⟩
                  rw [ec] at stp ci7 hl7
                  have hsl : seen'.length ≤ 10001 := by have := ci6.s; omega
                  have hwl : W'.length ≤ 10001 := by have := ci6.m; have := ci6.f; rw [List.length_map] at *; omega
                  -- seen[lower] = True
                  refine ⟨_, rfl, _, rfl, d, _, rfl, DPut.k (k := Sum.inr pr.2.2) h6d (by unfold kSeen; rw [List.length_map]; exact Nat.lt_of_le_of_lt hsl (by decide)), ?_⟩
                  rw [put_seen h2]
                  have nql6 : q.1 ≠ d := ne_of hq6 h6d (by intro y; cases y)
                  have LL7 : LL (upd H6 d (.dK (kSeen (seen' ++ [pr.2.2])))) l W' := ⟨by rw [upd_ne ndl.symm]; exact LL6.lst, fun z hz => by
                    have q6 := LL6.each z hz
                    rw [upd_ne (ne_of q6 h6d (by intro y; cases y))]; exact q6⟩
                  have hq7 : (upd H6 d (.dK (kSeen (seen' ++ [pr.2.2])))) q.1 = some (.lst (q.2.map V.str)) := by rw [upd_ne nql6]; exact hq6
                  have s7 : Same H (upd H6 d (.dK (kSeen (seen' ++ [pr.2.2])))) := Same.mut s6 hd0
                  have h7d : (upd H6 d (.dK (kSeen (seen' ++ [pr.2.2])))) d = some (.dK (kSeen (seen' ++ [pr.2.2]))) := upd_same
                  generalize upd H6 d (.dK (kSeen (seen' ++ [pr.2.2]))) = H7 at LL7 hq7 s7 h7d
                  -- waiting.append(found + [lower])
                  refine ⟨_, rfl, .inl ⟨rfl, _, SqL.of LL7.lst⟩, _, rfl, _, rfl, (by show 1 ≤ sizeLine; decide), fun p1 hp1 => ?_⟩
                  have s8 := Same.new (o := .lst [V.str pr.2.2]) hp1
                  refine ⟨q.1, p1, _, _, rfl, rfl, s8 _ _ hq7, upd_same, ?_, fun p2 hp2 => ?_⟩
                  · rw [List.length_map]
                    show q.2.length + 1 ≤ sizeLine
                    exact Nat.le_trans (show q.2.length + 1 ≤ 10002 by omega) (by decide)
                  obtain ⟨n21, hp2'⟩ := upd_none hp2
                  have s9 := s8.trans (Same.new (o := .lst (q.2.map V.str ++ [V.str pr.2.2])) hp2)
                  have h9p : (upd (upd H7 p1 (.lst [V.str pr.2.2])) p2 (.lst (q.2.map V.str ++ [V.str pr.2.2]))) p2 = some (.lst ((q.2 ++ [pr.2.2]).map V.str)) := by rw [upd_same]; simp
                  have n2l : p2 ≠ l := (ne_of_none LL7.lst hp2').symm
                  have n2q : p2 ≠ q.1 := (ne_of_none hq7 hp2').symm
                  have n2d : p2 ≠ d := (ne_of_none h7d hp2').symm
                  have hp2H : H p2 = none := s7.free hp2'
                  generalize upd (upd H7 p1 (.lst [V.str pr.2.2])) p2 (.lst (q.2.map V.str ++ [V.str pr.2.2])) = H9 at s9 h9p
                  refine ⟨l, _, _, rfl, rfl, s9 _ _ LL7.lst, ?_, ?_⟩
                  · rw [List.length_map]; exact Nat.lt_of_le_of_lt hwl (by decide)
                  refine ⟨seen' ++ [pr.2.2], W' ++ [(p2, q.2 ++ [pr.2.2])], _, _, rfl, Same.mut (s7.trans s9) hl0, ?_, ⟨?_, ?_⟩, ?_, ?_, ?_, hl7, ?_⟩
                  · rw [upd_ne ndl]; exact s9 _ _ h7d
                  · rw [upd_same]; simp
                  · intro z hz
                    rcases List.mem_append.mp hz with hz | hz
                    · rw [upd_ne (hW6 z hz).2]; exact s9 _ _ (LL7.each z hz)
                    · rw [List.mem_singleton] at hz
                      subst hz
                      rw [upd_ne n2l]; exact h9p
                  · intro z hz
                    rcases List.mem_append.mp hz with hz | hz
                    · exact hW6 z hz
                    · rw [List.mem_singleton] at hz
                      subst hz
                      exact ⟨hp2H, n2l⟩
                  · rw [upd_ne nql]; exact s9 _ _ hq7
                  · simpa using ci7
                  · rw [stp]; simp
              · have hne1 : decide (V.str pr.2.1 = V.str (lst1 q.2)) = false := decide_eq_false (fun z => h1 (V.str.inj z))
                rw [hne1]
                refine iteF ?_
                refine iteF ?_
                have ec : cst (lst1 q.2) q.2 (seen', W'.map (·.2)) pr.2 = (seen', W'.map (·.2)) := if_neg (fun z => h1 z.1)
                rw [ec] at stp
                exact ⟨seen', W', _, _, rfl, s6, h6d, LL6, hW6, hq6, ci6, hl6, stp.symm⟩
          · rintro σ H6 ⟨seen', W', v6, v7, rfl, s6, h6d, LL6, hW6, hq6, ci6, hl6, hfold⟩
            have el : (Pq.map fun q => V.ref q.1).length = ps.length := by rw [← e]; simp [pd]
            rw [el, List.take_length] at hfold
            refine ⟨fuel - 1, by omega, seen', W', _, v6, v7, rfl, s6, h6d, LL6, hW6, ci6, ?_⟩
            rw [← hfold] at hR
            exact hR
end
end Lr

set_option Elab.async false
set_option linter.all false
set_option maxRecDepth 100000
set_option maxHeartbeats 4000000
namespace Lr
open PySem PySem.Spec PyProof.Rows L2
section
variable {P : Program} {w : World} {K : PySem.W.Frag} {mg : Str → Option Value} {base : Heap}
def sp_Ring___init__ (T : Txt K mg) : Sp := fun vs H Q _ => ∃ (a r : Addr) (xs : List Str), vs = [.ref a, .ref r] ∧ H a = some (exo a (T.ce .Ring) none) ∧ H r = some (.lst (xs.map V.str)) ∧
  ∀ l dx, H l = none → H dx = none → dx ≠ l → Q .non (upd (upd (upd H l (.lst (xs.map V.str))) dx (exd dx [("ring", .ref l)])) a (exo a (T.ce .Ring) (some dx)))
/-- the ring's own error: its dict, its list are new -/
def RingE (T : Txt K mg) (ring : List Str) (H : Hp) (E : XK) : Prop := ∀ d l H', Same H H' → H d = none → H l = none → H' d = some (.xd [("ring", .ref l)]) → H' l = some (.lst (ring.map V.str)) → E (.ref (T.ce .Ring)) (some d) H'
def sp_Web_lean (T : Txt K mg) : Sp := fun vs H Q E => ∃ a fp ns ps x y nx ny, vs = [.ref a, x, y] ∧ WebS T.CWeb H a fp ns ps ∧ NmV K H x nx ∧ NmV K H y ny ∧ ps.length ≤ 10000 ∧
  ((inN nx ns && inN ny ns) = false → ErrE T .NoThing H E) ∧
  (∀ n m, nx = some n → ny = some m → n ∈ ns → m ∈ ns → ((n, m) ∈ ps → ErrE T .Twice H E) ∧ ((n, m) ∉ ps → (∀ c, chainF ps m n = some c → c.length ≤ 20000 → RingE T (n :: c.dropLast) H E) ∧
    (chainF ps m n = none → ∀ H', Fr fp H H' → WebS T.CWeb H' a fp ns (ps ++ [(n, m)]) → Q .non H')))
theorem sc_Ring___init__ : FnScope ["self", "ring"] ["self", "ring"] (defScope s_Ring___init__) := ⟨rfl, rfl, rfl, by decide +kernel, rfl, by decide +kernel, by decide +kernel⟩
theorem ok_Ring___init__ (T : Txt K mg) : FnOk P w K mg base CX0 1 T.er.fRi T.er.D.fd ["self", "ring"] (sp_Ring___init__ T) := by
  refine T.er.D.F.ok sc_Ring___init__ (fun vs H Q E h => ?_) (fun cdv A outer s H vs Q E hr h => ?_)
  · obtain ⟨a, r, xs, rfl, _⟩ := h
    rfl
  · obtain ⟨a, r, xs, rfl, ha, hr', k⟩ := h
    have hu := hu_of hr
    have hu65 := hu65_of hr
    refine ⟨_, (pss_cons (ps_expr (pe_baseinit (by rfl) T.er.g_LeanError T.er.lrd T.er.linit (pa_cons (pv 0) (pa_cons pe_str pa_nil))))
      (pss_one (ps_ost (pv 0) (pe_callTy call_listK (by rfl) T.n_list (by decide +kernel) (pa_cons (pv 1) pa_nil))))), ?_⟩
    refine ⟨_, rfl, a, T.ce .Ring, [_], rfl, (by show 1 ≤ 1000; decide), T.er.oRing, ha, ?_⟩
    refine ⟨_, rfl, r, _, rfl, .inl (SqL.of hr'), fun l hl => ?_⟩
    refine ⟨_, rfl, a, T.ce .Ring, rfl, T.er.oRing, T.er.noRing, .inl ⟨?_, fun dx hdx nda => ?_⟩⟩
    · rw [upd_ne (ne_of_none ha hl)]; exact ha
    · obtain ⟨n1, n2⟩ := upd_none hdx
      exact k l dx hl n2 n1
theorem sc_Web_lean : FnScope ["self", "name", "other", "found"] ["self", "name", "other"] (defScope s_Web_lean) := ⟨rfl, rfl, rfl, by decide +kernel, rfl, by decide +kernel, by decide +kernel⟩
theorem ok_Web_lean (T : Txt K mg) : FnOk P w K mg base (L2.CX P w) 4 T.f_Web_lean T.D_Web_lean.fd ["self", "name", "other"] (sp_Web_lean T) := by
  refine T.D_Web_lean.F.okX sc_Web_lean (fun vs H Q E h => ?_) (fun cdv A outer s H vs Q E hr h => ?_)
  · obtain ⟨a, fp, ns, ps, x, y, nx, ny, rfl, _⟩ := h
    rfl
  · obtain ⟨a, fp, ns, ps, x, y, nx, ny, rfl, ⟨lp, lq, Pq, rfl, W, e⟩, hx, hy, hpl, k1, k2⟩ := h
    obtain ⟨dx, ho⟩ := W.ob
    have pE := (passes_call (X := cxOf (L2.CX P w) P w K mg base ["self", "name", "other", "found"] "Web.lean" (defScope s_Web_lean) T.f_Web_lean cdv A outer s H E) (W := fun cls d _ H => E cls d H) (takes_of rfl rfl rfl rfl) (fun _ _ _ _ h => h))
    have hu := hu_of hr
    have hu65 := hu65_of hr
    refine ⟨_, (pss_cons (ps_if (pt_val (pe_meth (pv 0) T.c_Web T.m_Web_leans (ok_Web_leans T) (hr.mono (by decide)) T.D_Web_leans.b .nil pE (pa_cons (pv 1) (pa_cons (pv 2) pa_nil)))) (pss_one (ps_raise rfl (takes_of rfl rfl rfl rfl) (pmk_own PySem.F.excBase_ValueError (T.er.xx (e := .Twice) (by decide)) (T.er.g .Twice) (T.er.k .Twice) (raises_own (T.er.e .Twice) (T.er.t .Twice)) rfl))) pss_nil)
      (pss_cons (ps_set (i := 3) sc_Web_lean.nd rfl (Or.inl rfl) (pe_meth (pv 0) T.c_Web T.m_Web_chain (ok_Web_chain T) (hr.mono (by decide)) T.D_Web_chain.b .nil pE (pa_cons (pv 2) (pa_cons (pv 1) pa_nil))))
      (pss_cons (ps_if (pt_cmpR op_notN (pv 3) pe_non (nomark _)) (pss_one (ps_raise rfl (takes_of rfl rfl rfl rfl) (pmk_oex T.er.oRing T.er.iRing T.er.tyRing (ok_Ring___init__ T) (hr.mono (by decide)) T.er.D.b .nil pass0 (by rfl) (T.er.g .Ring) (pa_cons (pe_op op_cat (pe_lst (pa_cons (pv 1) pa_nil)) (pe_slice sl_listK (pv 3) po_none (po_some (pe_un un_neg pe_int)))) pa_nil)))) pss_nil)
      (pss_one (ps_expr (pe_bmK PySem.F.plainAttrs_list PySem.F.slot_list_append PySem.F.type_list_append mt_append (pe_fldK (pv 0) rfl) (pa_cons (pe_tup (pa_cons (pv 1) (pa_cons (pv 2) pa_nil))) pa_nil))))))), ?_⟩
    refine ⟨_, rfl, a, dx, _, rfl, ho, wF_no (by decide +kernel) (by decide +kernel), _, rfl, _, rfl, a, [a, lp, lq], ns, ps, x, y, nx, ny, rfl, ⟨lp, lq, Pq, rfl, W, e⟩, hx, hy, k1, fun n m en em hn hm H1 e1 => ?_⟩
    obtain ⟨k3, k4⟩ := k2 n m en em hn hm
    subst en em
    cases hx
    cases hy
    have W1 := W.same e1
    have ho1 := e1 _ _ ho
    refine ⟨_, rfl, ?_⟩
    by_cases hp : (n, m) ∈ ps
    · rw [decide_eq_true hp]
      refine iteT ?_
      exact k3 hp H1 e1
    · rw [decide_eq_false hp]
      refine iteF ?_
      obtain ⟨k5, k6⟩ := k4 hp
      refine ⟨_, rfl, a, dx, _, rfl, ho1, wF_no (by decide +kernel) (by decide +kernel), _, rfl, _, rfl, a, [a, lp, lq], ns, ps, .str m, .str n, some m, some n, rfl, ⟨lp, lq, Pq, rfl, W1, e⟩, rfl, rfl, hpl, fun z => ?_, fun m' n' em en hm' hn' => ?_⟩
      · have : (inN (some m) ns && inN (some n) ns) = true := by simp [inN, hn, hm]
        rw [this] at z
        cases z
      cases em
      cases en
      refine ⟨fun hc H2 e2 => ?_, fun c hc p H2 hp2 e2 hp3 => ?_⟩
      · refine ⟨_, rfl, rfl, _, rfl, ?_⟩
        refine iteF ?_
        have W2 := W1.same e2
        obtain ⟨dx2, ho2⟩ := W2.ob
        refine ⟨_, rfl, a, T.CWeb, dx2, _, _, rfl, ho2, T.c_Web, T.a_Web_pairs, wF_2, .inl ⟨rfl, _, SqL.of W2.pq.lst⟩, _, rfl, _, rfl, (by show 2 ≤ sizeLine; decide), fun t ht => ?_⟩
        have s3 : Same H2 (upd H2 t (.tup [.str n, .str m])) := Same.new ht
        have W3 := W2.same s3
        refine ⟨lq, _, _, rfl, rfl, W3.pq.lst, ?_, ?_⟩
        · rw [List.length_map]
          have : Pq.length ≤ 10000 := by rw [← e] at hpl; unfold pd at hpl; rw [List.length_map] at hpl; exact hpl
          exact Nat.lt_of_le_of_lt this (by decide)
        have fr : Fr [a, lp, lq] H (upd (upd H2 t (.tup [.str n, .str m])) lq (.lst ((Pq.map fun q => V.ref q.1) ++ [.ref t]))) := Fr.after_same ((e1.trans e2).trans s3) (Fr.put (by simp) (lst_ntup W3.pq.lst))
        obtain ⟨dx3, ho3⟩ := W3.ob
        refine k6 hc _ fr ⟨lp, lq, Pq ++ [(t, n, m)], rfl, ⟨⟨dx3, ?_⟩, ?_, ⟨?_, fun q hq => ?_⟩, W.ne⟩, ?_⟩
        · rw [upd_ne W.nwq]; exact ho3
        · rw [upd_ne W.ne]; exact W3.pn
        · rw [upd_same]; simp
        · rcases List.mem_append.mp hq with hq | hq
          · have z := W3.pq.tup q hq
            rw [upd_ne (ne_of z W3.pq.lst (by intro y; cases y))]; exact z
          · rw [List.mem_singleton] at hq
            subst hq
            show upd _ lq _ t = _
            rw [upd_ne (ne_of (upd_same (H := H2) (a := t) (o := .tup [.str n, .str m])) W3.pq.lst (by intro y; cases y)), upd_same]
        · rw [← e]; simp [pd]
      · refine ⟨_, rfl, rfl, _, rfl, ?_⟩
        refine iteT ?_
        have hcl : c.length ≤ 20000 := chainF_len hpl hc
        refine ⟨_, rfl, (by show 1 ≤ sizeLine; decide), fun p1 hp1 => ?_⟩
        have s3 := Same.new (o := .lst [V.str n]) hp1
        refine ⟨_, rfl, _, rfl, _, rfl, p, _, rfl, SqL.of (s3 _ _ hp3), fun p2 hp4 => ?_⟩
        obtain ⟨n21, hp5⟩ := upd_none hp4
        have hz := cut_last c
        refine ⟨p1, p2, [V.str n], c.dropLast.map V.str, rfl, rfl, ?_, ?_, ?_, fun p6 hp6 => ?_⟩
        · rw [upd_ne n21.symm, upd_same]
        · rw [upd_same]
          exact congrArg (fun z => some (HO.lst z)) hz
        · rw [List.length_map, List.length_dropLast]
          show 1 + (c.length - 1) ≤ sizeLine
          exact Nat.le_trans (show 1 + (c.length - 1) ≤ 20001 by omega) (by decide)
        rw [hz] at hp6 ⊢
        have s5 : Same H2 (upd (upd (upd H2 p1 (.lst [V.str n])) p2 (.lst (c.dropLast.map V.str))) p6 (.lst ([V.str n] ++ c.dropLast.map V.str))) := (s3.trans (Same.new hp4)).trans (Same.new hp6)
        have h6 : (upd (upd (upd H2 p1 (.lst [V.str n])) p2 (.lst (c.dropLast.map V.str))) p6 (.lst ([V.str n] ++ c.dropLast.map V.str))) p6 = some (.lst ((n :: c.dropLast).map V.str)) := by rw [upd_same]; rfl
        generalize upd (upd (upd H2 p1 (.lst [V.str n])) p2 (.lst (c.dropLast.map V.str))) p6 (.lst ([V.str n] ++ c.dropLast.map V.str)) = H6 at s5 h6
        have s6 : Same H H6 := (e1.trans e2).trans s5
        refine ⟨(by show 1 ≤ 1000; decide), fun x hx => ?_⟩
        refine ⟨x, p6, n :: c.dropLast, rfl, upd_same, ?_, fun l dd hl hdd ndl => ⟨rfl, dd, [("ring", .ref l)], upd_same, ?_, (upd_none hdd).2, ?_⟩⟩
        · rw [upd_ne (ne_of_none h6 hx)]; exact h6
        · rw [upd_ne (upd_none hdd).1, upd_same]
        · obtain ⟨nlx, hl2⟩ := upd_none hl
          obtain ⟨ndx, hd2⟩ := upd_none hdd
          refine k5 c hc hcl dd l _ (fun b o eb => ?_) (s6.free hd2) (s6.free hl2) upd_same ?_
          · have q := s6 b o eb
            rw [upd_ne (ne_of_none q hd2), del_ne (ne_of_none q hx), upd_ne (ne_of_none q hx), upd_ne (ne_of_none q hd2), upd_ne (ne_of_none q hl2), upd_ne (ne_of_none q hx)]; exact q
          · rw [upd_ne ndl.symm, del_ne nlx, upd_ne nlx, upd_ne ndl.symm, upd_same]
end
end Lr

set_option Elab.async false
set_option linter.all false
set_option maxRecDepth 100000
set_option maxHeartbeats 4000000
namespace Lr
open PySem PySem.Spec PyProof.Rows L2
section
variable {P : Program} {w : World} {K : PySem.W.Frag} {mg : Str → Option Value} {base : Heap}
def sp_Row___init__ (T : Txt K mg) : Sp := fun vs H Q _ => ∃ (a dx : Addr), vs = [.ref a] ∧ H a = some (.ins T.CRow dx []) ∧
  ∀ H' fp, Fr [a] H H' → Nw [a] H fp → RowS T.CRow T.CWeb H' a fp [] [] [] → Q .non H'
def sp_Row_names (T : Txt K mg) : Sp := fun vs H Q _ => ∃ a fp ns ps os, vs = [.ref a] ∧ RowS T.CRow T.CWeb H a fp ns ps os ∧
  ∀ p H', H p = none → Same H H' → H' p = some (.lst (os.map V.str)) → Q (.ref p) H'
def sp_Row_leanings (T : Txt K mg) : Sp := fun vs H Q _ => ∃ a fp ns ps os, vs = [.ref a] ∧ RowS T.CRow T.CWeb H a fp ns ps os ∧
  ∀ p H' P, H p = none → Same H H' → PL H' p P → pd P = ps → Q (.ref p) H'
def sp_Row_put (T : Txt K mg) : Sp := fun vs H Q E => ∃ a fp ns ps os x nm, vs = [.ref a, x] ∧ RowS T.CRow T.CWeb H a fp ns ps os ∧ NmV K H x nm ∧ shortN nm ∧ ns.length ≤ 1000 ∧ os.length ≤ 1000 ∧
  (∀ e, putE ns nm = some e → ErrE T e H E) ∧ (∀ n, nm = some n → putE ns nm = none → ∀ H', Fr fp H H' → RowS T.CRow T.CWeb H' a fp (ns ++ [n]) ps (os ++ [n]) → Q .non H')
def sp_Row_take (T : Txt K mg) : Sp := fun vs H Q E => ∃ a fp ns ps os x nm, vs = [.ref a, x] ∧ RowS T.CRow T.CWeb H a fp ns ps os ∧ NmV K H x nm ∧ ps.length ≤ 10000 ∧ (∀ o, o ∈ ns → o ∈ os) ∧
  (inN nm ns = false → ErrE T .NoThing H E) ∧
  (∀ n, nm = some n → n ∈ ns → ∀ H' fp', Fr fp H H' → Nw fp H fp' → RowS T.CRow T.CWeb H' a fp' (ns.erase n) (dropP n ps) (os.erase n) → Q .non H')
def sp_Row_loosen (T : Txt K mg) : Sp := fun vs H Q E => ∃ a fp ns ps os x y nx ny, vs = [.ref a, x, y] ∧ RowS T.CRow T.CWeb H a fp ns ps os ∧ NmV K H x nx ∧ NmV K H y ny ∧
  ((inN nx ns && inN ny ns) = false → ErrE T .NoThing H E) ∧
  (∀ n m, nx = some n → ny = some m → n ∈ ns → m ∈ ns → ((n, m) ∉ ps → ErrE T .NoLeaning H E) ∧ ((n, m) ∈ ps → ∀ H', Fr fp H H' → RowS T.CRow T.CWeb H' a fp ns (ps.erase (n, m)) os → Q .non H'))
theorem sc_Row___init__ : FnScope ["self"] ["self"] (defScope s_Row___init__) := ⟨rfl, rfl, rfl, by decide +kernel, rfl, by decide +kernel, by decide +kernel⟩
theorem ok_Row___init__ (T : Txt K mg) : FnOk P w K mg base CX0 3 T.f_Row___init__ T.D_Row___init__.fd ["self"] (sp_Row___init__ T) := by
  refine T.D_Row___init__.F.ok sc_Row___init__ (fun vs H Q E h => ?_) (fun cdv A outer s H vs Q E hr h => ?_)
  · obtain ⟨a, dx, rfl, _⟩ := h
    rfl
  · obtain ⟨a, dx, rfl, ha, k⟩ := h
    have hu := hu_of hr
    have hu65 := hu65_of hr
    refine ⟨_, (pss_cons (ps_fld (pv 0) (pe_make0 T.mk_Web (ok_Web___init__ T) (hr.mono (by decide)) rfl T.g_Web T.D_Web___init__.b .nil pass0) rfl)
      (pss_one (ps_fld (pv 0) (pe_lst pa_nil) rfl))), ?_⟩
    intro we dw nw ndw new
    have s0 : Same H (upd (upd H dw (.own we)) we (.ins T.CWeb dw [])) := fun b o e => by
      rw [upd_ne (ne_of_none e nw), upd_ne (ne_of_none e ndw)]; exact e
    refine ⟨we, dw, rfl, upd_same, fun H1 fw f1 n1 W1 => ⟨rfl, ?_⟩⟩
    have s1 : Same H H1 := fun b o e => f1.1 b o (s0 b o e) (fun z => by rw [List.mem_singleton] at z; rw [z, nw] at e; cases e)
    have ho1 := s1 _ _ ha
    refine ⟨_, rfl, a, T.CRow, dx, [], rfl, ho1, T.c_Row, T.a_Row_web, (by show 0 < 1000; decide), ?_⟩
    have naw : ∀ b ∈ fw, b ≠ a ∧ H b = none := fun b hb => by
      rcases n1 b hb with q | q
      · rw [List.mem_singleton] at q
        subst q
        exact ⟨fun z => (by rw [z, ha] at nw; cases nw), nw⟩
      · have q2 : H b = none := s0.free q
        exact ⟨fun z => (by rw [z, ha] at q2; cases q2), q2⟩
    refine ⟨Nat.zero_le _, fun lo hlo => ?_⟩
    obtain ⟨nla, hlo1⟩ := upd_none hlo
    refine ⟨_, rfl, a, T.CRow, dx, _, rfl, (by rw [upd_ne nla.symm, upd_same]), T.c_Row, T.a_Row_order, (by show 1 < 1000; decide), ?_⟩
    have hlo0 : H lo = none := s1.free hlo1
    have nlw : lo ∉ fw := fun z => W1.old z hlo1
    have nfw : ∀ b ∈ fw, b ∉ [a, lo] := fun b hb z => by
      simp only [List.mem_cons, List.not_mem_nil, or_false] at z
      rcases z with z | z
      · exact (naw b hb).1 z
      · rw [z] at hb; exact nlw hb
    have fr2 : Fr [a, lo] H1 (upd (upd (upd H1 a (.ins T.CRow dx (putF "web" (.ref we) []))) lo (.lst [])) a (.ins T.CRow dx (putF "order" (.ref lo) (putF "web" (.ref we) [])))) := by
      refine ⟨fun b o e n => ?_, fun b xs e => ?_⟩
      · have h1 : b ≠ a := fun z => n (by simp [z])
        have h2 : b ≠ lo := fun z => n (by simp [z])
        rw [upd_ne h1, upd_ne h2, upd_ne h1]; exact e
      · have h1 : b ≠ a := fun z => by rw [z, ho1] at e; cases e
        have h2 : b ≠ lo := ne_of_none e hlo1
        rw [upd_ne h1, upd_ne h2, upd_ne h1]; exact e
    refine k _ (a :: lo :: fw) ⟨fun b o e n => ?_, fun b xs e => ?_⟩ ?_ ⟨we, lo, fw, dx, rfl, ?_, ?_, W1.fr fr2 nfw, fun z => (naw a z).1 rfl, nlw⟩
    · have n' : b ∉ [a, lo] := fun z => by
        simp only [List.mem_cons, List.not_mem_nil, or_false] at z
        rcases z with z | z
        · exact n (by simp [z])
        · rw [z, hlo0] at e; cases e
      exact fr2.1 _ _ (s1 _ _ e) n'
    · exact fr2.2 _ _ (s1 _ _ e)
    · intro b hb
      simp only [List.mem_cons] at hb
      rcases hb with rfl | rfl | hb
      · exact .inl (by simp)
      · exact .inr hlo0
      · exact .inr (naw b hb).2
    · rw [upd_same, rF_0]
    · rw [upd_ne nla, upd_same]; rfl
theorem sc_Row_names : FnScope ["self"] ["self"] (defScope s_Row_names) := ⟨rfl, rfl, rfl, by decide +kernel, rfl, by decide +kernel, by decide +kernel⟩
theorem ok_Row_names (T : Txt K mg) : FnOk P w K mg base CX0 1 T.f_Row_names T.D_Row_names.fd ["self"] (sp_Row_names T) := by
  refine T.D_Row_names.F.ok sc_Row_names (fun vs H Q E h => ?_) (fun cdv A outer s H vs Q E hr h => ?_)
  · obtain ⟨a, fp, ns, ps, os, rfl, _⟩ := h
    rfl
  · obtain ⟨a, fp, ns, ps, os, rfl, ⟨we, lo, fw, dx, rfl, ho, hlo, W, nr, nlo⟩, k⟩ := h
    have hu := hu_of hr
    have hu65 := hu65_of hr
    refine ⟨_, (pss_one (ps_ret (pe_callTy call_listK (by rfl) T.n_list (by decide +kernel) (pa_cons (pe_fldK (pv 0) rfl) pa_nil)))), ?_⟩
    refine ⟨_, rfl, a, T.CRow, dx, _, _, rfl, ho, T.c_Row, T.a_Row_order, rF_2, lo, _, rfl, .inl (SqL.of hlo), fun l hl => ?_⟩
    exact k l _ hl (Same.new hl) upd_same
theorem sc_Row_leanings : FnScope ["self"] ["self"] (defScope s_Row_leanings) := ⟨rfl, rfl, rfl, by decide +kernel, rfl, by decide +kernel, by decide +kernel⟩
theorem ok_Row_leanings (T : Txt K mg) : FnOk P w K mg base CX0 2 T.f_Row_leanings T.D_Row_leanings.fd ["self"] (sp_Row_leanings T) := by
  refine T.D_Row_leanings.F.ok sc_Row_leanings (fun vs H Q E h => ?_) (fun cdv A outer s H vs Q E hr h => ?_)
  · obtain ⟨a, fp, ns, ps, os, rfl, _⟩ := h
    rfl
  · obtain ⟨a, fp, ns, ps, os, rfl, ⟨we, lo, fw, dx, rfl, ho, hlo, W, nr, nlo⟩, k⟩ := h
    obtain ⟨dxw, lp, lq, how⟩ := W.obj
    have hu := hu_of hr
    have hu65 := hu65_of hr
    refine ⟨_, (pss_one (ps_ret (pe_meth0 (pe_fldK (pv 0) rfl) T.c_Web T.m_Web_leanings (ok_Web_leanings T) (hr.mono (by decide)) T.D_Web_leanings.b .nil pass0))), ?_⟩
    exact ⟨_, rfl, a, T.CRow, dx, _, _, rfl, ho, T.c_Row, T.a_Row_web, rF_1, we, dxw, _, rfl, how, wF_no (by decide +kernel) (by decide +kernel), we, fw, ns, ps, rfl, W, k⟩
theorem sc_Row_put : FnScope ["self", "name"] ["self", "name"] (defScope s_Row_put) := ⟨rfl, rfl, rfl, by decide +kernel, rfl, by decide +kernel, by decide +kernel⟩
theorem ok_Row_put (T : Txt K mg) : FnOk P w K mg base (L2.CX P w) 3 T.f_Row_put T.D_Row_put.fd ["self", "name"] (sp_Row_put T) := by
  refine T.D_Row_put.F.okX sc_Row_put (fun vs H Q E h => ?_) (fun cdv A outer s H vs Q E hr h => ?_)
  · obtain ⟨a, fp, ns, ps, os, x, nm, rfl, _⟩ := h
    rfl
  · obtain ⟨a, fp, ns, ps, os, x, nm, rfl, ⟨we, lo, fw, dx, rfl, ho, hlo, W, nr, nlo⟩, hx, hs, hl, hol, k1, k2⟩ := h
    obtain ⟨dxw, lp, lq, how⟩ := W.obj
    have pE := (passes_call (X := cxOf (L2.CX P w) P w K mg base ["self", "name"] "Row.put" (defScope s_Row_put) T.f_Row_put cdv A outer s H E) (W := fun cls d _ H => E cls d H) (takes_of rfl rfl rfl rfl) (fun _ _ _ _ h => h))
    have hu := hu_of hr
    have hu65 := hu65_of hr
    refine ⟨_, (pss_cons (ps_expr (pe_meth (pe_fldK (pv 0) rfl) T.c_Web T.m_Web_put (ok_Web_put T) (hr.mono (by decide)) T.D_Web_put.b .nil pE (pa_cons (pv 1) pa_nil)))
      (pss_one (ps_expr (pe_bmK PySem.F.plainAttrs_list PySem.F.slot_list_append PySem.F.type_list_append mt_append (pe_fldK (pv 0) rfl) (pa_cons (pv 1) pa_nil))))), ?_⟩
    refine ⟨_, rfl, a, T.CRow, dx, _, _, rfl, ho, T.c_Row, T.a_Row_web, rF_1, we, dxw, _, rfl, how, wF_no (by decide +kernel) (by decide +kernel), _, rfl, we, fw, ns, ps, x, nm, rfl, W, hx, hs, hl, k1, fun n en hput H1 f1 W1 => ?_⟩
    subst en
    cases hx
    have ho1 := f1.1 _ _ ho nr
    have hlo1 := f1.1 _ _ hlo nlo
    refine ⟨_, rfl, a, T.CRow, dx, _, _, rfl, ho1, T.c_Row, T.a_Row_order, rF_2, .inl ⟨rfl, _, SqL.of hlo1⟩, _, rfl, lo, _, _, rfl, rfl, hlo1, ?_, ?_⟩
    · rw [List.length_map]; exact small1000 hol
    have fr2 : Fr [lo] H1 (upd H1 lo (.lst (os.map V.str ++ [.str n]))) := Fr.put (by simp) (lst_ntup hlo1)
    have nal : a ≠ lo := ne_of ho hlo (by intro z; cases z)
    refine k2 n rfl hput _ ?_ ⟨we, lo, fw, dx, rfl, ?_, ?_, W1.fr fr2 (fun b hb z => ?_), nr, nlo⟩
    · exact (f1.widen (fun b hb => .inl (by simp [hb]))).trans (fr2.widen (fun b hb => .inl (by rw [List.mem_singleton] at hb; simp [hb])))
    · rw [upd_ne nal]; exact ho1
    · rw [upd_same]; simp
    · rw [List.mem_singleton] at z; rw [z] at hb; exact nlo hb
theorem sc_Row_take : FnScope ["self", "name"] ["self", "name"] (defScope s_Row_take) := ⟨rfl, rfl, rfl, by decide +kernel, rfl, by decide +kernel, by decide +kernel⟩
theorem ok_Row_take (T : Txt K mg) : FnOk P w K mg base (L2.CX P w) 3 T.f_Row_take T.D_Row_take.fd ["self", "name"] (sp_Row_take T) := by
  refine T.D_Row_take.F.okX sc_Row_take (fun vs H Q E h => ?_) (fun cdv A outer s H vs Q E hr h => ?_)
  · obtain ⟨a, fp, ns, ps, os, x, nm, rfl, _⟩ := h
    rfl
  · obtain ⟨a, fp, ns, ps, os, x, nm, rfl, ⟨we, lo, fw, dx, rfl, ho, hlo, W, nr, nlo⟩, hx, hpl, hin, k1, k2⟩ := h
    obtain ⟨dxw, lp, lq, how⟩ := W.obj
    have pE := (passes_call (X := cxOf (L2.CX P w) P w K mg base ["self", "name"] "Row.take" (defScope s_Row_take) T.f_Row_take cdv A outer s H E) (W := fun cls d _ H => E cls d H) (takes_of rfl rfl rfl rfl) (fun _ _ _ _ h => h))
    have hu := hu_of hr
    have hu65 := hu65_of hr
    refine ⟨_, (pss_cons (ps_expr (pe_meth (pe_fldK (pv 0) rfl) T.c_Web T.m_Web_take (ok_Web_take T) (hr.mono (by decide)) T.D_Web_take.b .nil pE (pa_cons (pv 1) pa_nil)))
      (pss_one (ps_expr (pe_bmK PySem.F.plainAttrs_list PySem.F.slot_list_remove PySem.F.type_list_remove (mt_remDK hu65) (pe_fldK (pv 0) rfl) (pa_cons (pv 1) pa_nil))))), ?_⟩
    refine ⟨_, rfl, a, T.CRow, dx, _, _, rfl, ho, T.c_Row, T.a_Row_web, rF_1, we, dxw, _, rfl, how, wF_no (by decide +kernel) (by decide +kernel), _, rfl, we, fw, ns, ps, x, nm, rfl, W, hx, hpl, k1, fun n en hn H1 fw' f1 n1 W1 => ?_⟩
    subst en
    cases hx
    have ho1 := f1.1 _ _ ho nr
    have hlo1 := f1.1 _ _ hlo nlo
    refine ⟨_, rfl, a, T.CRow, dx, _, _, rfl, ho1, T.c_Row, T.a_Row_order, rF_2, .inl ⟨rfl, _, SqL.of hlo1⟩, _, rfl, lo, _, _, sD n, os.map sD, os.idxOf n, rfl, rfl, hlo1, dpAll_str os, .str n, plain_of sD sD_plain os, sD_plain n, ?_, place_of sD eqv_str (hin n hn), ?_⟩
    · have := sD_depth n; omega
    have fr2 : Fr [lo] H1 (upd H1 lo (.lst ((os.map V.str).eraseIdx (os.idxOf n)))) := Fr.put (by simp) (lst_ntup hlo1)
    have nal : a ≠ lo := ne_of ho hlo (by intro z; cases z)
    have nw : ∀ b ∈ fw', b ≠ a ∧ b ≠ lo := fun b hb => by
      rcases n1 b hb with q | q
      · exact ⟨fun z => nr (z ▸ q), fun z => nlo (z ▸ q)⟩
      · exact ⟨fun z => (by rw [z, ho] at q; cases q), fun z => (by rw [z, hlo] at q; cases q)⟩
    refine k2 n rfl hn _ (a :: lo :: fw') ?_ ?_ ⟨we, lo, fw', dx, rfl, ?_, ?_, W1.fr fr2 (fun b hb z => ?_), fun z => (nw a z).1 rfl, fun z => (nw lo z).2 rfl⟩
    · exact (f1.widen (fun b hb => .inl (by simp [hb]))).trans (fr2.widen (fun b hb => .inl (by rw [List.mem_singleton] at hb; simp [hb])))
    · intro b hb
      simp only [List.mem_cons] at hb
      rcases hb with rfl | rfl | hb
      · exact .inl (by simp)
      · exact .inl (by simp)
      · rcases n1 b hb with q | q
        · exact .inl (by simp [q])
        · exact .inr q
    · rw [upd_ne nal]; exact ho1
    · rw [upd_same, map_erase_ix, erase_ix]
    · rw [List.mem_singleton] at z; exact (nw b hb).2 z
theorem sc_Row_loosen : FnScope ["self", "name", "other"] ["self", "name", "other"] (defScope s_Row_loosen) := ⟨rfl, rfl, rfl, by decide +kernel, rfl, by decide +kernel, by decide +kernel⟩
theorem ok_Row_loosen (T : Txt K mg) : FnOk P w K mg base (L2.CX P w) 4 T.f_Row_loosen T.D_Row_loosen.fd ["self", "name", "other"] (sp_Row_loosen T) := by
  refine T.D_Row_loosen.F.okX sc_Row_loosen (fun vs H Q E h => ?_) (fun cdv A outer s H vs Q E hr h => ?_)
  · obtain ⟨a, fp, ns, ps, os, x, y, nx, ny, rfl, _⟩ := h
    rfl
  · obtain ⟨a, fp, ns, ps, os, x, y, nx, ny, rfl, ⟨we, lo, fw, dx, rfl, ho, hlo, W, nr, nlo⟩, hx, hy, k1, k2⟩ := h
    obtain ⟨dxw, lp, lq, how⟩ := W.obj
    have pE := (passes_call (X := cxOf (L2.CX P w) P w K mg base ["self", "name", "other"] "Row.loosen" (defScope s_Row_loosen) T.f_Row_loosen cdv A outer s H E) (W := fun cls d _ H => E cls d H) (takes_of rfl rfl rfl rfl) (fun _ _ _ _ h => h))
    have hu := hu_of hr
    have hu65 := hu65_of hr
    refine ⟨_, (pss_one (ps_expr (pe_meth (pe_fldK (pv 0) rfl) T.c_Web T.m_Web_loosen (ok_Web_loosen T) (hr.mono (by decide)) T.D_Web_loosen.b .nil pE (pa_cons (pv 1) (pa_cons (pv 2) pa_nil))))), ?_⟩
    refine ⟨_, rfl, a, T.CRow, dx, _, _, rfl, ho, T.c_Row, T.a_Row_web, rF_1, we, dxw, _, rfl, how, wF_no (by decide +kernel) (by decide +kernel), _, rfl, _, rfl, we, fw, ns, ps, x, y, nx, ny, rfl, W, hx, hy, k1, fun n m en em hn hm => ?_⟩
    obtain ⟨k3, k4⟩ := k2 n m en em hn hm
    refine ⟨k3, fun hp H1 f1 W1 => ?_⟩
    exact k4 hp H1 (f1.widen (fun b hb => .inl (by simp [hb]))) ⟨we, lo, fw, dx, rfl, f1.1 _ _ ho nr, f1.1 _ _ hlo nlo, W1, nr, nlo⟩
end
end Lr

set_option Elab.async false
set_option linter.all false
set_option maxRecDepth 100000
set_option maxHeartbeats 4000000
namespace Lr
open PySem PySem.Spec PyProof.Rows L2
section
variable {P : Program} {w : World} {K : PySem.W.Frag} {mg : Str → Option Value} {base : Heap}
def sp_Row_lean (T : Txt K mg) : Sp := fun vs H Q E => ∃ a fp ns ps os x y nx ny, vs = [.ref a, x, y] ∧ RowS T.CRow T.CWeb H a fp ns ps os ∧ NmV K H x nx ∧ NmV K H y ny ∧ ps.length ≤ 5000 ∧ os.length ≤ 1000 ∧ (∀ o, o ∈ os ↔ o ∈ ns) ∧
  ((inN nx ns && inN ny ns) = false → ErrE T .NoThing H E) ∧
  (∀ n m, nx = some n → ny = some m → n ∈ ns → m ∈ ns → ((n, m) ∈ ps → ErrE T .Twice H E) ∧ ((n, m) ∉ ps → (∀ c, chainF ps m n = some c → c.length ≤ 20000 → RingE T (n :: c.dropLast) H E) ∧
    (chainF ps m n = none → ∀ p H', Fr fp H H' → H p = none → H' p = some (.lst ((rowLean (ps ++ [(n, m)]) os n m).1.map V.str)) →
      RowS T.CRow T.CWeb H' a fp ns (ps ++ [(n, m)]) (rowLean (ps ++ [(n, m)]) os n m).2 → Q (.ref p) H')))
theorem sc_Row_lean : FnScope ["self", "name", "other", "first", "last", "stretch", "leaders", "followers", "moved", "places", "place", "one"] ["self", "name", "other"] (defScope s_Row_lean) := ⟨rfl, rfl, rfl, by decide +kernel, rfl, by decide +kernel, by decide +kernel⟩
theorem ok_Row_lean (T : Txt K mg) : FnOk P w K mg base (L2.CX P w) 6 T.f_Row_lean T.D_Row_lean.fd ["self", "name", "other"] (sp_Row_lean T) := by
  refine T.D_Row_lean.F.okX sc_Row_lean (fun vs H Q E h => ?_) (fun cdv A outer s H vs Q E hr h => ?_)
  · obtain ⟨a, fp, ns, ps, os, x, y, nx, ny, rfl, _⟩ := h
    rfl
  · obtain ⟨a, fp, ns, ps, os, x, y, nx, ny, rfl, ⟨we, lo, fw, dx, rfl, ho, hlo, W, nr, nlo⟩, hx, hy, hpl, hol, hon, k1, k2⟩ := h
    obtain ⟨dxw, lp, lq, how⟩ := W.obj
    have pE := (passes_call (X := cxOf (L2.CX P w) P w K mg base ["self", "name", "other", "first", "last", "stretch", "leaders", "followers", "moved", "places", "place", "one"] "Row.lean" (defScope s_Row_lean) T.f_Row_lean cdv A outer s H E) (W := fun cls d _ H => E cls d H) (takes_of rfl rfl rfl rfl) (fun _ _ _ _ h => h))
    have hu := hu_of hr
    have hu65 := hu65_of hr
    refine ⟨_, (pss_cons (ps_expr (pe_meth (pe_fldK (pv 0) rfl) T.c_Web T.m_Web_lean (ok_Web_lean T) (hr.mono (by decide)) T.D_Web_lean.b .nil pE (pa_cons (pv 1) (pa_cons (pv 2) pa_nil))))
      (pss_cons (ps_set (i := 3) sc_Row_lean.nd rfl (Or.inl rfl) (pe_bmK PySem.F.plainAttrs_list PySem.F.slot_list_index PySem.F.type_list_index mt_indexK (pe_fldK (pv 0) rfl) (pa_cons (pv 1) pa_nil)))
      (pss_cons (ps_set (i := 4) sc_Row_lean.nd rfl (Or.inl rfl) (pe_bmK PySem.F.plainAttrs_list PySem.F.slot_list_index PySem.F.type_list_index mt_indexK (pe_fldK (pv 0) rfl) (pa_cons (pv 2) pa_nil)))
      (pss_cons (ps_if (pt_cmpR op_lt (pv 4) (pv 3) (nomark _)) (pss_one (ps_ret (pe_lst pa_nil))) pss_nil)
      (pss_cons (ps_set (i := 5) sc_Row_lean.nd rfl (Or.inl rfl) (pe_slice sl_listK (pe_fldK (pv 0) rfl) (po_some (pv 3)) (po_some (pe_op op_add (pv 4) pe_int))))
      (pss_cons (ps_setLc (i := 6) (own := [("one", 11)]) (g := (gName 11)) rfl sc_Row_lean.nd rfl rfl (sw_true rfl rfl rfl (by decide +kernel)) (pi_listK (pv 5)) (blkOk_by (N := ["self", "name", "other", "first", "last", "stretch", "leaders", "followers", "moved", "places", "place", "one"]) (sc := defScope s_Row_lean) (by decide +kernel)) (fun _ _ _ _ _ => (pg_name (i := 11) sc_Row_lean.nd rfl (Or.inl rfl))) (fun _ _ _ _ _ => (pts_one (pt_cmpR op_notN (pe_meth (pe_fldK (pv 0) rfl) T.c_Web T.m_Web_chain (ok_Web_chain T) (hr.mono (by decide)) T.D_Web_chain.b .nil passL (pa_cons (pv 2) (pa_cons (pv 11) pa_nil))) pe_non (nomark _)))) (fun _ _ _ _ _ => (pv 11)))
      (pss_cons (ps_setLc (i := 7) (own := [("one", 11)]) (g := (gName 11)) rfl sc_Row_lean.nd rfl rfl (sw_true rfl rfl rfl (by decide +kernel)) (pi_listK (pv 5)) (blkOk_by (N := ["self", "name", "other", "first", "last", "stretch", "leaders", "followers", "moved", "places", "place", "one"]) (sc := defScope s_Row_lean) (by decide +kernel)) (fun _ _ _ _ _ => (pg_name (i := 11) sc_Row_lean.nd rfl (Or.inl rfl))) (fun _ _ _ _ _ => (pts_one (pt_cmpR op_notN (pe_meth (pe_fldK (pv 0) rfl) T.c_Web T.m_Web_chain (ok_Web_chain T) (hr.mono (by decide)) T.D_Web_chain.b .nil passL (pa_cons (pv 11) (pa_cons (pv 1) pa_nil))) pe_non (nomark _)))) (fun _ _ _ _ _ => (pv 11)))
      (pss_cons (ps_set (i := 8) sc_Row_lean.nd rfl (Or.inr rfl) (pe_op op_cat (pv 6) (pv 7)))
      (pss_cons (ps_setLc (i := 9) (own := [("place", 10)]) (g := (gName 10)) rfl sc_Row_lean.nd rfl rfl (sw_true rfl rfl rfl (by decide +kernel)) (pi_range1 (by rfl) T.n_range (pa_cons (pe_callB call_lenK (by rfl) T.n_len (by decide +kernel) (pa_cons (pe_fldK (pv 0) rfl) pa_nil)) pa_nil)) (blkOk_by (N := ["self", "name", "other", "first", "last", "stretch", "leaders", "followers", "moved", "places", "place", "one"]) (sc := defScope s_Row_lean) (by decide +kernel)) (fun _ _ _ _ _ => (pg_name (i := 10) sc_Row_lean.nd rfl (Or.inl rfl))) (fun _ _ _ _ _ => (pts_one (pt_cmpR op_in_seqK (pe_ix ix_listK (pe_fldK (pv 0) rfl) (pv 10) (fun _ _ => rfl)) (pv 8) (by rfl)))) (fun _ _ _ _ _ => (pv 10)))
      (pss_cons (ps_for (passes_of rfl) rfl (pi_zip (by rfl) T.n_zip (pa_cons (pv 9) (pa_cons (pv 8) pa_nil))) (pg_tup rfl (pgs_cons (pg_name (i := 10) sc_Row_lean.nd rfl (Or.inl rfl)) (pgs_cons (pg_name (i := 11) sc_Row_lean.nd rfl (Or.inl rfl)) pgs_nil))) (pss_one (ps_asg (pv 11) (pg_sub (pe_fldK (pv 0) rfl) (pv 10) set_list))))
      (pss_one (ps_ret (pv 8))))))))))))), ?_⟩
    refine ⟨_, rfl, a, T.CRow, dx, _, _, rfl, ho, T.c_Row, T.a_Row_web, rF_1, we, dxw, _, rfl, how, wF_no (by decide +kernel) (by decide +kernel), _, rfl, _, rfl, we, fw, ns, ps, x, y, nx, ny, rfl, W, hx, hy, by omega, k1, fun n m en em hn hm => ?_⟩
    obtain ⟨k3, k4⟩ := k2 n m en em hn hm
    subst en em
    cases hx
    cases hy
    refine ⟨k3, fun hp => ⟨(k4 hp).1, fun hc H1 f1 W1 => ?_⟩⟩
    have k5 := (k4 hp).2 hc
    clear k4 k3 k2 k1
    have hno : n ∈ os := (hon n).mpr hn
    have hmo : m ∈ os := (hon m).mpr hm
    have ho1 := f1.1 _ _ ho nr
    have hlo1 := f1.1 _ _ hlo nlo
    have f1' : Fr (a :: lo :: fw) H H1 := f1.widen (fun b hb => .inl (by simp [hb]))
    generalize hps' : ps ++ [(n, m)] = ps' at *
    have hpl' : ps'.length ≤ 10000 := by rw [← hps', List.length_append, List.length_singleton]; omega
    -- first, last
    refine ⟨_, rfl, a, T.CRow, dx, _, _, rfl, ho1, T.c_Row, T.a_Row_order, rF_2, .inl ⟨rfl, _, SqL.of hlo1⟩, _, rfl, lo, _, _, os.idxOf n, _, rfl, rfl, SqL.of hlo1, rfl, flat_strs os, idx_at hno, eqV_self n, idx_no, ?_⟩
    refine ⟨_, rfl, a, T.CRow, dx, _, _, rfl, ho1, T.c_Row, T.a_Row_order, rF_2, .inl ⟨rfl, _, SqL.of hlo1⟩, _, rfl, lo, _, _, os.idxOf m, _, rfl, rfl, SqL.of hlo1, rfl, flat_strs os, idx_at hmo, eqV_self m, idx_no, ?_⟩
    refine ⟨_, rfl, _, rfl, _, _, rfl, rfl, _, rfl, ?_⟩
    refine ite2 (fun hlt => ?_) (fun hlt => ?_)
    · have hlt' : os.idxOf m < os.idxOf n := by have := of_decide_eq_true hlt; omega
      have er : rowLean ps' os n m = ([], os) := if_pos hlt'
      refine ⟨Nat.zero_le _, fun p hp => ?_⟩
      rw [er] at k5
      have hpH : H p = none := f1'.free (fun z => by
        simp only [List.mem_cons] at z
        rcases z with z | z | z
        · rw [z, ho1] at hp; cases hp
        · rw [z, hlo1] at hp; cases hp
        · exact W1.old z hp) hp
      exact k5 p _ (f1'.then_same (Same.new hp)) hpH upd_same ⟨we, lo, fw, dx, rfl, Same.new hp _ _ ho1, Same.new hp _ _ hlo1, W1.same (Same.new hp), nr, nlo⟩
    · have hlt' : ¬ os.idxOf m < os.idxOf n := fun z => hlt (decide_eq_true (by omega))
      have er : rowLean ps' os n m = _ := if_neg hlt'
      rw [er] at k5
      clear er hlt
      -- stretch
      refine ⟨_, rfl, a, T.CRow, dx, _, _, rfl, ho1, T.c_Row, T.a_Row_order, rF_2, _, rfl, _, rfl, _, rfl, _, _, rfl, rfl, _, rfl, lo, _, rfl, SqL.of hlo1, fun st hst => ?_⟩
      have ecut := cut_cutS (os := os) (f := os.idxOf n) (l := os.idxOf m) (Nat.le_of_lt (idx_lt hno)) (idx_lt hmo)
      have hst1 : (upd H1 st (.lst (cutV (os.map V.str) (some ((os.idxOf n : Nat) : Int)) (some (((os.idxOf m : Nat) : Int) + 1))))) st = some (.lst ((cutS os (os.idxOf n) (os.idxOf m)).map V.str)) := by
        rw [upd_same, ecut]
      have s2 : Same H1 (upd H1 st (.lst (cutV (os.map V.str) (some ((os.idxOf n : Nat) : Int)) (some (((os.idxOf m : Nat) : Int) + 1))))) := Same.new hst
      have nst : ∀ b ∈ a :: lo :: fw, b ≠ st := fun b hb z => by
        simp only [List.mem_cons] at hb
        rcases hb with hb | hb | hb
        · rw [← z, hb, ho1] at hst; cases hst
        · rw [← z, hb, hlo1] at hst; cases hst
        · rw [← z] at hst; exact W1.old hb hst
      show tSeq _ _ _ _ (upd H1 st (.lst (cutV (os.map V.str) (some ((os.idxOf n : Nat) : Int)) (some (((os.idxOf m : Nat) : Int) + 1)))))
      generalize upd H1 st (.lst (cutV (os.map V.str) (some ((os.idxOf n : Nat) : Int)) (some (((os.idxOf m : Nat) : Int) + 1)))) = H2 at s2 hst1
      have hsl : (cutS os (os.idxOf n) (os.idxOf m)).length ≤ 1000 := by
        unfold cutS
        rw [List.length_take, List.length_drop]
        omega
      have hsm : ∀ o ∈ cutS os (os.idxOf n) (os.idxOf m), o ∈ ns := fun o z => (hon o).mp (cutS_mem z)
      generalize cutS os (os.idxOf n) (os.idxOf m) = sl at *
      have W2 := W1.same s2
      have ho2 := s2 _ _ ho1
      have hlo2 := s2 _ _ hlo1
      -- leaders
      refine ⟨_, rfl, st, rfl, ⟨_, SqL.of hst1⟩, fun D hD => ?_⟩
      refine lcL sl V.str (fun o => (chainF ps' m o).isSome) V.str (SqL.of hst1) (by omega) hD (fun o hoL Hk ek Kn Ky kn ky => ⟨rfl, ?_⟩) (fun H3 s3 h3D => ?_)
      · have Wk := W2.same ek
        obtain ⟨dxk, lpk, lqk, howk⟩ := Wk.obj
        refine ⟨_, rfl, a, T.CRow, dx, _, _, rfl, ek _ _ ho2, T.c_Row, T.a_Row_web, rF_1, we, dxk, _, rfl, howk, wF_no (by decide +kernel) (by decide +kernel), _, rfl, _, rfl, we, fw, ns, ps', .str m, .str o, some m, some o, rfl, Wk, rfl, rfl, hpl', fun z => ?_, fun n' m' en em hn' hm' => ?_⟩
        · have : (inN (some m) ns && inN (some o) ns) = true := by simp [inN, hm, hsm o hoL]
          rw [this] at z; cases z
        cases en
        cases em
        refine ⟨fun hc H' e' => ?_, fun c hc p H' hp e' hp' => ?_⟩
        · refine ⟨rfl, _, rfl, ?_⟩
          exact kn H' e' (by show (chainF ps' m o).isSome = false; rw [hc]; rfl)
        · refine ⟨rfl, _, rfl, ?_⟩
          exact ⟨_, rfl, ky H' e' (by show (chainF ps' m o).isSome = true; rw [hc]; rfl)⟩
      have eL : sl.filter (fun o => (chainF ps' m o).isSome) = leadersF ps' sl m := rfl
      rw [eL] at h3D
      have hst3 := s3 _ _ hst1
      have W3 := W2.same s3
      have ho3 := s3 _ _ ho2
      have hlo3 := s3 _ _ hlo2
      -- followers
      refine ⟨_, rfl, st, rfl, ⟨_, SqL.of hst3⟩, fun D2 hD2 => ?_⟩
      refine lcL sl V.str (fun o => (chainF ps' o n).isSome) V.str (SqL.of hst3) (by omega) hD2 (fun o hoL Hk ek Kn Ky kn ky => ⟨rfl, ?_⟩) (fun H4 s4 h4D => ?_)
      · have Wk := W3.same ek
        obtain ⟨dxk, lpk, lqk, howk⟩ := Wk.obj
        refine ⟨_, rfl, a, T.CRow, dx, _, _, rfl, ek _ _ ho3, T.c_Row, T.a_Row_web, rF_1, we, dxk, _, rfl, howk, wF_no (by decide +kernel) (by decide +kernel), _, rfl, _, rfl, we, fw, ns, ps', .str o, .str n, some o, some n, rfl, Wk, rfl, rfl, hpl', fun z => ?_, fun n' m' en em hn' hm' => ?_⟩
        · have : (inN (some o) ns && inN (some n) ns) = true := by simp [inN, hn, hsm o hoL]
          rw [this] at z; cases z
        cases en
        cases em
        refine ⟨fun hc H' e' => ?_, fun c hc p H' hp e' hp' => ?_⟩
        · refine ⟨rfl, _, rfl, ?_⟩
          exact kn H' e' (by show (chainF ps' o n).isSome = false; rw [hc]; rfl)
        · refine ⟨rfl, _, rfl, ?_⟩
          exact ⟨_, rfl, ky H' e' (by show (chainF ps' o n).isSome = true; rw [hc]; rfl)⟩
      have eF : sl.filter (fun o => (chainF ps' o n).isSome) = followersF ps' sl n := rfl
      rw [eF] at h4D
      have h4L := s4 _ _ h3D
      have hLl : (leadersF ps' sl m).length ≤ 1000 := Nat.le_trans (List.length_filter_le _ _) hsl
      have hFl : (followersF ps' sl n).length ≤ 1000 := Nat.le_trans (List.length_filter_le _ _) hsl
      -- moved
      refine ⟨_, rfl, _, rfl, D, D2, _, _, rfl, rfl, h4L, h4D, ?_, fun mv hmv => ?_⟩
      · rw [List.length_map, List.length_map]
        exact Nat.le_trans (show _ ≤ 2000 by omega) (by decide)
      have hmv1 : (upd H4 mv (.lst ((leadersF ps' sl m).map V.str ++ (followersF ps' sl n).map V.str))) mv = some (.lst ((leadersF ps' sl m ++ followersF ps' sl n).map V.str)) := by rw [upd_same, List.map_append]
      have s5 : Same H4 (upd H4 mv (.lst ((leadersF ps' sl m).map V.str ++ (followersF ps' sl n).map V.str))) := Same.new hmv
      show tSeq _ _ _ _ (upd H4 mv (.lst ((leadersF ps' sl m).map V.str ++ (followersF ps' sl n).map V.str)))
      generalize upd H4 mv (.lst ((leadersF ps' sl m).map V.str ++ (followersF ps' sl n).map V.str)) = H5 at s5 hmv1
      generalize hmvd : leadersF ps' sl m ++ followersF ps' sl n = mvd at *
      have hml : mvd.length ≤ 2000 := by rw [← hmvd, List.length_append]; omega
      have s15 : Same H1 H5 := ((s2.trans s3).trans s4).trans s5
      have ho5 := s15 _ _ ho1
      have hlo5 := s15 _ _ hlo1
      have mv1 : H1 mv = none := ((s2.trans s3).trans s4).free hmv
      -- places
      refine ⟨_, rfl, a, T.CRow, dx, _, _, rfl, ho5, T.c_Row, T.a_Row_order, rF_2, lo, _, rfl, .inl (SqL.of hlo5), ((os.map V.str).length : Int), rfl, by omega, by rw [List.length_map]; omega, fun D3 hD3 => ?_⟩
      have en : (((os.map V.str).length : Nat) : Int).toNat = os.length := by simp
      rw [en]
      refine lcR (n := os.length) (fun i => decide (os.getD i "" ∈ mvd)) (fun i => .int (i : Int)) (by omega) hD3 (fun i hi Hk ek Kn Ky kn ky => ⟨rfl, ?_⟩) (fun H6 s6 h6D => ?_)
      · refine ⟨_, rfl, a, T.CRow, dx, _, _, rfl, ek _ _ ho5, T.c_Row, T.a_Row_order, rF_2, _, rfl, lo, _, _, .str (os.getD i ""), rfl, rfl, SqL.of (ek _ _ hlo5), ?_, _, rfl, mv, _, rfl, .inl (SqL.of (ek _ _ hmv1)), rfl, flat_strs mvd, _, rfl, ?_⟩
        · refine atI_nat ?_
          rw [List.getElem?_map, List.getElem?_eq_getElem hi, List.getD_eq_getElem?_getD, List.getElem?_eq_getElem hi]
          rfl
        · rw [inV_str]
          by_cases hi2 : os.getD i "" ∈ mvd
          · rw [decide_eq_true hi2]
            exact ⟨_, rfl, ky Hk (Same.refl Hk) (decide_eq_true hi2)⟩
          · rw [decide_eq_false hi2]
            exact kn Hk (Same.refl Hk) (decide_eq_false hi2)
      have ePl : (List.range os.length).filter (fun i => decide (os.getD i "" ∈ mvd)) = placesF os mvd := rfl
      rw [ePl] at h6D
      have hmv6 := s6 _ _ hmv1
      have s16 := s15.trans s6
      have D31 : H1 D3 = none := s15.free hD3
      have hpl3 : ∀ i ∈ placesF os mvd, i < os.length := fun i hi => List.mem_range.mp (List.mem_filter.mp hi).1
      -- for place, one in zip(places, moved)
      refine ⟨_, rfl, _, rfl, D3, mv, _, _, rfl, SqL.of h6D, SqL.of hmv6, ?_⟩
      have nD3 : D3 ∉ a :: lo :: fw := fun hb => by
        simp only [List.mem_cons] at hb
        rcases hb with hb | hb | hb
        · rw [hb, ho1] at D31; cases D31
        · rw [hb, hlo1] at D31; cases D31
        · exact W1.old hb D31
      have nmv : mv ∉ a :: lo :: fw := fun hb => by
        simp only [List.mem_cons] at hb
        rcases hb with hb | hb | hb
        · rw [hb, ho1] at mv1; cases mv1
        · rw [hb, hlo1] at mv1; cases mv1
        · exact W1.old hb mv1
      have nal : a ≠ lo := ne_of ho hlo (by intro z; cases z)
      refine for_it (walk_zip (K := K) (xs := (placesF os mvd).map fun (i : Nat) => V.int (i : Int)) (ys := mvd.map V.str) rfl) (fun i σ H7 => ∃ v10 v11, σ = [some (.ref a), some (.str n), some (.str m), some (.int (os.idxOf n : Nat)), some (.int (os.idxOf m : Nat)), some (.ref st), some (.ref D), some (.ref D2), some (.ref mv), some (.ref D3), v10, v11] ∧
        Fr [lo] H6 H7 ∧ H7 lo = some (.lst ((((((placesF os mvd).zip mvd).take i).foldl (fun acc p => acc.set p.1 p.2) os)).map V.str)))
        ⟨none, none, rfl, Fr.refl _ _, s16 _ _ hlo1⟩ (fun i σ H7 _ ⟨_, _, _, f7, _⟩ => ⟨SqL.of (f7.1 _ _ h6D (fun z => nD3 (by rw [List.mem_singleton] at z; simp [z]))), SqL.of (f7.1 _ _ hmv6 (fun z => nmv (by rw [List.mem_singleton] at z; simp [z])))⟩) ?_ ?_
      · rintro i xi σ H7 H8 hi ⟨v10, v11, rfl, f7, h7⟩ ⟨tp, x1, y1, rfl, htp, rfl, hx1, hy1⟩
        simp only [List.getElem?_map] at hx1 hy1
        cases hpi : (placesF os mvd)[i]? with
        | none => rw [hpi] at hx1; cases hx1
        | some pi =>
          rw [hpi] at hx1
          cases hx1
          cases hmi : mvd[i]? with
          | none => rw [hmi] at hy1; cases hy1
          | some mi =>
            rw [hmi] at hy1
            cases hy1
            have stp := take_step (fun (acc : List Str) (p : Nat × Str) => acc.set p.1 p.2) os (zip_getElem? hpi hmi)
            have s8 := Same.new (o := .tup [V.int (pi : Int), V.str mi]) htp
            have ho7 := s8 _ _ (f7.1 _ _ (s16 _ _ ho1) (fun z => nal (by rw [List.mem_singleton] at z; exact z)))
            have h7' := s8 _ _ h7
            have hpi2 : pi < os.length := hpl3 pi (List.mem_of_getElem? hpi)
            refine ⟨tp, _, rfl, SqT.of upd_same, rfl, _, _, rfl, _, _, rfl, rfl, ?_⟩
            refine ⟨_, rfl, _, rfl, a, T.CRow, dx, _, _, rfl, ho7, T.c_Row, T.a_Row_order, rF_2, _, rfl, lo, _, _, pi, rfl, rfl, h7', ?_, ?_⟩
            · rw [List.length_map, fold_set_length]; exact ixN_nat' hpi2
            refine ⟨_, _, rfl, (f7.then_same s8).trans (Fr.put (by simp) (lst_ntup h7')), ?_⟩
            rw [upd_same, stp, set_str]
      · rintro σ H7 ⟨v10, v11, rfl, f7, h7⟩
        have ezl : min ((placesF os mvd).map fun (i : Nat) => V.int (i : Int)).length (mvd.map V.str).length = ((placesF os mvd).zip mvd).length := by simp
        rw [ezl, List.take_length] at h7
        have f17 : Fr (a :: lo :: fw) H1 H7 := Fr.after_same s16 (f7.widen (fun b hb => .inl (by rw [List.mem_singleton] at hb; simp [hb])))
        have ho7 := f7.1 _ _ (s16 _ _ ho1) (fun z => nal (by rw [List.mem_singleton] at z; exact z))
        refine ⟨_, rfl, k5 mv H7 (f1'.trans f17) (f1'.free nmv mv1) (f7.1 _ _ hmv6 (fun z => nmv (by rw [List.mem_singleton] at z; simp [z]))) ⟨we, lo, fw, dx, rfl, ho7, h7, (W1.same s16).fr f7 (fun b hb z => ?_), nr, nlo⟩⟩
        rw [List.mem_singleton] at z; rw [z] at hb; exact nlo hb
end
end Lr

set_option Elab.async false
set_option linter.all false
set_option maxRecDepth 100000
set_option maxHeartbeats 4000000
namespace Lr
open PySem PySem.Spec PyProof.Rows L2
section
variable {P : Program} {w : World} {K : PySem.W.Frag} {mg : Str → Option Value} {base : Heap}
def sp_is_right (T : Txt K mg) : Sp := fun vs H Q _ => ∃ a fp ns ps os x o, vs = [.ref a, x] ∧ RowS T.CRow T.CWeb H a fp ns ps os ∧ ThV K H x o ∧ ps.length ≤ 1000 ∧ os.length < 64 ∧ (∀ nms, o = some nms → nms.length < 64) ∧ (∀ q ∈ ps, q.1 ∈ os ∧ q.2 ∈ os) ∧
  ∀ H', Same H H' → Q (.bl (isRightB ps os o)) H'
theorem sc_is_right : FnScope ["row", "thing", "name", "lower"] ["row", "thing"] (defScope s_is_right) := ⟨rfl, rfl, rfl, by decide +kernel, rfl, by decide +kernel, by decide +kernel⟩
theorem ok_is_right (T : Txt K mg) : FnOk P w K mg base CX0 4 T.f_is_right T.D_is_right.fd ["row", "thing"] (sp_is_right T) := by
  refine T.D_is_right.F.ok sc_is_right (fun vs H Q E h => ?_) (fun cdv A outer s H vs Q E hr h => ?_)
  · obtain ⟨a, fp, ns, ps, os, x, o, rfl, _⟩ := h
    rfl
  · obtain ⟨a, fp, ns, ps, os, x, o, rfl, R, hx, hpl, hol, hnl, hends, k⟩ := h
    obtain ⟨dxr, lwr, lor, hor⟩ := R.obj
    have hu := hu_of hr
    have hu65 := hu65_of hr
    refine ⟨_, (pss_cons (ps_if (PW.pt (pw_or (pt_not (pt_val (pe_callB call_isiK' (by rfl) T.n_isinstance (by decide +kernel) (pa_cons (pv 1) (pa_cons (pe_bltn (v := .ty "list") (by rfl) T.n_list (by decide +kernel) rfl) pa_nil))))) (pw_or1 (pt_not (pt_val (pe_callB (cr_allK rfl) (by rfl) T.n_all (by decide +kernel) (pa_cons (pe_lc (own := [("name", 2)]) (g := (gName 2)) rfl sc_is_right.nd (pi_listK (pv 1)) (blkOk_by (N := ["row", "thing", "name", "lower"]) (sc := defScope s_is_right) (by decide +kernel)) (fun _ _ _ _ _ => (pg_name (i := 2) sc_is_right.nd rfl (Or.inl rfl))) (fun _ _ _ _ _ => pts_nil) (fun _ _ _ _ _ => (pe_callB call_isiK' (by rfl) T.n_isinstance (by decide +kernel) (pa_cons (pv 2) (pa_cons (pe_bltn (v := .ty "str") (by rfl) T.n_str (by decide +kernel) rfl) pa_nil))))) pa_nil))))))) (pss_one (ps_ret pe_bl)) pss_nil)
      (pss_cons (ps_if (pt_cmpR (op_nePK hu65) (pe_callB cr_sortedSK (by rfl) T.n_sorted (by decide +kernel) (pa_cons (pv 1) pa_nil)) (pe_callB cr_sortedSK (by rfl) T.n_sorted (by decide +kernel) (pa_cons (pe_meth0 (pv 0) T.c_Row T.m_Row_names (ok_Row_names T) (hr.mono (by decide)) T.D_Row_names.b .nil pass0) pa_nil)) (nomark _)) (pss_one (ps_ret pe_bl)) pss_nil)
      (pss_one (ps_ret (pe_callB (cr_allK rfl) (by rfl) T.n_all (by decide +kernel) (pa_cons (pe_lc (own := [("name", 2), ("lower", 3)]) (g := (gTup K 2 (gCons (gName 2) (gCons (gName 3) gNil)))) rfl sc_is_right.nd (pi_listK (pe_meth0 (pv 0) T.c_Row T.m_Row_leanings (ok_Row_leanings T) (hr.mono (by decide)) T.D_Row_leanings.b .nil pass0)) (blkOk_by (N := ["row", "thing", "name", "lower"]) (sc := defScope s_is_right) (by decide +kernel)) (fun _ _ _ _ _ => (pg_tup rfl (pgs_cons (pg_name (i := 2) sc_is_right.nd rfl (Or.inl rfl)) (pgs_cons (pg_name (i := 3) sc_is_right.nd rfl (Or.inl rfl)) pgs_nil)))) (fun _ _ _ _ _ => pts_nil) (fun _ _ _ _ _ => (pe_cmpR op_lt (pe_bmK PySem.F.plainAttrs_list PySem.F.slot_list_index PySem.F.type_list_index mt_indexK (pv 1) (pa_cons (pv 3) pa_nil)) (pe_bmK PySem.F.plainAttrs_list PySem.F.slot_list_index PySem.F.type_list_index mt_indexK (pv 1) (pa_cons (pv 2) pa_nil)) (nomark _)))) pa_nil)))))), ?_⟩
    cases o with
    | none =>
      obtain ⟨t, ty, ki⟩ := hx
      refine ⟨_, rfl, x, .ty "list", t, _, _, rfl, .ty _, ty, ki, _, rfl, ?_⟩
      exact iteT (k H (Same.refl H))
    | some nms =>
      obtain ⟨l, vs, rfl, hl, hv⟩ := hx
      have hnl := hnl nms rfl
      have hvl := hv.len
      refine ⟨_, rfl, .ref l, .ty "list", .type "list", _, true, rfl, .ty _, .base (.lst hl), kit_ty (a := "list") (b := "list") (r := true) (by decide +kernel), _, rfl, ?_⟩
      refine iteF ?_
      refine ⟨_, rfl, l, rfl, ⟨_, SqL.of hl⟩, fun D hD => ?_⟩
      refine lcW (walk_list (K := K) (a := l) (xs := vs)) (fun _ => true) (fun i => .bl ((nms[i]?).elim false Option.isSome)) hD (by omega) (fun H e => e.seq (SqL.of hl)) ?_ (fun H1 s1 h1 => ?_)
      · intro i xi Hk Hk' hi ek y
        obtain ⟨rfl, hxi⟩ := y
        obtain ⟨nm, hnm, hN⟩ := hv.at' hxi
        obtain ⟨t, ty, ki⟩ := (hN.same ek).isStr
        refine ⟨Same.refl _, fun Kn Ky kn ky => ⟨rfl, ?_⟩⟩
        refine ⟨_, rfl, xi, .ty "str", t, _, _, rfl, .ty _, ty, ki, ?_⟩
        rw [hnm] at ky
        exact ky _ (Same.refl _) rfl
      have e1 : gvn vs.length (fun _ => true) (fun i => V.bl ((nms[i]?).elim false Option.isSome)) = (nms.map Option.isSome).map V.bl := by
        rw [hvl]
        unfold gvn
        rw [filter_true]
        refine List.ext_getElem? fun i => ?_
        rw [List.getElem?_map, List.getElem?_map, List.getElem?_map]
        by_cases c : i < nms.length
        · rw [List.getElem?_range c, List.getElem?_eq_getElem c]
          show some (V.bl ((nms[i]?).elim false Option.isSome)) = _
          rw [List.getElem?_eq_getElem c]; rfl
        · rw [List.getElem?_eq_none (by rw [List.length_range]; omega), List.getElem?_eq_none (by omega)]; rfl
      rw [e1] at h1
      refine ⟨D, nms.map Option.isSome, rfl, SqL.of h1, ?_⟩
      have e2 : ((nms.map Option.isSome).all id) = nms.all Option.isSome := by rw [List.all_map]; rfl
      rw [e2]
      refine ⟨_, rfl, ?_⟩
      cases hall : nms.all Option.isSome with
      | false =>
        refine iteT ?_
        have := k H1 s1
        unfold isRightB at this
        simp only [hall, Bool.false_eq_true, if_false] at this
        exact this
      | true =>
        refine iteF ?_
        have evs := hv.all hall
        have ek : isRightB ps os (some nms) = (decide ((nms.map fun o => o.getD "").Perm os) && rightB ps (nms.map fun o => o.getD "")) := if_pos hall
        rw [ek] at k
        clear ek
        have htl : (nms.map fun o => o.getD "").length < 64 := by rw [List.length_map]; exact hnl
        generalize (nms.map fun o => o.getD "") = ts at evs k htl
        subst evs
        have hl1 := s1 _ _ hl
        refine ⟨_, rfl, l, ts, rfl, SqL.of hl1, htl, fun ys p hpe hso hp => ?_⟩
        have s2 := s1.trans (Same.new (o := .lst (ys.map V.str)) hp)
        have hy2 := upd_same (H := H1) (a := p) (o := .lst (ys.map V.str))
        generalize upd H1 p (.lst (ys.map V.str)) = H2 at s2 hy2
        refine ⟨_, rfl, a, dxr, _, rfl, s2 _ _ hor, rF_no (by decide +kernel) (by decide +kernel), a, fp, ns, ps, os, rfl, R.same s2, fun p3 H3 hp3 s3 h3 => ?_⟩
        refine ⟨p3, os, rfl, SqL.of h3, hol, fun zs p4 hpe4 hso4 hp4 => ?_⟩
        have s4 := Same.new (o := .lst (zs.map V.str)) hp4
        refine ⟨_, _, dp_strs (SqL.of (s4 _ _ (s3 _ _ hy2))), dp_strs (SqL.of upd_same), strs_plain _, strs_plain _, ?_, ?_⟩
        · have := strs_depth ys; omega
        have s24 := (s2.trans s3).trans s4
        rw [eqv_strs, decide_eq_decide.mpr (sorted_perm hpe hpe4 hso hso4)]
        refine ⟨_, rfl, ?_⟩
        by_cases hpm : ts.Perm os
        · rw [decide_eq_true hpm]
          rw [decide_eq_true hpm, Bool.true_and] at k
          refine iteF ?_
          generalize upd H3 p4 (.lst (zs.map V.str)) = H4 at s24
          refine ⟨_, rfl, a, dxr, _, rfl, s24 _ _ hor, rF_no (by decide +kernel) (by decide +kernel), a, fp, ns, ps, os, rfl, R.same s24, fun p5 H5 P5 hp5 s5 hPL ep => ⟨p5, rfl, ⟨_, SqL.of hPL.lst⟩, fun D2 hD2 => ?_⟩⟩
          have hP5 : P5.length ≤ 1000 := by
            have z := hpl
            rw [← ep] at z
            unfold pd at z
            rw [List.length_map] at z; exact z
          have hl5 := s5 _ _ (s24 _ _ hl)
          refine lcL P5 (fun q => V.ref q.1) (fun _ => true) (fun q => .bl (decide (ts.idxOf q.2.2 < ts.idxOf q.2.1))) (SqL.of hPL.lst) (by omega) hD2 (fun q hq Hk ek Kn Ky kn ky => ?_) (fun H6 s6 h6 => ?_)
          · have hq2 : q.2 ∈ ps := by rw [← ep]; exact List.mem_map.mpr ⟨q, hq, rfl⟩
            obtain ⟨m1, m2⟩ := hends _ hq2
            have n1 := hpm.mem_iff.mpr m1
            have n2 := hpm.mem_iff.mpr m2
            have hlk := ek _ _ hl5
            refine ⟨q.1, _, rfl, SqT.of (ek _ _ (hPL.tup q hq)), rfl, _, _, rfl, _, _, rfl, rfl, rfl, ?_⟩
            refine ⟨_, rfl, .inl ⟨rfl, _, SqL.of hlk⟩, _, rfl, l, _, _, ts.idxOf q.2.2, _, rfl, rfl, SqL.of hlk, rfl, flat_strs ts, idx_at n2, eqV_self _, (fun m z h1 h2 => idx_no m z h1 h2), ?_⟩
            refine ⟨_, rfl, .inl ⟨rfl, _, SqL.of hlk⟩, _, rfl, l, _, _, ts.idxOf q.2.1, _, rfl, rfl, SqL.of hlk, rfl, flat_strs ts, idx_at n1, eqV_self _, (fun m z h1 h2 => idx_no m z h1 h2), _, _, rfl, rfl, ?_⟩
            have e : decide (((ts.idxOf q.2.2 : Nat) : Int) < ((ts.idxOf q.2.1 : Nat) : Int)) = decide (ts.idxOf q.2.2 < ts.idxOf q.2.1) := decide_eq_decide.mpr (by omega)
            show Ky (V.bl (decide (((ts.idxOf q.2.2 : Nat) : Int) < ((ts.idxOf q.2.1 : Nat) : Int)))) Hk
            rw [e]
            exact ky _ (Same.refl _) rfl
          rw [filter_true] at h6
          refine ⟨D2, P5.map fun q => decide (ts.idxOf q.2.2 < ts.idxOf q.2.1), rfl, SqL.of (by rw [h6, List.map_map]; rfl), ?_⟩
          have e3 : ((P5.map fun q => decide (ts.idxOf q.2.2 < ts.idxOf q.2.1)).all id) = rightB ps ts := by
            unfold rightB
            rw [← ep]
            unfold pd
            rw [List.all_map, List.all_map]; rfl
          rw [e3]
          exact k _ ((s24.trans s5).trans s6)
        · rw [decide_eq_false hpm]
          rw [decide_eq_false hpm, Bool.false_and] at k
          exact iteT (k _ s24)
end
end Lr

set_option Elab.async false
set_option linter.all false
set_option maxRecDepth 100000
set_option maxHeartbeats 4000000
namespace Lr
open PySem PySem.Spec PyProof.Rows L2
section
variable {P : Program} {w : World} {K : PySem.W.Frag} {mg : Str → Option Value} {base : Heap}
def mixF (c k : Int) : Int := (c % 1000000007 + 7919 * k + 13) * (c % 1000000007 + 7919 * k + 13) % 1000000007 * (c % 1000000007 + 7919 * k + 13) % 998244353 / 11
theorem mixF_nn (c k : Int) : 0 ≤ mixF c k := by
  unfold mixF
  exact Int.ediv_nonneg (Int.emod_nonneg _ (by decide)) (by decide)
def sp__law_mixed : Sp := fun vs H Q _ => ∃ c k : Int, vs = [.int c, .int k] ∧ 0 ≤ k ∧ k ≤ 1000000 ∧ Q (.int (mixF c k)) H
def sp__law_names : Sp := fun vs H Q _ => ∃ (num : Int) (many : Nat), vs = [.int num, .int (many : Int)] ∧ 0 ≤ num ∧ many ≤ 100 ∧
  ∀ p H' ns, H p = none → Same H H' → H' p = some (.lst (ns.map V.str)) → NsOk ns many → Q (.ref p) H'
theorem sc__law_mixed : FnScope ["_law_cell", "_law_k", "_law_number"] ["_law_cell", "_law_k"] (defScope s__law_mixed) := ⟨rfl, rfl, rfl, by decide +kernel, rfl, by decide +kernel, by decide +kernel⟩
theorem ok__law_mixed (T : Txt K mg) : FnOk P w K mg base CX0 1 T.f__law_mixed T.D__law_mixed.fd ["_law_cell", "_law_k"] sp__law_mixed := by
  refine T.D__law_mixed.F.ok sc__law_mixed (fun vs H Q E h => ?_) (fun cdv A outer s H vs Q E hr h => ?_)
  · obtain ⟨c, k, rfl, _⟩ := h
    rfl
  · obtain ⟨c, k, rfl, hk0, hk1, q⟩ := h
    have hu := hu_of hr
    have hu65 := hu65_of hr
    refine ⟨_, (pss_cons (ps_set (i := 2) sc__law_mixed.nd rfl (Or.inl rfl) (pe_op op_add (pe_op op_add (pe_op op_mod (pv 0) pe_int) (pe_op op_mul pe_int (pv 1))) pe_int))
      (pss_one (ps_ret (pe_op op_fdiv (pe_op op_mod (pe_op op_mul (pe_op op_mod (pe_op op_mul (pv 2) (pv 2)) pe_int) (pv 2)) pe_int) pe_int)))), ?_⟩
    have hn : 0 ≤ c % 1000000007 + 7919 * k + 13 := by
      have := Int.emod_nonneg c (b := 1000000007) (by decide)
      omega
    have hn2 : c % 1000000007 + 7919 * k + 13 < 2 ^ 64 := by
      have := Int.emod_lt_of_pos c (b := 1000000007) (by decide)
      omega
    refine ⟨_, rfl, c, 1000000007, rfl, rfl, (by show (0:Int) < 1000000007; decide), _, rfl, 7919, k, rfl, rfl, .inl ⟨by decide, by decide⟩, _, _, rfl, rfl, _, _, rfl, rfl, ?_⟩
    refine ⟨_, rfl, _, rfl, _, _, rfl, rfl, .inl ⟨by omega, hn2⟩, _, _, rfl, rfl, (by show (0:Int) < 1000000007; decide), _, rfl, _, _, rfl, rfl, .inr ⟨by omega, hn2⟩, _, _, rfl, rfl, (by show (0:Int) < 998244353; decide), _, _, rfl, rfl, ⟨by decide, by decide⟩, ?_⟩
    exact q
theorem sc__law_names : FnScope ["_law_number", "_law_many", "_law_letters", "_law_size", "_law_row_here", "_law_at", "_law_signs", "_law_j", "_law_k", "_law_sign"] ["_law_number", "_law_many"] (defScope s__law_names) := ⟨rfl, rfl, rfl, by decide +kernel, rfl, by decide +kernel, by decide +kernel⟩
theorem ok__law_names (T : Txt K mg) : FnOk P w K mg base CX0 1 T.f__law_names T.D__law_names.fd ["_law_number", "_law_many"] sp__law_names := by
  refine T.D__law_names.F.ok sc__law_names (fun vs H Q E h => ?_) (fun cdv A outer s H vs Q E hr h => ?_)
  · obtain ⟨num, many, rfl, _⟩ := h
    rfl
  · obtain ⟨num, many, rfl, h0, hm, q⟩ := h
    have hu := hu_of hr
    have hu65 := hu65_of hr
    refine ⟨_, (pss_cons (ps_set (i := 2) sc__law_names.nd rfl (Or.inr rfl) pe_str)
      (pss_cons (ps_set (i := 3) sc__law_names.nd rfl (Or.inr rfl) (pe_op op_mod (pv 0) pe_int))
      (pss_cons (ps_set (i := 4) sc__law_names.nd rfl (Or.inr rfl) (pe_join pe_str (pe_lc (own := [("_law_j", 7)]) (g := (gName 7)) rfl sc__law_names.nd (pi_range1 (by rfl) T.n_range (pa_cons pe_int pa_nil)) (blkOk_by (N := ["_law_number", "_law_many", "_law_letters", "_law_size", "_law_row_here", "_law_at", "_law_signs", "_law_j", "_law_k", "_law_sign"]) (sc := defScope s__law_names) (by decide +kernel)) (fun _ _ _ _ _ => (pg_name (i := 7) sc__law_names.nd rfl (Or.inl rfl))) (fun _ _ _ _ _ => pts_nil) (fun _ _ _ _ _ => (pe_item_str (pv 2) (pe_op op_mod (pe_op op_add (pe_op op_fdiv (pv 0) pe_int) (pe_op op_mul pe_int (pv 7))) pe_int) (fun _ _ => rfl))))))
      (pss_cons (ps_if (PW.pt (pw_and (pt_cmpR op_eq (pe_op op_mod (pe_op op_fdiv (pv 0) pe_int) pe_int) pe_int (nomark _)) (pw_and1 (pt_cmpR op_lt (pv 1) pe_int (nomark _))))) (pss_one (ps_ret (pe_lc (own := [("_law_k", 8)]) (g := (gName 8)) rfl sc__law_names.nd (pi_range1 (by rfl) T.n_range (pa_cons (pv 1) pa_nil)) (blkOk_by (N := ["_law_number", "_law_many", "_law_letters", "_law_size", "_law_row_here", "_law_at", "_law_signs", "_law_j", "_law_k", "_law_sign"]) (sc := defScope s__law_names) (by decide +kernel)) (fun _ _ _ _ _ => (pg_name (i := 8) sc__law_names.nd rfl (Or.inl rfl))) (fun _ _ _ _ _ => pts_nil) (fun _ _ _ _ _ => (pe_slice sl_str (pv 4) po_none (po_some (pe_op op_add (pv 8) pe_int))))))) pss_nil)
      (pss_cons (ps_set (i := 5) sc__law_names.nd rfl (Or.inr rfl) (pe_op op_mod (pe_op op_fdiv (pv 0) pe_int) (pe_op op_add (pv 3) pe_int)))
      (pss_cons (ps_setLc (i := 6) (own := [("_law_k", 8)]) (g := (gName 8)) rfl sc__law_names.nd rfl rfl (sw_true rfl rfl rfl (by decide +kernel)) (pi_range1 (by rfl) T.n_range (pa_cons (pv 1) pa_nil)) (blkOk_by (N := ["_law_number", "_law_many", "_law_letters", "_law_size", "_law_row_here", "_law_at", "_law_signs", "_law_j", "_law_k", "_law_sign"]) (sc := defScope s__law_names) (by decide +kernel)) (fun _ _ _ _ _ => (pg_name (i := 8) sc__law_names.nd rfl (Or.inl rfl))) (fun _ _ _ _ _ => pts_nil) (fun _ _ _ _ _ => (pe_item_str (pv 2) (pe_op op_mod (pe_op op_add (pe_op op_fdiv (pv 0) pe_int) (pe_op op_mul pe_int (pv 8))) pe_int) (fun _ _ => rfl))))
      (pss_one (ps_ret (pe_lc (own := [("_law_sign", 9)]) (g := (gName 9)) rfl sc__law_names.nd (pi_listK (pv 6)) (blkOk_by (N := ["_law_number", "_law_many", "_law_letters", "_law_size", "_law_row_here", "_law_at", "_law_signs", "_law_j", "_law_k", "_law_sign"]) (sc := defScope s__law_names) (by decide +kernel)) (fun _ _ _ _ _ => (pg_name (i := 9) sc__law_names.nd rfl (Or.inl rfl))) (fun _ _ _ _ _ => pts_nil) (fun _ _ _ _ _ => (pe_op op_add_str (pe_op op_add_str (pe_slice sl_str (pv 4) po_none (po_some (pv 5))) (pv 9)) (pe_slice sl_str (pv 4) (po_some (pv 5)) (po_some (pv 3)))))))))))))), ?_⟩
    refine ⟨_, rfl, num, 8, rfl, rfl, (by show (0:Int) < 8; decide), ?_⟩
    have hat : ∀ z : Int, letters.cps[(z % 26).toNat]? = some (letC z) := fun z => (letC_at z).1
    have h26 : ∀ z : Int, 0 ≤ z % 26 ∧ z % 26 < 26 := fun z => ⟨Int.emod_nonneg _ (by decide), Int.emod_lt_of_pos _ (by decide)⟩
    have h63 : ∀ z : Int, z % 26 < 2 ^ 63 := fun z => by have := (h26 z).2; omega
    have hls : ∀ z : Int, z % 26 < (letters.length : Int) := fun z => by
      have h : (letters.length : Int) = 26 := by decide +kernel
      rw [h]; exact (h26 z).2
    refine ⟨⟨_, rfl⟩, 8, rfl, (by decide), (by decide), fun D hD => ?_⟩
    refine lcR (n := 8) (fun _ => true) (fun i => .str ⟨#[letC (num / 8 + 5 * (i : Int))]⟩) (by decide) hD (fun i hi Hk ek Kn Ky kn ky => ⟨rfl, ?_⟩) (fun H1 s1 h1 => ?_)
    · exact ⟨_, rfl, _, rfl, num, 8, rfl, rfl, ⟨by decide, by decide⟩, _, rfl, 5, (i : Int), rfl, rfl, .inl ⟨by decide, by decide⟩, _, _, rfl, rfl, _, _, rfl, rfl, (by show (0:Int) < 26; decide), letters, _, _, rfl, rfl, (h26 _).1, h63 _, hls _, hat _, ky _ (Same.refl _) rfl⟩
    rw [filter_true] at h1
    have e1 : ((List.range 8).map fun i : Nat => V.str ⟨#[letC (num / 8 + 5 * (i : Int))]⟩) = ((List.range 8).map fun j : Nat => (⟨#[letC (num / 8 + 5 * (j : Int))]⟩ : Str)).map V.str := by rw [List.map_map]; rfl
    refine ⟨"", D, (List.range 8).map fun j : Nat => (⟨#[letC (num / 8 + 5 * (j : Int))]⟩ : Str), rfl, rfl, .inl (SqL.of (by rw [h1, e1])), row8_fit num, ?_⟩
    rw [row8_join]
    have hsz0 : 0 ≤ num % 8 := Int.emod_nonneg _ (by decide)
    have hsz1 : num % 8 < 8 := Int.emod_lt_of_pos _ (by decide)
    have rest : ∀ k : Nat, True := fun _ => trivial
    have hr8 : (row8 num).length ≤ sizeLine := by rw [row8_len]; decide
    refine ⟨_, rfl, num, 64, rfl, rfl, ⟨by decide, by decide⟩, _, _, rfl, rfl, (by show (0:Int) < 3; decide), rfl, _, rfl, ?_⟩
    refine (fun els => ite2 (fun c1 => ⟨_, rfl, _, _, rfl, rfl, _, rfl, ite2 (fun c2 => ?thn) (fun _ => els)⟩) (fun _ => els)) ?els
    case thn => 
      have hm9 : many < 9 := by have := of_decide_eq_true c2; omega
      refine ⟨_, rfl, (many : Int), rfl, by omega, by omega, fun D2 hD2 => ?_⟩
      refine lcR (n := many) (fun _ => true) (fun k => .str (L2.cutS (row8 num) none (some ((k : Int) + 1)))) (by omega) hD2 (fun k hk Hk ek Kn Ky kn ky => ⟨rfl, ?_⟩) (fun H2 s2 h2 => ?_)
      · exact ⟨_, rfl, _, rfl, _, _, rfl, rfl, _, rfl, row8 num, rfl, hr8, ky _ (Same.refl _) rfl⟩
      rw [filter_true] at h2
      refine q D2 H2 _ (s1.free hD2) (s1.trans s2) ?_ (nsPre num hm9)
      rw [h2, List.map_map]; rfl
    case els =>
      refine ⟨_, rfl, num, 200, rfl, rfl, ⟨by decide, by decide⟩, _, rfl, _, _, rfl, rfl, _, _, rfl, rfl, (by show (0:Int) < num % 8 + 1; omega), ?_⟩
      have ha0 : 0 ≤ num / 200 % (num % 8 + 1) := Int.emod_nonneg _ (by omega)
      have ha1 : num / 200 % (num % 8 + 1) < num % 8 + 1 := Int.emod_lt_of_pos _ (by omega)
      refine ⟨_, rfl, (many : Int), rfl, by omega, by omega, fun D2 hD2 => ?_⟩
      refine lcR (n := many) (fun _ => true) (fun k => .str ⟨#[letC (num / 2000 + 7 * (k : Int))]⟩) (by omega) hD2 (fun k hk Hk ek Kn Ky kn ky => ⟨rfl, ?_⟩) (fun H2 s2 h2 => ?_)
      · exact ⟨_, rfl, _, rfl, num, 2000, rfl, rfl, ⟨by decide, by decide⟩, _, rfl, 7, (k : Int), rfl, rfl, .inl ⟨by decide, by decide⟩, _, _, rfl, rfl, _, _, rfl, rfl, (by show (0:Int) < 26; decide), letters, _, _, rfl, rfl, (h26 _).1, h63 _, hls _, hat _, ky _ (Same.refl _) rfl⟩
      rw [filter_true] at h2
      have e2 : ((List.range many).map fun i : Nat => V.str ⟨#[letC (num / 2000 + 7 * (i : Int))]⟩) = ((List.range many).map fun j : Nat => (⟨#[letC (num / 2000 + 7 * (j : Int))]⟩ : Str)).map V.str := by rw [List.map_map]; rfl
      rw [e2] at h2
      have hsg : ∀ z ∈ ((List.range many).map fun j : Nat => (⟨#[letC (num / 2000 + 7 * (j : Int))]⟩ : Str)), AllL z ∧ z.length = 1 := fun z hz => by
        obtain ⟨j, _, rfl⟩ := List.mem_map.mp hz
        exact ⟨allL_one _, rfl⟩
      have hln : ((List.range many).map fun j : Nat => (⟨#[letC (num / 2000 + 7 * (j : Int))]⟩ : Str)).length = many := by simp
      have hnm := nsMid num ha0 (by omega) hsz1 _ hsg
      rw [hln] at hnm
      generalize ((List.range many).map fun j : Nat => (⟨#[letC (num / 2000 + 7 * (j : Int))]⟩ : Str)) = signs at *
      refine ⟨_, rfl, D2, rfl, ⟨_, SqL.of h2⟩, fun D3 hD3 => ?_⟩
      refine lcL signs V.str (fun _ => true) (fun z => .str (L2.cutS (row8 num) none (some (num / 200 % (num % 8 + 1))) ++ z ++ L2.cutS (row8 num) (some (num / 200 % (num % 8 + 1))) (some (num % 8)))) (SqL.of h2) (by omega) hD3 (fun z hz Hk ek Kn Ky kn ky => ⟨rfl, ?_⟩) (fun H3 s3 h3 => ?_)
      · have hc1 : ∀ lo hi, (L2.cutS (row8 num) lo hi).length ≤ 8 := fun lo hi => cutS_length _ _ _
        have hz1 := (hsg z hz).2
        refine ⟨_, rfl, _, rfl, _, rfl, row8 num, rfl, hr8, _, rfl, _, _, rfl, rfl, ?_, _, rfl, _, rfl, _, rfl, _, rfl, _, rfl, row8 num, rfl, hr8, _, _, rfl, rfl, ?_, ky _ (Same.refl _) rfl⟩
        · rw [hz1]; exact Nat.le_trans (Nat.add_le_add_right (hc1 _ _) 1) (by decide)
        · rw [len_cat, hz1]; exact Nat.le_trans (Nat.add_le_add (Nat.add_le_add_right (hc1 _ _) 1) (hc1 _ _)) (by decide)
      rw [filter_true] at h3
      refine q D3 H3 _ (s1.free (s2.free hD3)) ((s1.trans s2).trans s3) ?_ hnm
      rw [h3, List.map_map]; rfl
end
end Lr

set_option Elab.async false
set_option linter.all false
set_option maxRecDepth 100000
set_option maxHeartbeats 4000000
namespace Lr
open PySem PySem.Spec PyProof.Rows L2
section
variable {P : Program} {w : World} {K : PySem.W.Frag} {mg : Str → Option Value} {base : Heap}
def sp__law_begun : Sp := fun vs H Q _ => ∃ (l : Addr) (cs : List Int) (most : Nat), vs = [.ref l, .int (most : Int)] ∧ SqL K H l (cs.map V.int) ∧ cs.length ≤ 1000 ∧ 3 ≤ most ∧ most ≤ 50 ∧
  ∀ t H' pn d fo (names : List Str), Same H H' → H' t = some (.tup [.ref pn, .ref d]) → H pn = none → H' pn = some (.lst (names.map V.str)) → pn ∉ fo → (∀ n ∈ names, isNm n = true) → 3 ≤ names.length → names.length ≤ most →
    OwnS H' d fo [] [] → (∀ b ∈ fo, H b = none) → (∀ n ∈ names, oddFree n) → Q (.ref t) H'
def sp__law_deed : Sp := fun vs H Q _ => ∃ (d pn : Addr) (num : Int) (fo : List Addr) (os : List Str) (ps : List (Str × Str)) (names : List Str), vs = [.ref d, .ref pn, .int num] ∧ OwnS H d fo os ps ∧ H pn = some (.lst (names.map V.str)) ∧ names ≠ [] ∧ os.length ≤ 1000 ∧ names.length ≤ 1000 ∧ ps.length ≤ 10000 ∧
  ∀ t H', H t = none → Same H H' → H' t = some (.tup ((deedF os ps names num).strs.map V.str)) → Q (.ref t) H'
def sp__law_under : Sp := fun vs H Q _ => ∃ (lq : Addr) (P : Ps) (a : Str), vs = [.ref lq, .str a] ∧ PL H lq P ∧ (pd P).Nodup ∧ P.length ≤ 10000 ∧
  ∀ p H' (fs : List Str), H p = none → Same H H' → H' p = some (.lst (fs.map V.str)) → (∀ x, x ∈ fs ↔ Rch (pd P) a x) → Q (.ref p) H'
theorem sc__law_begun : FnScope ["_law_script", "_law_most", "_law_number", "_law_cell"] ["_law_script", "_law_most"] (defScope s__law_begun) := ⟨rfl, rfl, rfl, by decide +kernel, rfl, by decide +kernel, by decide +kernel⟩
theorem ok__law_begun (T : Txt K mg) : FnOk P w K mg base CX0 2 T.f__law_begun T.D__law_begun.fd ["_law_script", "_law_most"] (sp__law_begun (K := K)) := by
  refine T.D__law_begun.F.ok sc__law_begun (fun vs H Q E h => ?_) (fun cdv A outer s H vs Q E hr h => ?_)
  · obtain ⟨l, cs, most, rfl, _⟩ := h
    rfl
  · obtain ⟨l, cs, most, rfl, hl, hcl, h3, h50, k⟩ := h
    have hu := hu_of hr
    have hu65 := hu65_of hr
    refine ⟨_, (pss_cons (ps_set (i := 2) sc__law_begun.nd rfl (Or.inl rfl) (pe_call (ok__law_mixed T) (hr.mono (by decide)) (by rfl) T.g__law_mixed T.k__law_mixed T.D__law_mixed.b .nil pass0 (pa_cons (pe_op op_add (pe_callB call_lenK (by rfl) T.n_len (by decide +kernel) (pa_cons (pv 0) pa_nil)) (pe_callB (cr_sumK rfl) (by rfl) T.n_sum (by decide +kernel) (pa_cons (pe_lc (own := [("_law_cell", 3)]) (g := (gName 3)) rfl sc__law_begun.nd (pi_listK (pv 0)) (blkOk_by (N := ["_law_script", "_law_most", "_law_number", "_law_cell"]) (sc := defScope s__law_begun) (by decide +kernel)) (fun _ _ _ _ _ => (pg_name (i := 3) sc__law_begun.nd rfl (Or.inl rfl))) (fun _ _ _ _ _ => pts_nil) (fun _ _ _ _ _ => (pe_op op_mod (pv 3) pe_int))) pa_nil))) (pa_cons pe_int pa_nil))))
      (pss_one (ps_ret (pe_tup (pa_cons (pe_call (ok__law_names T) (hr.mono (by decide)) (by rfl) T.g__law_names T.k__law_names T.D__law_names.b .nil pass0 (pa_cons (pe_op op_fdiv (pv 2) pe_int) (pa_cons (pe_op op_add pe_int (pe_op op_mod (pv 2) (pe_op op_sub (pv 1) pe_int))) pa_nil))) (pa_cons (pe_disp (pps_cons pe_str (pe_lst pa_nil) (pps_cons pe_str (pe_lst pa_nil) pps_nil)) (by rfl) (by rfl) (fun z => by cases z) (by decide)) pa_nil)))))), ?_⟩
    refine ⟨_, rfl, l, _, rfl, .inl hl, _, rfl, l, rfl, ⟨_, hl⟩, fun D hD => ?_⟩
    refine lcL cs V.int (fun _ => true) (fun c => .int (c % 1000003)) hl (by omega) hD (fun c hc Hk ek Kn Ky kn ky => ⟨rfl, ?_⟩) (fun H1 s1 h1 => ?_)
    · exact ⟨_, rfl, c, _, rfl, rfl, (by show (0:Int) < 1000003; decide), ky _ (Same.refl _) rfl⟩
    rw [filter_true] at h1
    have e1 : (cs.map fun c => V.int (c % 1000003)) = (cs.map fun c => c % 1000003).map V.int := by rw [List.map_map]; rfl
    rw [e1] at h1
    refine ⟨D, _, rfl, SqL.of h1, _, _, rfl, rfl, _, 1, rfl, by decide, by decide, ?_⟩
    generalize hmix : mixF _ 1 = num
    have hn0 : 0 ≤ num := by rw [← hmix]; exact mixF_nn _ _
    obtain ⟨j, ej, hj⟩ := pick_lt (n := most - 2) (by omega) num
    have e2 : ((most : Int) - 2) = ((most - 2 : Nat) : Int) := by omega
    refine ⟨_, rfl, num, 7, rfl, rfl, ⟨by decide, by decide⟩, _, rfl, _, rfl, _, _, rfl, rfl, _, _, rfl, rfl, (by show (0:Int) < (most : Int) - 2; omega), _, _, rfl, rfl, num / 7, 3 + j, ?_, Int.ediv_nonneg hn0 (by decide), by omega, fun pn H2 names hpn s2 h2 hok => ?_⟩
    · rw [e2, ej]
      have : (3 : Int) + (j : Int) = ((3 + j : Nat) : Int) := by omega
      show [V.int (num / 7), V.int (3 + (j : Int))] = _
      rw [this]
    refine fun d hd => ?_
    refine ⟨Nat.zero_le _, fun lo hlo => ⟨Nat.zero_le _, fun lq hlq => ?_⟩⟩
    obtain ⟨nld, hlo1⟩ := upd_none hlo
    obtain ⟨nql, hlq1⟩ := upd_none hlq
    obtain ⟨nqd, hlq2⟩ := upd_none hlq1
    refine ⟨by rw [upd_ne nqd.symm, upd_ne nld.symm, upd_same], [((Sum.inr ("order" : Str) : Key), V.ref lo), ((Sum.inr ("pairs" : Str) : Key), V.ref lq)], rfl, (by show 2 ≤ 15; decide), ?_⟩
    rw [oF_0]
    refine ⟨(by show 2 ≤ sizeLine; decide), fun t ht => ?_⟩
    obtain ⟨ntd, ht1⟩ := upd_none ht
    have sA : Same H2 (upd (upd (upd (upd H2 d (.dK [])) lo (.lst [])) lq (.lst [])) d (.dK (oF lo lq))) := Same.mut (((Same.new hd).trans (Same.new hlo)).trans (Same.new hlq)) hd
    have sB := Same.new (o := .tup [.ref pn, .ref d]) ht
    have s12 := s1.trans s2
    refine k t _ pn d [d, lo, lq] names (s12.trans (sA.trans sB)) upd_same (s1.free hpn) (sB _ _ (sA _ _ h2)) ?_ hok.2.1 (by rw [hok.1]; omega) (by rw [hok.1]; omega) ⟨lo, lq, [], rfl, ⟨?_, ?_, ⟨?_, fun _ z => nomatch z⟩, nql.symm⟩, rfl⟩ ?_ hok.2.2
    · intro z
      simp only [List.mem_cons, List.not_mem_nil, or_false] at z
      rcases z with z | z | z
      · rw [z, hd] at h2; cases h2
      · rw [z, hlo1] at h2; cases h2
      · rw [z, hlq2] at h2; cases h2
    · exact sB _ _ upd_same
    · exact sB _ _ (by rw [upd_ne nld, upd_ne nql.symm, upd_same]; rfl)
    · exact sB _ _ (by rw [upd_ne nqd, upd_same]; rfl)
    · intro b hb
      simp only [List.mem_cons, List.not_mem_nil, or_false] at hb
      rcases hb with rfl | rfl | rfl
      · exact s12.free hd
      · exact s12.free hlo1
      · exact s12.free hlq2
theorem sc__law_deed : FnScope ["_law_own", "_law_names_here", "_law_number", "_law_there", "_law_free", "_law_way", "_law_more", "_law_name"] ["_law_own", "_law_names_here", "_law_number"] (defScope s__law_deed) := ⟨rfl, rfl, rfl, by decide +kernel, rfl, by decide +kernel, by decide +kernel⟩
theorem ok__law_deed (T : Txt K mg) : FnOk P w K mg base CX0 1 T.f__law_deed T.D__law_deed.fd ["_law_own", "_law_names_here", "_law_number"] sp__law_deed := by
  refine T.D__law_deed.F.ok sc__law_deed (fun vs H Q E h => ?_) (fun cdv A outer s H vs Q E hr h => ?_)
  · obtain ⟨d, pn, num, fo, os, ps, names, rfl, _⟩ := h
    rfl
  · obtain ⟨d, pn, num, fo, os, ps, names, rfl, ⟨lo, lq, P, rfl, W, rfl⟩, hpn, hne, hol, hnl, hpl, k⟩ := h
    have hu := hu_of hr
    have hu65 := hu65_of hr
    refine ⟨_, (pss_cons (ps_set (i := 3) sc__law_deed.nd rfl (Or.inr rfl) (pe_dget hu (pv 0) pe_str (fun _ _ => rfl)))
      (pss_cons (ps_setLc (i := 4) (own := [("_law_name", 7)]) (g := (gName 7)) rfl sc__law_deed.nd rfl rfl (sw_true rfl rfl rfl (by decide +kernel)) (pi_listK (pv 1)) (blkOk_by (N := ["_law_own", "_law_names_here", "_law_number", "_law_there", "_law_free", "_law_way", "_law_more", "_law_name"]) (sc := defScope s__law_deed) (by decide +kernel)) (fun _ _ _ _ _ => (pg_name (i := 7) sc__law_deed.nd rfl (Or.inl rfl))) (fun _ _ _ _ _ => (pts_one (pt_cmpR op_notIn_seqK (pv 7) (pv 3) (by rfl)))) (fun _ _ _ _ _ => (pv 7)))
      (pss_cons (ps_set (i := 5) sc__law_deed.nd rfl (Or.inl rfl) (pe_op op_mod (pv 2) pe_int))
      (pss_cons (ps_set (i := 6) sc__law_deed.nd rfl (Or.inl rfl) (pe_op op_fdiv (pv 2) pe_int))
      (pss_cons (ps_if (PW.pt (pw_and (pt_cmpR (op_nePK hu65) (pv 4) (pe_lst pa_nil) (nomark _)) (pw_and1 (PW.pt (pw_or (pt_cmpR op_lt (pv 5) pe_int (nomark _)) (pw_or1 (pt_cmpR op_lt (pe_callB call_lenK (by rfl) T.n_len (by decide +kernel) (pa_cons (pv 3) pa_nil)) pe_int (nomark _)))))))) (pss_one (ps_ret (pe_tup (pa_cons pe_str (pa_cons (pe_ix ix_listK (pv 4) (pe_op op_mod (pv 6) (pe_callB call_lenK (by rfl) T.n_len (by decide +kernel) (pa_cons (pv 4) pa_nil))) (fun _ _ => rfl)) pa_nil))))) pss_nil)
      (pss_cons (ps_if (pt_cmpR op_eq (pv 5) pe_int (nomark _)) (pss_one (ps_ret (pe_tup (pa_cons pe_str (pa_cons (pe_ix ix_listK (pv 3) (pe_op op_mod (pv 6) (pe_callB call_lenK (by rfl) T.n_len (by decide +kernel) (pa_cons (pv 3) pa_nil))) (fun _ _ => rfl)) pa_nil))))) pss_nil)
      (pss_cons (ps_if (PW.pt (pw_and (pt_cmpR op_eq (pv 5) pe_int (nomark _)) (pw_and1 (pt_cmpR (op_nePK hu65) (pe_dget hu (pv 0) pe_str (fun _ _ => rfl)) (pe_lst pa_nil) (nomark _))))) (pss_one (ps_ret (pe_op op_catT (pe_tup (pa_cons pe_str pa_nil)) (pe_ix ix_listK (pe_dget hu (pv 0) pe_str (fun _ _ => rfl)) (pe_op op_mod (pv 6) (pe_callB call_lenK (by rfl) T.n_len (by decide +kernel) (pa_cons (pe_dget hu (pv 0) pe_str (fun _ _ => rfl)) pa_nil))) (fun _ _ => rfl))))) pss_nil)
      (pss_one (ps_ret (pe_tup (pa_cons pe_str (pa_cons (pe_ix ix_listK (pv 3) (pe_op op_mod (pv 6) (pe_callB call_lenK (by rfl) T.n_len (by decide +kernel) (pa_cons (pv 3) pa_nil))) (fun _ _ => rfl)) (pa_cons (pe_ix ix_listK (pv 3) (pe_op op_mod (pe_op op_fdiv (pv 6) pe_int) (pe_callB call_lenK (by rfl) T.n_len (by decide +kernel) (pa_cons (pv 3) pa_nil))) (fun _ _ => rfl)) pa_nil))))))))))))), ?_⟩
    refine ⟨_, rfl, d, _, rfl, W.g1, ?_⟩
    refine ⟨_, rfl, pn, rfl, ⟨_, SqL.of hpn⟩, fun D hD => ?_⟩
    refine lcL names V.str (fun n => decide (n ∉ os)) V.str (SqL.of hpn) (by omega) hD (fun n hn Hk ek Kn Ky kn ky => ⟨rfl, ?_⟩) (fun H1 s1 h1 => ?_)
    · refine ⟨_, rfl, _, rfl, lo, _, rfl, .inl (SqL.of (ek _ _ W.pn)), rfl, flat_strs os, _, rfl, ?_⟩
      rw [if_pos rfl, inV_str]
      by_cases c : n ∈ os
      · rw [decide_eq_true c]
        exact kn _ (Same.refl _) (decide_eq_false (fun z => z c))
      · rw [decide_eq_false c]
        exact ⟨_, rfl, ky _ (Same.refl _) (decide_eq_true c)⟩
    have efr : names.filter (fun n => decide (n ∉ os)) = freeF os names := rfl
    rw [efr] at h1
    refine ⟨_, rfl, num, 10, rfl, rfl, (by show (0:Int) < 10; decide), _, rfl, num, 10, rfl, rfl, ⟨by decide, by decide⟩, ?_⟩
    have W1 := W.same s1
    have hlen : ((os.map V.str).length : Int) = (os.length : Int) := by rw [List.length_map]
    refine ⟨_, rfl, Nat.zero_le _, fun p hp => ?_⟩
    have sp := Same.new (o := .lst []) hp
    have h1' := sp _ _ h1
    have he' : (upd H1 p (.lst [])) p = some (.lst []) := upd_same
    have W2 := W1.same sp
    have s2 := s1.trans sp
    show rNeP _ _ _ (upd H1 p (.lst [])) _
    generalize upd H1 p (.lst []) = H2 at h1' he' W2 s2
    refine ⟨_, _, dp_strs (SqL.of h1'), dp_empty he', strs_plain _, empty_plain, ?_, ?_⟩
    · have := empty_depth; omega
    rw [eqv_empty]
    refine ⟨_, rfl, ?_⟩
    have hfe : ∀ b, (!((freeF os names).map sD).isEmpty) = b → (b = true ↔ freeF os names ≠ []) := fun b e => by
      subst e
      cases freeF os names <;> simp
    generalize hb : (!((freeF os names).map sD).isEmpty) = b1
    have hb1 := hfe b1 hb
    refine (fun (thn : freeF os names ≠ [] ∧ (num % 10 < 3 ∨ os.length < 2) → _) (els : ¬ (freeF os names ≠ [] ∧ (num % 10 < 3 ∨ os.length < 2)) → _) => ite2 (fun c1 => ⟨_, rfl, _, _, rfl, rfl, _, rfl, ite2 (fun c2 => thn ⟨hb1.mp c1, .inl (of_decide_eq_true c2)⟩)
      (fun c2 => ⟨_, rfl, lo, _, rfl, .inl (SqL.of W2.pn), _, _, rfl, rfl, _, rfl, ite2 (fun c3 => thn ⟨hb1.mp c1, .inr (by have z := of_decide_eq_true c3; rw [hlen] at z; omega)⟩) (fun c3 => els (fun z => ?e1))⟩)⟩) (fun c1 => els (fun z => c1 (hb1.mpr z.1)))) ?thn ?els
    case e1 =>
      rcases z.2 with y | y
      · exact c2 (decide_eq_true y)
      · exact c3 (decide_eq_true (by rw [hlen]; omega))
    case thn =>
      intro cc
      have hfl : (freeF os names).length ≤ 1000 := Nat.le_trans (List.length_filter_le _ _) hnl
      have hpos : 0 < (freeF os names).length := List.length_pos_iff.mpr cc.1
      have hlf : (((freeF os names).map V.str).length : Int) = ((freeF os names).length : Int) := by rw [List.length_map]
      refine ⟨_, rfl, _, rfl, _, rfl, D, _, rfl, .inl (SqL.of h1'), _, _, rfl, rfl, (by rw [hlf]; omega), D, _, _, _, rfl, rfl, SqL.of h1', (by rw [hlf]; exact pickS_at cc.1 _), (by show 2 ≤ sizeLine; decide), fun t ht => ?_⟩
      refine k t _ (s2.free ht) (s2.trans (Same.new ht)) ?_
      rw [upd_same]
      unfold deedF
      rw [if_pos cc]
      rfl
    case els =>
      intro cc
      have hos : os ≠ [] := os_ne hne cc
      have hpos : 0 < os.length := List.length_pos_iff.mpr hos
      have hat : ∀ z : Int, atI (os.map V.str) (z % ((os.map V.str).length : Int)) = some (.str (pickS os z)) := fun z => by rw [hlen]; exact pickS_at hos z
      have hp0 : (0 : Int) < ((os.map V.str).length : Int) := by rw [hlen]; omega
      have ed : deedF os (pd P) names num = (if num % 10 = 3 then .take (pickS os (num / 10))
        else if num % 10 = 4 ∧ pd P ≠ [] then .loosen (pickP (pd P) (num / 10)).1 (pickP (pd P) (num / 10)).2
        else .lean (pickS os (num / 10)) (pickS os (num / 10 / 40))) := if_neg cc
      rw [ed] at k
      clear ed
      refine ⟨_, rfl, rfl, _, rfl, ?_⟩
      refine ite2 (fun c3' => ?_) (fun c3' => ?_)
      · have c3 : num % 10 = 3 := V.int.inj (of_decide_eq_true c3')
        rw [if_pos c3] at k
        refine ⟨_, rfl, _, rfl, _, rfl, lo, _, rfl, .inl (SqL.of W2.pn), _, _, rfl, rfl, hp0, lo, _, _, _, rfl, rfl, SqL.of W2.pn, hat _, (by show 2 ≤ sizeLine; decide), fun t ht => ?_⟩
        exact k t _ (s2.free ht) (s2.trans (Same.new ht)) upd_same
      · have c3 : ¬ num % 10 = 3 := fun z => c3' (decide_eq_true (congrArg V.int z))
        rw [if_neg c3] at k
        refine ⟨_, rfl, rfl, _, rfl, ?_⟩
        refine ite2 (fun c4' => ?_) (fun c4' => ?_)
        · have c4 : num % 10 = 4 := V.int.inj (of_decide_eq_true c4')
          refine ⟨_, rfl, d, _, rfl, W2.g2, Nat.zero_le _, fun p2 hp2 => ?_⟩
          have sp2 := Same.new (o := .lst []) hp2
          have he3 : (upd H2 p2 (.lst [])) p2 = some (.lst []) := upd_same
          have W3 := W2.same sp2
          have s3 := s2.trans sp2
          show rNeP _ _ _ (upd H2 p2 (.lst [])) _
          generalize upd H2 p2 (.lst []) = H3 at he3 W3 s3
          refine ⟨_, _, dp_pairs W3.pq, dp_empty he3, pairs_plain _, empty_plain, ?_, ?_⟩
          · have := empty_depth; omega
          rw [eqv_empty]
          refine ⟨_, rfl, ?_⟩
          by_cases c5 : pd P = []
          · rw [c5]
            refine iteF ?_
            rw [if_neg (fun z => z.2 c5)] at k
            refine ⟨_, rfl, _, rfl, _, rfl, lo, _, rfl, .inl (SqL.of W3.pn), _, _, rfl, rfl, hp0, lo, _, _, _, rfl, rfl, SqL.of W3.pn, hat _, _, rfl, _, rfl, _, _, rfl, rfl, ⟨by decide, by decide⟩, _, rfl, lo, _, rfl, .inl (SqL.of W3.pn), _, _, rfl, rfl, hp0, lo, _, _, _, rfl, rfl, SqL.of W3.pn, hat _, (by show 3 ≤ sizeLine; decide), fun t ht => ?_⟩
            exact k t _ (s3.free ht) (s3.trans (Same.new ht)) upd_same
          · have e5 : (!((pd P).map pD).isEmpty) = true := by
              cases hz : pd P with
              | nil => exact absurd hz c5
              | cons p r => rfl
            rw [e5]
            refine iteT ?_
            rw [if_pos ⟨c4, c5⟩] at k
            have hP : P ≠ [] := fun z => c5 (by rw [z]; rfl)
            have hPp : (0 : Int) < ((P.map fun q => V.ref q.1).length : Int) := by
              rw [List.length_map]
              have := List.length_pos_iff.mpr hP
              omega
            obtain ⟨q, hq, hqa, hqe⟩ := pickP_at hP (num / 10)
            refine ⟨(by show 1 ≤ sizeLine; decide), fun t0 ht0 => ?_⟩
            have s4 := Same.new (o := .tup [V.str "loosen"]) ht0
            have W4 := W3.same s4
            have hqa' : atI (P.map fun q => V.ref q.1) (num / 10 % ((P.map fun q => V.ref q.1).length : Int)) = some (.ref q.1) := by rw [List.length_map]; exact hqa
            refine ⟨_, rfl, d, _, rfl, W4.g2, _, rfl, _, rfl, d, _, rfl, W4.g2, lq, _, rfl, .inl (SqL.of W4.pq.lst), _, _, rfl, rfl, hPp, lq, _, _, _, rfl, rfl, SqL.of W4.pq.lst, hqa', ?_⟩
            refine ⟨t0, q.1, _, _, rfl, rfl, SqT.of upd_same, SqT.of (W4.pq.tup q hq), (fun z => by cases z), (by show 3 ≤ sizeLine; decide), (fun z => by cases z), fun _ t ht => ?_⟩
            refine k t _ (s3.free (s4.free ht)) ((s3.trans s4).trans (Same.new ht)) ?_
            rw [upd_same, ← hqe]; rfl
        · have c4 : ¬ num % 10 = 4 := fun z => c4' (decide_eq_true (congrArg V.int z))
          refine iteF ?_
          rw [if_neg (fun z => c4 z.1)] at k
          refine ⟨_, rfl, _, rfl, _, rfl, lo, _, rfl, .inl (SqL.of W2.pn), _, _, rfl, rfl, hp0, lo, _, _, _, rfl, rfl, SqL.of W2.pn, hat _, _, rfl, _, rfl, _, _, rfl, rfl, ⟨by decide, by decide⟩, _, rfl, lo, _, rfl, .inl (SqL.of W2.pn), _, _, rfl, rfl, hp0, lo, _, _, _, rfl, rfl, SqL.of W2.pn, hat _, (by show 3 ≤ sizeLine; decide), fun t ht => ?_⟩
          exact k t _ (s2.free ht) (s2.trans (Same.new ht)) upd_same
theorem sc__law_under : FnScope ["_law_pairs", "_law_name", "_law_found", "_law_at", "_law_high", "_law_lower"] ["_law_pairs", "_law_name"] (defScope s__law_under) := ⟨rfl, rfl, rfl, by decide +kernel, rfl, by decide +kernel, by decide +kernel⟩
theorem ok__law_under (T : Txt K mg) : FnOk P w K mg base CX0 1 T.f__law_under T.D__law_under.fd ["_law_pairs", "_law_name"] sp__law_under := by
  refine T.D__law_under.F.ok sc__law_under (fun vs H Q E h => ?_) (fun cdv A outer s H vs Q E hr h => ?_)
  · obtain ⟨lq, P, a, rfl, _⟩ := h
    rfl
  · obtain ⟨lq, P, a, rfl, W, hnd, hpl, k⟩ := h
    have hu := hu_of hr
    have hu65 := hu65_of hr
    refine ⟨_, (pss_cons (ps_set (i := 2) sc__law_under.nd rfl (Or.inr rfl) (pe_lst (pa_cons (pv 1) pa_nil)))
      (pss_cons (ps_set (i := 3) sc__law_under.nd rfl (Or.inr rfl) pe_int)
      (pss_cons (ps_while PassesOwn.never (pt_cmpR op_lt (pv 3) (pe_callB call_lenK (by rfl) T.n_len (by decide +kernel) (pa_cons (pv 2) pa_nil)) (nomark _)) (pss_cons (ps_expr (pe_bmK PySem.F.plainAttrs_list PySem.F.slot_list_extend PySem.F.type_list_extend mt_extend (pv 2) (pa_cons (pe_lc (own := [("_law_high", 4), ("_law_lower", 5)]) (g := (gTup K 2 (gCons (gName 4) (gCons (gName 5) gNil)))) rfl sc__law_under.nd (pi_listK (pv 0)) (blkOk_by (N := ["_law_pairs", "_law_name", "_law_found", "_law_at", "_law_high", "_law_lower"]) (sc := defScope s__law_under) (by decide +kernel)) (fun _ _ _ _ _ => (pg_tup rfl (pgs_cons (pg_name (i := 4) sc__law_under.nd rfl (Or.inl rfl)) (pgs_cons (pg_name (i := 5) sc__law_under.nd rfl (Or.inl rfl)) pgs_nil)))) (fun _ _ _ _ _ => (pts_one (PW.pt (pw_and (pt_cmpR op_eq (pv 4) (pe_ix ix_listK (pv 2) (pv 3) (fun _ _ => rfl)) (nomark _)) (pw_and1 (pt_cmpR op_notIn_seqK (pv 5) (pv 2) (by rfl))))))) (fun _ _ _ _ _ => (pv 5))) pa_nil)))
      (pss_one (ps_set (i := 3) sc__law_under.nd rfl (Or.inr rfl) (pe_op op_add (pv 3) pe_int)))))
      (pss_one (ps_ret (pv 2)))))), ?_⟩
    have hpd : (pd P).length ≤ 10000 := by unfold pd; rw [List.length_map]; exact hpl
    refine ⟨_, rfl, (by show 1 ≤ sizeLine; decide), fun l hl => ?_⟩
    have s0 : Same H (upd H l (.lst [.str a])) := Same.new hl
    have h0 : (upd H l (.lst [.str a])) l = some (.lst ([a].map V.str)) := upd_same
    generalize upd H l (.lst [.str a]) = H1 at s0 h0
    refine ⟨fun fuel σ H2 => ∃ (fs : List Str) (at' : Nat), fuel = (pd P).length + 1 - at' ∧ σ = [some (.ref lq), some (.str a), some (.ref l), some (.int (at' : Int)), none, none] ∧ Same H H2 ∧ H2 l = some (.lst (fs.map V.str)) ∧ UI (pd P) a at' fs,
      ⟨(pd P).length + 1, [a], 0, rfl, rfl, s0, h0, UI.start _ _⟩, ?_⟩
    rintro fuel σ H2 ⟨fs, at', rfl, rfl, s2, h2, ui⟩
    refine ⟨_, rfl, _, rfl, l, _, rfl, .inl (SqL.of h2), _, _, rfl, rfl, _, rfl, ?_⟩
    have hfl := ui.len
    refine ite2 (fun hc => ?_) (fun hc => ?_)
    · have hlt : at' < fs.length := by
        have := of_decide_eq_true hc
        rw [List.length_map] at this; omega
      refine ⟨fun σ' H' => ∃ f', f' < _ ∧ (fun fuel σ H2 => ∃ (fs : List Str) (at' : Nat), fuel = (pd P).length + 1 - at' ∧ σ = [some (.ref lq), some (.str a), some (.ref l), some (.int (at' : Int)), none, none] ∧ Same H H2 ∧ H2 l = some (.lst (fs.map V.str)) ∧ UI (pd P) a at' fs) f' σ' H', fun _ _ z => z, ?_⟩
      obtain ⟨x, hx⟩ : ∃ x, fs[at']? = some x := ⟨_, List.getElem?_eq_getElem hlt⟩
      have hat : atI (fs.map V.str) (at' : Int) = some (.str x) := atI_nat (by rw [List.getElem?_map, hx]; rfl)
      have W2 := W.same s2
      refine ⟨_, rfl, .inl ⟨rfl, _, SqL.of h2⟩, _, rfl, lq, rfl, ⟨_, SqL.of W2.lst⟩, fun D hD => ?_⟩
      refine lcL P (fun q => V.ref q.1) (fun q => decide (q.2.1 = x) && decide (q.2.2 ∉ fs)) (fun q => V.str q.2.2) (SqL.of W2.lst) (by omega) hD (fun q hq Hk ek Kn Ky kn ky => ?_) (fun H3 s3 h3 => ?_)
      · have hk := ek _ _ h2
        refine ⟨q.1, _, rfl, SqT.of (W2.same ek |>.tup q hq), rfl, _, _, rfl, _, _, rfl, rfl, rfl, ?_⟩
        refine ⟨_, rfl, _, rfl, _, rfl, l, _, _, _, rfl, rfl, SqL.of hk, hat, rfl, _, rfl, ?_⟩
        by_cases c1 : q.2.1 = x
        · rw [c1, decide_eq_true rfl]
          refine iteT ?_
          refine ⟨_, rfl, _, rfl, l, _, rfl, .inl (SqL.of hk), rfl, flat_strs fs, _, rfl, ?_⟩
          rw [if_pos rfl, inV_str]
          by_cases c2 : q.2.2 ∈ fs
          · rw [decide_eq_true c2]
            exact kn _ (Same.refl _) (by simp [c2])
          · rw [decide_eq_false c2]
            exact ⟨_, rfl, ky _ (Same.refl _) (by simp [c1, c2])⟩
        · rw [decide_eq_false (fun z => c1 (V.str.inj z))]
          exact kn _ (Same.refl _) (by simp [c1])
      rw [uStep_pd] at h3
      have h23 := s3 _ _ h2
      have hus : (uStep (pd P) x fs).length ≤ 10000 := by
        unfold uStep
        rw [List.length_map]
        exact Nat.le_trans (List.length_filter_le _ _) hpd
      refine ⟨l, D, _, _, rfl, rfl, h23, h3, ?_, ?_⟩
      · rw [List.length_map, List.length_map]
        exact Nat.le_trans (show _ ≤ 30000 by omega) (by decide)
      refine ⟨_, rfl, _, _, rfl, rfl, ⟨_, ?_, fs ++ uStep (pd P) x fs, at' + 1, rfl, ?_, Same.mut (s2.trans s3) hl, ?_, ui.step hnd hx⟩⟩
      · omega
      · rfl
      · rw [upd_same, List.map_append]
    · have hge : at' = fs.length := by
        have h : ¬ (at' : Int) < ((fs.map V.str).length : Int) := fun z => hc (decide_eq_true z)
        rw [List.length_map] at h
        have := ui.le
        omega
      subst hge
      exact ⟨_, rfl, k l H2 fs hl s2 h2 ui.done⟩
end
end Lr

set_option Elab.async false
set_option linter.all false
set_option maxRecDepth 100000
set_option maxHeartbeats 4000000
namespace Lr
open PySem PySem.Spec PyProof.Rows L2
section
variable {P : Program} {w : World} {K : PySem.W.Frag} {mg : Str → Option Value} {base : Heap}
def sp__law_moved : Sp := fun vs H Q _ => ∃ (d : Addr) (fo : List Addr) (os : List Str) (ps : List (Str × Str)) (n m : Str), vs = [.ref d, .str n, .str m] ∧ OwnS H d fo os ps ∧ ps.Nodup ∧ ps.length ≤ 10000 ∧ os.Nodup ∧ os.length ≤ 1000 ∧ n ∈ os ∧ m ∈ os ∧
  ∀ p H' fo', H p = none → p ∉ fo' → Fr fo H H' → Nw fo H fo' → H' p = some (.lst ((rowLean ps os n m).1.map V.str)) → OwnS H' d fo' (rowLean ps os n m).2 ps → Q (.ref p) H'
theorem sc__law_moved : FnScope ["_law_own", "_law_name", "_law_other", "_law_order", "_law_first", "_law_last", "_law_stretch", "_law_moved_here", "_law_left", "_law_one"] ["_law_own", "_law_name", "_law_other"] (defScope s__law_moved) := ⟨rfl, rfl, rfl, by decide +kernel, rfl, by decide +kernel, by decide +kernel⟩
theorem ok__law_moved (T : Txt K mg) : FnOk P w K mg base CX0 2 T.f__law_moved T.D__law_moved.fd ["_law_own", "_law_name", "_law_other"] sp__law_moved := by
  refine T.D__law_moved.F.ok sc__law_moved (fun vs H Q E h => ?_) (fun cdv A outer s H vs Q E hr h => ?_)
  · obtain ⟨d, fo, os, ps, n, m, rfl, _⟩ := h
    rfl
  · obtain ⟨d, fo, os, ps, n, m, rfl, ⟨lo, lq, Pq, rfl, W, rfl⟩, hnd, hpl, hon, hol, hno, hmo, k⟩ := h
    have hPl : Pq.length ≤ 10000 := by unfold pd at hpl; rw [List.length_map] at hpl; exact hpl
    have hu := hu_of hr
    have hu65 := hu65_of hr
    refine ⟨_, (pss_cons (ps_set (i := 3) sc__law_moved.nd rfl (Or.inl rfl) (pe_dget hu (pv 0) pe_str (fun _ _ => rfl)))
      (pss_cons (ps_par (i := 4) (j := 5) (by rfl) sc__law_moved.nd rfl rfl (by decide) rfl rfl (pa_cons (pe_bmK PySem.F.plainAttrs_list PySem.F.slot_list_index PySem.F.type_list_index mt_indexK (pv 3) (pa_cons (pv 1) pa_nil)) (pa_cons (pe_bmK PySem.F.plainAttrs_list PySem.F.slot_list_index PySem.F.type_list_index mt_indexK (pv 3) (pa_cons (pv 2) pa_nil)) pa_nil)) (by rfl))
      (pss_cons (ps_if (pt_cmpR op_lt (pv 5) (pv 4) (nomark _)) (pss_one (ps_ret (pe_lst pa_nil))) pss_nil)
      (pss_cons (ps_set (i := 6) sc__law_moved.nd rfl (Or.inl rfl) (pe_slice sl_listK (pv 3) (po_some (pv 4)) (po_some (pe_op op_add (pv 5) pe_int))))
      (pss_cons (ps_set (i := 7) sc__law_moved.nd rfl (Or.inr rfl) (pe_lc (own := [("_law_one", 9)]) (g := (gName 9)) rfl sc__law_moved.nd (pi_listK (pv 6)) (blkOk_by (N := ["_law_own", "_law_name", "_law_other", "_law_order", "_law_first", "_law_last", "_law_stretch", "_law_moved_here", "_law_left", "_law_one"]) (sc := defScope s__law_moved) (by decide +kernel)) (fun _ _ _ _ _ => (pg_name (i := 9) sc__law_moved.nd rfl (Or.inl rfl))) (fun _ _ _ _ _ => (pts_one (pt_cmpR op_in_seqK (pv 9) (pe_call (ok__law_under T) (hr.mono (by decide)) (by rfl) T.g__law_under T.k__law_under T.D__law_under.b .nil pass0 (pa_cons (pe_dget hu (pv 0) pe_str (fun _ _ => rfl)) (pa_cons (pv 2) pa_nil))) (by rfl)))) (fun _ _ _ _ _ => (pv 9))))
      (pss_cons (ps_set (i := 7) sc__law_moved.nd rfl (Or.inr rfl) (pe_op op_cat (pv 7) (pe_lc (own := [("_law_one", 9)]) (g := (gName 9)) rfl sc__law_moved.nd (pi_listK (pv 6)) (blkOk_by (N := ["_law_own", "_law_name", "_law_other", "_law_order", "_law_first", "_law_last", "_law_stretch", "_law_moved_here", "_law_left", "_law_one"]) (sc := defScope s__law_moved) (by decide +kernel)) (fun _ _ _ _ _ => (pg_name (i := 9) sc__law_moved.nd rfl (Or.inl rfl))) (fun _ _ _ _ _ => (pts_one (pt_cmpR op_in_seqK (pv 1) (pe_call (ok__law_under T) (hr.mono (by decide)) (by rfl) T.g__law_under T.k__law_under T.D__law_under.b .nil pass0 (pa_cons (pe_dget hu (pv 0) pe_str (fun _ _ => rfl)) (pa_cons (pv 9) pa_nil))) (by rfl)))) (fun _ _ _ _ _ => (pv 9)))))
      (pss_cons (ps_set (i := 8) sc__law_moved.nd rfl (Or.inr rfl) (pe_callTy call_listK (by rfl) T.n_list (by decide +kernel) (pa_cons (pv 7) pa_nil)))
      (pss_cons (ps_dput hu (pv 0) pe_str (pe_lc (own := [("_law_one", 9)]) (g := (gName 9)) rfl sc__law_moved.nd (pi_listK (pv 3)) (blkOk_by (N := ["_law_own", "_law_name", "_law_other", "_law_order", "_law_first", "_law_last", "_law_stretch", "_law_moved_here", "_law_left", "_law_one"]) (sc := defScope s__law_moved) (by decide +kernel)) (fun _ _ _ _ _ => (pg_name (i := 9) sc__law_moved.nd rfl (Or.inl rfl))) (fun _ _ _ _ _ => pts_nil) (fun _ _ _ _ _ => (pe_ifExp (pt_cmpR op_in_seqK (pv 9) (pv 7) (by rfl)) (pe_bmK PySem.F.plainAttrs_list PySem.F.slot_list_pop PySem.F.type_list_pop mt_popAt (pv 8) (pa_cons pe_int pa_nil)) (pv 9)))) rfl)
      (pss_one (ps_ret (pv 7))))))))))), ?_⟩
    refine ⟨_, rfl, d, _, rfl, W.g1, ?_⟩
    refine ⟨_, rfl, .inl ⟨rfl, _, SqL.of W.pn⟩, _, rfl, lo, _, _, os.idxOf n, _, rfl, rfl, SqL.of W.pn, rfl, flat_strs os, idx_at hno, eqV_self n, idx_no, ?_⟩
    refine ⟨_, rfl, .inl ⟨rfl, _, SqL.of W.pn⟩, _, rfl, lo, _, _, os.idxOf m, _, rfl, rfl, SqL.of W.pn, rfl, flat_strs os, idx_at hmo, eqV_self m, idx_no, ?_⟩
    refine ⟨_, _, rfl, _, rfl, _, rfl, _, _, rfl, rfl, _, rfl, ?_⟩
    have nold : ∀ b, H b = none → b ∉ [d, lo, lq] := fun b hb z => by
      simp only [List.mem_cons, List.not_mem_nil, or_false] at z
      rcases z with z | z | z
      · rw [z, W.ob] at hb; cases hb
      · rw [z, W.pn] at hb; cases hb
      · rw [z, W.pq.lst] at hb; cases hb
    refine ite2 (fun hlt => ?_) (fun hlt => ?_)
    · have hlt' : os.idxOf m < os.idxOf n := by have := of_decide_eq_true hlt; omega
      have er : rowLean (pd Pq) os n m = ([], os) := if_pos hlt'
      rw [er] at k
      refine ⟨Nat.zero_le _, fun p hp => ?_⟩
      exact k p _ [d, lo, lq] hp (nold p hp) (Fr.of_same (Same.new hp)) (Nw.refl _ _) upd_same ⟨lo, lq, Pq, rfl, W.same (Same.new hp), rfl⟩
    · have hlt' : ¬ os.idxOf m < os.idxOf n := fun z => hlt (decide_eq_true (by omega))
      have er : rowLean (pd Pq) os n m = _ := if_neg hlt'
      rw [er] at k
      clear er hlt
      refine ⟨_, rfl, _, rfl, _, rfl, _, rfl, _, _, rfl, rfl, _, rfl, lo, _, rfl, SqL.of W.pn, fun st hst => ?_⟩
      have ecut := cut_cutS (os := os) (f := os.idxOf n) (l := os.idxOf m) (Nat.le_of_lt (idx_lt hno)) (idx_lt hmo)
      have s1 : Same H (upd H st (.lst (cutV (os.map V.str) (some ((os.idxOf n : Nat) : Int)) (some (((os.idxOf m : Nat) : Int) + 1))))) := Same.new hst
      have h1 : (upd H st (.lst (cutV (os.map V.str) (some ((os.idxOf n : Nat) : Int)) (some (((os.idxOf m : Nat) : Int) + 1))))) st = some (.lst ((cutS os (os.idxOf n) (os.idxOf m)).map V.str)) := by rw [upd_same, ecut]
      generalize upd H st (.lst (cutV (os.map V.str) (some ((os.idxOf n : Nat) : Int)) (some (((os.idxOf m : Nat) : Int) + 1)))) = H1 at s1 h1
      have hsl : (cutS os (os.idxOf n) (os.idxOf m)).length ≤ 1000 := Nat.le_trans (cutS_sub _ _ _).length_le hol
      generalize cutS os (os.idxOf n) (os.idxOf m) = sl at *
      -- leaders
      have W1 := W.same s1
      refine ⟨_, rfl, st, rfl, ⟨_, SqL.of h1⟩, fun D hD => ?_⟩
      refine lcL sl V.str (fun o => (chainF (pd Pq) m o).isSome) V.str (SqL.of h1) (by omega) hD (fun o hoL Hk ek Kn Ky kn ky => ⟨rfl, ?_⟩) (fun H2 s2 h2 => ?_)
      · have Wk := W1.same ek
        refine ⟨_, rfl, _, rfl, d, _, rfl, Wk.g2, _, rfl, lq, Pq, m, rfl, Wk.pq, hnd, hPl, fun p H' fs hp e' hfs hiff => ?_⟩
        refine ⟨p, _, rfl, .inl (SqL.of hfs), rfl, flat_strs fs, _, rfl, ?_⟩
        rw [if_neg (by simp), inV_str]
        by_cases c : Rch (pd Pq) m o
        · rw [decide_eq_true ((hiff o).mpr c)]
          exact ⟨_, rfl, ky _ e' ((chainF_iff _ _ _).mpr c)⟩
        · rw [decide_eq_false (fun z => c ((hiff o).mp z))]
          exact kn _ e' (by cases q : (chainF (pd Pq) m o).isSome with
            | true => exact absurd ((chainF_iff _ _ _).mp q) c
            | false => rfl)
      have eL : sl.filter (fun o => (chainF (pd Pq) m o).isSome) = leadersF (pd Pq) sl m := rfl
      rw [eL] at h2
      have W2 := W1.same s2
      have h12 := s2 _ _ h1
      -- moved_here + followers
      refine ⟨_, rfl, _, rfl, st, rfl, ⟨_, SqL.of h12⟩, fun D2 hD2 => ?_⟩
      refine lcL sl V.str (fun o => (chainF (pd Pq) o n).isSome) V.str (SqL.of h12) (by omega) hD2 (fun o hoL Hk ek Kn Ky kn ky => ⟨rfl, ?_⟩) (fun H3 s3 h3 => ?_)
      · have Wk := W2.same ek
        refine ⟨_, rfl, _, rfl, d, _, rfl, Wk.g2, _, rfl, lq, Pq, o, rfl, Wk.pq, hnd, hPl, fun p H' fs hp e' hfs hiff => ?_⟩
        refine ⟨p, _, rfl, .inl (SqL.of hfs), rfl, flat_strs fs, _, rfl, ?_⟩
        rw [if_neg (by simp), inV_str]
        by_cases c : Rch (pd Pq) o n
        · rw [decide_eq_true ((hiff n).mpr c)]
          exact ⟨_, rfl, ky _ e' ((chainF_iff _ _ _).mpr c)⟩
        · rw [decide_eq_false (fun z => c ((hiff n).mp z))]
          exact kn _ e' (by cases q : (chainF (pd Pq) o n).isSome with
            | true => exact absurd ((chainF_iff _ _ _).mp q) c
            | false => rfl)
      have eF : sl.filter (fun o => (chainF (pd Pq) o n).isSome) = followersF (pd Pq) sl n := rfl
      rw [eF] at h3
      have h23 := s3 _ _ h2
      have hLl : (leadersF (pd Pq) sl m).length ≤ 1000 := Nat.le_trans (List.length_filter_le _ _) hsl
      have hFl : (followersF (pd Pq) sl n).length ≤ 1000 := Nat.le_trans (List.length_filter_le _ _) hsl
      refine ⟨D, D2, _, _, rfl, rfl, h23, h3, ?_, fun mv hmv => ?_⟩
      · rw [List.length_map, List.length_map]
        exact Nat.le_trans (show _ ≤ 2000 by omega) (by decide)
      have hmv1 : (upd H3 mv (.lst ((leadersF (pd Pq) sl m).map V.str ++ (followersF (pd Pq) sl n).map V.str))) mv = some (.lst ((leadersF (pd Pq) sl m ++ followersF (pd Pq) sl n).map V.str)) := by rw [upd_same, List.map_append]
      have s4 : Same H3 (upd H3 mv (.lst ((leadersF (pd Pq) sl m).map V.str ++ (followersF (pd Pq) sl n).map V.str))) := Same.new hmv
      show tSeq _ _ _ _ (upd H3 mv (.lst ((leadersF (pd Pq) sl m).map V.str ++ (followersF (pd Pq) sl n).map V.str)))
      generalize upd H3 mv (.lst ((leadersF (pd Pq) sl m).map V.str ++ (followersF (pd Pq) sl n).map V.str)) = H4 at s4 hmv1
      generalize hmvd : leadersF (pd Pq) sl m ++ followersF (pd Pq) sl n = mvd at *
      have hml : mvd.length ≤ 2000 := by rw [← hmvd, List.length_append]; omega
      have s14 : Same H H4 := (s1.trans s2).trans (s3.trans s4)
      have W4 := W.same s14
      have mv0 : H mv = none := (s1.trans (s2.trans s3)).free hmv
      -- left = list(moved_here)
      refine ⟨_, rfl, mv, _, rfl, .inl (SqL.of hmv1), fun lf hlf => ?_⟩
      have s5 := Same.new (o := .lst (mvd.map V.str)) hlf
      have h5 : (upd H4 lf (.lst (mvd.map V.str))) lf = some (.lst (mvd.map V.str)) := upd_same
      have hmv5 := s5 _ _ hmv1
      have W5 := W4.same s5
      have nlm : lf ≠ mv := fun z => by rw [z, hmv1] at hlf; cases hlf
      show tSeq _ _ _ _ (upd H4 lf (.lst (mvd.map V.str)))
      generalize upd H4 lf (.lst (mvd.map V.str)) = H5 at s5 h5 hmv5 W5
      -- own["order"] = [.. for one in order]
      refine ⟨_, rfl, lo, rfl, ⟨_, SqL.of W5.pn⟩, fun D3 hD3 => ?_⟩
      have nlD : lf ≠ D3 := fun z => by rw [← z, h5] at hD3; cases hD3
      have D34 : H4 D3 = none := s5.free hD3
      refine lc_it (walk_list (xs := os.map V.str)) (fun i H6 => Same H4 H6 ∧ H6 lf = some (.lst (((os.take i).foldl (pstep mvd) ([], mvd)).2.map V.str)) ∧ H6 D3 = some (.lst (((os.take i).foldl (pstep mvd) ([], mvd)).1.map V.str)))
        ⟨s5.trans (Same.new hD3), by rw [upd_ne nlD]; exact h5, upd_same⟩ (fun i H6 _ p => SqL.of (W4.same p.1).pn) ?_ ?_
      · rintro i xi H6 H6' hi ⟨s6, hl6, hD6⟩ ⟨rfl, hx⟩
        rw [List.getElem?_map] at hx
        cases hoi : os[i]? with
        | none => rw [hoi] at hx; cases hx
        | some o =>
          rw [hoi] at hx
          cases hx
          have stp := take_step (pstep mvd) ([], mvd) hoi
          have hmv6 := s6 _ _ hmv1
          refine ⟨rfl, ?_⟩
          refine ⟨_, rfl, _, rfl, mv, _, rfl, .inl (SqL.of hmv6), rfl, flat_strs mvd, _, rfl, ?_⟩
          rw [if_neg (by simp), inV_str]
          have hlD : H6' D3 = some (.lst (((os.take i).foldl (pstep mvd) ([], mvd)).1.map V.str)) := hD6
          have hacc : ((os.take i).foldl (pstep mvd) ([], mvd)).1.length ≤ 1000 := by
            rw [pstep_pop]
            show ([] ++ popF mvd (os.take i) mvd).length ≤ 1000
            rw [List.nil_append, popF_len, List.length_take]; omega
          have hacc2 : (((os.take i).foldl (pstep mvd) ([], mvd)).1.map V.str).length < sizeLine := by rw [List.length_map]; exact Nat.lt_of_le_of_lt hacc (by decide)
          by_cases c : o ∈ mvd
          · rw [decide_eq_true c]
            refine iteT ?_
            have hcn := cntIn_take hon hoi c
            have hlft := pstep_left mvd (os.take i) ([], mvd)
            have hst : pstep mvd ((os.take i).foldl (pstep mvd) ([], mvd)) o = (((os.take i).foldl (pstep mvd) ([], mvd)).1 ++ [((os.take i).foldl (pstep mvd) ([], mvd)).2.headD ""], ((os.take i).foldl (pstep mvd) ([], mvd)).2.tail) := if_pos c
            rw [hst] at stp
            have hl0 : ((os.take i).foldl (pstep mvd) ([], mvd)).2 ≠ [] := by
              rw [hlft]
              intro z
              have z2 := congrArg List.length z
              rw [List.length_drop] at z2
              simp only [List.length_nil] at z2
              omega
            rw [stp]
            clear stp hst hlft
            generalize (os.take i).foldl (pstep mvd) ([], mvd) = sw at *
            obtain ⟨acc, left⟩ := sw
            cases left with
            | nil => exact absurd rfl hl0
            | cons y left =>
              refine ⟨_, rfl, .inl ⟨rfl, _, SqL.of hl6⟩, lf, _, 0, 0, .str y, rfl, rfl, hl6, by decide, by decide, by simp [seqIndex?], rfl, acc.map V.str, (by rw [upd_ne nlD.symm]; exact hlD), hacc2, ?_, ?_, ?_⟩
              · exact Same.mut (Same.mut s6 hlf) D34
              · rw [upd_ne nlD, upd_same]; rfl
              · rw [upd_same, List.map_append]; rfl
          · rw [decide_eq_false c]
            refine iteF ?_
            have hst : pstep mvd ((os.take i).foldl (pstep mvd) ([], mvd)) o = (((os.take i).foldl (pstep mvd) ([], mvd)).1 ++ [o], ((os.take i).foldl (pstep mvd) ([], mvd)).2) := if_neg c
            rw [hst] at stp
            rw [stp]
            refine ⟨_, rfl, _, hlD, hacc2, Same.mut s6 D34, ?_, ?_⟩
            · rw [upd_ne nlD]; exact hl6
            · rw [upd_same, List.map_append]; rfl
      · rintro H6 ⟨s6, hl6, hD6⟩
        rw [List.length_map, List.take_length, pstep_pop] at hD6
        have eq1 : ([] ++ popF mvd os mvd : List Str) = fillF os mvd := by rw [List.nil_append, fillF_pop hon]
        have hD6' : H6 D3 = some (.lst ((fillF os mvd).map V.str)) := by rw [← eq1]; exact hD6
        have W6 := W4.same s6
        have D30 : H D3 = none := s14.free D34
        refine ⟨_, rfl, d, _, rfl, DPut.k (k := (Sum.inr ("order" : Str) : Key)) W6.ob (by show 2 < sizeLine; decide), ?_⟩
        rw [oF_p1]
        have s06 := s14.trans s6
        have hmv6 := s6 _ _ hmv1
        have nmd : mv ≠ d := ne_of hmv6 W6.ob (by intro z; cases z)
        have nDd : D3 ≠ d := ne_of hD6' W6.ob (by intro z; cases z)
        have nDm : D3 ≠ mv := fun z => by rw [z, hmv1] at D34; cases D34
        have nDq : D3 ≠ lq := fun z => by rw [z, W4.pq.lst] at D34; cases D34
        have nqd := W6.ndq
        have fr : Fr [d, lo, lq] H6 (upd H6 d (.dK (oF D3 lq))) := Fr.put (by simp) (dk_ntup W6.ob)
        refine ⟨_, rfl, k mv _ [d, D3, lq] mv0 ?_ (Fr.after_same s06 fr) ?_ (by rw [upd_ne nmd]; exact hmv6) ⟨D3, lq, Pq, rfl, ⟨upd_same, by rw [upd_ne nDd]; exact hD6', ?_, nDq⟩, rfl⟩⟩
        · intro z
          simp only [List.mem_cons, List.not_mem_nil, or_false] at z
          rcases z with z | z | z
          · exact nmd z
          · exact nDm z.symm
          · rw [z, W.pq.lst] at mv0; cases mv0
        · intro b hb
          simp only [List.mem_cons, List.not_mem_nil, or_false] at hb
          rcases hb with rfl | rfl | rfl
          · exact .inl (by simp)
          · exact .inr D30
          · exact .inl (by simp)
        · exact ⟨by rw [upd_ne nqd.symm]; exact W6.pq.lst, fun q hq => by
            have z := W6.pq.tup q hq
            rw [upd_ne (ne_of z W6.ob (by intro y; cases y))]; exact z⟩
end
end Lr

set_option Elab.async false
set_option linter.all false
set_option maxRecDepth 100000
set_option maxHeartbeats 4000000
namespace Lr
open PySem PySem.Spec PyProof.Rows L2
section
variable {P : Program} {w : World} {K : PySem.W.Frag} {mg : Str → Option Value} {base : Heap}
def sp__law_kinds (T : Txt K mg) : Sp := fun vs H Q _ => ∃ (a : Addr) (d : Option Addr) (e : Er), vs = [.ref a] ∧ H a = some (EXV (.ref (T.er.ce e)) d a) ∧ DOk H d ∧
  ∀ p H', H p = none → Same H H' → H' p = some (.lst [.str (wordE e)]) → Q (.ref p) H'
def sp__law_is_list : Sp := fun vs H Q _ => ∃ (p q : Addr) (xs : List V) (d d' : PyData), vs = [.ref p, .ref q] ∧ H p = some (.lst xs) ∧ xs.length ≤ 20000 ∧ Dp K H (.ref p) d ∧ Dp K H (.ref q) d' ∧ d.plain = true ∧ d'.plain = true ∧ min d.depth d'.depth ≤ 60 ∧
  PyData.eqv d d' = true ∧ (∀ x ∈ xs, ∀ H', Same H H' → ∃ t, TyX K H' x t ∧ PySem.W.kitOne K t (.type "list") = some false) ∧ ∀ H', Fr [p] H H' → Q (.bl true) H'
theorem dok_same {H H' : Hp} {d : Option Addr} (h : DOk H d) (e : Same H H') : DOk H' d := by
  rcases h with h | ⟨dd, fs, h, k⟩
  · exact .inl h
  · exact .inr ⟨dd, fs, h, e _ _ k⟩
theorem sc__law_kinds : FnScope ["_law_error", "_law_found", "_law_word_here", "_law_is_one"] ["_law_error"] (defScope s__law_kinds) := ⟨rfl, rfl, rfl, by decide +kernel, rfl, by decide +kernel, by decide +kernel⟩
theorem ok__law_kinds (T : Txt K mg) : FnOk P w K mg base CX0 1 T.f__law_kinds T.D__law_kinds.fd ["_law_error"] (sp__law_kinds T) := by
  refine T.D__law_kinds.F.ok sc__law_kinds (fun vs H Q E h => ?_) (fun cdv A outer s H vs Q E hr h => ?_)
  · obtain ⟨a, d, e, rfl, _⟩ := h
    rfl
  · obtain ⟨a, d, e, rfl, ha, hd, k⟩ := h
    have hu := hu_of hr
    have hu65 := hu65_of hr
    refine ⟨_, (pss_cons (ps_set (i := 1) sc__law_kinds.nd rfl (Or.inl rfl) (pe_lst (pa_cons (pe_tup (pa_cons pe_str (pa_cons (pe_callB call_isVK (by rfl) T.n_isinstance (by decide +kernel) (pa_cons (pv 0) (pa_cons (pe_glob (v := .ref (T.er.ce .BadName)) rfl (T.er.g .BadName) rfl) pa_nil))) pa_nil))) (pa_cons (pe_tup (pa_cons pe_str (pa_cons (pe_callB call_isVK (by rfl) T.n_isinstance (by decide +kernel) (pa_cons (pv 0) (pa_cons (pe_glob (v := .ref (T.er.ce .Twice)) rfl (T.er.g .Twice) rfl) pa_nil))) pa_nil))) pa_nil))))
      (pss_cons (ps_set (i := 1) sc__law_kinds.nd rfl (Or.inl rfl) (pe_op op_cat (pv 1) (pe_lst (pa_cons (pe_tup (pa_cons pe_str (pa_cons (pe_callB call_isVK (by rfl) T.n_isinstance (by decide +kernel) (pa_cons (pv 0) (pa_cons (pe_glob (v := .ref (T.er.ce .TooMany)) rfl (T.er.g .TooMany) rfl) pa_nil))) pa_nil))) (pa_cons (pe_tup (pa_cons pe_str (pa_cons (pe_callB call_isVK (by rfl) T.n_isinstance (by decide +kernel) (pa_cons (pv 0) (pa_cons (pe_glob (v := .ref (T.er.ce .NoThing)) rfl (T.er.g .NoThing) rfl) pa_nil))) pa_nil))) pa_nil)))))
      (pss_cons (ps_set (i := 1) sc__law_kinds.nd rfl (Or.inl rfl) (pe_op op_cat (pv 1) (pe_lst (pa_cons (pe_tup (pa_cons pe_str (pa_cons (pe_callB call_isVK (by rfl) T.n_isinstance (by decide +kernel) (pa_cons (pv 0) (pa_cons (pe_glob (v := .ref (T.er.ce .NoLeaning)) rfl (T.er.g .NoLeaning) rfl) pa_nil))) pa_nil))) (pa_cons (pe_tup (pa_cons pe_str (pa_cons (pe_callB call_isVK (by rfl) T.n_isinstance (by decide +kernel) (pa_cons (pv 0) (pa_cons (pe_glob (v := .ref (T.er.ce .BadRow)) rfl (T.er.g .BadRow) rfl) pa_nil))) pa_nil))) pa_nil)))))
      (pss_cons (ps_set (i := 1) sc__law_kinds.nd rfl (Or.inl rfl) (pe_op op_cat (pv 1) (pe_lst (pa_cons (pe_tup (pa_cons pe_str (pa_cons (pe_callB call_isVK (by rfl) T.n_isinstance (by decide +kernel) (pa_cons (pv 0) (pa_cons (pe_glob (v := .ref (T.er.ce .NothingDone)) rfl (T.er.g .NothingDone) rfl) pa_nil))) pa_nil))) (pa_cons (pe_tup (pa_cons pe_str (pa_cons (pe_callB call_isVK (by rfl) T.n_isinstance (by decide +kernel) (pa_cons (pv 0) (pa_cons (pe_glob (v := .ref (T.er.ce .Ring)) rfl (T.er.g .Ring) rfl) pa_nil))) pa_nil))) pa_nil)))))
      (pss_cons (ps_set (i := 1) sc__law_kinds.nd rfl (Or.inl rfl) (pe_op op_cat (pv 1) (pe_lst (pa_cons (pe_tup (pa_cons pe_str (pa_cons (pe_not (pe_callB call_isVK (by rfl) T.n_isinstance (by decide +kernel) (pa_cons (pv 0) (pa_cons (pe_bltn (v := .ty "ValueError") (by rfl) T.n_ValueError (by decide +kernel) rfl) pa_nil)))) pa_nil))) pa_nil))))
      (pss_one (ps_ret (pe_lc (own := [("_law_word_here", 2), ("_law_is_one", 3)]) (g := (gTup K 2 (gCons (gName 2) (gCons (gName 3) gNil)))) rfl sc__law_kinds.nd (pi_listK (pv 1)) (blkOk_by (N := ["_law_error", "_law_found", "_law_word_here", "_law_is_one"]) (sc := defScope s__law_kinds) (by decide +kernel)) (fun _ _ _ _ _ => (pg_tup rfl (pgs_cons (pg_name (i := 2) sc__law_kinds.nd rfl (Or.inl rfl)) (pgs_cons (pg_name (i := 3) sc__law_kinds.nd rfl (Or.inl rfl)) pgs_nil)))) (fun _ _ _ _ _ => (pts_one (pt_val (pv 3)))) (fun _ _ _ _ _ => (pv 2)))))))))), ?_⟩
    refine ⟨_, rfl, a, _, d, .ref (T.er.ce .BadName), _, _, rfl, ha, hd, T.er.c e, .own _, T.er.kit e .BadName, (by show 2 ≤ sizeLine; decide), fun ta0 ea0 => ⟨_, rfl, a, _, d, .ref (T.er.ce .Twice), _, _, rfl, (Same.new ea0 _ _ ha), (dok_same hd (Same.new ea0)), T.er.c e, .own _, T.er.kit e .Twice, (by show 2 ≤ sizeLine; decide), fun tb0 eb0 => ⟨(by show 2 ≤ sizeLine; decide), fun l0 el0 => ?_⟩⟩⟩
    obtain ⟨sA0, KA0⟩ := KL.two ea0 eb0 el0
    have s1 := sA0; have K1 := KA0; have q1 := sA0 _ _ ha; have r1 := dok_same hd sA0
    show tSeq _ _ _ _ (upd (upd (upd H ta0 _) tb0 _) l0 _)
    generalize upd (upd (upd H ta0 _) tb0 _) l0 _ = H1 at s1 K1 q1 r1
    refine ⟨_, rfl, _, rfl, a, _, d, .ref (T.er.ce .TooMany), _, _, rfl, q1, r1, T.er.c e, .own _, T.er.kit e .TooMany, (by show 2 ≤ sizeLine; decide), fun ta1 ea1 => ⟨_, rfl, a, _, d, .ref (T.er.ce .NoThing), _, _, rfl, (Same.new ea1 _ _ q1), (dok_same r1 (Same.new ea1)), T.er.c e, .own _, T.er.kit e .NoThing, (by show 2 ≤ sizeLine; decide), fun tb1 eb1 => ⟨(by show 2 ≤ sizeLine; decide), fun l1 el1 => ?_⟩⟩⟩
    obtain ⟨sA1, KA1⟩ := KL.two ea1 eb1 el1
    refine ⟨l0, l1, _, _, rfl, rfl, (K1.same sA1).lst, KA1.lst, (by show 4 ≤ sizeLine; decide), fun lc1 ec1 => ?_⟩
    obtain ⟨sC1, K2⟩ := KL.cat (K1.same sA1) KA1 ec1
    have s2 := (s1.trans sA1).trans sC1; have q2 := s2 _ _ ha; have r2 := dok_same hd s2
    show tSeq _ _ _ _ (upd (upd (upd (upd H1 ta1 _) tb1 _) l1 _) lc1 _)
    generalize upd (upd (upd (upd H1 ta1 _) tb1 _) l1 _) lc1 _ = H2 at s2 K2 q2 r2
    refine ⟨_, rfl, _, rfl, a, _, d, .ref (T.er.ce .NoLeaning), _, _, rfl, q2, r2, T.er.c e, .own _, T.er.kit e .NoLeaning, (by show 2 ≤ sizeLine; decide), fun ta2 ea2 => ⟨_, rfl, a, _, d, .ref (T.er.ce .BadRow), _, _, rfl, (Same.new ea2 _ _ q2), (dok_same r2 (Same.new ea2)), T.er.c e, .own _, T.er.kit e .BadRow, (by show 2 ≤ sizeLine; decide), fun tb2 eb2 => ⟨(by show 2 ≤ sizeLine; decide), fun l2 el2 => ?_⟩⟩⟩
    obtain ⟨sA2, KA2⟩ := KL.two ea2 eb2 el2
    refine ⟨lc1, l2, _, _, rfl, rfl, (K2.same sA2).lst, KA2.lst, (by show 6 ≤ sizeLine; decide), fun lc2 ec2 => ?_⟩
    obtain ⟨sC2, K3⟩ := KL.cat (K2.same sA2) KA2 ec2
    have s3 := (s2.trans sA2).trans sC2; have q3 := s3 _ _ ha; have r3 := dok_same hd s3
    show tSeq _ _ _ _ (upd (upd (upd (upd H2 ta2 _) tb2 _) l2 _) lc2 _)
    generalize upd (upd (upd (upd H2 ta2 _) tb2 _) l2 _) lc2 _ = H3 at s3 K3 q3 r3
    refine ⟨_, rfl, _, rfl, a, _, d, .ref (T.er.ce .NothingDone), _, _, rfl, q3, r3, T.er.c e, .own _, T.er.kit e .NothingDone, (by show 2 ≤ sizeLine; decide), fun ta3 ea3 => ⟨_, rfl, a, _, d, .ref (T.er.ce .Ring), _, _, rfl, (Same.new ea3 _ _ q3), (dok_same r3 (Same.new ea3)), T.er.c e, .own _, T.er.kit e .Ring, (by show 2 ≤ sizeLine; decide), fun tb3 eb3 => ⟨(by show 2 ≤ sizeLine; decide), fun l3 el3 => ?_⟩⟩⟩
    obtain ⟨sA3, KA3⟩ := KL.two ea3 eb3 el3
    refine ⟨lc2, l3, _, _, rfl, rfl, (K3.same sA3).lst, KA3.lst, (by show 8 ≤ sizeLine; decide), fun lc3 ec3 => ?_⟩
    obtain ⟨sC3, K4⟩ := KL.cat (K3.same sA3) KA3 ec3
    have s4 := (s3.trans sA3).trans sC3; have q4 := s4 _ _ ha; have r4 := dok_same hd s4
    show tSeq _ _ _ _ (upd (upd (upd (upd H3 ta3 _) tb3 _) l3 _) lc3 _)
    generalize upd (upd (upd (upd H3 ta3 _) tb3 _) l3 _) lc3 _ = H4 at s4 K4 q4 r4
    refine ⟨_, rfl, _, rfl, a, _, d, .ty "ValueError", _, _, rfl, q4, r4, T.er.c e, .ty _, T.er.kitV e, _, rfl, (by show 2 ≤ sizeLine; decide), fun ta4 ea4 => ⟨(by show 1 ≤ sizeLine; decide), fun l4 el4 => ?_⟩⟩
    obtain ⟨sA4, KA4⟩ := KL.one ea4 el4
    refine ⟨lc3, l4, _, _, rfl, rfl, (K4.same sA4).lst, KA4.lst, (by show 9 ≤ sizeLine; decide), fun l9 ec4 => ?_⟩
    obtain ⟨sC4, K9⟩ := KL.cat (K4.same sA4) KA4 ec4
    have s9 := (s4.trans sA4).trans sC4
    show tSeq _ _ _ _ (upd (upd (upd H4 ta4 _) l4 _) l9 _)
    generalize upd (upd (upd H4 ta4 _) l4 _) l9 _ = H9 at s9 K9
    refine ⟨_, rfl, l9, rfl, ⟨_, SqL.of K9.lst⟩, fun D hD => ?_⟩
    refine lcL _ (fun q : Addr × Str × Bool => V.ref q.1) (fun q => q.2.2) (fun q => V.str q.2.1) (SqL.of K9.lst) (by show 9 ≤ 100000; decide) hD (fun q hq Hk ek Kn Ky kn ky => ?_) (fun H' s' h' => ?_)
    · refine ⟨q.1, _, rfl, SqT.of (ek _ _ (K9.each q hq)), rfl, _, _, rfl, _, _, rfl, rfl, rfl, ?_⟩
      refine ⟨_, rfl, _, rfl, ?_⟩
      cases hb : q.2.2 with
      | true => exact iteT ⟨_, rfl, ky _ (Same.refl _) hb⟩
      | false => exact iteF (kn _ (Same.refl _) hb)
    refine k D H' (s9.free hD) (s9.trans s') ?_
    rw [h']
    cases e <;> rfl
end
end Lr

set_option Elab.async false
set_option linter.all false
set_option maxRecDepth 100000
set_option maxHeartbeats 4000000
namespace Lr
open PySem PySem.Spec PyProof.Rows L2
section
variable {P : Program} {w : World} {K : PySem.W.Frag} {mg : Str → Option Value} {base : Heap}
theorem nfull {xs : List V} (h : 2 ≤ xs.length) : ¬ (HT.sIx xs.length 0 (some 1) = 0 ∧ HT.sIx xs.length xs.length none = xs.length) := fun z => by
  have e : (some (1:Int)) = some ((1:Nat):Int) := rfl
  rw [e, HT.sIx_nat] at z; omega
def sp__law_done : Sp := fun vs H Q _ => ∃ (d t : Addr) (fo : List Addr) (names os : List Str) (ps : List (Str × Str)) (dd : Deed), vs = [.ref d, .ref t] ∧ OwnS H d fo os ps ∧ H t = some (.tup (dd.strs.map V.str)) ∧ DeedO names os ps dd ∧
  ps.Nodup ∧ ps.length ≤ 5000 ∧ os.Nodup ∧ os.length ≤ 1000 ∧
  ∀ tt H' fo' v, Fr fo H H' → Nw fo H fo' → H' tt = some (.tup [.str (wordF ps dd), v]) → MvV H H' fo' v (mvA ps os dd) → OwnS H' d fo' (osA ps os dd) (psA ps dd) → Q (.ref tt) H'
theorem sc__law_done : FnScope ["_law_own", "_law_deed_here", "_law_pair"] ["_law_own", "_law_deed_here"] (defScope s__law_done) := ⟨rfl, rfl, rfl, by decide +kernel, rfl, by decide +kernel, by decide +kernel⟩
theorem ok__law_done (T : Txt K mg) : FnOk P w K mg base CX0 3 T.f__law_done T.D__law_done.fd ["_law_own", "_law_deed_here"] sp__law_done := by
  refine T.D__law_done.F.ok sc__law_done (fun vs H Q E h => ?_) (fun cdv A outer s H vs Q E hr h => ?_)
  · obtain ⟨d, t, fo, names, os, ps, dd, rfl, _⟩ := h
    rfl
  · obtain ⟨d, t, fo, names, os, ps, dd, rfl, ⟨lo, lq, P, rfl, W, rfl⟩, ht, hdd, hnp, hpl, hno, hol, k⟩ := h
    have hPl : P.length ≤ 5000 := by unfold pd at hpl; rw [List.length_map] at hpl; exact hpl
    have hu := hu_of hr
    have hu65 := hu65_of hr
    refine ⟨_, (pss_cons (ps_if (pt_cmpR op_eq (pe_ix ix_tupK (pv 1) pe_int (fun _ _ => rfl)) pe_str (nomark _)) (pss_cons (ps_expr (pe_bmK PySem.F.plainAttrs_list PySem.F.slot_list_append PySem.F.type_list_append mt_append (pe_dget hu (pv 0) pe_str (fun _ _ => rfl)) (pa_cons (pe_ix ix_tupK (pv 1) pe_int (fun _ _ => rfl)) pa_nil)))
      (pss_one (ps_ret (pe_tup (pa_cons pe_str (pa_cons pe_non pa_nil)))))) pss_nil)
      (pss_cons (ps_if (pt_cmpR op_eq (pe_ix ix_tupK (pv 1) pe_int (fun _ _ => rfl)) pe_str (nomark _)) (pss_cons (ps_expr (pe_bmK PySem.F.plainAttrs_list PySem.F.slot_list_remove PySem.F.type_list_remove (mt_remDK hu65) (pe_dget hu (pv 0) pe_str (fun _ _ => rfl)) (pa_cons (pe_ix ix_tupK (pv 1) pe_int (fun _ _ => rfl)) pa_nil)))
      (pss_cons (ps_dput hu (pv 0) pe_str (pe_lc (own := [("_law_pair", 2)]) (g := (gName 2)) rfl sc__law_done.nd (pi_listK (pe_dget hu (pv 0) pe_str (fun _ _ => rfl))) (blkOk_by (N := ["_law_own", "_law_deed_here", "_law_pair"]) (sc := defScope s__law_done) (by decide +kernel)) (fun _ _ _ _ _ => (pg_name (i := 2) sc__law_done.nd rfl (Or.inl rfl))) (fun _ _ _ _ _ => (pts_one (pt_cmpR op_notIn_seqK (pe_ix ix_tupK (pv 1) pe_int (fun _ _ => rfl)) (pv 2) (by rfl)))) (fun _ _ _ _ _ => (pv 2))) rfl)
      (pss_one (ps_ret (pe_tup (pa_cons pe_str (pa_cons pe_non pa_nil))))))) pss_nil)
      (pss_cons (ps_if (pt_cmpR op_eq (pe_ix ix_tupK (pv 1) pe_int (fun _ _ => rfl)) pe_str (nomark _)) (pss_cons (ps_expr (pe_bmK PySem.F.plainAttrs_list PySem.F.slot_list_remove PySem.F.type_list_remove (mt_remDK hu65) (pe_dget hu (pv 0) pe_str (fun _ _ => rfl)) (pa_cons (pe_slice sl_tupK (pv 1) (po_some pe_int) po_none) pa_nil)))
      (pss_one (ps_ret (pe_tup (pa_cons pe_str (pa_cons pe_non pa_nil)))))) pss_nil)
      (pss_cons (ps_if (pt_cmpR (op_inPK hu65) (pe_slice sl_tupK (pv 1) (po_some pe_int) po_none) (pe_dget hu (pv 0) pe_str (fun _ _ => rfl)) (by rfl)) (pss_one (ps_ret (pe_tup (pa_cons pe_str (pa_cons pe_non pa_nil))))) pss_nil)
      (pss_cons (ps_if (pt_cmpR op_in_seqK (pe_ix ix_tupK (pv 1) pe_int (fun _ _ => rfl)) (pe_call (ok__law_under T) (hr.mono (by decide)) (by rfl) T.g__law_under T.k__law_under T.D__law_under.b .nil pass0 (pa_cons (pe_dget hu (pv 0) pe_str (fun _ _ => rfl)) (pa_cons (pe_ix ix_tupK (pv 1) pe_int (fun _ _ => rfl)) pa_nil))) (by rfl)) (pss_one (ps_ret (pe_tup (pa_cons pe_str (pa_cons pe_non pa_nil))))) pss_nil)
      (pss_cons (ps_expr (pe_bmK PySem.F.plainAttrs_list PySem.F.slot_list_append PySem.F.type_list_append mt_append (pe_dget hu (pv 0) pe_str (fun _ _ => rfl)) (pa_cons (pe_slice sl_tupK (pv 1) (po_some pe_int) po_none) pa_nil)))
      (pss_one (ps_ret (pe_tup (pa_cons pe_str (pa_cons (pe_call (ok__law_moved T) (hr.mono (by decide)) (by rfl) T.g__law_moved T.k__law_moved T.D__law_moved.b .nil pass0 (pa_cons (pv 0) (pa_cons (pe_ix ix_tupK (pv 1) pe_int (fun _ _ => rfl)) (pa_cons (pe_ix ix_tupK (pv 1) pe_int (fun _ _ => rfl)) pa_nil)))) pa_nil))))))))))), ?_⟩
    have h0 : ∀ z : Str, atI (dd.strs.map V.str) 0 = some (.str z) → True := fun _ _ => trivial
    have ndo := W.ndo
    have ndq := W.ndq
    have nall : ∀ b, H b = none → b ∉ [d, lo, lq] := fun b hb z => by
      simp only [List.mem_cons, List.not_mem_nil, or_false] at z
      rcases z with z | z | z
      · rw [z, W.ob] at hb; cases hb
      · rw [z, W.pn] at hb; cases hb
      · rw [z, W.pq.lst] at hb; cases hb
    cases dd with
    | put n =>
      refine ⟨_, rfl, t, _, 0, _, rfl, rfl, SqT.of ht, rfl, rfl, _, rfl, iteT ?_⟩
      refine ⟨_, rfl, d, _, rfl, W.g1, .inl ⟨rfl, _, SqL.of W.pn⟩, _, rfl, t, _, 1, _, rfl, rfl, SqT.of ht, rfl, lo, _, _, rfl, rfl, W.pn, by rw [List.length_map]; exact small1000 hol, ?_⟩
      have fr : Fr [d, lo, lq] H (upd H lo (.lst (os.map V.str ++ [.str n]))) := Fr.put (by simp) (lst_ntup W.pn)
      have W1 : OwnAt (upd H lo (.lst (os.map V.str ++ [.str n]))) d lo lq (os ++ [n]) P := ⟨by rw [upd_ne ndo]; exact W.ob, by rw [upd_same, List.map_append]; rfl, W.pq.fr (g := [lo]) (Fr.put (by simp) (lst_ntup W.pn)) (by simp [W.ne.symm]), W.ne⟩
      refine ⟨(by show 2 ≤ sizeLine; decide), fun tt htt => ?_⟩
      exact k tt _ [d, lo, lq] .non (fr.then_same (Same.new htt)) (Nw.refl _ _) upd_same rfl ⟨lo, lq, P, rfl, W1.same (Same.new htt), rfl⟩
    | take n =>
      refine ⟨_, rfl, t, _, 0, _, rfl, rfl, SqT.of ht, rfl, rfl, _, rfl, iteF ?_⟩
      refine ⟨_, rfl, t, _, 0, _, rfl, rfl, SqT.of ht, rfl, rfl, _, rfl, iteT ?_⟩
      refine ⟨_, rfl, d, _, rfl, W.g1, .inl ⟨rfl, _, SqL.of W.pn⟩, _, rfl, t, _, 1, _, rfl, rfl, SqT.of ht, rfl, lo, _, _, sD n, os.map sD, os.idxOf n, rfl, rfl, W.pn, dpAll_str os, .str n, plain_of sD sD_plain os, sD_plain n, ?_, place_of sD eqv_str hdd, ?_⟩
      · have := sD_depth n; omega
      have fr : Fr [d, lo, lq] H (upd H lo (.lst ((os.map V.str).eraseIdx (os.idxOf n)))) := Fr.put (by simp) (lst_ntup W.pn)
      have W1 : OwnAt (upd H lo (.lst ((os.map V.str).eraseIdx (os.idxOf n)))) d lo lq (os.erase n) P := ⟨by rw [upd_ne ndo]; exact W.ob, by rw [upd_same, map_erase_ix, erase_ix], W.pq.fr (g := [lo]) (Fr.put (by simp) (lst_ntup W.pn)) (by simp [W.ne.symm]), W.ne⟩
      have ht1 : (upd H lo (.lst ((os.map V.str).eraseIdx (os.idxOf n)))) t = some (.tup ([.str "take", .str n])) := by rw [upd_ne (ne_of ht W.pn (by intro z; cases z))]; exact ht
      have nold1 : ∀ b, (upd H lo (.lst ((os.map V.str).eraseIdx (os.idxOf n)))) b = none → H b = none := fun b hb => (upd_none hb).2
      show tSeq _ _ _ _ (upd H lo (.lst ((os.map V.str).eraseIdx (os.idxOf n))))
      generalize upd H lo (.lst ((os.map V.str).eraseIdx (os.idxOf n))) = H1 at fr W1 ht1 nold1
      refine ⟨_, rfl, d, _, rfl, W1.g2, lq, rfl, ⟨_, SqL.of W1.pq.lst⟩, fun D hD => ?_⟩
      refine lcL P (fun q => V.ref q.1) (fun q => decide (n ≠ q.2.1) && decide (n ≠ q.2.2)) (fun q => V.ref q.1) (SqL.of W1.pq.lst) (by omega) hD (fun q hq H' e3 Kn Ky kn ky => ⟨rfl, ?_⟩) (fun H2 s2 h2 => ?_)
      · refine ⟨_, rfl, t, _, 1, _, rfl, rfl, SqT.of (e3 _ _ ht1), rfl, _, rfl, q.1, _, rfl, .inr (SqT.of (e3 _ _ (W1.pq.tup q hq))), rfl, rfl, _, rfl, ?_⟩
        rw [if_pos rfl, inV_pair]
        by_cases h1 : n = q.2.1
        · have hb : (decide (n ≠ q.2.1) && decide (n ≠ q.2.2)) = false := by simp [h1]
          rw [decide_eq_true h1]
          exact kn H' (Same.refl H') hb
        · by_cases h2 : n = q.2.2
          · have hb : (decide (n ≠ q.2.1) && decide (n ≠ q.2.2)) = false := by simp [h2]
            rw [decide_eq_true h2, Bool.or_true]
            exact kn H' (Same.refl H') hb
          · have hb : (decide (n ≠ q.2.1) && decide (n ≠ q.2.2)) = true := by simp [h1, h2]
            rw [decide_eq_false h1, decide_eq_false h2]
            exact ⟨_, rfl, ky H' (Same.refl H') hb⟩
      have W2 := W1.same s2
      refine ⟨_, rfl, d, _, rfl, DPut.k (k := (Sum.inr ("pairs" : Str) : Key)) W2.ob (by show 2 < sizeLine; decide), ?_⟩
      rw [oF_p2]
      have nDd : D ≠ d := ne_of h2 W2.ob (by intro z; cases z)
      have nDo : lo ≠ D := fun z => by rw [← z, W1.pn] at hD; cases hD
      have fr2 : Fr [d, lo, lq] H2 (upd H2 d (.dK (oF lo D))) := Fr.put (by simp) (dk_ntup W2.ob)
      have W3 : OwnAt (upd H2 d (.dK (oF lo D))) d lo D (os.erase n) (P.filter (fun q => decide (n ≠ q.2.1) && decide (n ≠ q.2.2))) := ⟨upd_same, by rw [upd_ne ndo.symm]; exact W2.pn, ⟨by rw [upd_ne nDd]; exact h2, fun q hq => by
        have z := W2.pq.tup q (List.mem_filter.mp hq).1
        rw [upd_ne (ne_of z W2.ob (by intro y; cases y))]; exact z⟩, nDo⟩
      refine ⟨(by show 2 ≤ sizeLine; decide), fun tt htt => ?_⟩
      refine k tt _ [d, lo, D] .non (((fr.then_same s2).trans fr2).then_same (Same.new htt)) ?_ upd_same rfl ⟨lo, D, _, rfl, W3.same (Same.new htt), ?_⟩
      · intro b hb
        simp only [List.mem_cons, List.not_mem_nil, or_false] at hb
        rcases hb with rfl | rfl | rfl
        · exact .inl (by simp)
        · exact .inl (by simp)
        · exact .inr (nold1 _ hD)
      · show _ = dropP n (pd P)
        unfold dropP pd
        rw [List.filter_map]; rfl
    | loosen n m =>
      refine ⟨_, rfl, t, _, 0, _, rfl, rfl, SqT.of ht, rfl, rfl, _, rfl, iteF ?_⟩
      refine ⟨_, rfl, t, _, 0, _, rfl, rfl, SqT.of ht, rfl, rfl, _, rfl, iteF ?_⟩
      refine ⟨_, rfl, t, _, 0, _, rfl, rfl, SqT.of ht, rfl, rfl, _, rfl, iteT ?_⟩
      refine ⟨_, rfl, d, _, rfl, W.g2, .inl ⟨rfl, _, SqL.of W.pq.lst⟩, _, rfl, _, rfl, t, _, rfl, SqT.of ht, nfull (by show 2 ≤ 3; decide), fun p hp => ?_⟩
      have s1 : Same H (upd H p (.tup [.str n, .str m])) := Same.new hp
      have W1 := W.same s1
      refine ⟨lq, _, _, pD (n, m), (pd P).map pD, (pd P).idxOf (n, m), rfl, rfl, W1.pq.lst, dpAll_pairs P W1.pq.tup, dp_pair (SqT.of upd_same), plain_of pD pD_plain _, pD_plain _, ?_, place_of pD eqv_pair hdd, ?_⟩
      · have := pD_depth (n, m); omega
      have fr : Fr [d, lo, lq] H (upd (upd H p (.tup [.str n, .str m])) lq (.lst ((P.map fun q => V.ref q.1).eraseIdx ((pd P).idxOf (n, m))))) := Fr.after_same s1 (Fr.put (by simp) (lst_ntup W1.pq.lst))
      have W2 : OwnAt (upd (upd H p (.tup [.str n, .str m])) lq (.lst ((P.map fun q => V.ref q.1).eraseIdx ((pd P).idxOf (n, m))))) d lo lq os (P.eraseIdx ((pd P).idxOf (n, m))) := by
        refine ⟨by rw [upd_ne ndq]; exact W1.ob, by rw [upd_ne W.ne]; exact W1.pn, ⟨by rw [upd_same, map_erase_ix], fun q hq => ?_⟩, W.ne⟩
        have z := W1.pq.tup q (List.mem_of_mem_eraseIdx hq)
        rw [upd_ne (ne_of z W1.pq.lst (by intro y; cases y))]; exact z
      refine ⟨(by show 2 ≤ sizeLine; decide), fun tt htt => ?_⟩
      refine k tt _ [d, lo, lq] .non (fr.then_same (Same.new htt)) (Nw.refl _ _) upd_same rfl ⟨lo, lq, _, rfl, W2.same (Same.new htt), ?_⟩
      unfold pd
      rw [← map_erase_ix]
      show (pd P).eraseIdx ((pd P).idxOf (n, m)) = (pd P).erase (n, m)
      rw [erase_ix]
    | lean n m =>
      refine ⟨_, rfl, t, _, 0, _, rfl, rfl, SqT.of ht, rfl, rfl, _, rfl, iteF ?_⟩
      refine ⟨_, rfl, t, _, 0, _, rfl, rfl, SqT.of ht, rfl, rfl, _, rfl, iteF ?_⟩
      refine ⟨_, rfl, t, _, 0, _, rfl, rfl, SqT.of ht, rfl, rfl, _, rfl, iteF ?_⟩
      refine ⟨_, rfl, _, rfl, t, _, rfl, SqT.of ht, nfull (by show 2 ≤ 3; decide), fun p hp => ?_⟩
      have s1 : Same H (upd H p (.tup [.str n, .str m])) := Same.new hp
      have hp1 : (upd H p (.tup [.str n, .str m])) p = some (.tup [.str n, .str m]) := upd_same
      have W1 := W.same s1
      have ht1 := s1 _ _ ht
      show tDGet _ _ _ (upd H p (.tup [.str n, .str m])) _
      generalize upd H p (.tup [.str n, .str m]) = H1 at s1 hp1 W1 ht1
      refine ⟨_, rfl, d, _, rfl, W1.g2, pD (n, m), (pd P).map pD, dp_pair (SqT.of hp1), dp_pairs W1.pq, pD_plain _, plain_of pD pD_plain _, ?_, ?_⟩
      · have := pD_depth (n, m); omega
      rw [any_pair]
      refine ⟨_, rfl, ?_⟩
      by_cases c : (n, m) ∈ pd P
      · rw [decide_eq_true c]
        refine iteT ?_
        have nl : ¬ leansOn (pd P) n m := fun z => z.1 c
        have e1 : wordF (pd P) (.lean n m) = "twice" := if_pos c
        have e2 : mvA (pd P) os (.lean n m) = none := if_neg nl
        have e3 : osA (pd P) os (.lean n m) = os := if_neg nl
        have e4 : psA (pd P) (.lean n m) = pd P := if_neg nl
        rw [e1, e2, e3, e4] at k
        refine ⟨(by show 2 ≤ sizeLine; decide), fun tt htt => ?_⟩
        exact k tt _ [d, lo, lq] .non (Fr.of_same (s1.trans (Same.new htt))) (Nw.refl _ _) upd_same rfl ⟨lo, lq, P, rfl, W1.same (Same.new htt), rfl⟩
      · rw [decide_eq_false c]
        refine iteF ?_
        refine ⟨_, rfl, t, _, 1, _, rfl, rfl, SqT.of ht1, rfl, _, rfl, d, _, rfl, W1.g2, _, rfl, t, _, 2, _, rfl, rfl, SqT.of ht1, rfl, lq, P, m, rfl, W1.pq, hnp, by omega, fun p2 H2 fs hp2 s2 hfs hiff => ?_⟩
        refine ⟨p2, _, rfl, .inl (SqL.of hfs), rfl, flat_strs fs, _, rfl, ?_⟩
        rw [if_neg (by simp), inV_str]
        have s12 := s1.trans s2
        have W2 := W1.same s2
        have ht2 := s2 _ _ ht1
        by_cases r : Rch (pd P) m n
        · rw [decide_eq_true ((hiff n).mpr r)]
          refine iteT ?_
          have nl : ¬ leansOn (pd P) n m := fun z => z.2 r
          have e1 : wordF (pd P) (.lean n m) = "ring" := (if_neg c).trans (if_pos ((chainF_iff _ _ _).mpr r))
          have e2 : mvA (pd P) os (.lean n m) = none := if_neg nl
          have e3 : osA (pd P) os (.lean n m) = os := if_neg nl
          have e4 : psA (pd P) (.lean n m) = pd P := if_neg nl
          rw [e1, e2, e3, e4] at k
          refine ⟨(by show 2 ≤ sizeLine; decide), fun tt htt => ?_⟩
          exact k tt _ [d, lo, lq] .non (Fr.of_same (s12.trans (Same.new htt))) (Nw.refl _ _) upd_same rfl ⟨lo, lq, P, rfl, W2.same (Same.new htt), rfl⟩
        · rw [decide_eq_false (fun z => r ((hiff n).mp z))]
          refine iteF ?_
          have yl : leansOn (pd P) n m := ⟨c, r⟩
          have e1 : wordF (pd P) (.lean n m) = "" := wordF_lean.mpr yl
          have e2 : mvA (pd P) os (.lean n m) = some (rowLean (pd P ++ [(n, m)]) os n m).1 := if_pos yl
          have e3 : osA (pd P) os (.lean n m) = (rowLean (pd P ++ [(n, m)]) os n m).2 := if_pos yl
          have e4 : psA (pd P) (.lean n m) = pd P ++ [(n, m)] := if_pos yl
          rw [e1, e2, e3, e4] at k
          refine ⟨_, rfl, d, _, rfl, W2.g2, .inl ⟨rfl, _, SqL.of W2.pq.lst⟩, _, rfl, _, rfl, t, _, rfl, SqT.of ht2, nfull (by show 2 ≤ 3; decide), fun p3 hp3 => ?_⟩
          have s3 : Same H2 (upd H2 p3 (.tup [.str n, .str m])) := Same.new hp3
          have hp31 : (upd H2 p3 (.tup [.str n, .str m])) p3 = some (.tup [.str n, .str m]) := upd_same
          have W3 := W2.same s3
          have ht3 := s3 _ _ ht2
          have ecut : cutV ((Deed.lean n m).strs.map V.str) (some 1) none = [V.str n, V.str m] := rfl
          rw [ecut]
          have s13 := s12.trans s3
          generalize upd H2 p3 (.tup [.str n, .str m]) = H3 at s3 hp31 W3 ht3 s13
          refine ⟨lq, _, _, rfl, rfl, W3.pq.lst, ?_, ?_⟩
          · rw [List.length_map]; exact Nat.lt_of_le_of_lt hPl (by decide)
          have fr3 : Fr [d, lo, lq] H3 (upd H3 lq (.lst ((P.map fun q => V.ref q.1) ++ [.ref p3]))) := Fr.put (by simp) (lst_ntup W3.pq.lst)
          have W4 : OwnAt (upd H3 lq (.lst ((P.map fun q => V.ref q.1) ++ [.ref p3]))) d lo lq os (P ++ [(p3, n, m)]) := by
            refine ⟨by rw [upd_ne ndq]; exact W3.ob, by rw [upd_ne W.ne]; exact W3.pn, ⟨by rw [upd_same, List.map_append]; rfl, fun q hq => ?_⟩, W.ne⟩
            have z : H3 q.1 = some (.tup [.str q.2.1, .str q.2.2]) := by
              rcases List.mem_append.mp hq with y | y
              · exact W3.pq.tup q y
              · rw [List.mem_singleton] at y; subst y; exact hp31
            rw [upd_ne (ne_of z W3.pq.lst (by intro y; cases y))]; exact z
          have ht4 : (upd H3 lq (.lst ((P.map fun q => V.ref q.1) ++ [.ref p3]))) t = some (.tup [.str "lean", .str n, .str m]) := by rw [upd_ne (ne_of ht3 W3.pq.lst (by intro z; cases z))]; exact ht3
          have fr4 := Fr.after_same s13 fr3
          show tSeq _ _ _ _ (upd H3 lq (.lst ((P.map fun q => V.ref q.1) ++ [.ref p3])))
          generalize upd H3 lq (.lst ((P.map fun q => V.ref q.1) ++ [.ref p3])) = H4 at fr3 W4 ht4 fr4
          have epd : pd (P ++ [(p3, n, m)]) = pd P ++ [(n, m)] := by unfold pd; rw [List.map_append]; rfl
          obtain ⟨hnn, hmm⟩ := hdd
          refine ⟨_, rfl, _, rfl, t, _, 1, _, rfl, rfl, SqT.of ht4, rfl, _, rfl, t, _, 2, _, rfl, rfl, SqT.of ht4, rfl, d, [d, lo, lq], os, pd P ++ [(n, m)], n, m, rfl, ⟨lo, lq, _, rfl, W4, epd⟩, nodup_snoc hnp c, (by rw [List.length_append, List.length_singleton]; omega), hno, hol, hnn, hmm, fun p H5 fo' hp5 hpf fr5 nw5 hpl5 W5 => ?_⟩
          refine ⟨(by show 2 ≤ sizeLine; decide), fun tt htt => ?_⟩
          have s6 := Same.new (o := .tup [V.str "", V.ref p]) htt
          have hold : ∀ b, H4 b = none → H b = none := fun b hb => by
            by_cases q : b ∈ [d, lo, lq]
            · exfalso
              simp only [List.mem_cons, List.not_mem_nil, or_false] at q
              rcases q with z | z | z
              · rw [z, W4.ob] at hb; cases hb
              · rw [z, W4.pn] at hb; cases hb
              · rw [z, W4.pq.lst] at hb; cases hb
            · exact fr4.free q hb
          refine k tt _ fo' (.ref p) ((fr4.trans fr5).then_same s6) ?_ upd_same ⟨p, rfl, s6 _ _ hpl5, hold p hp5, hpf⟩ (W5.same s6)
          intro b hb
          rcases nw5 b hb with q | q
          · exact .inl q
          · exact .inr (hold b q)
end
end Lr

set_option Elab.async false
set_option linter.all false
set_option maxRecDepth 100000
set_option maxHeartbeats 4000000
namespace Lr
open PySem PySem.Spec PyProof.Rows L2
section
variable {P : Program} {w : World} {K : PySem.W.Frag} {mg : Str → Option Value} {base : Heap}
theorem tkNo {X : Cx} : Takes X (fun _ _ _ _ => False) := fun _ _ ⟨_, _, _, _, _, _, _, _, _, _, _, _, _, _, _, _, h⟩ => h.elim
def OutR (T : Txt K mg) (H : Hp) (a : Addr) (fp : List Addr) (ns : List Str) (ps : List (Str × Str)) (os : List Str) (dd : Deed) (Q : VK) : Prop := ∀ tt H' fp' v, Fr fp H H' → Nw fp H fp' → H' tt = some (.tup [.str (wordF ps dd), v]) → (wordF ps dd = "" → MvV H H' fp' v (mvA ps os dd)) →
  RowS T.CRow T.CWeb H' a fp' (nsA ns dd) (psA ps dd) (osA ps os dd) → Q (.ref tt) H'
def sp__law_told (T : Txt K mg) : Sp := fun vs H Q _ => ∃ (a t : Addr) (dd : Deed) (ns os names : List Str) (ps : List (Str × Str)), vs = [.ref a, .ref t] ∧ H t = some (.tup (dd.strs.map V.str)) ∧ LSt names ns os ps ∧ DeedO names os ps dd ∧
  (∀ n ∈ names, isNm n = true) ∧ names.length ≤ 29 ∧ ps.length ≤ 1000 ∧
  ((∃ fp, RowS T.CRow T.CWeb H a fp ns ps os ∧ OutR T H a fp ns ps os dd Q))
theorem sc__law_told : FnScope ["_law_thing", "_law_deed_here", "_law_refused", "_law_found", "e", "_law_words"] ["_law_thing", "_law_deed_here"] (defScope s__law_told) := ⟨rfl, rfl, rfl, by decide +kernel, rfl, by decide +kernel, by decide +kernel⟩
theorem ok__law_told (T : Txt K mg) : FnOk P w K mg base CX0 9 T.f__law_told T.D__law_told.fd ["_law_thing", "_law_deed_here"] (sp__law_told T) := by
  refine T.D__law_told.F.ok sc__law_told (fun vs H Q E h => ?_) (fun cdv A outer s H vs Q E hr h => ?_)
  · obtain ⟨a, t, dd, ns, os, names, ps, rfl, _⟩ := h
    rfl
  · have hu := hu_of hr
    have hu65 := hu65_of hr
    obtain ⟨a, t, dd, ns, os, names, ps, rfl, ht, hst, hdd, hnm, hn29, hpl, h⟩ := h
    obtain ⟨hnl, hol⟩ := hst.len
    have hput : ∀ n, dd = .put n → putE ns (some n) = none ∧ shortN (some n) := fun n e => by
      subst e
      obtain ⟨q1, q2⟩ := hdd
      have q3 : n ∉ ns := fun z => q1 ((hst.same n).mpr z)
      have q4 := hnm n q2
      refine ⟨?_, fun m em => by cases em; exact Nat.le_trans (isNm_len q4) (by decide)⟩
      show (if isNm n = false then some Er.BadName else if n ∈ ns then some .Twice else if 30 ≤ ns.length then some .TooMany else none) = none
      rw [if_neg (by rw [q4]; exact fun z => nomatch z), if_neg q3, if_neg (by omega)]
    · obtain ⟨fp, W, k⟩ := h
      obtain ⟨dx, lp, lq, ho⟩ := W.obj
      refine ⟨_, (pss_cons (ps_set (i := 2) sc__law_told.nd rfl (Or.inl rfl) pe_non)
      (pss_cons (ps_set (i := 3) sc__law_told.nd rfl (Or.inl rfl) pe_non)
      (pss_cons (ps_try_keep (i := 4) rfl rfl rfl sc__law_told.nd rfl rfl ⟨rfl, by decide, .inl T.er.g_LeanError⟩ tkNo (fun W pn xe tk hp => (pss_one (ps_if (pt_cmpR op_eq (pe_ix ix_tupK (pv 1) pe_int (fun _ _ => rfl)) pe_str (nomark _)) (pss_one (ps_set (i := 3) sc__law_told.nd rfl (Or.inl rfl) (pe_methA (pv 0) T.c_Row T.m_Row_put (ok_Row_put T) (hr.mono (by decide)) T.D_Row_put.b (fun σ => passAt tk σ) (pa_cons (pe_ix ix_tupK (pv 1) pe_int (fun _ _ => rfl)) pa_nil)))) (pss_one (ps_if (pt_cmpR op_eq (pe_ix ix_tupK (pv 1) pe_int (fun _ _ => rfl)) pe_str (nomark _)) (pss_one (ps_set (i := 3) sc__law_told.nd rfl (Or.inl rfl) (pe_methA (pv 0) T.c_Row T.m_Row_take (ok_Row_take T) (hr.mono (by decide)) T.D_Row_take.b (fun σ => passAt tk σ) (pa_cons (pe_ix ix_tupK (pv 1) pe_int (fun _ _ => rfl)) pa_nil)))) (pss_one (ps_if (pt_cmpR op_eq (pe_ix ix_tupK (pv 1) pe_int (fun _ _ => rfl)) pe_str (nomark _)) (pss_one (ps_set (i := 3) sc__law_told.nd rfl (Or.inl rfl) (pe_methA (pv 0) T.c_Row T.m_Row_lean (ok_Row_lean T) (hr.mono (by decide)) T.D_Row_lean.b (fun σ => passAt tk σ) (pa_cons (pe_ix ix_tupK (pv 1) pe_int (fun _ _ => rfl)) (pa_cons (pe_ix ix_tupK (pv 1) pe_int (fun _ _ => rfl)) pa_nil))))) (pss_one (ps_set (i := 3) sc__law_told.nd rfl (Or.inl rfl) (pe_methA (pv 0) T.c_Row T.m_Row_loosen (ok_Row_loosen T) (hr.mono (by decide)) T.D_Row_loosen.b (fun σ => passAt tk σ) (pa_cons (pe_ix ix_tupK (pv 1) pe_int (fun _ _ => rfl)) (pa_cons (pe_ix ix_tupK (pv 1) pe_int (fun _ _ => rfl)) pa_nil))))))))))))
      (fun a oe cls d pn hz hf => (pss_one (ps_set (i := 2) sc__law_told.nd rfl (Or.inl rfl) (pv 4)))))
      (pss_cons (ps_if (pt_cmpR op_isN (pv 2) pe_non (nomark _)) (pss_one (ps_ret (pe_tup (pa_cons pe_str (pa_cons (pv 3) pa_nil))))) pss_nil)
      (pss_cons (ps_set (i := 5) sc__law_told.nd rfl (Or.inl rfl) (pe_call (ok__law_kinds T) (hr.mono (by decide)) (by rfl) T.g__law_kinds T.k__law_kinds T.D__law_kinds.b .nil pass0 (pa_cons (pv 2) pa_nil)))
      (pss_one (ps_ret (pe_tup (pa_cons (pe_ifExp (pt_cmpR op_eq (pe_callB call_lenK (by rfl) T.n_len (by decide +kernel) (pa_cons (pv 5) pa_nil)) pe_int (nomark _)) (pe_ix ix_listK (pv 5) pe_int (fun _ _ => rfl)) pe_str) (pa_cons (pe_ifExp (pt_cmpR (op_eqPK hu65) (pv 5) (pe_lst (pa_cons pe_str pa_nil)) (nomark _)) (pe_xfv T.er.xfRing T.er.noRing (pv 2)) pe_non) pa_nil)))))))))), ?_⟩
      cases dd with
      | put n =>
        refine ⟨_, rfl, t, _, 0, _, rfl, rfl, SqT.of ht, rfl, rfl, _, rfl, iteT ?_⟩
        obtain ⟨hp1, hp2⟩ := hput n rfl
        refine ⟨_, rfl, a, dx, _, rfl, ho, rF_no (by decide +kernel) (by decide +kernel), _, rfl, t, _, 1, _, rfl, rfl, SqT.of ht, rfl, a, fp, ns, ps, os, .str n, some n, rfl, W, rfl, hp2, (by omega), (by omega), (fun e he => by rw [hp1] at he; cases he), fun n1 en _ H1 f1 W1 => ?_⟩
        cases en
        refine ⟨_, rfl, rfl, _, rfl, iteT ?_⟩
        refine ⟨_, rfl, (by show 2 ≤ sizeLine; decide), fun tt htt => ?_⟩
        have s2 := Same.new (o := .tup [V.str "", V.non]) htt
        exact k tt _ fp .non (f1.then_same s2) (Nw.refl _ _) upd_same (fun _ => rfl) (W1.same s2)
      | take n =>
        refine ⟨_, rfl, t, _, 0, _, rfl, rfl, SqT.of ht, rfl, rfl, _, rfl, iteF ?_⟩
        refine ⟨_, rfl, t, _, 0, _, rfl, rfl, SqT.of ht, rfl, rfl, _, rfl, iteT ?_⟩
        have hn := (hst.same n).mp hdd
        refine ⟨_, rfl, a, dx, _, rfl, ho, rF_no (by decide +kernel) (by decide +kernel), _, rfl, t, _, 1, _, rfl, rfl, SqT.of ht, rfl, a, fp, ns, ps, os, .str n, some n, rfl, W, rfl, (by omega), (fun o ho => (hst.same o).mpr ho), (fun z => by have : inN (some n) ns = true := decide_eq_true hn; rw [this] at z; cases z), fun n1 en _ H1 fp1 f1 nw1 W1 => ?_⟩
        cases en
        refine ⟨_, rfl, rfl, _, rfl, iteT ?_⟩
        refine ⟨_, rfl, (by show 2 ≤ sizeLine; decide), fun tt htt => ?_⟩
        have s2 := Same.new (o := .tup [V.str "", V.non]) htt
        exact k tt _ fp1 .non (f1.then_same s2) nw1 upd_same (fun _ => rfl) (W1.same s2)
      | loosen n m =>
        refine ⟨_, rfl, t, _, 0, _, rfl, rfl, SqT.of ht, rfl, rfl, _, rfl, iteF ?_⟩
        refine ⟨_, rfl, t, _, 0, _, rfl, rfl, SqT.of ht, rfl, rfl, _, rfl, iteF ?_⟩
        refine ⟨_, rfl, t, _, 0, _, rfl, rfl, SqT.of ht, rfl, rfl, _, rfl, iteF ?_⟩
        obtain ⟨hn, hm⟩ := hst.ends _ hdd
        have hin : (inN (some n) ns && inN (some m) ns) = true := by simp only [inN, Bool.and_eq_true, decide_eq_true_eq]; exact ⟨hn, hm⟩
        refine ⟨_, rfl, a, dx, _, rfl, ho, rF_no (by decide +kernel) (by decide +kernel), _, rfl, t, _, 1, _, rfl, rfl, SqT.of ht, rfl, _, rfl, t, _, 2, _, rfl, rfl, SqT.of ht, rfl, a, fp, ns, ps, os, .str n, .str m, some n, some m, rfl, W, rfl, rfl, (fun z => by rw [hin] at z; cases z), fun n1 m1 en em _ _ => ?_⟩
        cases en
        cases em
        refine ⟨fun z => absurd hdd z, fun _ H1 f1 W1 => ?_⟩
        refine ⟨_, rfl, rfl, _, rfl, iteT ?_⟩
        refine ⟨_, rfl, (by show 2 ≤ sizeLine; decide), fun tt htt => ?_⟩
        have s2 := Same.new (o := .tup [V.str "", V.non]) htt
        exact k tt _ fp .non (f1.then_same s2) (Nw.refl _ _) upd_same (fun _ => rfl) (W1.same s2)
      | lean n m =>
        refine ⟨_, rfl, t, _, 0, _, rfl, rfl, SqT.of ht, rfl, rfl, _, rfl, iteF ?_⟩
        refine ⟨_, rfl, t, _, 0, _, rfl, rfl, SqT.of ht, rfl, rfl, _, rfl, iteF ?_⟩
        refine ⟨_, rfl, t, _, 0, _, rfl, rfl, SqT.of ht, rfl, rfl, _, rfl, iteT ?_⟩
        obtain ⟨hno, hmo⟩ := hdd
        have hn := (hst.same n).mp hno
        have hm := (hst.same m).mp hmo
        have hin : (inN (some n) ns && inN (some m) ns) = true := by simp only [inN, Bool.and_eq_true, decide_eq_true_eq]; exact ⟨hn, hm⟩
        refine ⟨_, rfl, a, dx, _, rfl, ho, rF_no (by decide +kernel) (by decide +kernel), _, rfl, t, _, 1, _, rfl, rfl, SqT.of ht, rfl, _, rfl, t, _, 2, _, rfl, rfl, SqT.of ht, rfl, a, fp, ns, ps, os, .str n, .str m, some n, some m, rfl, W, rfl, rfl, (by omega), (by omega), hst.same, (fun z => by rw [hin] at z; cases z), fun n1 m1 en em _ _ => ?_⟩
        cases en
        cases em
        refine ⟨fun hc H1 s1 => ?_, fun hnc => ⟨fun c hc hcl d l H1 s1 hd0 hl0 hd1 hl1 => ?_, fun hc p H1 f1 hp1 hp2 W1 => ?_⟩⟩
        · refine ⟨true, T.er.exm .Twice, fun _ ea hea => ?_, fun z => nomatch z⟩
          refine ⟨_, rfl, _, rfl, rfl, _, rfl, ?_⟩
          refine iteF ?_
          have s2 : Same H1 (upd H1 ea (EXV (.ref (T.er.ce .Twice)) none ea)) := Same.new hea
          refine ⟨_, rfl, ea, none, .Twice, rfl, upd_same, .inl rfl, fun p H2 hp s3 hl => ?_⟩
          have s13 := (s1.trans s2).trans s3
          refine ⟨_, rfl, p, _, rfl, .inl (SqL.of hl), rfl, _, rfl, iteT ?_⟩
          refine ⟨_, rfl, p, _, 0, _, rfl, rfl, SqL.of hl, rfl, ?_⟩
          refine ⟨_, rfl, (by show 1 ≤ sizeLine; decide), fun p2 hp2 => ?_⟩
          have s4 := Same.new (o := .lst [V.str "ring"]) hp2
          refine ⟨_, _, dp_strs (ns := [wordE .Twice]) (SqL.of (s4 _ _ hl)), dp_strs (ns := ["ring"]) (SqL.of upd_same), strs_plain _, strs_plain _, ?_, ?_⟩
          · have := strs_depth [wordE .Twice]; omega
          rw [eqv_strs]
          refine ⟨_, rfl, iteF ?_⟩
          refine ⟨(by show 2 ≤ sizeLine; decide), fun tt htt => ?_⟩
          have s5 := Same.new (o := .tup [V.str (wordE .Twice), V.non]) htt
          have sall := (s13.trans s4).trans s5
          have nl : ¬ leansOn ps n m := fun z => z.1 hc
          have e1 : wordF ps (.lean n m) = "twice" := if_pos hc
          have e3 : osA ps os (.lean n m) = os := if_neg nl
          have e4 : psA ps (.lean n m) = ps := if_neg nl
          have hw : (upd (upd H2 p2 (.lst [V.str "ring"])) tt (.tup [V.str (wordE .Twice), V.non])) tt = some (.tup [V.str (wordF ps (.lean n m)), V.non]) := by rw [upd_same, e1]; rfl
          refine k tt _ fp _ (Fr.of_same sall) (Nw.refl _ _) hw (fun z => absurd (wordF_lean.mp z) nl) ?_
          rw [e3, e4]; exact W.same sall
        · refine ⟨true, T.er.exm .Ring, fun _ ea hea => ?_, fun z => nomatch z⟩
          refine ⟨_, rfl, _, rfl, rfl, _, rfl, ?_⟩
          refine iteF ?_
          have s2 : Same H1 (upd H1 ea (EXV (.ref (T.er.ce .Ring)) (some d) ea)) := Same.new hea
          refine ⟨_, rfl, ea, some d, .Ring, rfl, upd_same, .inr ⟨d, _, rfl, s2 _ _ hd1⟩, fun p H2 hp s3 hl => ?_⟩
          have s13 := (s1.trans s2).trans s3
          refine ⟨_, rfl, p, _, rfl, .inl (SqL.of hl), rfl, _, rfl, iteT ?_⟩
          refine ⟨_, rfl, p, _, 0, _, rfl, rfl, SqL.of hl, rfl, ?_⟩
          refine ⟨_, rfl, (by show 1 ≤ sizeLine; decide), fun p2 hp2 => ?_⟩
          have s4 := Same.new (o := .lst [V.str "ring"]) hp2
          refine ⟨_, _, dp_strs (ns := [wordE .Ring]) (SqL.of (s4 _ _ hl)), dp_strs (ns := ["ring"]) (SqL.of upd_same), strs_plain _, strs_plain _, ?_, ?_⟩
          · have := strs_depth [wordE .Ring]; omega
          rw [eqv_strs]
          refine ⟨_, rfl, iteT ?_⟩
          refine ⟨_, rfl, ea, d, _, _, rfl, s4 _ _ (s3 _ _ upd_same), s4 _ _ (s3 _ _ (s2 _ _ hd1)), rfl, (by show 2 ≤ sizeLine; decide), fun tt htt => ?_⟩
          have s5 := Same.new (o := .tup [V.str (wordE .Ring), V.ref l]) htt
          have sall := (s13.trans s4).trans s5
          have nl : ¬ leansOn ps n m := fun z => z.2 ((chainF_iff _ _ _).mp (by rw [hc]; rfl))
          have e1 : wordF ps (.lean n m) = "ring" := (if_neg hnc).trans (if_pos (by rw [hc]; rfl))
          have e3 : osA ps os (.lean n m) = os := if_neg nl
          have e4 : psA ps (.lean n m) = ps := if_neg nl
          have hw : (upd (upd H2 p2 (.lst [V.str "ring"])) tt (.tup [V.str (wordE .Ring), V.ref l])) tt = some (.tup [V.str (wordF ps (.lean n m)), V.ref l]) := by rw [upd_same, e1]; rfl
          refine k tt _ fp _ (Fr.of_same sall) (Nw.refl _ _) hw (fun z => absurd (wordF_lean.mp z) nl) ?_
          rw [e3, e4]; exact W.same sall
        · have yl : leansOn ps n m := ⟨hnc, fun z => by have := (chainF_iff _ _ _).mpr z; rw [hc] at this; cases this⟩
          have e1 : wordF ps (.lean n m) = "" := wordF_lean.mpr yl
          have e2 : mvA ps os (.lean n m) = some (rowLean (ps ++ [(n, m)]) os n m).1 := if_pos yl
          have e3 : osA ps os (.lean n m) = (rowLean (ps ++ [(n, m)]) os n m).2 := if_pos yl
          have e4 : psA ps (.lean n m) = ps ++ [(n, m)] := if_pos yl
          refine ⟨_, rfl, rfl, _, rfl, iteT ?_⟩
          refine ⟨_, rfl, (by show 2 ≤ sizeLine; decide), fun tt htt => ?_⟩
          have s2 := Same.new (o := .tup [V.str "", V.ref p]) htt
          have hw : (upd H1 tt (.tup [V.str "", V.ref p])) tt = some (.tup [V.str (wordF ps (.lean n m)), V.ref p]) := by rw [upd_same, e1]
          refine k tt _ fp (.ref p) (f1.then_same s2) (Nw.refl _ _) hw (fun _ => ?_) ?_
          · rw [e2]; exact ⟨p, rfl, s2 _ _ hp2, hp1, fun z => W.old z hp1⟩
          · rw [e3, e4]; exact W1.same s2
end
end Lr

set_option Elab.async false
set_option linter.all false
set_option maxRecDepth 100000
set_option maxHeartbeats 4000000
namespace Lr
open PySem PySem.Spec PyProof.Rows L2
section
variable {P : Program} {w : World} {K : PySem.W.Frag} {mg : Str → Option Value} {base : Heap}
def WR (T : Txt K mg) (H0 : Hp) (pn r d : Addr) (names : List Str) (i : Nat) (H : Hp) : Prop :=
  ∃ fr fo ns os ps, Wlt H0 H [rowC T.CRow T.CWeb r fr ns ps os, lstC pn (names.map V.str), ownC d fo os ps] ∧ LSt names ns os ps ∧ ps.length ≤ i ∧ RightS os ps ∧ Acy ps
def sp__law_row (T : Txt K mg) : Sp := fun vs H Q _ => ∃ (sc : Addr) (cs : List Int) (most : Nat), vs = [.ref sc, .int (most : Int)] ∧ SqL K H sc (cs.map V.int) ∧ cs.length ≤ 63 ∧ 3 ≤ most ∧ most ≤ 29 ∧
  ∀ t H' r d fr fo (names ns os : List Str) (ps : List (Str × Str)), Wlt H H' [rowC T.CRow T.CWeb r fr ns ps os, ownC d fo os ps] → H' t = some (.tup [.ref r, .ref d]) → LSt names ns os ps → RightS os ps → Acy ps → ps.length ≤ 63 → names.length ≤ most → (∀ n ∈ names, isNm n = true) → (∀ n ∈ names, oddFree n) → Q (.ref t) H'
theorem sc__law_row : FnScope ["_law_script", "_law_most", "_law_names_here", "_law_own", "_law_row_here", "_law_k", "_law_cell", "_law_deed_here"] ["_law_script", "_law_most"] (defScope s__law_row) := ⟨rfl, rfl, rfl, by decide +kernel, rfl, by decide +kernel, by decide +kernel⟩
theorem ok__law_row (T : Txt K mg) : FnOk P w K mg base CX0 10 T.f__law_row T.D__law_row.fd ["_law_script", "_law_most"] (sp__law_row T) := by
  refine T.D__law_row.F.ok sc__law_row (fun vs H Q E h => ?_) (fun cdv A outer s H vs Q E hr h => ?_)
  · obtain ⟨sc, cs, most, rfl, _⟩ := h
    rfl
  · obtain ⟨sc, cs, most, rfl, hsc, hcl, hm3, hm29, k⟩ := h
    have hu := hu_of hr
    have hu65 := hu65_of hr
    refine ⟨_, (pss_cons (ps_asg (pe_call (ok__law_begun T) (hr.mono (by decide)) (by rfl) T.g__law_begun T.k__law_begun T.D__law_begun.b .nil pass0 (pa_cons (pv 0) (pa_cons (pv 1) pa_nil))) (pg_tup rfl (pgs_cons (pg_name (i := 2) sc__law_row.nd rfl (Or.inl rfl)) (pgs_cons (pg_name (i := 3) sc__law_row.nd rfl (Or.inl rfl)) pgs_nil))))
      (pss_cons (ps_set (i := 4) sc__law_row.nd rfl (Or.inl rfl) (pe_make0 T.mk_Row (ok_Row___init__ T) (hr.mono (by decide)) rfl T.g_Row T.D_Row___init__.b .nil pass0))
      (pss_cons (ps_for PassesOwn.never rfl (pi_enum (by rfl) T.n_enumerate (pa_cons (pv 0) pa_nil)) (pg_tup rfl (pgs_cons (pg_name (i := 5) sc__law_row.nd rfl (Or.inl rfl)) (pgs_cons (pg_name (i := 6) sc__law_row.nd rfl (Or.inl rfl)) pgs_nil))) (pss_cons (ps_set (i := 7) sc__law_row.nd rfl (Or.inl rfl) (pe_call (ok__law_deed T) (hr.mono (by decide)) (by rfl) T.g__law_deed T.k__law_deed T.D__law_deed.b .nil pass0 (pa_cons (pv 3) (pa_cons (pv 2) (pa_cons (pe_call (ok__law_mixed T) (hr.mono (by decide)) (by rfl) T.g__law_mixed T.k__law_mixed T.D__law_mixed.b .nil pass0 (pa_cons (pv 6) (pa_cons (pv 5) pa_nil))) pa_nil)))))
      (pss_cons (ps_expr (pe_call (ok__law_told T) (hr.mono (by decide)) (by rfl) T.g__law_told T.k__law_told T.D__law_told.b .nil pass0 (pa_cons (pv 4) (pa_cons (pv 7) pa_nil))))
      (pss_one (ps_expr (pe_call (ok__law_done T) (hr.mono (by decide)) (by rfl) T.g__law_done T.k__law_done T.D__law_done.b .nil pass0 (pa_cons (pv 3) (pa_cons (pv 7) pa_nil))))))))
      (pss_one (ps_ret (pe_tup (pa_cons (pv 4) (pa_cons (pv 3) pa_nil)))))))), ?_⟩
    refine ⟨_, rfl, _, rfl, sc, cs, most, rfl, hsc, by omega, hm3, by omega, fun t H1 pn d fo names s1 ht hpn0 hpn hpf hnm h3 h12 hO hfo hodd => ?_⟩
    refine ⟨t, _, rfl, SqT.of ht, rfl, _, _, rfl, _, _, rfl, rfl, ?_⟩
    have C1 := (Wlt.nil H).new s1 (ownC d fo [] []) hO hfo
    have C2 := C1.cons (lstC pn (names.map V.str)) hpn (fun b hb => by rw [List.mem_singleton.mp hb]; exact hpn0) (fun i c hc b hb hb2 => by
      rw [List.mem_singleton.mp hb] at hb2
      cases i with
      | zero => cases hc; exact hpf hb2
      | succ i => cases hc)
    intro r dr nr ndr newr
    refine ⟨r, dr, rfl, upd_same, fun H3 fr f3 n3 R3 => ⟨rfl, ?_⟩⟩
    obtain ⟨s3, nn3⟩ := made nr ndr f3 n3
    have C4 := C2.new s3 (rowC T.CRow T.CWeb r fr [] [] []) R3 (fun b hb => (nn3 b hb).resolve_left (fun z => nomatch z))
    clear f3 n3
    have hsm := C4.sm
    have w0 : WR T H pn r d names 0 H3 := ⟨fr, fo, [], [], [], C4, LSt.start names, Nat.le_refl _, RightS.nil, Acy.nil⟩
    have hne : names ≠ [] := fun z => by rw [z] at h3; simp at h3
    clear C1 C2 C4 R3 hO s3
    refine ⟨_, rfl, sc, _, rfl, hsm.seq hsc, ?_⟩
    refine for_it (walk_enum (K := K) (a := sc) (xs := cs.map V.int)) (fun i σ H7 => (∃ v5 v6 v7, σ = [some (.ref sc), some (.int (most : Int)), some (.ref pn), some (.ref d), some (.ref r), v5, v6, v7]) ∧ WR T H pn r d names i H7)
      ⟨⟨none, none, none, rfl⟩, w0⟩ (fun i σ H7 _ p => by
        obtain ⟨_, _, _, _, _, _, W, _⟩ := p
        exact W.sm.seq hsc) ?_ ?_
    · rintro i xi σ H7 H8 hi ⟨⟨v5, v6, v7, rfl⟩, fr, fo, ns, os, ps, W7, hst, hpl, hri, hacy⟩ ⟨tp, x1, y1, rfl, htp, rfl, hx1, hy1⟩
      cases hx1
      have hi' : i < 63 := by rw [List.length_map] at hi; omega
      simp only [List.getElem?_map] at hy1
      cases hci : cs[i]? with
      | none => rw [hci] at hy1; cases hy1
      | some c =>
        rw [hci] at hy1
        cases hy1
        have W8 := W7.same (Same.new (o := .tup [V.int (i : Nat), V.int c]) htp)
        refine ⟨tp, _, rfl, SqT.of upd_same, rfl, _, _, rfl, _, _, rfl, rfl, ?_⟩
        generalize upd H7 tp (.tup [V.int (i : Nat), V.int c]) = H8 at W8
        obtain ⟨hnl, hol⟩ := hst.len
        refine ⟨_, rfl, _, rfl, _, rfl, _, rfl, c, (i : Int), rfl, by omega, by omega, d, pn, mixF c (i : Int), fo, os, ps, names, rfl, W8.get 2 rfl, W8.get 1 rfl, hne, by omega, by omega, by omega, fun dt H9 hdt s9 ht9 => ?_⟩
        have hdd := deedF_ok (os := os) (ps := ps) (num := mixF c (i : Int)) hne
        generalize deedF os ps names (mixF c (i : Int)) = dd at ht9 hdd
        have W9 := W8.same s9
        have hst2 := hst.deed hdd
        have hpl2 := psA_len (ps := ps) dd
        refine ⟨_, rfl, _, rfl, r, dt, dd, ns, os, names, ps, rfl, ht9, hst, hdd, hnm, by omega, by omega, ⟨fr, W9.get 0 rfl, fun tt H10 fr2 v f n hv hm R' => ?_⟩⟩
        have W10 := W9.set 0 rfl (e := rowC T.CRow T.CWeb r fr2 (nsA ns dd) (psA ps dd) (osA ps os dd)) f n R'
        have ht10 := f.2 _ _ ht9
        refine ⟨_, rfl, _, rfl, d, dt, fo, names, os, ps, dd, rfl, W10.get 2 rfl, ht10, hdd, hst.np, by omega, hst.no, by omega, fun tt2 H12 fo2 v4 f3 n3 htt hmv O' => ?_⟩
        have W12 := W10.set 2 rfl (e := ownC d fo2 (osA ps os dd) (psA ps dd)) f3 n3 O'
        exact ⟨⟨_, _, _, rfl⟩, fr2, fo2, _, _, _, W12, hst2, by omega, hri.deed hst hdd, hacy.deed dd⟩
    · rintro σ H7 ⟨⟨v5, v6, v7, rfl⟩, fr, fo, ns, os, ps, W7, hst, hpl, hri, hacy⟩
      refine ⟨_, rfl, _, rfl, (by show 2 ≤ sizeLine; decide), fun t2 ht2 => ?_⟩
      rw [List.length_map] at hpl
      exact k t2 _ r d fr fo names ns os ps (W7.drop1.same (Same.new ht2)) upd_same hst hri hacy (by omega) h12 hnm hodd
end
end Lr

set_option Elab.async false
set_option linter.all false
set_option maxRecDepth 100000
set_option maxHeartbeats 4000000
namespace Lr
open PySem PySem.Spec PyProof.Rows L2
section
variable {P : Program} {w : World} {K : PySem.W.Frag} {mg : Str → Option Value} {base : Heap}
def sp__law_rightB : Sp := fun vs H Q _ => ∃ (lq lo : Addr) (P : Ps) (ts : List Str), vs = [.ref lq, .ref lo] ∧ PL H lq P ∧ H lo = some (.lst (ts.map V.str)) ∧ (∀ q ∈ pd P, q.1 ∈ ts ∧ q.2 ∈ ts) ∧ P.length ≤ 1000 ∧ ∀ H', Same H H' → Q (.bl (rightB (pd P) ts)) H'
def sp__law_drawn : Sp := fun vs H Q _ => ∃ d fo os ps num, vs = [.ref d, .int num] ∧ OwnS H d fo os ps ∧ ps.length ≤ 1000 ∧ os.length < 64 ∧ os.Nodup ∧ RightS os ps ∧
  ∀ p H' l, H p = none → Same H H' → H' p = some (.lst (l.map V.str)) → (∃ sl, sortedS sl = true ∧ sl.Perm os ∧ l = drawF ps os.length num sl) → l.Perm os → RightS l ps → Q (.ref p) H'
theorem sc__law_right : FnScope ["_law_pairs", "_law_order", "_law_high", "_law_lower"] ["_law_pairs", "_law_order"] (defScope s__law_right) := ⟨rfl, rfl, rfl, by decide +kernel, rfl, by decide +kernel, by decide +kernel⟩
theorem ok__law_right (T : Txt K mg) : FnOk P w K mg base CX0 1 T.f__law_right T.D__law_right.fd ["_law_pairs", "_law_order"] (sp__law_rightB) := by
  refine T.D__law_right.F.ok sc__law_right (fun vs H Q E h => ?_) (fun cdv A outer s H vs Q E hr h => ?_)
  · obtain ⟨lq, lo, P, ts, rfl, _⟩ := h
    rfl
  · obtain ⟨lq, lo, P, ts, rfl, hPL, hl, hends, hP5, k⟩ := h
    have hu := hu_of hr
    have hu65 := hu65_of hr
    refine ⟨_, (pss_one (ps_ret (pe_callB (cr_allK rfl) (by rfl) T.n_all (by decide +kernel) (pa_cons (pe_lc (own := [("_law_high", 2), ("_law_lower", 3)]) (g := (gTup K 2 (gCons (gName 2) (gCons (gName 3) gNil)))) rfl sc__law_right.nd (pi_listK (pv 0)) (blkOk_by (N := ["_law_pairs", "_law_order", "_law_high", "_law_lower"]) (sc := defScope s__law_right) (by decide +kernel)) (fun _ _ _ _ _ => (pg_tup rfl (pgs_cons (pg_name (i := 2) sc__law_right.nd rfl (Or.inl rfl)) (pgs_cons (pg_name (i := 3) sc__law_right.nd rfl (Or.inl rfl)) pgs_nil)))) (fun _ _ _ _ _ => pts_nil) (fun _ _ _ _ _ => (pe_cmpR op_lt (pe_bmK PySem.F.plainAttrs_list PySem.F.slot_list_index PySem.F.type_list_index mt_indexK (pv 1) (pa_cons (pv 3) pa_nil)) (pe_bmK PySem.F.plainAttrs_list PySem.F.slot_list_index PySem.F.type_list_index mt_indexK (pv 1) (pa_cons (pv 2) pa_nil)) (nomark _)))) pa_nil)))), ?_⟩
    refine ⟨_, rfl, lq, rfl, ⟨_, SqL.of hPL.lst⟩, fun D2 hD2 => ?_⟩
    refine lcL P (fun q => V.ref q.1) (fun _ => true) (fun q => .bl (decide (ts.idxOf q.2.2 < ts.idxOf q.2.1))) (SqL.of hPL.lst) (by omega) hD2 (fun q hq Hk ek Kn Ky kn ky => ?_) (fun H6 s6 h6 => ?_)
    · have hq2 : q.2 ∈ pd P := List.mem_map.mpr ⟨q, hq, rfl⟩
      obtain ⟨n1, n2⟩ := hends _ hq2
      have hlk := ek _ _ hl
      refine ⟨q.1, _, rfl, SqT.of (ek _ _ (hPL.tup q hq)), rfl, _, _, rfl, _, _, rfl, rfl, rfl, ?_⟩
      refine ⟨_, rfl, .inl ⟨rfl, _, SqL.of hlk⟩, _, rfl, lo, _, _, ts.idxOf q.2.2, _, rfl, rfl, SqL.of hlk, rfl, flat_strs ts, idx_at n2, eqV_self _, (fun m z h1 h2 => idx_no m z h1 h2), ?_⟩
      refine ⟨_, rfl, .inl ⟨rfl, _, SqL.of hlk⟩, _, rfl, lo, _, _, ts.idxOf q.2.1, _, rfl, rfl, SqL.of hlk, rfl, flat_strs ts, idx_at n1, eqV_self _, (fun m z h1 h2 => idx_no m z h1 h2), _, _, rfl, rfl, ?_⟩
      have e : decide (((ts.idxOf q.2.2 : Nat) : Int) < ((ts.idxOf q.2.1 : Nat) : Int)) = decide (ts.idxOf q.2.2 < ts.idxOf q.2.1) := decide_eq_decide.mpr (by omega)
      show Ky (V.bl (decide (((ts.idxOf q.2.2 : Nat) : Int) < ((ts.idxOf q.2.1 : Nat) : Int)))) Hk
      rw [e]
      exact ky _ (Same.refl _) rfl
    rw [filter_true] at h6
    refine ⟨D2, P.map fun q => decide (ts.idxOf q.2.2 < ts.idxOf q.2.1), rfl, SqL.of (by rw [h6, List.map_map]; rfl), ?_⟩
    have e3 : ((P.map fun q => decide (ts.idxOf q.2.2 < ts.idxOf q.2.1)).all id) = rightB (pd P) ts := by
      unfold rightB
      unfold pd
      rw [List.all_map, List.all_map]; rfl
    rw [e3]
    exact k _ s6
theorem sc__law_drawn : FnScope ["_law_own", "_law_number", "_law_left", "_law_found", "_law_fits", "_law_one", "_law_pair"] ["_law_own", "_law_number"] (defScope s__law_drawn) := ⟨rfl, rfl, rfl, by decide +kernel, rfl, by decide +kernel, by decide +kernel⟩
theorem ok__law_drawn (T : Txt K mg) : FnOk P w K mg base CX0 1 T.f__law_drawn T.D__law_drawn.fd ["_law_own", "_law_number"] (sp__law_drawn) := by
  refine T.D__law_drawn.F.ok sc__law_drawn (fun vs H Q E h => ?_) (fun cdv A outer s H vs Q E hr h => ?_)
  · obtain ⟨d, fo, os, ps, num, rfl, _⟩ := h
    rfl
  · obtain ⟨d, fo, os, ps, num0, rfl, ⟨lo, lq, P, rfl, W, rfl⟩, hpl, hol, hnd, hri, k⟩ := h
    have hPl : P.length ≤ 1000 := by
      have z := hpl
      unfold pd at z
      rw [List.length_map] at z; exact z
    have hu := hu_of hr
    have hu65 := hu65_of hr
    refine ⟨_, (pss_cons (ps_set (i := 2) sc__law_drawn.nd rfl (Or.inr rfl) (pe_callB cr_sortedSK (by rfl) T.n_sorted (by decide +kernel) (pa_cons (pe_dget hu (pv 0) pe_str (fun _ _ => rfl)) pa_nil)))
      (pss_cons (ps_set (i := 3) sc__law_drawn.nd rfl (Or.inl rfl) (pe_lst pa_nil))
      (pss_cons (ps_while PassesOwn.never (pt_cmpR (op_nePK hu65) (pv 2) (pe_lst pa_nil) (nomark _)) (pss_cons (ps_setLc (i := 4) (own := [("_law_one", 5)]) (g := (gName 5)) rfl sc__law_drawn.nd rfl rfl (sw_true rfl rfl rfl (by decide +kernel)) (pi_listK (pv 2)) (blkOk_by (N := ["_law_own", "_law_number", "_law_left", "_law_found", "_law_fits", "_law_one", "_law_pair"]) (sc := defScope s__law_drawn) (by decide +kernel)) (fun _ _ _ _ _ => (pg_name (i := 5) sc__law_drawn.nd rfl (Or.inr rfl))) (fun _ _ _ _ _ => (pts_one (pt_cmpR (op_eqPK hu65) (pe_lc (own := [("_law_pair", 6)]) (g := (gName 6)) rfl sc__law_drawn.nd (pi_listK (pe_dget hu (pv 0) pe_str (fun _ _ => rfl))) (by dsimp only [cxOf, Cx.nox, Cx.blk, compEnvC, relabel, envOfC, Env.kindOf]; exact blkOk_by (N := ["_law_own", "_law_number", "_law_left", "_law_found", "_law_fits", "_law_one", "_law_pair"]) (by rfl)) (fun _ _ _ _ _ => (pg_name (i := 6) sc__law_drawn.nd rfl (Or.inl rfl))) (fun _ _ _ _ _ => (pts_one (PW.pt (pw_and (pt_cmpR op_eq (pe_ix ix_tupK (pv 6) pe_int (fun _ _ => rfl)) (pv 5) (nomark _)) (pw_and1 (pt_cmpR op_in_seqK (pe_ix ix_tupK (pv 6) pe_int (fun _ _ => rfl)) (pv 2) (by rfl))))))) (fun _ _ _ _ _ => (pv 6))) (pe_lst pa_nil) (nomark _)))) (fun _ _ _ _ _ => (pv 5)))
      (pss_cons (ps_set (i := 5) sc__law_drawn.nd rfl (Or.inl rfl) (pe_ix ix_listK (pv 4) (pe_op op_mod (pv 1) (pe_callB call_lenK (by rfl) T.n_len (by decide +kernel) (pa_cons (pv 4) pa_nil))) (fun _ _ => rfl)))
      (pss_cons (ps_expr (pe_bmK PySem.F.plainAttrs_list PySem.F.slot_list_remove PySem.F.type_list_remove (mt_remDK hu65) (pv 2) (pa_cons (pv 5) pa_nil)))
      (pss_cons (ps_expr (pe_bmK PySem.F.plainAttrs_list PySem.F.slot_list_append PySem.F.type_list_append mt_append (pv 3) (pa_cons (pv 5) pa_nil)))
      (pss_one (ps_set (i := 1) sc__law_drawn.nd rfl (Or.inl rfl) (pe_op op_fdiv (pv 1) pe_int))))))))
      (pss_one (ps_ret (pv 3)))))), ?_⟩
    refine ⟨_, rfl, d, _, rfl, W.g1, lo, os, rfl, SqL.of W.pn, hol, fun sl l0 hpe hso hl0 => ?_⟩
    have s1 := Same.new (o := .lst (sl.map V.str)) hl0
    refine ⟨Nat.zero_le _, fun lf hlf => ?_⟩
    have s2 := Same.new (o := .lst []) hlf
    have hl2 : (upd (upd H l0 (.lst (sl.map V.str))) lf (.lst [])) l0 = some (.lst (sl.map V.str)) := s2 _ _ upd_same
    have hf2 := upd_same (H := upd H l0 (.lst (sl.map V.str))) (a := lf) (o := .lst [])
    have nlf : l0 ≠ lf := (upd_none hlf).1.symm
    have hlfH : H lf = none := (upd_none hlf).2
    have s12 := s1.trans s2
    generalize upd (upd H l0 (.lst (sl.map V.str))) lf (.lst []) = H3 at hl2 hf2 s12
    clear s1 s2 hlf
    refine ⟨fun fuel σ H4 => ∃ (found left : List Str) (num : Int) (v4 v5 : Option V), fuel = left.length ∧ σ = [some (.ref d), some (.int num), some (.ref l0), some (.ref lf), v4, v5, none] ∧ Same H H4 ∧ H4 lf = some (.lst (found.map V.str)) ∧ H4 l0 = some (.lst (left.map V.str)) ∧ DrI os (pd P) (drawF (pd P) os.length num0 sl) num found left,
      ⟨sl.length, [], sl, num0, none, none, rfl, rfl, s12, hf2, hl2, DrI.start num0 hpe⟩, ?_⟩
    rintro fuel σ H4 ⟨found, left, num, v4, v5, rfl, rfl, S4, hf4, hl4, D4⟩
    have hd := D4.disj hnd
    have hll : left.length ≤ 64 ∧ found.length ≤ 64 := by have := D4.pm.length_eq; rw [List.length_append] at this; omega
    refine ⟨_, rfl, Nat.zero_le _, fun pp hpp => ?_⟩
    have u1 := Same.new (o := .lst []) hpp
    refine ⟨_, _, dp_strs (SqL.of (u1 _ _ hl4)), dp_empty upd_same, strs_plain _, empty_plain, ?_, ?_⟩
    · have := empty_depth; omega
    rw [eqv_empty]
    refine ⟨_, rfl, ?_⟩
    have S5 := S4.trans u1
    have hf5 := u1 _ _ hf4
    have hl5 := u1 _ _ hl4
    generalize upd H4 pp (.lst []) = H5 at S5 hf5 hl5
    clear u1 hpp S4 hf4 hl4
    by_cases hne : left = []
    · subst hne
      refine iteF ?_
      obtain ⟨e1, e2, e3⟩ := D4.done hri
      exact ⟨_, rfl, k lf H5 found hlfH S5 hf5 ⟨sl, hso, hpe, e1⟩ e2 e3⟩
    have hb : (!(left.map sD).isEmpty) = true := by
      cases left with
      | nil => exact absurd rfl hne
      | cons x y => rfl
    rw [hb]
    refine iteT ?_
    refine ⟨fun σ' H' => ∃ f', f' < _ ∧ (fun fuel σ H4 => ∃ (found left : List Str) (num : Int) (v4 v5 : Option V), fuel = left.length ∧ σ = [some (.ref d), some (.int num), some (.ref l0), some (.ref lf), v4, v5, none] ∧ Same H H4 ∧ H4 lf = some (.lst (found.map V.str)) ∧ H4 l0 = some (.lst (left.map V.str)) ∧ DrI os (pd P) (drawF (pd P) os.length num0 sl) num found left) f' σ' H', fun _ _ z => z, ?_⟩
    refine ⟨_, rfl, l0, rfl, ⟨_, SqL.of hl5⟩, fun D hD => ?_⟩
    have W5 := W.same S5
    refine lcL left V.str (fun o => ((pd P).filter fun p => decide (p.1 = o) && decide (p.2 ∈ left)).isEmpty) V.str (SqL.of hl5) (by omega) hD (fun x hx Hk ek Kn Ky kn ky => ⟨wipe1 _ 5 _, ?_⟩) (fun H6 s6 h6 => ?_)
    · have Wk := W5.same ek
      have hk := ek _ _ hl5
      refine ⟨_, rfl, d, _, rfl, Wk.g2, lq, rfl, ⟨_, SqL.of Wk.pq.lst⟩, fun D6 hD6 => ?_⟩
      refine lcL P (fun q => V.ref q.1) (fun q => decide (q.2.1 = x) && decide (q.2.2 ∈ left)) (fun q => V.ref q.1) (SqL.of Wk.pq.lst) (by omega) hD6 (fun q hq Hj ej Jn Jy jn jy => ⟨wipe1 _ 6 _, ?_⟩) (fun H7 s7 h7 => ?_)
      · have ht := (Wk.same ej).pq.tup q hq
        refine ⟨_, rfl, q.1, _, 0, _, rfl, rfl, SqT.of ht, rfl, _, rfl, rfl, _, rfl, ?_⟩
        by_cases c1 : q.2.1 = x
        · rw [c1, decide_eq_true rfl]
          refine iteT ?_
          refine ⟨_, rfl, q.1, _, 1, _, rfl, rfl, SqT.of ht, rfl, _, rfl, l0, _, rfl, .inl (SqL.of (ej _ _ hk)), rfl, flat_strs _, _, rfl, ?_⟩
          rw [if_neg (by decide), inV_str]
          by_cases c2 : q.2.2 ∈ left
          · rw [decide_eq_true c2]
            exact ⟨_, rfl, jy _ (Same.refl _) (by simp [c1, c2])⟩
          · rw [decide_eq_false c2]
            exact jn _ (Same.refl _) (by simp [c2])
        · rw [decide_eq_false (fun z => c1 (V.str.inj z))]
          exact jn _ (Same.refl _) (by simp [c1])
      · refine ⟨Nat.zero_le _, fun p2 hp2 => ?_⟩
        have sp2 := Same.new (o := .lst []) hp2
        have hPL : PL (upd H7 p2 (.lst [])) D6 (P.filter fun q => decide (q.2.1 = x) && decide (q.2.2 ∈ left)) := ⟨sp2 _ _ h7, fun q hq => sp2 _ _ (s7 _ _ (Wk.pq.tup q (List.mem_filter.mp hq).1))⟩
        refine ⟨_, _, dp_pairs hPL, dp_empty upd_same, pairs_plain _, empty_plain, ?_, ?_⟩
        · have := empty_depth; omega
        rw [eqv_empty]
        refine ⟨_, rfl, ?_⟩
        have s72 := s7.trans sp2
        have ee : (((pd (P.filter fun q => decide (q.2.1 = x) && decide (q.2.2 ∈ left))).map pD).isEmpty) = ((pd P).filter fun p => decide (p.1 = x) && decide (p.2 ∈ left)).isEmpty := by
          have e : pd (P.filter fun q => decide (q.2.1 = x) && decide (q.2.2 ∈ left)) = (pd P).filter fun p => decide (p.1 = x) && decide (p.2 ∈ left) := by
            unfold pd
            rw [List.filter_map]; rfl
          rw [e]
          cases ((pd P).filter fun p => decide (p.1 = x) && decide (p.2 ∈ left)) <;> rfl
        rw [ee]
        cases hq : ((pd P).filter fun p => decide (p.1 = x) && decide (p.2 ∈ left)).isEmpty with
        | true => exact iteT ⟨_, rfl, ky _ s72 hq⟩
        | false => exact iteF (kn _ s72 hq)
    have efit : left.filter (fun o => ((pd P).filter fun p => decide (p.1 = o) && decide (p.2 ∈ left)).isEmpty) = fitsF (pd P) left := rfl
    rw [efit] at h6
    have hfn := fits_ne hnd hri hne
    have hpm := fitsF_mem.mp (pickS_mem hfn num)
    have hst := D4.step hnd hri hne
    have hat := pickS_at hfn num
    have hlf' : (((fitsF (pd P) left).map V.str).length : Int) = ((fitsF (pd P) left).length : Int) := by rw [List.length_map]
    have hpos := List.length_pos_iff.mpr hfn
    have hf6 := s6 _ _ hf5
    have hl6 := s6 _ _ hl5
    have S6 := S5.trans s6
    have hdec : (left.erase (pickS (fitsF (pd P) left) num)).length < left.length := by rw [List.length_erase_of_mem hpm.1]; have := List.length_pos_iff.mpr hne; omega
    generalize pickS (fitsF (pd P) left) num = o at hpm hst hat hdec
    refine ⟨_, rfl, _, rfl, _, rfl, D, _, rfl, .inl (SqL.of h6), _, _, rfl, rfl, (by rw [hlf']; omega), D, _, _, _, rfl, rfl, SqL.of h6, (by rw [hlf']; exact hat), ?_⟩
    refine ⟨_, rfl, .inl ⟨rfl, _, SqL.of hl6⟩, _, rfl, l0, _, _, sD o, left.map sD, left.idxOf o, rfl, rfl, hl6, dpAll_str left, .str o, plain_of sD sD_plain left, sD_plain o, ?_, place_of sD eqv_str hpm.1, ?_⟩
    · have := sD_depth o; omega
    have hl7 : (upd H6 l0 (.lst ((left.map V.str).eraseIdx (left.idxOf o)))) l0 = some (.lst ((left.erase o).map V.str)) := by rw [upd_same, map_erase_ix, erase_ix]
    have hf7 : (upd H6 l0 (.lst ((left.map V.str).eraseIdx (left.idxOf o)))) lf = some (.lst (found.map V.str)) := by rw [upd_ne nlf.symm]; exact hf6
    have S7 : Same H (upd H6 l0 (.lst ((left.map V.str).eraseIdx (left.idxOf o)))) := Same.mut S6 hl0
    generalize upd H6 l0 (.lst ((left.map V.str).eraseIdx (left.idxOf o))) = H7 at hl7 hf7 S7
    refine ⟨_, rfl, .inl ⟨rfl, _, SqL.of hf7⟩, _, rfl, lf, _, _, rfl, rfl, hf7, ?_, ?_⟩
    · rw [List.length_map]; exact Nat.lt_of_le_of_lt hll.2 (by decide)
    refine ⟨_, rfl, num, 3, rfl, rfl, ⟨by decide, by decide⟩, ?_⟩
    refine ⟨(left.erase o).length, hdec, found ++ [o], left.erase o, num / 3, _, _, rfl, rfl, Same.mut S7 hlfH, ?_, ?_, hst⟩
    · rw [upd_same, List.map_append]; rfl
    · rw [upd_ne nlf]; exact hl7
end
end Lr

set_option Elab.async false
set_option linter.all false
set_option maxRecDepth 100000
set_option maxHeartbeats 4000000
namespace Lr
open PySem PySem.Spec PyProof.Rows L2
section
variable {P : Program} {w : World} {K : PySem.W.Frag} {mg : Str → Option Value} {base : Heap}
def sp_way_to (T : Txt K mg) : Sp := fun vs H Q E => ∃ a fp ns ps os x o, vs = [.ref a, x] ∧ RowS T.CRow T.CWeb H a fp ns ps os ∧ ThV K H x o ∧ ps.length ≤ 1000 ∧ os.length < 64 ∧ (∀ nms, o = some nms → nms.length < 64) ∧ os.Nodup ∧ RightS os ps ∧ (∀ q ∈ ps, q.1 ∈ os ∧ q.2 ∈ os) ∧
  (isRightB ps os o = false → ErrE T .BadRow H E) ∧
  (∀ ts, o = some (ts.map some) → isRightB ps os o = true → ∀ D H' W, H D = none → (∀ q ∈ W, H q.1 = none) → Same H H' → PL H' D W → WayI os ts ps (pd W) ts → WayN os ts (pd W) → Q (.ref D) H')
theorem sc_way_to : FnScope ["row", "names", "here", "found", "place", "spot"] ["row", "names"] (defScope s_way_to) := ⟨rfl, rfl, rfl, by decide +kernel, rfl, by decide +kernel, by decide +kernel⟩
theorem ok_way_to (T : Txt K mg) : FnOk P w K mg base (L2.CX P w) 5 T.f_way_to T.D_way_to.fd ["row", "names"] (sp_way_to T) := by
  refine T.D_way_to.F.okX sc_way_to (fun vs H Q E h => ?_) (fun cdv A outer s H vs Q E hr h => ?_)
  · obtain ⟨a, fp, ns, ps, os, x, o, rfl, _⟩ := h
    rfl
  · obtain ⟨a, fp, ns, ps, os, x, o, rfl, R, hx, hpl, hol, hnl, hnd, hri, hends, k1, k2⟩ := h
    obtain ⟨dxr, lwr, lor, hor⟩ := R.obj
    have pE := (passes_call (X := cxOf (L2.CX P w) P w K mg base ["row", "names", "here", "found", "place", "spot"] "way_to" (defScope s_way_to) T.f_way_to cdv A outer s H E) (W := fun cls d _ H => E cls d H) (takes_of rfl rfl rfl rfl) (fun _ _ _ _ h => h))
    have hu := hu_of hr
    have hu65 := hu65_of hr
    refine ⟨_, (pss_cons (ps_if (pt_not (pt_val (pe_call (ok_is_right T) (hr.mono (by decide)) (by rfl) T.g_is_right T.k_is_right T.D_is_right.b .nil pass0 (pa_cons (pv 0) (pa_cons (pv 1) pa_nil))))) (pss_one (ps_raise rfl (takes_of rfl rfl rfl rfl) (pmk_own PySem.F.excBase_ValueError (T.er.xx (e := .BadRow) (by decide)) (T.er.g .BadRow) (T.er.k .BadRow) (raises_own (T.er.e .BadRow) (T.er.t .BadRow)) rfl))) pss_nil)
      (pss_cons (ps_set (i := 2) sc_way_to.nd rfl (Or.inl rfl) (pe_meth0 (pv 0) T.c_Row T.m_Row_names (ok_Row_names T) (hr.mono (by decide)) T.D_Row_names.b .nil pass0))
      (pss_cons (ps_set (i := 3) sc_way_to.nd rfl (Or.inl rfl) (pe_lst pa_nil))
      (pss_cons (ps_for (passes_of rfl) rfl (pi_range1 (by rfl) T.n_range (pa_cons (pe_callB call_lenK (by rfl) T.n_len (by decide +kernel) (pa_cons (pv 1) pa_nil)) pa_nil)) (pg_name (i := 4) sc_way_to.nd rfl (Or.inl rfl)) (pss_cons (ps_set (i := 5) sc_way_to.nd rfl (Or.inl rfl) (pe_bmK PySem.F.plainAttrs_list PySem.F.slot_list_index PySem.F.type_list_index mt_indexK (pv 2) (pa_cons (pe_ix ix_listK (pv 1) (pv 4) (fun _ _ => rfl)) pa_nil)))
      (pss_one (ps_while (passes_of rfl) (pt_cmpR op_gt (pv 5) (pv 4) (nomark _)) (pss_cons (ps_expr (pe_bmK PySem.F.plainAttrs_list PySem.F.slot_list_append PySem.F.type_list_append mt_append (pv 3) (pa_cons (pe_tup (pa_cons (pe_ix ix_listK (pv 2) (pe_op op_sub (pv 5) pe_int) (fun _ _ => rfl)) (pa_cons (pe_ix ix_listK (pv 2) (pv 5) (fun _ _ => rfl)) pa_nil))) pa_nil)))
      (pss_cons (ps_asg (pe_tup (pa_cons (pe_ix ix_listK (pv 2) (pv 5) (fun _ _ => rfl)) (pa_cons (pe_ix ix_listK (pv 2) (pe_op op_sub (pv 5) pe_int) (fun _ _ => rfl)) pa_nil))) (pg_tup rfl (pgs_cons (pg_sub (pv 2) (pe_op op_sub (pv 5) pe_int) set_list) (pgs_cons (pg_sub (pv 2) (pv 5) set_list) pgs_nil))))
      (pss_one (ps_aug (i := 5) sc_way_to.nd rfl (Or.inl rfl) pe_int ip_sub))))))))
      (pss_one (ps_ret (pv 3))))))), ?_⟩
    refine ⟨_, rfl, _, rfl, a, fp, ns, ps, os, x, o, rfl, R, hx, hpl, hol, hnl, hends, fun H1 s1 => ?_⟩
    cases hb : isRightB ps os o with
    | false =>
      refine ⟨_, rfl, ?_⟩
      exact k1 hb H1 s1
    | true =>
      refine ⟨_, rfl, ?_⟩
      refine iteF ?_
      cases o with
      | none => cases hb
      | some nms =>
      obtain ⟨l, vs, rfl, hl, hv⟩ := hx
      have hnl := hnl nms rfl
      have hall : nms.all Option.isSome = true := by
        cases hall : nms.all Option.isSome with
        | true => rfl
        | false => unfold isRightB at hb; simp only [hall, Bool.false_eq_true, if_false] at hb
      have evs := hv.all hall
      have ek : isRightB ps os (some nms) = (decide ((nms.map fun o => o.getD "").Perm os) && rightB ps (nms.map fun o => o.getD "")) := if_pos hall
      have ets : nms = (nms.map fun o => o.getD "").map some := by
        rw [List.map_map]
        refine (List.map_id nms).symm.trans (List.map_congr_left fun o ho => ?_)
        have := List.all_eq_true.mp hall o ho
        cases o with
        | none => cases this
        | some y => rfl
      have k3 := k2 _ (congrArg some ets) hb
      rw [ek, Bool.and_eq_true] at hb
      obtain ⟨hb1, hb2⟩ := hb
      have hpm : (nms.map fun o => o.getD "").Perm os := of_decide_eq_true hb1
      have htl : (nms.map fun o => o.getD "").length < 64 := by rw [List.length_map]; exact hnl
      have hrt : RightS (nms.map fun o => o.getD "") ps := (right_iff (hpm.nodup_iff.mpr hnd) hpm hends).mp hb2
      clear ek hb1 hb2 k2 k1 hall hnl ets
      generalize (nms.map fun o => o.getD "") = ts at *
      subst evs
      refine ⟨_, rfl, a, dxr, _, rfl, s1 _ _ hor, rF_no (by decide +kernel) (by decide +kernel), a, fp, ns, ps, os, rfl, R.same s1, fun p H2 hp s2 h2 => ?_⟩
      refine ⟨Nat.zero_le _, fun lf hlf => ?_⟩
      have s3 := Same.new (o := .lst []) hlf
      have h3 := s3 _ _ h2
      have hf3 := upd_same (H := H2) (a := lf) (o := .lst [])
      have hl3 := s3 _ _ (s2 _ _ (s1 _ _ hl))
      have s13 := (s1.trans s2).trans s3
      have hp0 : H p = none := s1.free hp
      have hlf0 : H lf = none := (s1.trans s2).free hlf
      have npf : p ≠ lf := fun z => by rw [← z, h2] at hlf; cases hlf
      generalize upd H2 lf (.lst []) = H3 at h3 hf3 hl3 s13
      clear s1 s2 s3 hp hlf h2
      refine ⟨.ref l, rfl, l, _, rfl, .inl (SqL.of hl3), _, rfl, by omega, by rw [List.length_map]; omega, ?_⟩
      have en : (((ts.map V.str).length : Nat) : Int).toNat = ts.length := by simp
      rw [en]
      have hnt := hpm.nodup_iff.mpr hnd
      refine for_range (lo := 0) (n := ts.length) (fun k σ H7 => ∃ v4 v5 here W, σ = [some (.ref a), some (.ref l), some (.ref p), some (.ref lf), v4, v5] ∧ Same H H7 ∧ H7 p = some (.lst (here.map V.str)) ∧ PL H7 lf W ∧ (∀ q ∈ W, H q.1 = none) ∧ (WayI os ts ps (pd W) here ∧ WayN os ts (pd W)) ∧ here.take k = ts.take k) ⟨none, none, os, [], rfl, s13, h3, ⟨hf3, (fun _ z => nomatch z)⟩, (fun _ z => nomatch z), ⟨WayI.start hri, WayN.nil _ _⟩, rfl⟩ ?_ ?_
      · rintro k σ H7 hk ⟨v4, v5, hr, W, rfl, s7, hh7, hW7, hWn, ⟨hWI, hWN⟩, htk⟩
        have ht7 := s7 _ _ hl
        obtain ⟨x, hxk⟩ : ∃ x, ts[k]? = some x := ⟨ts[k], List.getElem?_eq_getElem hk⟩
        have pmh := hWI.pm.trans hpm.symm
        obtain ⟨u, v, rfl, eu, hku, htk⟩ := way_in hnt pmh htk hxk
        have hhl : (u ++ x :: v).length < 64 := by rw [pmh.length_eq]; exact htl
        have hmx : x ∈ u ++ x :: v := by simp
        clear pE
        refine ⟨_, rfl, .inl ⟨rfl, _, SqL.of hh7⟩, _, rfl, _, rfl, l, _, _, .str x, rfl, rfl, SqL.of ht7, ?_, p, _, _, (u ++ x :: v).idxOf x, _, rfl, rfl, SqL.of hh7, rfl, flat_strs _, idx_at hmx, eqV_self _, (fun m z h1 h2 => idx_no m z h1 h2), ?_⟩
        · rw [Int.zero_add]; refine atI_nat ?_
          rw [List.getElem?_map, hxk]; rfl
        rw [← eu]
        clear eu
        refine ⟨fun fuel σ H4 => ∃ u v W, fuel = u.length ∧ σ = [some (.ref a), some (.ref l), some (.ref p), some (.ref lf), some (.int (0 + (k : Int))), some (.int (u.length : Nat))] ∧ k ≤ u.length ∧ u.take k = ts.take k ∧ Same H H4 ∧ H4 p = some (.lst ((u ++ x :: v).map V.str)) ∧ PL H4 lf W ∧ (∀ q ∈ W, H q.1 = none) ∧ WayI os ts ps (pd W) (u ++ x :: v) ∧ WayN os ts (pd W), ⟨u.length, u, v, W, rfl, rfl, hku, htk, s7, hh7, hW7, hWn, hWI, hWN⟩, ?_⟩
        clear hWI hWN hWn hW7 hh7 s7 hku hmx hhl pmh ht7
        rintro fuel σ H4 ⟨u, v, W, rfl, rfl, hku, htk, s4, hh4, hW4, hWn, hWI, hWN⟩
        have pmh := hWI.pm.trans hpm.symm
        have hhl : (u ++ x :: v).length < 64 := by rw [pmh.length_eq]; exact htl
        refine ⟨_, rfl, _, rfl, _, _, rfl, rfl, ?_⟩
        refine ⟨_, rfl, ite2 (fun hc => ?_) (fun hc => ?_)⟩
        · have hc' : k < u.length := by have := of_decide_eq_true hc; omega
          obtain ⟨u, y, rfl⟩ : ∃ u' y, u = u' ++ [y] := by
            rcases List.eq_nil_or_concat u with e | ⟨u', y, e⟩
            · rw [e] at hc'; simp at hc'
            · exact ⟨u', y, by rw [e, List.concat_eq_append]⟩
          have hlu : (u ++ [y]).length = u.length + 1 := by simp
          have eh : (u ++ [y]) ++ x :: v = u ++ y :: x :: v := by simp
          rw [eh] at hh4 hWI pmh hhl
          have hku' : k ≤ u.length := by omega
          rw [List.take_append_of_le_length hku'] at htk
          have ndh := pmh.nodup_iff.mpr hnt
          have hxy := way_hxy ndh pmh htk hxk
          have hst := WayI.step hWI hnd hnt hrt hpm hxy
          have hat1 : atI ((u ++ y :: x :: v).map V.str) ((((u ++ [y]).length : Nat) : Int) - 1) = some (.str y) := by
            rw [hlu, show (((u.length + 1 : Nat) : Int) - 1) = ((u.length : Nat) : Int) by omega]
            refine atI_nat ?_
            simp
          have hat2 : atI ((u ++ y :: x :: v).map V.str) (((u ++ [y]).length : Nat) : Int) = some (.str x) := by
            rw [hlu]
            refine atI_nat ?_
            simp
          refine ⟨fun σ' H' => ∃ f', f' < _ ∧ (fun fuel σ H4 => ∃ u v W, fuel = u.length ∧ σ = [some (.ref a), some (.ref l), some (.ref p), some (.ref lf), some (.int (0 + (k : Int))), some (.int (u.length : Nat))] ∧ k ≤ u.length ∧ u.take k = ts.take k ∧ Same H H4 ∧ H4 p = some (.lst ((u ++ x :: v).map V.str)) ∧ PL H4 lf W ∧ (∀ q ∈ W, H q.1 = none) ∧ WayI os ts ps (pd W) (u ++ x :: v) ∧ WayN os ts (pd W)) f' σ' H', fun _ _ z => z, ?_⟩
          refine ⟨_, rfl, .inl ⟨rfl, _, SqL.of hW4.lst⟩, ?_⟩
          refine ⟨_, rfl, _, rfl, _, _, rfl, rfl, p, _, _, .str y, rfl, rfl, SqL.of hh4, hat1, ?_⟩
          refine ⟨_, rfl, _, rfl, p, _, _, .str x, rfl, rfl, SqL.of hh4, hat2, (by show 2 ≤ sizeLine; decide), fun tp htp => ?_⟩
          have s5 := Same.new (o := .tup [V.str y, V.str x]) htp
          have ht5 := upd_same (H := H4) (a := tp) (o := .tup [V.str y, V.str x])
          have htp0 : H tp = none := s4.free htp
          have ntl : tp ≠ lf := fun z => by rw [z, hW4.lst] at htp; cases htp
          have hh5 := s5 _ _ hh4
          have hW5 := hW4.same s5
          have s5' := s4.trans s5
          generalize upd H4 tp (.tup [V.str y, V.str x]) = H5 at *
          refine ⟨lf, _, _, rfl, rfl, hW5.lst, ?_, ?_⟩
          · rw [List.length_map]
            have := hWI.len hol
            unfold pd at this
            rw [List.length_map] at this
            exact Nat.lt_of_le_of_lt this (by decide)
          have hh6 : (upd H5 lf (.lst ((W.map fun q => V.ref q.1) ++ [V.ref tp]))) p = some (.lst ((u ++ y :: x :: v).map V.str)) := by rw [upd_ne npf]; exact hh5
          have hW6 : PL (upd H5 lf (.lst ((W.map fun q => V.ref q.1) ++ [V.ref tp]))) lf (W ++ [(tp, y, x)]) := by
            refine ⟨by rw [upd_same, List.map_append]; rfl, fun q hq => ?_⟩
            have nq : q.1 ≠ lf := by
              rcases List.mem_append.mp hq with z | z
              · exact ne_of (hW5.tup q z) hW5.lst (by intro z; cases z)
              · rw [List.mem_singleton] at z; rw [z]; exact ntl
            rw [upd_ne nq]
            rcases List.mem_append.mp hq with z | z
            · exact hW5.tup q z
            · rw [List.mem_singleton] at z; rw [z]; exact ht5
          have hWn6 : ∀ q ∈ W ++ [(tp, y, x)], H q.1 = none := fun q hq => by
            rcases List.mem_append.mp hq with z | z
            · exact hWn q z
            · rw [List.mem_singleton] at z; rw [z]; exact htp0
          have s6 : Same H (upd H5 lf (.lst ((W.map fun q => V.ref q.1) ++ [V.ref tp]))) := Same.mut s5' hlf0
          generalize upd H5 lf (.lst ((W.map fun q => V.ref q.1) ++ [V.ref tp])) = H6 at hh6 hW6 s6
          refine ⟨_, rfl, _, rfl, p, _, _, .str x, rfl, rfl, SqL.of hh6, hat2, _, rfl, _, rfl, _, _, rfl, rfl, p, _, _, .str y, rfl, rfl, SqL.of hh6, hat1, (by show 2 ≤ sizeLine; decide), fun tp2 htp2 => ?_⟩
          have s7' := Same.new (o := .tup [V.str x, V.str y]) htp2
          have hh7' := s7' _ _ hh6
          have hW7' := hW6.same s7'
          have s67 := s6.trans s7'
          refine ⟨tp2, _, rfl, SqT.of upd_same, rfl, ?_⟩
          generalize upd H6 tp2 (.tup [V.str x, V.str y]) = H7' at *
          have hix1 : ixN ((u ++ y :: x :: v).map V.str).length ((((u ++ [y]).length : Nat) : Int) - 1) = some u.length := by
            rw [hlu, show (((u.length + 1 : Nat) : Int) - 1) = ((u.length : Nat) : Int) by omega]
            exact ixN_nat' (by simp)
          refine ⟨_, _, rfl, _, rfl, _, rfl, _, _, rfl, rfl, p, _, _, u.length, rfl, rfl, hh7', hix1, ?_⟩
          have hix2 : ixN (((u ++ y :: x :: v).map V.str).set u.length (.str x)).length (((u ++ [y]).length : Nat) : Int) = some (u.length + 1) := by
            rw [hlu]
            exact ixN_nat' (by simp)
          refine ⟨_, _, rfl, _, rfl, _, rfl, p, _, _, u.length + 1, rfl, rfl, upd_same, hix2, rfl, ?_⟩
          have hf1 : PL (upd H7' p (.lst (((u ++ y :: x :: v).map V.str).set u.length (.str x)))) lf (W ++ [(tp, y, x)]) := hW7'.fr (g := [p]) (Fr.put (by simp) (lst_ntup hh7')) (by simp [npf.symm])
          have hf2 : PL (upd (upd H7' p (.lst (((u ++ y :: x :: v).map V.str).set u.length (.str x)))) p (.lst ((((u ++ y :: x :: v).map V.str).set u.length (.str x)).set (u.length + 1) (.str y)))) lf (W ++ [(tp, y, x)]) := hf1.fr (g := [p]) (Fr.put (by simp) (lst_ntup upd_same)) (by simp [npf.symm])
          refine ⟨_, rfl, _, _, rfl, rfl, u.length, by omega, u, y :: v, W ++ [(tp, y, x)], rfl, ?_, hku', htk, Same.mut (Same.mut s67 hp0) hp0, ?_, hf2, hWn6, ?_⟩
          · have e : (((u ++ [y]).length : Nat) : Int) - 1 = ((u.length : Nat) : Int) := by rw [hlu]; omega
            show [some (V.ref a), some (.ref l), some (.ref p), some (.ref lf), some (.int (0 + (k : Int))), some (.int ((((u ++ [y]).length : Nat) : Int) - 1))] = _
            rw [e]
          · rw [upd_same, set_str, set_str, set_two]
          · have e : pd (W ++ [(tp, y, x)]) = pd W ++ [(y, x)] := by unfold pd; rw [List.map_append]; rfl
            rw [e]; exact ⟨hst, hWN.snoc hWI.eq ⟨k, u, v, rfl, hku', by rw [List.take_append_of_le_length hku']; exact htk, hxk⟩⟩
        · have hc' : u.length = k := by
            have : ¬ k < u.length := fun z => hc (decide_eq_true (by omega))
            omega
          exact ⟨_, _, u ++ x :: v, W, rfl, s4, hh4, hW4, hWn, ⟨hWI, hWN⟩, way_out hc' htk hxk⟩
      · rintro σ H7 ⟨v4, v5, hr, W, rfl, s7, hh7, hW7, hWn, ⟨hWI, hWN⟩, htk⟩
        rw [List.take_length] at htk
        have e : hr = ts := by
          have := (hWI.pm.trans hpm.symm).length_eq
          rw [← htk, List.take_of_length_le (by omega)]
        subst e
        exact ⟨_, rfl, k3 lf H7 W hlf0 hWn s7 hW7 hWI hWN⟩
end
end Lr

set_option Elab.async false
set_option linter.all false
set_option maxRecDepth 100000
set_option maxHeartbeats 4000000
namespace Lr
open PySem PySem.Spec PyProof.Rows L2
section
variable {P : Program} {w : World} {K : PySem.W.Frag} {mg : Str → Option Value} {base : Heap}
def sp__law_unlike : Sp := fun vs H Q _ => ∃ (l1 l2 : Addr) (os ts : List Str), vs = [.ref l1, .ref l2] ∧ H l1 = some (.lst (os.map V.str)) ∧ H l2 = some (.lst (ts.map V.str)) ∧ (∀ x ∈ os, x ∈ ts) ∧ os.length < 64 ∧ ∀ H', Same H H' → Q (.int (invL ts.idxOf os : Nat)) H'
theorem cut_to {os : List Str} {i : Nat} (hi : i ≤ os.length) : cutV (os.map V.str) none (some (i : Int)) = (os.take i).map V.str := by
  unfold cutV
  have e0 : HT.sIx (os.map V.str).length 0 none = 0 := by simp [HT.sIx]
  have e1 : HT.sIx (os.map V.str).length (os.map V.str).length (some (i : Int)) = i := by rw [HT.sIx_nat, List.length_map]; omega
  rw [e0, e1]
  simp
theorem sc__law_unlike : FnScope ["_law_one", "_law_other", "_law_many", "_law_place", "_law_name", "_law_lower"] ["_law_one", "_law_other"] (defScope s__law_unlike) := ⟨rfl, rfl, rfl, by decide +kernel, rfl, by decide +kernel, by decide +kernel⟩
theorem ok__law_unlike (T : Txt K mg) : FnOk P w K mg base CX0 1 T.f__law_unlike T.D__law_unlike.fd ["_law_one", "_law_other"] sp__law_unlike := by
  refine T.D__law_unlike.F.ok sc__law_unlike (fun vs H Q E h => ?_) (fun cdv A outer s H vs Q E hr h => ?_)
  · obtain ⟨l1, l2, os, ts, rfl, _⟩ := h
    rfl
  · obtain ⟨l1, l2, os, ts, rfl, h1, h2, hin, hol, k⟩ := h
    have hu := hu_of hr
    have hu65 := hu65_of hr
    refine ⟨_, (pss_cons (ps_set (i := 2) sc__law_unlike.nd rfl (Or.inl rfl) pe_int)
      (pss_cons (ps_for PassesOwn.never rfl (pi_enum (by rfl) T.n_enumerate (pa_cons (pv 0) pa_nil)) (pg_tup rfl (pgs_cons (pg_name (i := 3) sc__law_unlike.nd rfl (Or.inl rfl)) (pgs_cons (pg_name (i := 4) sc__law_unlike.nd rfl (Or.inr rfl)) pgs_nil))) (pss_one (ps_set (i := 2) sc__law_unlike.nd rfl (Or.inl rfl) (pe_op op_add (pv 2) (pe_callB call_lenK (by rfl) T.n_len (by decide +kernel) (pa_cons (pe_lc (own := [("_law_lower", 5)]) (g := (gName 5)) rfl sc__law_unlike.nd (pi_listK (pe_slice sl_listK (pv 0) po_none (po_some (pv 3)))) (blkOk_by (N := ["_law_one", "_law_other", "_law_many", "_law_place", "_law_name", "_law_lower"]) (sc := defScope s__law_unlike) (by decide +kernel)) (fun _ _ _ _ _ => (pg_name (i := 5) sc__law_unlike.nd rfl (Or.inl rfl))) (fun _ _ _ _ _ => (pts_one (pt_cmpR op_gt (pe_bmK PySem.F.plainAttrs_list PySem.F.slot_list_index PySem.F.type_list_index mt_indexK (pv 1) (pa_cons (pv 5) pa_nil)) (pe_bmK PySem.F.plainAttrs_list PySem.F.slot_list_index PySem.F.type_list_index mt_indexK (pv 1) (pa_cons (pv 4) pa_nil)) (nomark _)))) (fun _ _ _ _ _ => (pv 5))) pa_nil))))))
      (pss_one (ps_ret (pv 2))))), ?_⟩
    refine ⟨_, rfl, l1, _, rfl, SqL.of h1, ?_⟩
    refine for_it (walk_enum (K := K) (a := l1) (xs := os.map V.str)) (fun i σ H7 => (∃ v3 v4, σ = [some (.ref l1), some (.ref l2), some (.int (invL ts.idxOf (os.take i) : Nat)), v3, v4, none]) ∧ Same H H7)
      ⟨⟨_, _, rfl⟩, Same.refl _⟩ (fun i σ H7 _ ⟨_, q⟩ => SqL.of (q _ _ h1)) ?_ ?_
    · rintro i xi σ H7 H8 hi ⟨⟨v3, v4, rfl⟩, s7⟩ ⟨tp, x1, y1, rfl, htp, rfl, hx1, hy1⟩
      cases hx1
      simp only [List.getElem?_map] at hy1
      rw [List.length_map] at hi
      cases hci : os[i]? with
      | none => rw [hci] at hy1; cases hy1
      | some x =>
        rw [hci] at hy1
        cases hy1
        have s8 := s7.trans (Same.new (o := .tup [V.int (i : Nat), V.str x]) htp)
        refine ⟨tp, _, rfl, SqT.of upd_same, rfl, _, _, rfl, _, _, rfl, rfl, ?_⟩
        generalize upd H7 tp (.tup [V.int (i : Nat), V.str x]) = H8 at s8
        have hxm := hin x (List.mem_of_getElem? hci)
        refine ⟨_, rfl, _, rfl, _, rfl, _, rfl, l1, _, rfl, SqL.of (s8 _ _ h1), fun pc hpc => ?_⟩
        have s9 := Same.new (o := .lst (cutV (os.map V.str) none (some (i : Int)))) hpc
        have h9 : (upd H8 pc (.lst (cutV (os.map V.str) none (some (i : Int))))) pc = some (.lst ((os.take i).map V.str)) := by rw [upd_same, cut_to (Nat.le_of_lt hi)]
        have s09 := s8.trans s9
        have h29 := s09 _ _ h2
        generalize upd H8 pc (.lst (cutV (os.map V.str) none (some (i : Int)))) = H9 at s09 h9 h29
        have htl : (os.take i).length ≤ 100000 := by rw [List.length_take]; omega
        refine ⟨pc, rfl, ⟨_, SqL.of (by first | exact h9 | exact upd_same)⟩, fun D hD => ?_⟩
        refine lcL (os.take i) V.str (fun b => decide (ts.idxOf x < ts.idxOf b)) V.str (SqL.of h9) htl hD (fun b hb Hk ek Kn Ky kn ky => ?_) (fun H6 s6 h6 => ?_)
        · have hbm := hin b (List.mem_of_mem_take hb)
          have hlk := ek _ _ h29
          refine ⟨wipe1 _ 5 _, ?_⟩
          refine ⟨_, rfl, .inl ⟨rfl, _, SqL.of hlk⟩, _, rfl, l2, _, _, ts.idxOf b, _, rfl, rfl, SqL.of hlk, rfl, flat_strs ts, idx_at hbm, eqV_self _, (fun m z h1 h2 => idx_no m z h1 h2), ?_⟩
          refine ⟨_, rfl, .inl ⟨rfl, _, SqL.of hlk⟩, _, rfl, l2, _, _, ts.idxOf x, _, rfl, rfl, SqL.of hlk, rfl, flat_strs ts, idx_at hxm, eqV_self _, (fun m z h1 h2 => idx_no m z h1 h2), _, _, rfl, rfl, ?_⟩
          refine ⟨_, rfl, ?_⟩
          have e : decide (((ts.idxOf x : Nat) : Int) < ((ts.idxOf b : Nat) : Int)) = decide (ts.idxOf x < ts.idxOf b) := decide_eq_decide.mpr (by omega)
          have e2 : decide (((ts.idxOf x : Nat) : Int) < ((ts.idxOf b : Nat) : Int)) = (fun b => decide (ts.idxOf x < ts.idxOf b)) b := e
          refine ite2 (fun c1 => ?_) (fun c1 => ?_)
          · exact ⟨_, rfl, ky _ (Same.refl _) (e2.symm.trans c1)⟩
          · exact kn _ (Same.refl _) (e2.symm.trans (by simpa using c1))
        refine ⟨D, _, rfl, .inl (SqL.of h6), _, _, rfl, rfl, ?_⟩
        have ei : ((invL ts.idxOf (os.take i) : Nat) : Int) + (((((os.take i).filter fun b => decide (ts.idxOf x < ts.idxOf b)).map V.str).length : Nat) : Int) = ((invL ts.idxOf (os.take (i + 1)) : Nat) : Int) := by
          rw [List.take_succ, hci, List.length_map]
          show _ = ((invL ts.idxOf (os.take i ++ [x]) : Nat) : Int)
          rw [invL_snoc]; omega
        show gName 2 (V.int (((invL ts.idxOf (os.take i) : Nat) : Int) + (((((os.take i).filter fun b => decide (ts.idxOf x < ts.idxOf b)).map V.str).length : Nat) : Int))) _ _ _
        rw [ei]
        exact ⟨⟨_, _, rfl⟩, s09.trans s6⟩
    · rintro σ H7 ⟨⟨v3, v4, rfl⟩, s7⟩
      rw [List.length_map, List.take_length]
      exact ⟨_, rfl, k H7 s7⟩
end
end Lr

set_option Elab.async false
set_option linter.all false
set_option maxRecDepth 100000
set_option maxHeartbeats 4000000
namespace Lr
open PySem PySem.Spec PyProof.Rows L2
section
variable {P : Program} {w : World} {K : PySem.W.Frag} {mg : Str → Option Value} {base : Heap}
def sp__law_way_right : Sp := fun vs H Q _ => ∃ (lw d lg : Addr) (fo : List Addr) (W : Ps) (os ts : List Str) (ps : List (Str × Str)), vs = [.ref lw, .ref d, .ref lg] ∧ PL H lw W ∧ OwnS H d fo os ps ∧ H lg = some (.lst (ts.map V.str)) ∧ WayI os ts ps (pd W) ts ∧ os.Nodup ∧ os.length ≤ 10 ∧ (∀ q ∈ ps, q.1 ∈ os ∧ q.2 ∈ os) ∧ ps.length ≤ 1000 ∧ ∀ H', Same H H' → Q (.bl true) H'
theorem invL_self {l : List Str} (n : l.Nodup) : invL l.idxOf l = 0 := by
  refine invL_sorted (List.pairwise_iff_getElem.mpr fun i j hi hj hij => ?_)
  have e : ∀ k (hk : k < l.length), l.idxOf l[k] = k := fun k hk => by
    have hm : l[k] ∈ l := List.getElem_mem hk
    have hl := List.idxOf_lt_length_of_mem hm
    refine nodup_place n (x := l[k]) ?_ (List.getElem?_eq_getElem hk)
    rw [List.getElem?_eq_getElem hl, List.getElem_idxOf hl]
  rw [e i hi, e j hj]; exact hij
theorem nodup_map_of {α β : Type} {f : α → β} (inj : ∀ a b, f a = f b → a = b) : ∀ {l : List α}, l.Nodup → (l.map f).Nodup
  | [], _ => List.nodup_nil
  | a :: l, h => by
    rw [List.nodup_cons] at h
    rw [List.map_cons, List.nodup_cons]
    refine ⟨fun z => ?_, nodup_map_of inj h.2⟩
    obtain ⟨b, hb, e⟩ := List.mem_map.mp z
    rw [inj _ _ e] at hb
    exact h.1 hb
theorem sc__law_way_right : FnScope ["_law_way", "_law_own", "_law_goal", "_law_here", "_law_pair", "_law_at"] ["_law_way", "_law_own", "_law_goal"] (defScope s__law_way_right) := ⟨rfl, rfl, rfl, by decide +kernel, rfl, by decide +kernel, by decide +kernel⟩
theorem ok__law_way_right (T : Txt K mg) : FnOk P w K mg base CX0 2 T.f__law_way_right T.D__law_way_right.fd ["_law_way", "_law_own", "_law_goal"] sp__law_way_right := by
  refine T.D__law_way_right.F.ok sc__law_way_right (fun vs H Q E h => ?_) (fun cdv A outer s H vs Q E hr h => ?_)
  · obtain ⟨lw, d, lg, fo, W, os, ts, ps, rfl, _⟩ := h
    rfl
  · obtain ⟨lw, d, lg, fo, W, os, ts, ps, rfl, hW, ⟨lo, lq, P, rfl, O, rfl⟩, hg, hway, hnd, hol, hends, hpl, k⟩ := h
    have hu := hu_of hr
    have hu65 := hu65_of hr
    refine ⟨_, (pss_cons (ps_set (i := 3) sc__law_way_right.nd rfl (Or.inl rfl) (pe_callTy call_listK (by rfl) T.n_list (by decide +kernel) (pa_cons (pe_dget hu (pv 1) pe_str (fun _ _ => rfl)) pa_nil)))
      (pss_cons (ps_if (PW.pt (pw_or (pt_not (pt_val (pe_callB call_isiK' (by rfl) T.n_isinstance (by decide +kernel) (pa_cons (pv 0) (pa_cons (pe_bltn (v := .ty "list") (by rfl) T.n_list (by decide +kernel) rfl) pa_nil))))) (pw_or (pt_cmpR op_ne (pe_callB call_lenK (by rfl) T.n_len (by decide +kernel) (pa_cons (pv 0) pa_nil)) (pe_call (ok__law_unlike T) (hr.mono (by decide)) (by rfl) T.g__law_unlike T.k__law_unlike T.D__law_unlike.b .nil pass0 (pa_cons (pv 3) (pa_cons (pv 2) pa_nil))) (nomark _)) (pw_or1 (pt_cmpR op_ne (pe_callB cr_lenN (by rfl) T.n_len (by decide +kernel) (pa_cons (pe_callTy (cr_setPK (K := K) rfl hu65) (by rfl) T.n_set (by decide +kernel) (pa_cons (pv 0) pa_nil)) pa_nil)) (pe_callB call_lenK (by rfl) T.n_len (by decide +kernel) (pa_cons (pv 0) pa_nil)) (nomark _)))))) (pss_one (ps_ret pe_bl)) pss_nil)
      (pss_cons (ps_for PassesOwn.never rfl (pi_listK (pv 0)) (pg_name (i := 4) sc__law_way_right.nd rfl (Or.inl rfl)) (pss_cons (ps_if (PW.pt (pw_or (pt_not (pt_val (pe_callB call_isiK' (by rfl) T.n_isinstance (by decide +kernel) (pa_cons (pv 4) (pa_cons (pe_bltn (v := .ty "tuple") (by rfl) T.n_tuple (by decide +kernel) rfl) pa_nil))))) (pw_or (pt_cmpR op_ne (pe_callB call_lenK (by rfl) T.n_len (by decide +kernel) (pa_cons (pv 4) pa_nil)) pe_int (nomark _)) (pw_or1 (pt_cmpR op_notIn_seqK (pe_ix ix_tupK (pv 4) pe_int (fun _ _ => rfl)) (pv 3) (by rfl)))))) (pss_one (ps_ret pe_bl)) pss_nil)
      (pss_cons (ps_set (i := 5) sc__law_way_right.nd rfl (Or.inl rfl) (pe_bmK PySem.F.plainAttrs_list PySem.F.slot_list_index PySem.F.type_list_index mt_indexK (pv 3) (pa_cons (pe_ix ix_tupK (pv 4) pe_int (fun _ _ => rfl)) pa_nil)))
      (pss_cons (ps_if (pt_cmpR (op_nePK hu65) (pe_slice sl_listK (pv 3) (po_some (pv 5)) (po_some (pe_op op_add (pv 5) pe_int))) (pe_callTy call_listK (by rfl) T.n_list (by decide +kernel) (pa_cons (pv 4) pa_nil)) (nomark _)) (pss_one (ps_ret pe_bl)) pss_nil)
      (pss_cons (ps_asg (pe_tup (pa_cons (pe_ix ix_tupK (pv 4) pe_int (fun _ _ => rfl)) (pa_cons (pe_ix ix_tupK (pv 4) pe_int (fun _ _ => rfl)) pa_nil))) (pg_tup rfl (pgs_cons (pg_sub (pv 3) (pv 5) set_list) (pgs_cons (pg_sub (pv 3) (pe_op op_add (pv 5) pe_int) set_list) pgs_nil))))
      (pss_one (ps_if (pt_not (pt_val (pe_call (ok__law_right T) (hr.mono (by decide)) (by rfl) T.g__law_right T.k__law_right T.D__law_right.b .nil pass0 (pa_cons (pe_dget hu (pv 1) pe_str (fun _ _ => rfl)) (pa_cons (pv 3) pa_nil))))) (pss_one (ps_ret pe_bl)) pss_nil)))))))
      (pss_one (ps_ret (pe_cmpR (op_eqPK hu65) (pv 3) (pv 2) (nomark _))))))), ?_⟩
    refine ⟨_, rfl, d, _, rfl, O.g1, lo, _, rfl, .inl (SqL.of O.pn), fun lh hlh => ?_⟩
    have s1 := Same.new (o := .lst (os.map V.str)) hlh
    have hh1 := upd_same (H := H) (a := lh) (o := .lst (os.map V.str))
    generalize upd H lh (.lst (os.map V.str)) = H1 at s1 hh1
    have hin : ∀ x ∈ os, x ∈ ts := fun x hx => hway.pm.mem_iff.mpr hx
    have hfew := way_few hway hol
    have hlen : W.length = (pd W).length := by unfold pd; rw [List.length_map]
    have hinv : invL ts.idxOf os = W.length := by
      have h1 := hway.inv
      have h2 := invL_self (hway.pm.nodup_iff.mpr hnd)
      omega
    refine ⟨_, rfl, .ref lw, .ty "list", .type "list", _, true, rfl, .ty _, .base (.lst (s1 _ _ hW.lst)), kit_ty (a := "list") (b := "list") (r := true) (by decide +kernel), _, rfl, ?_⟩
    refine iteF ?_
    refine ⟨_, rfl, lw, _, rfl, .inl (SqL.of (s1 _ _ hW.lst)), _, rfl, _, rfl, lh, lg, os, ts, rfl, hh1, s1 _ _ hg, hin, by omega, fun H2 s2 => ?_⟩
    have eb : (!decide (V.int (((W.map fun q => V.ref q.1).length : Nat) : Int) = V.int ((invL ts.idxOf os : Nat) : Int))) = false := by
      rw [hinv, List.length_map, decide_eq_true rfl]; rfl
    refine ⟨rfl, _, rfl, ?_⟩
    rw [eb]
    refine iteF ?_
    have s12 := s1.trans s2
    have hW2 := hW.same s12
    have hh2 := s2 _ _ hh1
    have exs : (W.map fun q => V.ref q.1) = ((W.map fun q => (q.1, [q.2.1, q.2.2])).map fun q => V.ref q.1) := by rw [List.map_map]; rfl
    refine ⟨_, rfl, lw, W.map fun q => (q.1, [q.2.1, q.2.2]), rfl, exs ▸ SqL.of hW2.lst, fun z hz => ?_, by rw [List.length_map]; omega, ?_, fun p2 hp2 => ?_⟩
    · obtain ⟨q, hq, rfl⟩ := List.mem_map.mp hz
      exact SqT.of (hW2.tup q hq)
    · have e : ((W.map fun q => (q.1, [q.2.1, q.2.2])).map (·.2)) = (pd W).map fun q => [q.1, q.2] := by
        unfold pd
        rw [List.map_map, List.map_map]; rfl
      rw [e]
      exact nodup_map_of (fun a b h => by cases a; cases b; cases h; rfl) hway.nd
    have s3 := Same.new (o := SetNO p2 (W.map fun q => (q.1, [q.2.1, q.2.2])).length) hp2
    refine ⟨p2, _, rfl, upd_same, _, rfl, lw, _, rfl, .inl (SqL.of (s3 _ _ hW2.lst)), rfl, _, rfl, ?_⟩
    have eb2 : (!decide (V.int (((W.map fun q => (q.1, [q.2.1, q.2.2])).length : Nat) : Int) = V.int (((W.map fun q => V.ref q.1).length : Nat) : Int))) = false := by
      rw [List.length_map, List.length_map, decide_eq_true rfl]; rfl
    rw [eb2]
    refine iteF ?_
    have hh3 := s3 _ _ hh2
    have s13 := s12.trans s3
    generalize upd H2 p2 (SetNO p2 (W.map fun q => (q.1, [q.2.1, q.2.2])).length) = H3 at hh3 s13
    clear s1 s2 s3 s12 hp2 hW2 hh2 hh1 exs eb eb2
    refine ⟨_, rfl, lw, rfl, ⟨_, SqL.of (s13 _ _ hW.lst)⟩, ?_⟩
    refine for_list (K := K) (a := lw) (xs := W.map fun q => V.ref q.1) (fun j σ H' => (∃ v4 v5, σ = [some (.ref lw), some (.ref d), some (.ref lg), some (.ref lh), v4, v5]) ∧ Same H H' ∧ H' lh = some (.lst ((((pd W).take j).foldl swp os).map V.str)))
      ⟨⟨_, _, rfl⟩, s13, hh3⟩ (fun j σ H' _ ⟨_, s', _⟩ => SqL.of (s' _ _ hW.lst)) ?_ ?_
    · rintro j xj σ H4 hxj ⟨⟨v4, v5, rfl⟩, s4, hh4⟩
      rw [List.getElem?_map] at hxj
      cases hq : W[j]? with
      | none => rw [hq] at hxj; cases hxj
      | some q =>
        rw [hq] at hxj
        cases hxj
        obtain ⟨pa, y, x⟩ := q
        have hmem := List.mem_of_getElem? hq
        have ht : H4 pa = some (.tup [V.str y, V.str x]) := (hW.same s4).tup _ hmem
        have hpq : (pd W)[j]? = some (y, x) := by unfold pd; rw [List.getElem?_map, hq]; rfl
        have hjl := (List.getElem?_eq_some_iff.mp hpq).1
        obtain ⟨u, v, eu⟩ := hway.each j _ hpq
        have pmj := way_perm hway hnd j (Nat.le_of_lt hjl)
        have pms := way_perm hway hnd (j + 1) hjl
        have hrs := hway.right (j + 1) hjl
        have ets : ((pd W).take (j + 1)).foldl swp os = swp (((pd W).take j).foldl swp os) (y, x) := by
          rw [List.take_succ, hpq]
          show (((pd W).take j) ++ [(y, x)]).foldl swp os = _
          rw [List.foldl_append]; rfl
        have eu : ((pd W).take j).foldl swp os = u ++ y :: x :: v := eu
        rw [ets] at pms hrs
        rw [ets]
        rw [eu] at hh4 pmj pms hrs
        have hn1 : (u ++ y :: x :: v).Nodup := pmj.nodup_iff.mpr hnd
        have hyu : y ∉ u := fun z => by
          rw [List.nodup_append] at hn1
          exact hn1.2.2 _ z _ (by simp) rfl
        rw [eu]
        rw [swp_at hyu] at pms hrs ⊢
        have hir : (u ++ y :: x :: v).idxOf y = u.length := by rw [idx_app_right hyu]; simp
        have hym : y ∈ u ++ y :: x :: v := by simp
        have hll : (u ++ y :: x :: v).length ≤ 10 := by rw [pmj.length_eq]; exact hol
        clear ets eu hpq hq
        refine ⟨_, rfl, .ref pa, .ty "tuple", .type "tuple", _, true, rfl, .ty _, .base (.tup ht), kit_ty (a := "tuple") (b := "tuple") (r := true) (by decide +kernel), _, rfl, ?_⟩
        refine iteF ?_
        refine ⟨_, rfl, pa, _, rfl, .inr (SqT.of ht), rfl, _, rfl, ?_⟩
        refine ite2 (fun c => absurd c (by simp)) (fun _ => ?_)
        refine ⟨_, rfl, pa, _, 0, _, rfl, rfl, SqT.of ht, rfl, _, rfl, lh, _, rfl, .inl (SqL.of hh4), rfl, flat_strs _, _, rfl, ?_⟩
        rw [if_pos rfl, inV_str, decide_eq_true hym]
        refine iteF ?_
        refine ⟨_, rfl, .inl ⟨rfl, _, SqL.of hh4⟩, _, rfl, pa, _, 0, _, rfl, rfl, SqT.of ht, rfl, lh, _, _, (u ++ y :: x :: v).idxOf y, _, rfl, rfl, SqL.of hh4, rfl, flat_strs _, idx_at hym, eqV_self _, (fun m z h1 h2 => idx_no m z h1 h2), ?_⟩
        rw [hir]
        refine ⟨_, rfl, _, rfl, _, rfl, _, rfl, _, _, rfl, rfl, _, rfl, lh, _, rfl, SqL.of hh4, fun pc hpc => ?_⟩
        have ec : cutV ((u ++ y :: x :: v).map V.str) (some ((u.length : Nat) : Int)) (some (((u.length : Nat) : Int) + 2)) = ([y, x] : List Str).map V.str := by
          unfold cutV
          have e2 : (((u.length : Nat) : Int) + 2) = ((u.length + 2 : Nat) : Int) := by omega
          have hl2 : (u ++ y :: x :: v).length = u.length + 2 + v.length := by simp; omega
          have f1 : HT.sIx ((u ++ y :: x :: v).map V.str).length 0 (some ((u.length : Nat) : Int)) = u.length := by rw [HT.sIx_nat, List.length_map]; omega
          have f2 : HT.sIx ((u ++ y :: x :: v).map V.str).length ((u ++ y :: x :: v).map V.str).length (some (((u.length : Nat) : Int) + 2)) = u.length + 2 := by rw [e2, HT.sIx_nat, List.length_map]; omega
          rw [f1, f2]
          simp
        have s5 := Same.new (o := .lst (cutV ((u ++ y :: x :: v).map V.str) (some ((u.length : Nat) : Int)) (some (((u.length : Nat) : Int) + 2)))) hpc
        have h5 : (upd H4 pc (.lst (cutV ((u ++ y :: x :: v).map V.str) (some ((u.length : Nat) : Int)) (some (((u.length : Nat) : Int) + 2))))) pc = some (.lst (([y, x] : List Str).map V.str)) := by rw [upd_same, ec]
        have ht5 := s5 _ _ ht
        have hh5 := s5 _ _ hh4
        have s5' := s4.trans s5
        generalize upd H4 pc (.lst (cutV ((u ++ y :: x :: v).map V.str) (some ((u.length : Nat) : Int)) (some (((u.length : Nat) : Int) + 2)))) = H5 at s5' h5 ht5 hh5
        clear s5 hpc ec
        refine ⟨_, rfl, pa, _, rfl, .inr (SqT.of ht5), fun pd2 hpd2 => ?_⟩
        have s6 := Same.new (o := .lst [V.str y, V.str x]) hpd2
        have s6' := s5'.trans s6
        have hh6 := s6 _ _ hh5
        have ht6 := s6 _ _ ht5
        have h6 : (upd H5 pd2 (.lst [V.str y, V.str x])) pd2 = some (.lst (([y, x] : List Str).map V.str)) := upd_same
        refine ⟨_, _, dp_strs (SqL.of (s6 _ _ h5)), dp_strs (SqL.of h6), strs_plain _, strs_plain _, ?_, ?_⟩
        · have := strs_depth ([y, x] : List Str); omega
        rw [eqv_strs, decide_eq_true rfl]
        refine ⟨_, rfl, iteF ?_⟩
        generalize upd H5 pd2 (.lst [V.str y, V.str x]) = H6 at s6' hh6 ht6
        clear h6 s6 hpd2 h5 ht5 hh5 s5'
        refine ⟨_, rfl, pa, _, 1, _, rfl, rfl, SqT.of ht6, rfl, _, rfl, pa, _, 0, _, rfl, rfl, SqT.of ht6, rfl, (by show 2 ≤ sizeLine; decide), fun tp htp => ?_⟩
        have s7 := Same.new (o := .tup [V.str x, V.str y]) htp
        have s7' := s6'.trans s7
        have hh7 := s7 _ _ hh6
        refine ⟨tp, _, rfl, SqT.of upd_same, rfl, ?_⟩
        generalize upd H6 tp (.tup [V.str x, V.str y]) = H7 at s7' hh7
        have hix1 : ixN ((u ++ y :: x :: v).map V.str).length ((u.length : Nat) : Int) = some u.length := ixN_nat' (by simp)
        refine ⟨_, _, rfl, _, rfl, _, rfl, lh, _, _, u.length, rfl, rfl, hh7, hix1, ?_⟩
        have hix2 : ixN (((u ++ y :: x :: v).map V.str).set u.length (.str x)).length (((u.length : Nat) : Int) + 1) = some (u.length + 1) := by
          rw [show (((u.length : Nat) : Int) + 1) = ((u.length + 1 : Nat) : Int) by omega]
          exact ixN_nat' (by simp)
        refine ⟨_, _, rfl, _, rfl, _, rfl, _, _, rfl, rfl, lh, _, _, u.length + 1, rfl, rfl, upd_same, hix2, rfl, ?_⟩
        have s8 : Same H (upd (upd H7 lh (.lst (((u ++ y :: x :: v).map V.str).set u.length (.str x)))) lh (.lst ((((u ++ y :: x :: v).map V.str).set u.length (.str x)).set (u.length + 1) (.str y)))) := Same.mut (Same.mut s7' hlh) hlh
        have hh8 : (upd (upd H7 lh (.lst (((u ++ y :: x :: v).map V.str).set u.length (.str x)))) lh (.lst ((((u ++ y :: x :: v).map V.str).set u.length (.str x)).set (u.length + 1) (.str y)))) lh = some (.lst ((u ++ x :: y :: v).map V.str)) := by rw [upd_same, set_str, set_str, set_two]
        generalize (upd (upd H7 lh (.lst (((u ++ y :: x :: v).map V.str).set u.length (.str x)))) lh (.lst ((((u ++ y :: x :: v).map V.str).set u.length (.str x)).set (u.length + 1) (.str y)))) = H8 at s8 hh8
        have O8 := O.same s8
        have hends2 : ∀ q ∈ pd P, q.1 ∈ u ++ x :: y :: v ∧ q.2 ∈ u ++ x :: y :: v := fun q hq => ⟨pms.mem_iff.mpr (hends q hq).1, pms.mem_iff.mpr (hends q hq).2⟩
        have hPl : P.length ≤ 1000 := by
          have z := hpl
          unfold pd at z
          rw [List.length_map] at z; exact z
        refine ⟨_, rfl, d, _, rfl, O8.g2, _, rfl, lq, lh, P, _, rfl, O8.pq, hh8, hends2, hPl, fun H9 s9 => ?_⟩
        rw [(right_iff (pms.nodup_iff.mpr hnd) pms hends).mpr hrs]
        refine ⟨_, rfl, iteF ?_⟩
        exact ⟨⟨_, _, rfl⟩, s8.trans s9, s9 _ _ hh8⟩
    · rintro σ H4 ⟨⟨v4, v5, rfl⟩, s4, hh4⟩
      have e : ((pd W).take (W.map fun q => V.ref q.1).length).foldl swp os = ts := by
        rw [List.length_map, hlen, List.take_length]; exact hway.eq
      rw [e] at hh4
      refine ⟨_, rfl, _, rfl, _, _, dp_strs (SqL.of hh4), dp_strs (SqL.of (s4 _ _ hg)), strs_plain _, strs_plain _, ?_, ?_⟩
      · have := strs_depth ts; omega
      rw [eqv_strs, decide_eq_true rfl]
      exact k _ s4
end
end Lr

set_option Elab.async false
set_option linter.all false
set_option maxRecDepth 100000
set_option maxHeartbeats 4000000
namespace Lr
open PySem PySem.Spec PyProof.Rows L2
section
variable {P : Program} {w : World} {K : PySem.W.Frag} {mg : Str → Option Value} {base : Heap}
def sp__law_word (T : Txt K mg) : Sp := fun vs H Q _ => ∃ a fp ns ps os x o, vs = [.ref a, x] ∧ RowS T.CRow T.CWeb H a fp ns ps os ∧ ThV K H x o ∧ ps.length ≤ 1000 ∧ os.length < 64 ∧ (∀ nms, o = some nms → nms.length < 64) ∧ os.Nodup ∧ RightS os ps ∧ (∀ q ∈ ps, q.1 ∈ os ∧ q.2 ∈ os) ∧ isRightB ps os o = false ∧
  ∀ p H', H p = none → Same H H' → H' p = some (.lst [.str "row"]) → Q (.ref p) H'
theorem sc__law_word : FnScope ["_law_row_here", "_law_thing", "_law_refused", "e"] ["_law_row_here", "_law_thing"] (defScope s__law_word) := ⟨rfl, rfl, rfl, by decide +kernel, rfl, by decide +kernel, by decide +kernel⟩
theorem ok__law_word (T : Txt K mg) : FnOk P w K mg base CX0 7 T.f__law_word T.D__law_word.fd ["_law_row_here", "_law_thing"] (sp__law_word T) := by
  refine T.D__law_word.F.ok sc__law_word (fun vs H Q E h => ?_) (fun cdv A outer s H vs Q E hr h => ?_)
  · obtain ⟨a, fp, ns, ps, os, x, o, rfl, _⟩ := h
    rfl
  · obtain ⟨a, fp, ns, ps, os, x, o, rfl, R, hx, hpl, hol, hnl, hnd, hri, hends, hb, k⟩ := h
    have hu := hu_of hr
    have hu65 := hu65_of hr
    refine ⟨_, (pss_cons (ps_set (i := 2) sc__law_word.nd rfl (Or.inl rfl) pe_non)
      (pss_cons (ps_try_keep (i := 3) rfl rfl rfl sc__law_word.nd rfl rfl ⟨rfl, by decide, .inl T.er.g_LeanError⟩ tkNo (fun W pn xe tk hp => (pss_one (ps_expr (pe_callS (ok_way_to T) (hr.mono (by decide)) (by rfl) T.g_way_to T.k_way_to T.D_way_to.b (fun σ => passAt tk σ) (pa_cons (pv 0) (pa_cons (pv 1) pa_nil))))))
      (fun a oe cls d pn hz hf => (pss_one (ps_set (i := 2) sc__law_word.nd rfl (Or.inl rfl) (pv 3)))))
      (pss_one (ps_ret (pe_ifExp (pt_cmpR op_isN (pv 2) pe_non (nomark _)) (pe_lst pa_nil) (pe_call (ok__law_kinds T) (hr.mono (by decide)) (by rfl) T.g__law_kinds T.k__law_kinds T.D__law_kinds.b .nil pass0 (pa_cons (pv 2) pa_nil))))))), ?_⟩
    refine ⟨_, rfl, _, rfl, a, fp, ns, ps, os, x, o, rfl, R, hx, hpl, hol, hnl, hnd, hri, hends, fun _ H1 s1 => ?_, fun ts e hb2 => ?_⟩
    · refine ⟨true, T.er.exm .BadRow, fun _ ea hea => ?_, fun z => nomatch z⟩
      refine ⟨_, rfl, _, rfl, rfl, _, rfl, ?_⟩
      refine iteF ?_
      have s2 : Same H1 (upd H1 ea (EXV (.ref (T.er.ce .BadRow)) none ea)) := Same.new hea
      exact ⟨_, rfl, ea, none, .BadRow, rfl, upd_same, .inl rfl, fun p H2 hp s3 hl => k p H2 (s1.free (s2.free hp)) ((s1.trans s2).trans s3) hl⟩
    · rw [hb2] at hb
      cases hb
end
end Lr

set_option Elab.async false
set_option linter.all false
set_option maxRecDepth 100000
set_option maxHeartbeats 4000000
namespace Lr
open PySem PySem.Spec PyProof.Rows L2
section
variable {P : Program} {w : World} {K : PySem.W.Frag} {mg : Str → Option Value} {base : Heap}
theorem thStrs {K : PySem.W.Frag} {H : Hp} {p : Addr} {ts : List Str} (h : H p = some (.lst (ts.map V.str))) : ThV K H (.ref p) (some (ts.map some)) := ⟨p, _, rfl, h, NmVs.strs ts⟩
theorem sz1000 {n : Nat} (h : n ≤ 1000) : n ≤ sizeLine := Nat.le_trans h (by decide)
theorem isRight_len {ps : List (Str × Str)} {os : List Str} {nms : List (Option Str)} (h : nms.length ≠ os.length) : isRightB ps os (some nms) = false := by
  show (if nms.all Option.isSome = true then (decide ((nms.map fun o => o.getD "").Perm os) && rightB ps (nms.map fun o => o.getD "")) else false) = false
  have hd : decide ((nms.map fun o => o.getD "").Perm os) = false := decide_eq_false fun p => h (by have := p.length_eq; rwa [List.length_map] at this)
  rw [hd, Bool.false_and]
  split <;> rfl
theorem isRight_none {ps : List (Str × Str)} {os : List Str} {nms : List (Option Str)} (h : none ∈ nms) : isRightB ps os (some nms) = false := by
  show (if nms.all Option.isSome = true then (decide ((nms.map fun o => o.getD "").Perm os) && rightB ps (nms.map fun o => o.getD "")) else false) = false
  refine if_neg fun z => ?_
  have := List.all_eq_true.mp z _ h
  cases this
theorem NmVs.app {K : PySem.W.Frag} {H : Hp} {xs ys : List V} {ns ms : List (Option Str)} (h : NmVs K H xs ns) (g : NmVs K H ys ms) : NmVs K H (xs ++ ys) (ns ++ ms) := by
  induction h with
  | nil => exact g
  | cons a _ ih => exact .cons a ih
theorem isRight_no {ps : List (Str × Str)} {os ts : List Str} (h : rightB ps ts = false) : isRightB ps os (some (ts.map some)) = false := by
  unfold isRightB
  simp only [some_all, if_true, some_get]
  rw [h, Bool.and_false]
def sp_law : Sp := fun vs H Q _ => ∃ (sc : Addr) (cs : List Int), vs = [.ref sc] ∧ SqL K H sc (cs.map V.int) ∧ cs.length ≤ 63 ∧ ∀ H', Q (.bl true) H'
theorem sc_law : FnScope ["_law_script", "_law_row_here", "_law_own", "_law_number", "_law_goal", "_law_handed", "_law_turn", "_law_way", "_law_odd", "_law_turned", "_law_cell"] ["_law_script"] (defScope s_law) := ⟨rfl, rfl, rfl, by decide +kernel, rfl, by decide +kernel, by decide +kernel⟩
theorem ok_law (T : Txt K mg) : FnOk P w K mg base CX0 12 T.f_law T.D_law.fd ["_law_script"] (sp_law (K := K)) := by
  refine T.D_law.F.ok sc_law (fun vs H Q E h => ?_) (fun cdv A outer s H vs Q E hr h => ?_)
  · obtain ⟨sc, cs, rfl, _⟩ := h
    rfl
  · obtain ⟨sc, cs, rfl, hsc, hcl, kQ⟩ := h
    have hu := hu_of hr
    have hu65 := hu65_of hr
    refine ⟨_, (pss_cons (ps_asg (pe_call (ok__law_row T) (hr.mono (by decide)) (by rfl) T.g__law_row T.k__law_row T.D__law_row.b .nil pass0 (pa_cons (pv 0) (pa_cons pe_int pa_nil))) (pg_tup rfl (pgs_cons (pg_name (i := 1) sc_law.nd rfl (Or.inl rfl)) (pgs_cons (pg_name (i := 2) sc_law.nd rfl (Or.inl rfl)) pgs_nil))))
      (pss_cons (ps_set (i := 3) sc_law.nd rfl (Or.inl rfl) (pe_call (ok__law_mixed T) (hr.mono (by decide)) (by rfl) T.g__law_mixed T.k__law_mixed T.D__law_mixed.b .nil pass0 (pa_cons (pe_op op_add (pe_callB call_lenK (by rfl) T.n_len (by decide +kernel) (pa_cons (pv 0) pa_nil)) (pe_callB (cr_sumK rfl) (by rfl) T.n_sum (by decide +kernel) (pa_cons (pe_lc (own := [("_law_cell", 10)]) (g := (gName 10)) rfl sc_law.nd (pi_listK (pv 0)) (blkOk_by (N := ["_law_script", "_law_row_here", "_law_own", "_law_number", "_law_goal", "_law_handed", "_law_turn", "_law_way", "_law_odd", "_law_turned", "_law_cell"]) (sc := defScope s_law) (by decide +kernel)) (fun _ _ _ _ _ => (pg_name (i := 10) sc_law.nd rfl (Or.inl rfl))) (fun _ _ _ _ _ => pts_nil) (fun _ _ _ _ _ => (pe_op op_mod (pv 10) pe_int))) pa_nil))) (pa_cons pe_int pa_nil))))
      (pss_cons (ps_for PassesOwn.never rfl (pi_tup (pe_tup (pa_cons (pe_call (ok__law_drawn T) (hr.mono (by decide)) (by rfl) T.g__law_drawn T.k__law_drawn T.D__law_drawn.b .nil pass0 (pa_cons (pv 2) (pa_cons (pv 3) pa_nil))) (pa_cons (pe_call (ok__law_drawn T) (hr.mono (by decide)) (by rfl) T.g__law_drawn T.k__law_drawn T.D__law_drawn.b .nil pass0 (pa_cons (pv 2) (pa_cons (pe_op op_fdiv (pv 3) pe_int) pa_nil))) (pa_cons (pe_callTy call_listK (by rfl) T.n_list (by decide +kernel) (pa_cons (pe_dget hu (pv 2) pe_str (fun _ _ => rfl)) pa_nil)) pa_nil))))) (pg_name (i := 4) sc_law.nd rfl (Or.inl rfl)) (pss_cons (ps_set (i := 5) sc_law.nd rfl (Or.inl rfl) (pe_callTy call_listK (by rfl) T.n_list (by decide +kernel) (pa_cons (pv 4) pa_nil)))
      (pss_one (ps_for PassesOwn.never rfl (pi_range1 (by rfl) T.n_range (pa_cons pe_int pa_nil)) (pg_name (i := 6) sc_law.nd rfl (Or.inl rfl)) (pss_cons (ps_set (i := 7) sc_law.nd rfl (Or.inl rfl) (pe_call (ok_way_to T) (hr.mono (by decide)) (by rfl) T.g_way_to T.k_way_to T.D_way_to.b .nil passL (pa_cons (pv 1) (pa_cons (pv 5) pa_nil))))
      (pss_cons (ps_if (PW.pt (pw_or (pt_not (pt_val (pe_call (ok__law_way_right T) (hr.mono (by decide)) (by rfl) T.g__law_way_right T.k__law_way_right T.D__law_way_right.b .nil pass0 (pa_cons (pv 7) (pa_cons (pv 2) (pa_cons (pv 4) pa_nil)))))) (pw_or (pt_cmpR (op_nePK hu65) (pv 5) (pv 4) (nomark _)) (pw_or1 (pt_cmpR (op_nePK hu65) (pv 7) (pe_call (ok_way_to T) (hr.mono (by decide)) (by rfl) T.g_way_to T.k_way_to T.D_way_to.b .nil passL (pa_cons (pv 1) (pa_cons (pe_callTy call_listK (by rfl) T.n_list (by decide +kernel) (pa_cons (pv 4) pa_nil)) pa_nil))) (nomark _)))))) (pss_one (ps_ret pe_bl)) pss_nil)
      (pss_one (ps_expr (pe_bmK PySem.F.plainAttrs_list PySem.F.slot_list_append PySem.F.type_list_append mt_append (pv 7) (pa_cons pe_str pa_nil))))))))))
      (pss_cons (ps_set (i := 8) sc_law.nd rfl (Or.inl rfl) (pe_lst (pa_cons pe_non (pa_cons (pe_callTy call_tuple_of (by rfl) T.n_tuple (by decide +kernel) (pa_cons (pe_dget hu (pv 2) pe_str (fun _ _ => rfl)) pa_nil)) (pa_cons (pe_op op_cat (pe_dget hu (pv 2) pe_str (fun _ _ => rfl)) (pe_lst (pa_cons pe_str pa_nil))) (pa_cons pe_str (pa_cons pe_int (pa_cons pe_dnewK (pa_cons (pe_lst (pa_cons pe_int pa_nil)) pa_nil)))))))))
      (pss_cons (ps_set (i := 8) sc_law.nd rfl (Or.inl rfl) (pe_ix ix_listK (pe_op op_cat (pv 8) (pe_lst (pa_cons (pe_op op_cat (pe_slice sl_listK (pe_dget hu (pv 2) pe_str (fun _ _ => rfl)) (po_some pe_int) po_none) (pe_lst (pa_cons (pe_lst (pa_cons pe_str pa_nil)) pa_nil))) pa_nil))) (pe_op op_mod (pv 3) pe_int) (fun _ _ => rfl)))
      (pss_cons (ps_if (pt_cmpR (op_nePK hu65) (pe_call (ok__law_word T) (hr.mono (by decide)) (by rfl) T.g__law_word T.k__law_word T.D__law_word.b .nil pass0 (pa_cons (pv 1) (pa_cons (pv 8) pa_nil))) (pe_lst (pa_cons pe_str pa_nil)) (nomark _)) (pss_one (ps_ret pe_bl)) pss_nil)
      (pss_cons (ps_set (i := 9) sc_law.nd rfl (Or.inl rfl) (pe_revL (pe_dget hu (pv 2) pe_str (fun _ _ => rfl))))
      (pss_cons (ps_if (PW.pt (pw_and (pt_not (pt_val (pe_call (ok__law_right T) (hr.mono (by decide)) (by rfl) T.g__law_right T.k__law_right T.D__law_right.b .nil pass0 (pa_cons (pe_dget hu (pv 2) pe_str (fun _ _ => rfl)) (pa_cons (pv 9) pa_nil))))) (pw_and1 (pt_cmpR (op_nePK hu65) (pe_call (ok__law_word T) (hr.mono (by decide)) (by rfl) T.g__law_word T.k__law_word T.D__law_word.b .nil pass0 (pa_cons (pv 1) (pa_cons (pv 9) pa_nil))) (pe_lst (pa_cons pe_str pa_nil)) (nomark _))))) (pss_one (ps_ret pe_bl)) pss_nil)
      (pss_one (ps_ret (pe_and (pe_cmpR (op_eqPK hu65) (pe_meth0 (pv 1) T.c_Row T.m_Row_names (ok_Row_names T) (hr.mono (by decide)) T.D_Row_names.b .nil pass0) (pe_dget hu (pv 2) pe_str (fun _ _ => rfl)) (nomark _)) (pe_one (pe_cmpR (op_eqPK hu65) (pe_meth0 (pv 1) T.c_Row T.m_Row_leanings (ok_Row_leanings T) (hr.mono (by decide)) T.D_Row_leanings.b .nil pass0) (pe_dget hu (pv 2) pe_str (fun _ _ => rfl)) (nomark _)))))))))))))), ?_⟩
    refine ⟨_, rfl, sc, cs, 10, rfl, hsc, hcl, by decide, by decide, fun t H1 r d fr fo names ns os ps W1 ht hst hri hacy hpl hnl hnm hodd => ?_⟩
    refine ⟨t, _, rfl, SqT.of ht, rfl, _, _, rfl, _, _, rfl, rfl, ?_⟩
    have hol : os.length ≤ 10 := Nat.le_trans hst.len.2 hnl
    have hno : ∀ n ∈ os, isNm n = true := fun n hn => hnm n (hst.sub n ((hst.same n).mp hn))
    have hends : ∀ q ∈ ps, q.1 ∈ os ∧ q.2 ∈ os := fun q hq => ⟨(hst.same _).mpr (hst.ends q hq).1, (hst.same _).mpr (hst.ends q hq).2⟩
    have hsc1 := W1.sm.seq hsc
    refine ⟨_, rfl, sc, _, rfl, .inl hsc1, _, rfl, sc, rfl, ⟨_, hsc1⟩, fun D hD => ?_⟩
    refine lcL cs V.int (fun _ => true) (fun c => .int (c % 1009)) hsc1 (by omega) hD (fun c hc Hk ek Kn Ky kn ky => ⟨wipe1 _ 10 _, ?_⟩) (fun H6 s6 h6 => ?_)
    · exact ⟨_, rfl, c, _, rfl, rfl, (by show (0:Int) < 1009; decide), ky _ (Same.refl _) rfl⟩
    rw [filter_true] at h6
    have e1 : (cs.map fun c => V.int (c % 1009)) = (cs.map fun c => c % 1009).map V.int := by rw [List.map_map]; rfl
    rw [e1] at h6
    refine ⟨D, _, rfl, SqL.of h6, _, _, rfl, rfl, _, 3, rfl, by decide, by decide, ?_⟩
    generalize mixF _ 3 = num
    have W6 := W1.same s6
    dsimp only [gName]
    have hpl1 : ps.length ≤ 1000 := by omega
    have hol1 : os.length < 64 := by omega
    refine ⟨_, rfl, _, rfl, d, fo, os, ps, num, rfl, W6.get 1 rfl, by omega, by omega, hst.no, hri, fun g1 H7 t1 hg1 s7 e1 hF1 pm1 r1 => ?_⟩
    have W7 := W6.same s7
    refine ⟨_, rfl, _, rfl, num, 1000, rfl, rfl, ⟨by decide, by decide⟩, d, fo, os, ps, num / 1000, rfl, W7.get 1 rfl, by omega, by omega, hst.no, hri, fun g2 H8 t2 hg2 s8 e2 hF2 pm2 r2 => ?_⟩
    have W8 := W7.same s8
    have e18 := s8 _ _ e1
    obtain ⟨lo, lq, P, efo, O, eO⟩ := (show OwnS H8 d fo os ps from W8.get 1 rfl)
    refine ⟨_, rfl, d, _, rfl, O.g1, lo, _, rfl, .inl (SqL.of O.pn), fun g3 hg3 => ⟨(by show 3 ≤ sizeLine; decide), fun tp htp => ?_⟩⟩
    have u9 := Same.new (o := .lst (os.map V.str)) hg3
    have u10 := Same.new (o := .tup [V.ref g1, V.ref g2, V.ref g3]) htp
    have W10 := (W8.same u9).same u10
    have e110 := u10 _ _ (u9 _ _ e18)
    have e210 := u10 _ _ (u9 _ _ e2)
    have e310 := u10 _ _ (upd_same (H := H8) (a := g3) (o := .lst (os.map V.str)))
    have ht10 := upd_same (H := upd H8 g3 (.lst (os.map V.str))) (a := tp) (o := .tup [V.ref g1, V.ref g2, V.ref g3])
    generalize upd (upd H8 g3 (.lst (os.map V.str))) tp (.tup [V.ref g1, V.ref g2, V.ref g3]) = HB at *
    clear u9 u10 O efo eO htp hg3
    have hR : RowS T.CRow T.CWeb HB r fr ns ps os := W10.get 0 rfl
    have hOw : OwnS HB d fo os ps := W10.get 1 rfl
    have hgoals : ∀ (j : Nat) (x : V), [V.ref g1, V.ref g2, V.ref g3][j]? = some x → ∃ lg ts, x = .ref lg ∧ HB lg = some (.lst (ts.map V.str)) ∧ ts.Perm os ∧ RightS ts ps := fun j x h => by
      match j, h with
      | 0, h => cases h; exact ⟨g1, t1, rfl, e110, pm1, r1⟩
      | 1, h => cases h; exact ⟨g2, t2, rfl, e210, pm2, r2⟩
      | 2, h => cases h; exact ⟨g3, os, rfl, e310, List.Perm.refl _, hri⟩
      | (n + 3), h => cases h
    refine ⟨tp, rfl, ⟨_, SqT.of ht10⟩, ?_⟩
    refine for_tup (K := K) (a := tp) (xs := [V.ref g1, V.ref g2, V.ref g3]) (fun j σ H' => (∃ v4 v5 v6 v7, σ = [some (.ref sc), some (.ref r), some (.ref d), some (.int num), v4, v5, v6, v7, none, none, none]) ∧ Same HB H')
      ⟨⟨none, none, none, none, rfl⟩, Same.refl _⟩ (fun j σ H' _ ⟨_, s'⟩ => SqT.of (s' _ _ ht10)) ?_ ?_
    · rintro j xj σ H11 hxj ⟨⟨v4, v5, v6, v7, rfl⟩, s11⟩
      obtain ⟨lg, ts, rfl, hlg, pmt, rts⟩ := hgoals j xj hxj
      have hnt : ts.Nodup := pmt.nodup_iff.mpr hst.no
      have hRB := isRight_of hnt pmt hends rts
      have htl : ts.length ≤ 10 := by rw [pmt.length_eq]; exact hol
      have hnl2 : ∀ nms, some (ts.map some) = some nms → nms.length < 64 := fun nms e => by cases e; rw [List.length_map]; omega
      refine ⟨_, rfl, lg, _, rfl, .inl (SqL.of (s11 _ _ hlg)), fun lh hlh => ?_⟩
      have u12 := Same.new (o := .lst (ts.map V.str)) hlh
      have hh12 := upd_same (H := H11) (a := lh) (o := .lst (ts.map V.str))
      have s12 := s11.trans u12
      generalize upd H11 lh (.lst (ts.map V.str)) = HC at s12 hh12
      clear u12 hlh
      refine ⟨2, rfl, by decide, by decide, ?_⟩
      refine for_range (lo := 0) (n := 2) (fun i σ H' => (∃ v6 v7, σ = [some (.ref sc), some (.ref r), some (.ref d), some (.int num), some (.ref lg), some (.ref lh), v6, v7, none, none, none]) ∧ Same HC H') ⟨⟨_, _, rfl⟩, Same.refl _⟩ ?_ ?_
      · rintro i2 σ H13 hi2 ⟨⟨v6', v7', rfl⟩, s13⟩
        have s13B := s12.trans s13
        refine ⟨_, rfl, _, rfl, r, fr, ns, ps, os, .ref lh, some (ts.map some), rfl, hR.same s13B, thStrs (s13 _ _ hh12), hpl1, hol1, hnl2, hst.no, hri, hends, (fun z => by rw [hRB] at z; cases z), fun ts' ets _ D H14 Wy hD hWn s14 hPL hway hwn => ?_⟩
        have ets : ts' = ts := by
          have := Option.some.inj ets
          exact (List.map_inj_right (fun a b h => Option.some.inj h)).mp this.symm
        subst ets
        clear hRB hxj
        have hRB := isRight_of hnt pmt hends rts
        have s14B := s13B.trans s14
        refine ⟨_, rfl, _, rfl, _, rfl, D, d, lg, fo, Wy, os, ts', ps, rfl, hPL, hOw.same s14B, s14B _ _ hlg, hway, hst.no, hol, hends, hpl1, fun H15 s15 => ?_⟩
        refine ⟨_, rfl, ?_⟩
        refine iteF ?_
        have s15B := s14B.trans s15
        have s15C := (s13.trans s14).trans s15
        refine ⟨_, rfl, _, rfl, _, _, dp_strs (SqL.of (s15C _ _ hh12)), dp_strs (SqL.of (s15B _ _ hlg)), strs_plain _, strs_plain _, ?_, ?_⟩
        · have := strs_depth ts'; omega
        rw [eqv_strs, decide_eq_true rfl]
        refine ⟨_, rfl, ?_⟩
        refine iteF ?_
        have hPL15 := hPL.same s15
        refine ⟨_, rfl, _, rfl, _, rfl, lg, _, rfl, .inl (SqL.of (s15B _ _ hlg)), fun l2 hl2 => ?_⟩
        have u16 := Same.new (o := .lst (ts'.map V.str)) hl2
        have hl16 := upd_same (H := H15) (a := l2) (o := .lst (ts'.map V.str))
        have s16B := s15B.trans u16
        have s16C := s15C.trans u16
        have hPL16 := hPL15.same u16
        generalize upd H15 l2 (.lst (ts'.map V.str)) = H16 at hl16 s16B s16C hPL16
        refine ⟨r, fr, ns, ps, os, .ref l2, some (ts'.map some), rfl, hR.same s16B, thStrs hl16, hpl1, hol1, hnl2, hst.no, hri, hends, (fun z => by rw [hRB] at z; cases z), fun ts3 ets3 _ D2 H17 Wz hD2 hWn2 s17 hPL2 hway2 hwn2 => ?_⟩
        have ets3 : ts3 = ts' := by
          have := Option.some.inj ets3
          exact (List.map_inj_right (fun a b h => Option.some.inj h)).mp this.symm
        subst ets3
        have hPL17 := hPL16.same s17
        have s17C := s16C.trans s17
        refine ⟨_, _, dp_pairs hPL17, dp_pairs hPL2, pairs_plain _, pairs_plain _, ?_, ?_⟩
        · have := pairs_depth (pd Wy); omega
        rw [eqv_pairs, decide_eq_true (way_one hst.no hway hway2 hwn hwn2)]
        refine ⟨_, rfl, ?_⟩
        refine iteF ?_
        have hfw := way_few hway hol
        have hWl : Wy.length ≤ 45 := by
          unfold pd at hfw
          rw [List.length_map] at hfw; exact hfw
        refine ⟨_, rfl, .inl ⟨rfl, _, SqL.of hPL17.lst⟩, D, _, _, rfl, rfl, hPL17.lst, by rw [List.length_map]; exact Nat.lt_of_le_of_lt hWl (by decide), ?_⟩
        exact ⟨⟨_, _, rfl⟩, Same.mut s17C (s13.free hD)⟩
      · rintro σ H13 ⟨⟨v6', v7', rfl⟩, s13⟩
        exact ⟨⟨_, _, _, _, rfl⟩, s12.trans s13⟩
    · rintro σ H11 ⟨⟨v4, v5, v6, v7, rfl⟩, s11⟩
      obtain ⟨lo, lq, P, efo, O, eO⟩ := (show OwnS H11 d fo os ps from hOw.same s11)
      refine ⟨_, rfl, d, _, rfl, O.g1, lo, _, rfl, .inl ⟨SqL.of O.pn, fun x1 hx1 => ?_⟩⟩
      have v12 := Same.new (o := .tup (os.map V.str)) hx1
      have f1 := upd_same (H := H11) (a := x1) (o := .tup (os.map V.str))
      generalize upd H11 x1 (.tup (os.map V.str)) = H12 at v12 f1
      refine ⟨_, rfl, d, _, rfl, (O.same v12).g1, (by show 1 ≤ sizeLine; decide), fun y1 hy1 => ?_⟩
      have v13 := Same.new (o := .lst [V.str ("zzzzzzzz" : Str)]) hy1
      have fy := upd_same (H := H12) (a := y1) (o := .lst [V.str ("zzzzzzzz" : Str)])
      generalize upd H12 y1 (.lst [V.str ("zzzzzzzz" : Str)]) = H13 at v13 fy
      have S13 := v12.trans v13
      refine ⟨lo, y1, _, _, rfl, rfl, S13 _ _ O.pn, fy, sz1000 (by simp only [List.length_map, List.length_singleton]; omega), fun x2 hx2 => ?_⟩
      have v14 := Same.new (o := .lst (os.map V.str ++ [V.str ("zzzzzzzz" : Str)])) hx2
      have f2 := upd_same (H := H13) (a := x2) (o := .lst (os.map V.str ++ [V.str ("zzzzzzzz" : Str)]))
      generalize upd H13 x2 (.lst (os.map V.str ++ [V.str ("zzzzzzzz" : Str)])) = H14 at v14 f2
      refine fun x5 hx5 => ?_
      have v15 := Same.new (o := .dK []) hx5
      have f5 := upd_same (H := H14) (a := x5) (o := .dK [])
      generalize upd H14 x5 (.dK []) = H15 at v15 f5
      refine ⟨(by show 1 ≤ sizeLine; decide), fun x6 hx6 => ?_⟩
      have v16 := Same.new (o := .lst [V.int 5]) hx6
      have f6 := upd_same (H := H15) (a := x6) (o := .lst [V.int 5])
      generalize upd H15 x6 (.lst [V.int 5]) = H16 at v16 f6
      refine ⟨(by show 7 ≤ sizeLine; decide), fun od hod => ?_⟩
      have v17 := Same.new (o := .lst [V.non, V.ref x1, V.ref x2, V.str ("a" : Str), V.int 5, V.ref x5, V.ref x6]) hod
      have fo1 := upd_same (H := H16) (a := od) (o := .lst [V.non, V.ref x1, V.ref x2, V.str ("a" : Str), V.int 5, V.ref x5, V.ref x6])
      generalize upd H16 od (.lst [V.non, V.ref x1, V.ref x2, V.str ("a" : Str), V.int 5, V.ref x5, V.ref x6]) = H17 at v17 fo1
      have S17 := (((S13.trans v14).trans v15).trans v16).trans v17
      refine ⟨_, rfl, _, rfl, d, _, rfl, (O.same S17).g1, _, rfl, lo, _, rfl, SqL.of (S17 _ _ O.pn), fun pc hpc => ?_⟩
      have v18 := Same.new (o := .lst (cutV (os.map V.str) (some 1) none)) hpc
      have fc : (upd H17 pc (.lst (cutV (os.map V.str) (some 1) none))) pc = some (.lst ((os.drop 1).map V.str)) := by rw [upd_same, cut_tail]
      generalize upd H17 pc (.lst (cutV (os.map V.str) (some 1) none)) = H18 at v18 fc
      refine ⟨(by show 1 ≤ sizeLine; decide), fun ia hia => ⟨(by show 1 ≤ sizeLine; decide), fun ib hib => ?_⟩⟩
      have v19 := Same.new (o := .lst [V.str ("a" : Str)]) hia
      have fa := upd_same (H := H18) (a := ia) (o := .lst [V.str ("a" : Str)])
      generalize upd H18 ia (.lst [V.str ("a" : Str)]) = H19 at v19 fa hib ⊢
      have v20 := Same.new (o := .lst [V.ref ia]) hib
      have fb := upd_same (H := H19) (a := ib) (o := .lst [V.ref ia])
      generalize upd H19 ib (.lst [V.ref ia]) = H20 at v20 fb
      have hdl : (os.drop 1).length ≤ 10 := by rw [List.length_drop]; omega
      refine ⟨pc, ib, _, _, rfl, rfl, v20 _ _ (v19 _ _ fc), fb, sz1000 (by simp only [List.length_map, List.length_singleton]; omega), fun x7 hx7 => ?_⟩
      have v21 := Same.new (o := .lst ((os.drop 1).map V.str ++ [V.ref ia])) hx7
      have f7 := upd_same (H := H20) (a := x7) (o := .lst ((os.drop 1).map V.str ++ [V.ref ia]))
      generalize upd H20 x7 (.lst ((os.drop 1).map V.str ++ [V.ref ia])) = H21 at v21 f7
      refine ⟨(by show 1 ≤ sizeLine; decide), fun oc hoc => ?_⟩
      have v22 := Same.new (o := .lst [V.ref x7]) hoc
      have fc2 := upd_same (H := H21) (a := oc) (o := .lst [V.ref x7])
      generalize upd H21 oc (.lst [V.ref x7]) = H22 at v22 fc2
      have Sb := (((v18.trans v19).trans v20).trans v21).trans v22
      refine ⟨od, oc, _, _, rfl, rfl, Sb _ _ fo1, fc2, (show 7 + 1 ≤ sizeLine by decide), fun oe hoe => ?_⟩
      have v23 := Same.new (o := .lst ([V.non, V.ref x1, V.ref x2, V.str ("a" : Str), V.int 5, V.ref x5, V.ref x6] ++ [V.ref x7])) hoe
      have foe := upd_same (H := H22) (a := oe) (o := .lst ([V.non, V.ref x1, V.ref x2, V.str ("a" : Str), V.int 5, V.ref x5, V.ref x6] ++ [V.ref x7]))
      generalize upd H22 oe (.lst ([V.non, V.ref x1, V.ref x2, V.str ("a" : Str), V.int 5, V.ref x5, V.ref x6] ++ [V.ref x7])) = H23 at v23 foe
      have S23a : Same H11 H23 := (S17.trans Sb).trans v23
      have w17 := (v18.trans v19)
      have z22 := v22.trans v23
      have z21 := v21.trans z22
      have z20 := v20.trans z21
      have z19 := v19.trans z20
      have z18 := v18.trans z19
      have z17 := v17.trans z18
      have z16 := v16.trans z17
      have z15 := v15.trans z16
      have z14 := v14.trans z15
      have z13 := v13.trans z14
      have q1 := z13 _ _ f1
      have q2 := z15 _ _ f2
      have q5 := z16 _ _ f5
      have q6 := z17 _ _ f6
      have q7 := z22 _ _ f7
      have qa := z20 _ _ fa
      have hodds : ∃ v o, atI ([V.non, V.ref x1, V.ref x2, V.str ("a" : Str), V.int 5, V.ref x5, V.ref x6] ++ [V.ref x7]) (num % 8) = some v ∧ ThV K H23 v o ∧ (∀ nms, o = some nms → nms.length < 64) ∧ isRightB ps os o = false := by
        have h0 : 0 ≤ num % 8 := Int.emod_nonneg _ (by decide)
        have h8 : num % 8 < 8 := Int.emod_lt_of_pos _ (by decide)
        obtain ⟨j, ej⟩ : ∃ j : Nat, num % 8 = (j : Int) := ⟨(num % 8).toNat, by omega⟩
        have hj : j < 8 := by omega
        rw [ej]
        match j, hj with
        | 0, _ => exact ⟨_, none, atI_nat rfl, ⟨_, .base .non, kit_ty (a := "NoneType") (b := "list") (r := false) (by decide +kernel)⟩, (fun _ z => nomatch z), rfl⟩
        | 1, _ => exact ⟨_, none, atI_nat rfl, ⟨_, .base (.tup q1), kit_ty (a := "tuple") (b := "list") (r := false) (by decide +kernel)⟩, (fun _ z => nomatch z), rfl⟩
        | 2, _ => exact ⟨_, some (os.map some ++ [some ("zzzzzzzz" : Str)]), atI_nat rfl, ⟨x2, _, rfl, q2, (NmVs.strs _).app (NmVs.strs [("zzzzzzzz" : Str)])⟩, (fun _ z => by cases z; simp only [List.length_map, List.length_append, List.length_singleton]; omega), isRight_len (by simp)⟩
        | 3, _ => exact ⟨_, none, atI_nat rfl, ⟨_, .base (.str _), kit_ty (a := "str") (b := "list") (r := false) (by decide +kernel)⟩, (fun _ z => nomatch z), rfl⟩
        | 4, _ => exact ⟨_, none, atI_nat rfl, ⟨_, .base (.int 5), kit_ty (a := "int") (b := "list") (r := false) (by decide +kernel)⟩, (fun _ z => nomatch z), rfl⟩
        | 5, _ => exact ⟨_, none, atI_nat rfl, ⟨_, .base (.dK q5), kit_ty (a := "dict") (b := "list") (r := false) (by decide +kernel)⟩, (fun _ z => nomatch z), rfl⟩
        | 6, _ => exact ⟨_, some [none], atI_nat rfl, ⟨x6, _, rfl, q6, .cons ⟨_, .base (.int 5), kit_ty (a := "int") (b := "str") (r := false) (by decide +kernel)⟩ .nil⟩, (fun _ z => by cases z; decide), isRight_none (by simp)⟩
        | 7, _ => exact ⟨_, some ((os.drop 1).map some ++ [none]), atI_nat rfl, ⟨x7, _, rfl, q7, (NmVs.strs _).app (.cons ⟨_, .base (.lst qa), kit_ty (a := "list") (b := "str") (r := false) (by decide +kernel)⟩ .nil)⟩, (fun _ z => by cases z; simp only [List.length_map, List.length_append, List.length_singleton]; omega), isRight_none (by simp)⟩
        | (m + 8), h => exact absurd h (by omega)
      obtain ⟨v, o, hat, hth, hthl, hfalse⟩ := hodds
      have hR23 : RowS T.CRow T.CWeb H23 r fr ns ps os := (hR.same s11).same S23a
      have O23 := O.same S23a
      clear q1 q2 q5 q6 q7 qa z13 z14 z15 z16 z17 z18 z19 z20 z21 z22 w17 v12 v13 v14 v15 v16 v17 v18 v19 v20 v21 v22 v23 f1 f2 f5 f6 f7 fa fb fc fy fc2 fo1 Sb S17 S13
      refine ⟨_, rfl, num, 8, rfl, rfl, (by show (0:Int) < 8; decide), oe, _, _, v, rfl, rfl, SqL.of foe, hat, ?_⟩
      refine ⟨_, rfl, _, rfl, r, fr, ns, ps, os, v, o, rfl, hR23, hth, hpl1, hol1, hthl, hst.no, hri, hends, hfalse, fun p1 H24 hp1 s24 hl1 => ?_⟩
      refine ⟨(by show 1 ≤ sizeLine; decide), fun p2 hp2 => ?_⟩
      have v25 := Same.new (o := .lst [V.str ("row" : Str)]) hp2
      have h12 : (upd H24 p2 (.lst [V.str ("row" : Str)])) p2 = some (.lst ((["row"] : List Str).map V.str)) := upd_same
      have h11 : (upd H24 p2 (.lst [V.str ("row" : Str)])) p1 = some (.lst ((["row"] : List Str).map V.str)) := v25 _ _ hl1
      refine ⟨_, _, dp_strs (SqL.of h11), dp_strs (SqL.of h12), strs_plain _, strs_plain _, ?_, ?_⟩
      · have := strs_depth (["row"] : List Str); omega
      rw [eqv_strs, decide_eq_true rfl]
      refine ⟨_, rfl, iteF ?_⟩
      have s25 := s24.trans v25
      generalize upd H24 p2 (.lst [V.str ("row" : Str)]) = H25 at s25
      clear h11 h12 v25 hl1 hp1 hp2 s24
      have O25 := O23.same s25
      have hR25 := hR23.same s25
      refine ⟨_, rfl, d, _, rfl, O25.g1, lo, _, rfl, SqL.of O25.pn, fun rv hrv => ?_⟩
      have v26 := Same.new (o := .lst (os.map V.str).reverse) hrv
      have hr26 : (upd H25 rv (.lst (os.map V.str).reverse)) rv = some (.lst (os.reverse.map V.str)) := by rw [upd_same, List.map_reverse]
      generalize upd H25 rv (.lst (os.map V.str).reverse) = H26 at v26 hr26
      have O26 := O25.same v26
      have hR26 := hR25.same v26
      have hPl : P.length ≤ 1000 := by
        have z := congrArg List.length eO
        unfold pd at z
        rw [List.length_map] at z; omega
      have hev : ∀ q ∈ pd P, q.1 ∈ os.reverse ∧ q.2 ∈ os.reverse := fun q hq => by
        rw [eO] at hq
        exact ⟨List.mem_reverse.mpr (hends q hq).1, List.mem_reverse.mpr (hends q hq).2⟩
      dsimp only
      refine seq_shareS (P := fun σ HF => σ = [some (.ref sc), some (.ref r), some (.ref d), some (.int num), v4, v5, v6, v7, some v, some (.ref rv), none] ∧ Same H26 HF) (fun σ HF hP => ?_) (fun main => ?_)
      · obtain ⟨rfl, sF⟩ := hP
        have hR27 := hR26.same sF
        have O27 := O26.same sF
        obtain ⟨dx2, lw2, lo2, ho2⟩ := hR27.obj
        refine ⟨_, rfl, r, dx2, _, rfl, ho2, rF_no (by decide +kernel) (by decide +kernel), r, fr, ns, ps, os, rfl, hR27, fun p5 H28 hp5 s28 hl5 => ?_⟩
        refine ⟨_, rfl, d, _, rfl, (O27.same s28).g1, _, _, dp_strs (SqL.of hl5), dp_strs (SqL.of (O27.same s28).pn), strs_plain _, strs_plain _, ?_, ?_⟩
        · have := strs_depth os; omega
        rw [eqv_strs, decide_eq_true rfl]
        refine ⟨_, rfl, ?_⟩
        refine ⟨_, rfl, r, dx2, _, rfl, s28 _ _ ho2, rF_no (by decide +kernel) (by decide +kernel), r, fr, ns, ps, os, rfl, hR27.same s28, fun p6 H29 P6 hp6 s29 hPL6 ep6 => ?_⟩
        have O29 := (O27.same s28).same s29
        refine ⟨_, rfl, d, _, rfl, O29.g2, _, _, dp_pairs hPL6, dp_pairs O29.pq, pairs_plain _, pairs_plain _, ?_, ?_⟩
        · have := pairs_depth (pd P6); omega
        rw [eqv_pairs, decide_eq_true (ep6.trans eO.symm)]
        exact kQ _
      · refine ⟨_, rfl, d, _, rfl, O26.g2, _, rfl, lq, rv, P, os.reverse, rfl, O26.pq, hr26, hev, hPl, fun H27 s27 => ⟨_, rfl, ?_⟩⟩
        cases hrb : rightB (pd P) os.reverse with
        | true =>
          refine iteF ?_
          refine iteF ?_
          exact main _ _ ⟨rfl, s27⟩
        | false =>
          refine iteT ?_
          rw [eO] at hrb
          refine ⟨_, rfl, _, rfl, r, fr, ns, ps, os, .ref rv, some (os.reverse.map some), rfl, hR26.same s27, thStrs (s27 _ _ hr26), hpl1, hol1, (fun nms e => by cases e; rw [List.length_map, List.length_reverse]; omega), hst.no, hri, hends, isRight_no hrb, fun p1 H28 hp1 s28 hl1 => ?_⟩
          refine ⟨(by show 1 ≤ sizeLine; decide), fun p2 hp2 => ?_⟩
          have v29 := Same.new (o := .lst [V.str ("row" : Str)]) hp2
          have h12 : (upd H28 p2 (.lst [V.str ("row" : Str)])) p2 = some (.lst ((["row"] : List Str).map V.str)) := upd_same
          have h11 : (upd H28 p2 (.lst [V.str ("row" : Str)])) p1 = some (.lst ((["row"] : List Str).map V.str)) := v29 _ _ hl1
          refine ⟨_, _, dp_strs (SqL.of h11), dp_strs (SqL.of h12), strs_plain _, strs_plain _, ?_, ?_⟩
          · have := strs_depth (["row"] : List Str); omega
          rw [eqv_strs, decide_eq_true rfl]
          refine ⟨_, rfl, iteF ?_⟩
          exact main _ _ ⟨rfl, (s27.trans s28).trans v29⟩
end
end Lr

set_option Elab.async false
set_option maxRecDepth 100000
open PySem PySem.W PyProof.Rows L2
set_option maxHeartbeats 0
open_top Lr.hd for PySem.Challenge.rw_leanrow_k11_whole_ways_between_rows

set_option Elab.async false
set_option maxRecDepth 100000
open PySem PySem.W PyProof.Rows L2 Lr in
set_option maxRecDepth 100000 in
set_option maxHeartbeats 0 in
theorem PySem.Challenge.cw_leanrow_k11_whole_ways_between_rows_holds : PySem.Challenge.rw_leanrow_k11_whole_ways_between_rows.Holds := by
  refine Lr.hd ?_
  k_fill
  refine L2.walk_ofK (n := 63) (k := 12) (x := "_law_script") (CX := CX0) (sp := fun K => Lr.sp_law (K := K)) rfl (by decide) rfl ⟨rfl, by decide, by decide⟩ (fun w h Y => PySem.W.kIn_of Y) ?F ?hsp ?hCX
  case F =>
    intro w mg fa h KX G hmg
    refine Lr.test_of (mg := mg) KX ?T fun T => ?k
    case T =>
      refine' {
        n_len := PySem.W.mg_none_of KX G ?n_len,
        n_isinstance := PySem.W.mg_none_of KX G ?n_isinstance,
        n_all := PySem.W.mg_none_of KX G ?n_all,
        n_any := PySem.W.mg_none_of KX G ?n_any,
        n_list := PySem.W.mg_none_of KX G ?n_list,
        n_tuple := PySem.W.mg_none_of KX G ?n_tuple,
        n_str := PySem.W.mg_none_of KX G ?n_str,
        n_int := PySem.W.mg_none_of KX G ?n_int,
        n_bool := PySem.W.mg_none_of KX G ?n_bool,
        n_dict := PySem.W.mg_none_of KX G ?n_dict,
        n_range := PySem.W.mg_none_of KX G ?n_range,
        n_zip := PySem.W.mg_none_of KX G ?n_zip,
        n_enumerate := PySem.W.mg_none_of KX G ?n_enumerate,
        n_sum := PySem.W.mg_none_of KX G ?n_sum,
        n_sorted := PySem.W.mg_none_of KX G ?n_sorted,
        n_set := PySem.W.mg_none_of KX G ?n_set,
        n_max := PySem.W.mg_none_of KX G ?n_max,
        n_reversed := PySem.W.mg_none_of KX G ?n_reversed,
        n_ValueError := PySem.W.mg_none_of KX G ?n_ValueError,
        g_LETTERS := mg_str KX G ?g_LETTERS,
        g_MOST_LETTERS := mg_int KX G ?g_MOST_LETTERS,
        g_MOST_THINGS := mg_int KX G ?g_MOST_THINGS,
        CWeb := _,
        g_Web := PySem.W.mg_of KX G ?g_Web,
        c_Web := ⟨?pg_Web, ?hd_Web, ?po_Web, ?sa_Web⟩,
        a_Web_put_ones := ?a_Web_put_ones,
        a_Web_pairs := ?a_Web_pairs,
        CRow := _,
        g_Row := PySem.W.mg_of KX G ?g_Row,
        c_Row := ⟨?pg_Row, ?hd_Row, ?po_Row, ?sa_Row⟩,
        a_Row_web := ?a_Row_web,
        a_Row_order := ?a_Row_order,
        er := errT KX G ?zg_LeanError ?zlrd1 ?zlrd2 ?zlinit ?zxl1 ?zxl2 ?zxl3 ?zhn ?zht ?zg_BadName ?zk_BadName ?zx_BadName ?ze_BadName ?zt_BadName ?zcg_BadName ?zck_BadName ?zcd_BadName ?zca_BadName ?zcm_BadName ?zkv_BadName ?zxm_BadName ?zg_Twice ?zk_Twice ?zx_Twice ?ze_Twice ?zt_Twice ?zcg_Twice ?zck_Twice ?zcd_Twice ?zca_Twice ?zcm_Twice ?zkv_Twice ?zxm_Twice ?zg_TooMany ?zk_TooMany ?zx_TooMany ?ze_TooMany ?zt_TooMany ?zcg_TooMany ?zck_TooMany ?zcd_TooMany ?zca_TooMany ?zcm_TooMany ?zkv_TooMany ?zxm_TooMany ?zg_NoThing ?zk_NoThing ?zx_NoThing ?ze_NoThing ?zt_NoThing ?zcg_NoThing ?zck_NoThing ?zcd_NoThing ?zca_NoThing ?zcm_NoThing ?zkv_NoThing ?zxm_NoThing ?zg_NoLeaning ?zk_NoLeaning ?zx_NoLeaning ?ze_NoLeaning ?zt_NoLeaning ?zcg_NoLeaning ?zck_NoLeaning ?zcd_NoLeaning ?zca_NoLeaning ?zcm_NoLeaning ?zkv_NoLeaning ?zxm_NoLeaning ?zg_BadRow ?zk_BadRow ?zx_BadRow ?ze_BadRow ?zt_BadRow ?zcg_BadRow ?zck_BadRow ?zcd_BadRow ?zca_BadRow ?zcm_BadRow ?zkv_BadRow ?zxm_BadRow ?zg_NothingDone ?zk_NothingDone ?zx_NothingDone ?ze_NothingDone ?zt_NothingDone ?zcg_NothingDone ?zck_NothingDone ?zcd_NothingDone ?zca_NothingDone ?zcm_NothingDone ?zkv_NothingDone ?zxm_NothingDone ?zg_Ring ?zk_Ring ?ze_Ring ?zt_Ring ?zcg_Ring ?zck_Ring ?zcd_Ring ?zca_Ring ?zcm_Ring ?zkv_Ring ?zxm_Ring ?zq_BadName_BadName ?zq_BadName_Twice ?zq_BadName_TooMany ?zq_BadName_NoThing ?zq_BadName_NoLeaning ?zq_BadName_BadRow ?zq_BadName_NothingDone ?zq_BadName_Ring ?zq_Twice_BadName ?zq_Twice_Twice ?zq_Twice_TooMany ?zq_Twice_NoThing ?zq_Twice_NoLeaning ?zq_Twice_BadRow ?zq_Twice_NothingDone ?zq_Twice_Ring ?zq_TooMany_BadName ?zq_TooMany_Twice ?zq_TooMany_TooMany ?zq_TooMany_NoThing ?zq_TooMany_NoLeaning ?zq_TooMany_BadRow ?zq_TooMany_NothingDone ?zq_TooMany_Ring ?zq_NoThing_BadName ?zq_NoThing_Twice ?zq_NoThing_TooMany ?zq_NoThing_NoThing ?zq_NoThing_NoLeaning ?zq_NoThing_BadRow ?zq_NoThing_NothingDone ?zq_NoThing_Ring ?zq_NoLeaning_BadName ?zq_NoLeaning_Twice ?zq_NoLeaning_TooMany ?zq_NoLeaning_NoThing ?zq_NoLeaning_NoLeaning ?zq_NoLeaning_BadRow ?zq_NoLeaning_NothingDone ?zq_NoLeaning_Ring ?zq_BadRow_BadName ?zq_BadRow_Twice ?zq_BadRow_TooMany ?zq_BadRow_NoThing ?zq_BadRow_NoLeaning ?zq_BadRow_BadRow ?zq_BadRow_NothingDone ?zq_BadRow_Ring ?zq_NothingDone_BadName ?zq_NothingDone_Twice ?zq_NothingDone_TooMany ?zq_NothingDone_NoThing ?zq_NothingDone_NoLeaning ?zq_NothingDone_BadRow ?zq_NothingDone_NothingDone ?zq_NothingDone_Ring ?zq_Ring_BadName ?zq_Ring_Twice ?zq_Ring_TooMany ?zq_Ring_NoThing ?zq_Ring_NoLeaning ?zq_Ring_BadRow ?zq_Ring_NothingDone ?zq_Ring_Ring ?zrl ?zrsa ?znoRing ?ziRing ?ztyRing ?zlRi ?zcRi ?zkRi (fun _ _ _ _ _ _ us hl => match us, hl with | [_, _], _ => rfl),
        f_is_right := _,
        g_is_right := PySem.W.mg_of KX G ?g_is_right,
        k_is_right := ?k_is_right,
        D_is_right := .mk' ?l_is_right ?cd_is_right ?kp_is_right fun _ _ _ _ _ _ us hl => match us, hl with | [_, _], _ => rfl,
        f_way_to := _,
        g_way_to := PySem.W.mg_of KX G ?g_way_to,
        k_way_to := ?k_way_to,
        D_way_to := .mk' ?l_way_to ?cd_way_to ?kp_way_to fun _ _ _ _ _ _ us hl => match us, hl with | [_, _], _ => rfl,
        f_is_name := _,
        g_is_name := PySem.W.mg_of KX G ?g_is_name,
        k_is_name := ?k_is_name,
        D_is_name := .mk' ?l_is_name ?cd_is_name ?kp_is_name fun _ _ _ _ _ _ us hl => match us, hl with | [_], _ => rfl,
        f_Web___init__ := _,
        m_Web___init__ := ⟨?ma_Web___init__, ?mi_Web___init__, ?mk_Web___init__⟩,
        D_Web___init__ := .mk' ?l_Web___init__ ?cd_Web___init__ ?kp_Web___init__ fun _ _ _ _ _ _ us hl => match us, hl with | [_], _ => rfl,
        f_Web_things := _,
        m_Web_things := ⟨?ma_Web_things, ?mi_Web_things, ?mk_Web_things⟩,
        D_Web_things := .mk' ?l_Web_things ?cd_Web_things ?kp_Web_things fun _ _ _ _ _ _ us hl => match us, hl with | [_], _ => rfl,
        f_Web_leanings := _,
        m_Web_leanings := ⟨?ma_Web_leanings, ?mi_Web_leanings, ?mk_Web_leanings⟩,
        D_Web_leanings := .mk' ?l_Web_leanings ?cd_Web_leanings ?kp_Web_leanings fun _ _ _ _ _ _ us hl => match us, hl with | [_], _ => rfl,
        f_Web_need_thing := _,
        m_Web_need_thing := ⟨?ma_Web_need_thing, ?mi_Web_need_thing, ?mk_Web_need_thing⟩,
        D_Web_need_thing := .mk' ?l_Web_need_thing ?cd_Web_need_thing ?kp_Web_need_thing fun _ _ _ _ _ _ us hl => match us, hl with | [_, _], _ => rfl,
        f_Web_put := _,
        m_Web_put := ⟨?ma_Web_put, ?mi_Web_put, ?mk_Web_put⟩,
        D_Web_put := .mk' ?l_Web_put ?cd_Web_put ?kp_Web_put fun _ _ _ _ _ _ us hl => match us, hl with | [_, _], _ => rfl,
        f_Web_take := _,
        m_Web_take := ⟨?ma_Web_take, ?mi_Web_take, ?mk_Web_take⟩,
        D_Web_take := .mk' ?l_Web_take ?cd_Web_take ?kp_Web_take fun _ _ _ _ _ _ us hl => match us, hl with | [_, _], _ => rfl,
        f_Web_leans := _,
        m_Web_leans := ⟨?ma_Web_leans, ?mi_Web_leans, ?mk_Web_leans⟩,
        D_Web_leans := .mk' ?l_Web_leans ?cd_Web_leans ?kp_Web_leans fun _ _ _ _ _ _ us hl => match us, hl with | [_, _, _], _ => rfl,
        f_Web_lean := _,
        m_Web_lean := ⟨?ma_Web_lean, ?mi_Web_lean, ?mk_Web_lean⟩,
        D_Web_lean := .mk' ?l_Web_lean ?cd_Web_lean ?kp_Web_lean fun _ _ _ _ _ _ us hl => match us, hl with | [_, _, _], _ => rfl,
        f_Web_loosen := _,
        m_Web_loosen := ⟨?ma_Web_loosen, ?mi_Web_loosen, ?mk_Web_loosen⟩,
        D_Web_loosen := .mk' ?l_Web_loosen ?cd_Web_loosen ?kp_Web_loosen fun _ _ _ _ _ _ us hl => match us, hl with | [_, _, _], _ => rfl,
        f_Web_chain := _,
        m_Web_chain := ⟨?ma_Web_chain, ?mi_Web_chain, ?mk_Web_chain⟩,
        D_Web_chain := .mk' ?l_Web_chain ?cd_Web_chain ?kp_Web_chain fun _ _ _ _ _ _ us hl => match us, hl with | [_, _, _], _ => rfl,
        f_Row___init__ := _,
        m_Row___init__ := ⟨?ma_Row___init__, ?mi_Row___init__, ?mk_Row___init__⟩,
        D_Row___init__ := .mk' ?l_Row___init__ ?cd_Row___init__ ?kp_Row___init__ fun _ _ _ _ _ _ us hl => match us, hl with | [_], _ => rfl,
        f_Row_put := _,
        m_Row_put := ⟨?ma_Row_put, ?mi_Row_put, ?mk_Row_put⟩,
        D_Row_put := .mk' ?l_Row_put ?cd_Row_put ?kp_Row_put fun _ _ _ _ _ _ us hl => match us, hl with | [_, _], _ => rfl,
        f_Row_take := _,
        m_Row_take := ⟨?ma_Row_take, ?mi_Row_take, ?mk_Row_take⟩,
        D_Row_take := .mk' ?l_Row_take ?cd_Row_take ?kp_Row_take fun _ _ _ _ _ _ us hl => match us, hl with | [_, _], _ => rfl,
        f_Row_loosen := _,
        m_Row_loosen := ⟨?ma_Row_loosen, ?mi_Row_loosen, ?mk_Row_loosen⟩,
        D_Row_loosen := .mk' ?l_Row_loosen ?cd_Row_loosen ?kp_Row_loosen fun _ _ _ _ _ _ us hl => match us, hl with | [_, _, _], _ => rfl,
        f_Row_lean := _,
        m_Row_lean := ⟨?ma_Row_lean, ?mi_Row_lean, ?mk_Row_lean⟩,
        D_Row_lean := .mk' ?l_Row_lean ?cd_Row_lean ?kp_Row_lean fun _ _ _ _ _ _ us hl => match us, hl with | [_, _, _], _ => rfl,
        f_Row_names := _,
        m_Row_names := ⟨?ma_Row_names, ?mi_Row_names, ?mk_Row_names⟩,
        D_Row_names := .mk' ?l_Row_names ?cd_Row_names ?kp_Row_names fun _ _ _ _ _ _ us hl => match us, hl with | [_], _ => rfl,
        f_Row_place := _,
        m_Row_place := ⟨?ma_Row_place, ?mi_Row_place, ?mk_Row_place⟩,
        D_Row_place := .mk' ?l_Row_place ?cd_Row_place ?kp_Row_place fun _ _ _ _ _ _ us hl => match us, hl with | [_, _], _ => rfl,
        f_Row_leanings := _,
        m_Row_leanings := ⟨?ma_Row_leanings, ?mi_Row_leanings, ?mk_Row_leanings⟩,
        D_Row_leanings := .mk' ?l_Row_leanings ?cd_Row_leanings ?kp_Row_leanings fun _ _ _ _ _ _ us hl => match us, hl with | [_], _ => rfl,
        f__law_mixed := _,
        g__law_mixed := PySem.W.mg_of KX G ?g__law_mixed,
        k__law_mixed := ?k__law_mixed,
        D__law_mixed := .mk' ?l__law_mixed ?cd__law_mixed ?kp__law_mixed fun _ _ _ _ _ _ us hl => match us, hl with | [_, _], _ => rfl,
        f__law_names := _,
        g__law_names := PySem.W.mg_of KX G ?g__law_names,
        k__law_names := ?k__law_names,
        D__law_names := .mk' ?l__law_names ?cd__law_names ?kp__law_names fun _ _ _ _ _ _ us hl => match us, hl with | [_, _], _ => rfl,
        f__law_begun := _,
        g__law_begun := PySem.W.mg_of KX G ?g__law_begun,
        k__law_begun := ?k__law_begun,
        D__law_begun := .mk' ?l__law_begun ?cd__law_begun ?kp__law_begun fun _ _ _ _ _ _ us hl => match us, hl with | [_, _], _ => rfl,
        f__law_deed := _,
        g__law_deed := PySem.W.mg_of KX G ?g__law_deed,
        k__law_deed := ?k__law_deed,
        D__law_deed := .mk' ?l__law_deed ?cd__law_deed ?kp__law_deed fun _ _ _ _ _ _ us hl => match us, hl with | [_, _, _], _ => rfl,
        f__law_under := _,
        g__law_under := PySem.W.mg_of KX G ?g__law_under,
        k__law_under := ?k__law_under,
        D__law_under := .mk' ?l__law_under ?cd__law_under ?kp__law_under fun _ _ _ _ _ _ us hl => match us, hl with | [_, _], _ => rfl,
        f__law_moved := _,
        g__law_moved := PySem.W.mg_of KX G ?g__law_moved,
        k__law_moved := ?k__law_moved,
        D__law_moved := .mk' ?l__law_moved ?cd__law_moved ?kp__law_moved fun _ _ _ _ _ _ us hl => match us, hl with | [_, _, _], _ => rfl,
        f__law_done := _,
        g__law_done := PySem.W.mg_of KX G ?g__law_done,
        k__law_done := ?k__law_done,
        D__law_done := .mk' ?l__law_done ?cd__law_done ?kp__law_done fun _ _ _ _ _ _ us hl => match us, hl with | [_, _], _ => rfl,
        f__law_kinds := _,
        g__law_kinds := PySem.W.mg_of KX G ?g__law_kinds,
        k__law_kinds := ?k__law_kinds,
        D__law_kinds := .mk' ?l__law_kinds ?cd__law_kinds ?kp__law_kinds fun _ _ _ _ _ _ us hl => match us, hl with | [_], _ => rfl,
        f__law_told := _,
        g__law_told := PySem.W.mg_of KX G ?g__law_told,
        k__law_told := ?k__law_told,
        D__law_told := .mk' ?l__law_told ?cd__law_told ?kp__law_told fun _ _ _ _ _ _ us hl => match us, hl with | [_, _], _ => rfl,
        f__law_row := _,
        g__law_row := PySem.W.mg_of KX G ?g__law_row,
        k__law_row := ?k__law_row,
        D__law_row := .mk' ?l__law_row ?cd__law_row ?kp__law_row fun _ _ _ _ _ _ us hl => match us, hl with | [_, _], _ => rfl,
        f__law_right := _,
        g__law_right := PySem.W.mg_of KX G ?g__law_right,
        k__law_right := ?k__law_right,
        D__law_right := .mk' ?l__law_right ?cd__law_right ?kp__law_right fun _ _ _ _ _ _ us hl => match us, hl with | [_, _], _ => rfl,
        f__law_drawn := _,
        g__law_drawn := PySem.W.mg_of KX G ?g__law_drawn,
        k__law_drawn := ?k__law_drawn,
        D__law_drawn := .mk' ?l__law_drawn ?cd__law_drawn ?kp__law_drawn fun _ _ _ _ _ _ us hl => match us, hl with | [_, _], _ => rfl,
        f__law_unlike := _,
        g__law_unlike := PySem.W.mg_of KX G ?g__law_unlike,
        k__law_unlike := ?k__law_unlike,
        D__law_unlike := .mk' ?l__law_unlike ?cd__law_unlike ?kp__law_unlike fun _ _ _ _ _ _ us hl => match us, hl with | [_, _], _ => rfl,
        f__law_way_right := _,
        g__law_way_right := PySem.W.mg_of KX G ?g__law_way_right,
        k__law_way_right := ?k__law_way_right,
        D__law_way_right := .mk' ?l__law_way_right ?cd__law_way_right ?kp__law_way_right fun _ _ _ _ _ _ us hl => match us, hl with | [_, _, _], _ => rfl,
        f__law_word := _,
        g__law_word := PySem.W.mg_of KX G ?g__law_word,
        k__law_word := ?k__law_word,
        D__law_word := .mk' ?l__law_word ?cd__law_word ?kp__law_word fun _ _ _ _ _ _ us hl => match us, hl with | [_, _], _ => rfl,
        f_law := _,
        g_law := PySem.W.mg_of KX G ?g_law,
        k_law := ?k_law,
        D_law := .mk' ?l_law ?cd_law ?kp_law fun _ _ _ _ _ _ us hl => match us, hl with | [_], _ => rfl,
        mk_Web := ⟨?mm_Web, ?mi1_Web, ?mf_Web, ?mk1_Web⟩,
        mk_Row := ⟨?mm_Row, ?mi1_Row, ?mf_Row, ?mk1_Row⟩ }
      (case n_len => k_is)
      (case n_isinstance => k_is)
      (case n_all => k_is)
      (case n_any => k_is)
      (case n_list => k_is)
      (case n_tuple => k_is)
      (case n_str => k_is)
      (case n_int => k_is)
      (case n_bool => k_is)
      (case n_dict => k_is)
      (case n_range => k_is)
      (case n_zip => k_is)
      (case n_enumerate => k_is)
      (case n_sum => k_is)
      (case n_sorted => k_is)
      (case n_set => k_is)
      (case n_max => k_is)
      (case n_reversed => k_is)
      (case n_ValueError => k_is)
      (case g_LETTERS => k_is)
      (case g_MOST_LETTERS => k_is)
      (case g_MOST_THINGS => k_is)
      (case g_Web => k_is)
      (case pg_Web => k_is)
      (case hd_Web => k_is)
      (case po_Web => k_is)
      (case sa_Web => k_is)
      (case a_Web_put_ones => (show PySem.W.findIn _ _ _ = _; k_is))
      (case a_Web_pairs => (show PySem.W.findIn _ _ _ = _; k_is))
      (case g_Row => k_is)
      (case pg_Row => k_is)
      (case hd_Row => k_is)
      (case po_Row => k_is)
      (case sa_Row => k_is)
      (case a_Row_web => (show PySem.W.findIn _ _ _ = _; k_is))
      (case a_Row_order => (show PySem.W.findIn _ _ _ = _; k_is))
      (case zg_LeanError => k_is)
      (case zlrd1 => k_is)
      (case zlrd2 => k_is)
      (case zlinit => k_is)
      (case zxl1 => k_is)
      (case zxl2 => k_is)
      (case zxl3 => k_is)
      (case zhn => k_is)
      (case zht => k_is)
      (case zg_BadName => k_is)
      (case zk_BadName => k_is)
      (case ze_BadName => k_is)
      (case zt_BadName => k_is)
      (case zcg_BadName => k_is)
      (case zck_BadName => k_is)
      (case zcd_BadName => k_is)
      (case zca_BadName => k_is)
      (case zcm_BadName => k_is)
      (case zxm_BadName => k_is)
      (case zg_Twice => k_is)
      (case zk_Twice => k_is)
      (case ze_Twice => k_is)
      (case zt_Twice => k_is)
      (case zcg_Twice => k_is)
      (case zck_Twice => k_is)
      (case zcd_Twice => k_is)
      (case zca_Twice => k_is)
      (case zcm_Twice => k_is)
      (case zxm_Twice => k_is)
      (case zg_TooMany => k_is)
      (case zk_TooMany => k_is)
      (case ze_TooMany => k_is)
      (case zt_TooMany => k_is)
      (case zcg_TooMany => k_is)
      (case zck_TooMany => k_is)
      (case zcd_TooMany => k_is)
      (case zca_TooMany => k_is)
      (case zcm_TooMany => k_is)
      (case zxm_TooMany => k_is)
      (case zg_NoThing => k_is)
      (case zk_NoThing => k_is)
      (case ze_NoThing => k_is)
      (case zt_NoThing => k_is)
      (case zcg_NoThing => k_is)
      (case zck_NoThing => k_is)
      (case zcd_NoThing => k_is)
      (case zca_NoThing => k_is)
      (case zcm_NoThing => k_is)
      (case zxm_NoThing => k_is)
      (case zg_NoLeaning => k_is)
      (case zk_NoLeaning => k_is)
      (case ze_NoLeaning => k_is)
      (case zt_NoLeaning => k_is)
      (case zcg_NoLeaning => k_is)
      (case zck_NoLeaning => k_is)
      (case zcd_NoLeaning => k_is)
      (case zca_NoLeaning => k_is)
      (case zcm_NoLeaning => k_is)
      (case zxm_NoLeaning => k_is)
      (case zg_BadRow => k_is)
      (case zk_BadRow => k_is)
      (case ze_BadRow => k_is)
      (case zt_BadRow => k_is)
      (case zcg_BadRow => k_is)
      (case zck_BadRow => k_is)
      (case zcd_BadRow => k_is)
      (case zca_BadRow => k_is)
      (case zcm_BadRow => k_is)
      (case zxm_BadRow => k_is)
      (case zg_NothingDone => k_is)
      (case zk_NothingDone => k_is)
      (case ze_NothingDone => k_is)
      (case zt_NothingDone => k_is)
      (case zcg_NothingDone => k_is)
      (case zck_NothingDone => k_is)
      (case zcd_NothingDone => k_is)
      (case zca_NothingDone => k_is)
      (case zcm_NothingDone => k_is)
      (case zxm_NothingDone => k_is)
      (case zg_Ring => k_is)
      (case zk_Ring => k_is)
      (case ze_Ring => k_is)
      (case zt_Ring => k_is)
      (case zcg_Ring => k_is)
      (case zck_Ring => k_is)
      (case zcd_Ring => k_is)
      (case zca_Ring => k_is)
      (case zcm_Ring => k_is)
      (case zxm_Ring => k_is)
      (case zrl => k_is)
      (case zrsa => k_is)
      (case znoRing => k_is)
      (case ziRing => k_is)
      (case ztyRing => k_is)
      (case zlRi => k_is)
      (case zcRi => k_is)
      (case zkRi => k_is)
      (case g_is_right => k_is)
      (case k_is_right => k_is)
      (case l_is_right => k_is)
      (case cd_is_right => k_is)
      (case kp_is_right => k_is)
      (case g_way_to => k_is)
      (case k_way_to => k_is)
      (case l_way_to => k_is)
      (case cd_way_to => k_is)
      (case kp_way_to => k_is)
      (case g_is_name => k_is)
      (case k_is_name => k_is)
      (case l_is_name => k_is)
      (case cd_is_name => k_is)
      (case kp_is_name => k_is)
      (case ma_Web___init__ => k_is)
      (case mi_Web___init__ => k_is)
      (case mk_Web___init__ => k_is)
      (case l_Web___init__ => k_is)
      (case cd_Web___init__ => k_is)
      (case kp_Web___init__ => k_is)
      (case ma_Web_things => k_is)
      (case mi_Web_things => k_is)
      (case mk_Web_things => k_is)
      (case l_Web_things => k_is)
      (case cd_Web_things => k_is)
      (case kp_Web_things => k_is)
      (case ma_Web_leanings => k_is)
      (case mi_Web_leanings => k_is)
      (case mk_Web_leanings => k_is)
      (case l_Web_leanings => k_is)
      (case cd_Web_leanings => k_is)
      (case kp_Web_leanings => k_is)
      (case ma_Web_need_thing => k_is)
      (case mi_Web_need_thing => k_is)
      (case mk_Web_need_thing => k_is)
      (case l_Web_need_thing => k_is)
      (case cd_Web_need_thing => k_is)
      (case kp_Web_need_thing => k_is)
      (case ma_Web_put => k_is)
      (case mi_Web_put => k_is)
      (case mk_Web_put => k_is)
      (case l_Web_put => k_is)
      (case cd_Web_put => k_is)
      (case kp_Web_put => k_is)
      (case ma_Web_take => k_is)
      (case mi_Web_take => k_is)
      (case mk_Web_take => k_is)
      (case l_Web_take => k_is)
      (case cd_Web_take => k_is)
      (case kp_Web_take => k_is)
      (case ma_Web_leans => k_is)
      (case mi_Web_leans => k_is)
      (case mk_Web_leans => k_is)
      (case l_Web_leans => k_is)
      (case cd_Web_leans => k_is)
      (case kp_Web_leans => k_is)
      (case ma_Web_lean => k_is)
      (case mi_Web_lean => k_is)
      (case mk_Web_lean => k_is)
      (case l_Web_lean => k_is)
      (case cd_Web_lean => k_is)
      (case kp_Web_lean => k_is)
      (case ma_Web_loosen => k_is)
      (case mi_Web_loosen => k_is)
      (case mk_Web_loosen => k_is)
      (case l_Web_loosen => k_is)
      (case cd_Web_loosen => k_is)
      (case kp_Web_loosen => k_is)
      (case ma_Web_chain => k_is)
      (case mi_Web_chain => k_is)
      (case mk_Web_chain => k_is)
      (case l_Web_chain => k_is)
      (case cd_Web_chain => k_is)
      (case kp_Web_chain => k_is)
      (case ma_Row___init__ => k_is)
      (case mi_Row___init__ => k_is)
      (case mk_Row___init__ => k_is)
      (case l_Row___init__ => k_is)
      (case cd_Row___init__ => k_is)
      (case kp_Row___init__ => k_is)
      (case ma_Row_put => k_is)
      (case mi_Row_put => k_is)
      (case mk_Row_put => k_is)
      (case l_Row_put => k_is)
      (case cd_Row_put => k_is)
      (case kp_Row_put => k_is)
      (case ma_Row_take => k_is)
      (case mi_Row_take => k_is)
      (case mk_Row_take => k_is)
      (case l_Row_take => k_is)
      (case cd_Row_take => k_is)
      (case kp_Row_take => k_is)
      (case ma_Row_loosen => k_is)
      (case mi_Row_loosen => k_is)
      (case mk_Row_loosen => k_is)
      (case l_Row_loosen => k_is)
      (case cd_Row_loosen => k_is)
      (case kp_Row_loosen => k_is)
      (case ma_Row_lean => k_is)
      (case mi_Row_lean => k_is)
      (case mk_Row_lean => k_is)
      (case l_Row_lean => k_is)
      (case cd_Row_lean => k_is)
      (case kp_Row_lean => k_is)
      (case ma_Row_names => k_is)
      (case mi_Row_names => k_is)
      (case mk_Row_names => k_is)
      (case l_Row_names => k_is)
      (case cd_Row_names => k_is)
      (case kp_Row_names => k_is)
      (case ma_Row_place => k_is)
      (case mi_Row_place => k_is)
      (case mk_Row_place => k_is)
      (case l_Row_place => k_is)
      (case cd_Row_place => k_is)
      (case kp_Row_place => k_is)
      (case ma_Row_leanings => k_is)
      (case mi_Row_leanings => k_is)
      (case mk_Row_leanings => k_is)
      (case l_Row_leanings => k_is)
      (case cd_Row_leanings => k_is)
      (case kp_Row_leanings => k_is)
      (case g__law_mixed => k_is)
      (case k__law_mixed => k_is)
      (case l__law_mixed => k_is)
      (case cd__law_mixed => k_is)
      (case kp__law_mixed => k_is)
      (case g__law_names => k_is)
      (case k__law_names => k_is)
      (case l__law_names => k_is)
      (case cd__law_names => k_is)
      (case kp__law_names => k_is)
      (case g__law_begun => k_is)
      (case k__law_begun => k_is)
      (case l__law_begun => k_is)
      (case cd__law_begun => k_is)
      (case kp__law_begun => k_is)
      (case g__law_deed => k_is)
      (case k__law_deed => k_is)
      (case l__law_deed => k_is)
      (case cd__law_deed => k_is)
      (case kp__law_deed => k_is)
      (case g__law_under => k_is)
      (case k__law_under => k_is)
      (case l__law_under => k_is)
      (case cd__law_under => k_is)
      (case kp__law_under => k_is)
      (case g__law_moved => k_is)
      (case k__law_moved => k_is)
      (case l__law_moved => k_is)
      (case cd__law_moved => k_is)
      (case kp__law_moved => k_is)
      (case g__law_done => k_is)
      (case k__law_done => k_is)
      (case l__law_done => k_is)
      (case cd__law_done => k_is)
      (case kp__law_done => k_is)
      (case g__law_kinds => k_is)
      (case k__law_kinds => k_is)
      (case l__law_kinds => k_is)
      (case cd__law_kinds => k_is)
      (case kp__law_kinds => k_is)
      (case g__law_told => k_is)
      (case k__law_told => k_is)
      (case l__law_told => k_is)
      (case cd__law_told => k_is)
      (case kp__law_told => k_is)
      (case g__law_row => k_is)
      (case k__law_row => k_is)
      (case l__law_row => k_is)
      (case cd__law_row => k_is)
      (case kp__law_row => k_is)
      (case g__law_right => k_is)
      (case k__law_right => k_is)
      (case l__law_right => k_is)
      (case cd__law_right => k_is)
      (case kp__law_right => k_is)
      (case g__law_drawn => k_is)
      (case k__law_drawn => k_is)
      (case l__law_drawn => k_is)
      (case cd__law_drawn => k_is)
      (case kp__law_drawn => k_is)
      (case g__law_unlike => k_is)
      (case k__law_unlike => k_is)
      (case l__law_unlike => k_is)
      (case cd__law_unlike => k_is)
      (case kp__law_unlike => k_is)
      (case g__law_way_right => k_is)
      (case k__law_way_right => k_is)
      (case l__law_way_right => k_is)
      (case cd__law_way_right => k_is)
      (case kp__law_way_right => k_is)
      (case g__law_word => k_is)
      (case k__law_word => k_is)
      (case l__law_word => k_is)
      (case cd__law_word => k_is)
      (case kp__law_word => k_is)
      (case g_law => k_is)
      (case k_law => k_is)
      (case l_law => k_is)
      (case cd_law => k_is)
      (case kp_law => k_is)
      (case mm_Web => k_is)
      (case mi1_Web => k_is)
      (case mf_Web => k_is)
      (case mk1_Web => k_is)
      (case mm_Row => k_is)
      (case mi1_Row => k_is)
      (case mf_Row => k_is)
      (case mk1_Row => k_is)
      (case zx_BadName => k_exc)
      (case zx_Twice => k_exc)
      (case zx_TooMany => k_exc)
      (case zx_NoThing => k_exc)
      (case zx_NoLeaning => k_exc)
      (case zx_BadRow => k_exc)
      (case zx_NothingDone => k_exc)
      (case zkv_BadName => kit_is)
      (case zkv_Twice => kit_is)
      (case zkv_TooMany => kit_is)
      (case zkv_NoThing => kit_is)
      (case zkv_NoLeaning => kit_is)
      (case zkv_BadRow => kit_is)
      (case zkv_NothingDone => kit_is)
      (case zkv_Ring => kit_is)
      (case zq_BadName_BadName => kit_is)
      (case zq_BadName_Twice => kit_is)
      (case zq_BadName_TooMany => kit_is)
      (case zq_BadName_NoThing => kit_is)
      (case zq_BadName_NoLeaning => kit_is)
      (case zq_BadName_BadRow => kit_is)
      (case zq_BadName_NothingDone => kit_is)
      (case zq_BadName_Ring => kit_is)
      (case zq_Twice_BadName => kit_is)
      (case zq_Twice_Twice => kit_is)
      (case zq_Twice_TooMany => kit_is)
      (case zq_Twice_NoThing => kit_is)
      (case zq_Twice_NoLeaning => kit_is)
      (case zq_Twice_BadRow => kit_is)
      (case zq_Twice_NothingDone => kit_is)
      (case zq_Twice_Ring => kit_is)
      (case zq_TooMany_BadName => kit_is)
      (case zq_TooMany_Twice => kit_is)
      (case zq_TooMany_TooMany => kit_is)
      (case zq_TooMany_NoThing => kit_is)
      (case zq_TooMany_NoLeaning => kit_is)
      (case zq_TooMany_BadRow => kit_is)
      (case zq_TooMany_NothingDone => kit_is)
      (case zq_TooMany_Ring => kit_is)
      (case zq_NoThing_BadName => kit_is)
      (case zq_NoThing_Twice => kit_is)
      (case zq_NoThing_TooMany => kit_is)
      (case zq_NoThing_NoThing => kit_is)
      (case zq_NoThing_NoLeaning => kit_is)
      (case zq_NoThing_BadRow => kit_is)
      (case zq_NoThing_NothingDone => kit_is)
      (case zq_NoThing_Ring => kit_is)
      (case zq_NoLeaning_BadName => kit_is)
      (case zq_NoLeaning_Twice => kit_is)
      (case zq_NoLeaning_TooMany => kit_is)
      (case zq_NoLeaning_NoThing => kit_is)
      (case zq_NoLeaning_NoLeaning => kit_is)
      (case zq_NoLeaning_BadRow => kit_is)
      (case zq_NoLeaning_NothingDone => kit_is)
      (case zq_NoLeaning_Ring => kit_is)
      (case zq_BadRow_BadName => kit_is)
      (case zq_BadRow_Twice => kit_is)
      (case zq_BadRow_TooMany => kit_is)
      (case zq_BadRow_NoThing => kit_is)
      (case zq_BadRow_NoLeaning => kit_is)
      (case zq_BadRow_BadRow => kit_is)
      (case zq_BadRow_NothingDone => kit_is)
      (case zq_BadRow_Ring => kit_is)
      (case zq_NothingDone_BadName => kit_is)
      (case zq_NothingDone_Twice => kit_is)
      (case zq_NothingDone_TooMany => kit_is)
      (case zq_NothingDone_NoThing => kit_is)
      (case zq_NothingDone_NoLeaning => kit_is)
      (case zq_NothingDone_BadRow => kit_is)
      (case zq_NothingDone_NothingDone => kit_is)
      (case zq_NothingDone_Ring => kit_is)
      (case zq_Ring_BadName => kit_is)
      (case zq_Ring_Twice => kit_is)
      (case zq_Ring_TooMany => kit_is)
      (case zq_Ring_NoThing => kit_is)
      (case zq_Ring_NoLeaning => kit_is)
      (case zq_Ring_BadRow => kit_is)
      (case zq_Ring_NothingDone => kit_is)
      (case zq_Ring_Ring => kit_is)
    case k =>
      obtain rfl : T.f_law = fa := by
        have e := T.g_law.symm.trans hmg
        exact Value.ref.inj (Option.some.inj e)
      exact ⟨T.D_law.fd, fun s u => T.D_law.bt s [u] rfl, fun base KB GB => Lr.ok_law T⟩
  case hsp =>
    intro w H a ns hn hO hS
    exact ⟨a, ns, rfl, hS, hn, fun _ => rfl⟩
  case hCX => exact fun _ _ _ _ h => h

